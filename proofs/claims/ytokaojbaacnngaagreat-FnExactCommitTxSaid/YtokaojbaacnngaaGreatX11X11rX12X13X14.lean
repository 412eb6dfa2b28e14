/- A part of the proof. -/
import Derived.Test.YtokaojbaacnngaaGreatX1X2X3
import Derived.Test.YtokaojbaacnngaaGreatX5X6
namespace Go.Proofs.YtokaojbaacnngaaGreat
set_option maxRecDepth 100000
open Go.SS

def d5x(l:List UInt8)(L:List (List UInt8)):Nat->Ann
 |0=>.one {i:Nat//i<=L.length} (fun x=>⟨[(0,.osl 2 0 (l++U7 L x.1).length),(13,.osl 1 0 L.length),(14,.int .i64 L.length),(15,.int .i64 x.1)],[none,I6 L,some (.bys 5 (l++U7 L x.1))]⟩) (fun x=>L.length-x.1) [.arr 0,.arr 1,.arr 3] [.arr 0,.arr 1,.at_ 0] (fun _=>Z0)
 |_=>.none
def a9B:Con:=.reff ⟨List UInt8×List (List UInt8),fun x=>[.osl 0 0 x.1.length,.osl 1 0 x.2.length],fun x=>[some (.bys 5 x.1),I6 x.2],fun x=>.osl 2 0 (x.1++P0 x.2).length,fun x=>[none,I6 x.2,some (.bys 5 (x.1++P0 x.2))],fun x=>x.1.length<=1000/\m3 x.2⟩
noncomputable def b1y:Code:=Tryz.f236.body.getD .skip
theorem a4e:Z8 Tryz.prog 236:=⟨_,Tryz.func236,by kernel_rfl,by kernel_rfl⟩
theorem b1r(l:List UInt8)(L:List (List UInt8))(h:
  X6 IntKind.u8 (IntKind.u8.wrap (L.length:Int))/\(Le 1 1/\Le l.length l.length/\V6 l.length 1 1)/\(∃(x:{i:Nat//i<=L.length}),((0=0/\l.length+1=(l++U7 L x.val).length)/\(0=0/\L.length=L.length)/\
  (L.length:Int)=(L.length:Int)/\(0:Int)=(x.val:Int)/\True)/\True/\(Y3 Z6 L L)/\List.take l.length l++List.take 1 (List.drop 0 (List.map O4 [IntKind.u8.wrap (L.length:Int)]))=l++U7 L x.val/\True)/\∀(x:
  {i:Nat//i<=L.length}),(decide ((x.val:Int)<(L.length:Int))=true->W7 (x.val:Int) L.length/\Lt (0+(x.val:Int).toNat) L.length/\X6 IntKind.u8 (IntKind.u8.wrap (↑(L.getD (0+(x.val:Int).toNat) []).length:Int))/\
  (Le 1 1/\Le (l++U7 L x.val).length (l++U7 L x.val).length/\V6 (l++U7 L x.val).length 1 1)/\(Le ((l++U7 L x.val).length+1) (List.take (l++U7 L x.val).length (l++U7 L x.val)++List.take 1
  (List.drop 0 (List.map O4 [IntKind.u8.wrap (↑(L.getD (0+(x.val:Int).toNat) []).length:Int)]))).length/\V6 ((l++U7 L x.val).length+1) (L.getD (0+(x.val:Int).toNat) []).length 1)/\X6 .i64 ((x.val:Int)+(1:Int))
  /\∃(y:{i:Nat//i<=L.length}),(((0=0/\(l++U7 L x.val).length+1+(L.getD (0+(x.val:Int).toNat) []).length=(l++U7 L y.val).length)/\(0=0/\L.length=L.length)/\(L.length:Int)=(L.length:Int)/\
  (x.val:Int)+(1:Int)=(y.val:Int)/\True)/\True/\(Y3 Z6 L L)/\List.take ((l++U7 L x.val).length+1) (List.take (l++U7 L x.val).length (l++U7 L x.val)++List.take 1 (List.drop 0 (List.map O4
  [IntKind.u8.wrap (↑(L.getD (0+(x.val:Int).toNat) []).length:Int)])))++L.getD (0+(x.val:Int).toNat) []=l++U7 L y.val/\True)/\Lt (L.length-y.val) (L.length-x.val))/\(decide ((x.val:Int)<(L.length:Int))=
  false->((0=0/\(l++U7 L x.val).length=(l++P0 L).length)/\True)/\True/\(Y3 Z6 L L)/\l++U7 L x.val=l++P0 L/\True)):
  V7 Tryz.prog 236 [.osl 0 0 l.length,.osl 1 0 L.length] [some (.bys 5 l),I6 L] (.osl 2 0 (l++P0 L).length) [none,I6 L,some (.bys 5 (l++P0 L))]:=
 C4 (code:=b1y) gN Tryz.func236 (by kernel_rfl) (by kernel_rfl) (d5x l L) [[.arr 0,.arr 1,.arr 2]] h (by kernel_rfl)
theorem a7L:Z2 Tryz.prog 236 a9B:=by
 rintro⟨l,L⟩ ⟨h1,h2,h3⟩;dsimp only at h1 h2 h3;have e0:List.take l.length l++List.take 1 (List.drop 0 (List.map O4 [IntKind.u8.wrap (L.length:Int)]))=l++U7 L 0:=by rw[List.take_length];rfl
 refine b1r l L ⟨P5 _,⟨Nat.le_refl _,Nat.le_refl _,by unfold V6;omega⟩,⟨⟨0,Nat.zero_le _⟩,⟨⟨rfl,by simp[U7]⟩,⟨rfl,rfl⟩,rfl,rfl,trivial⟩,trivial,⟨rfl,Z9 _ _⟩,e0,trivial⟩,fun x=>⟨fun hc=> ?_,fun hc=> ?_⟩⟩
 ·have hlt:=Y6 hc;have f1:=a2f L h3 x.val (by omega)
  have f2:=h3 x.val hlt;rw[Int.toNat_natCast,Nat.zero_add];have hl:(l++U7 L x.val).length<=1100000:=by rw[List.length_append];omega
  have e:List.take (l++U7 L x.val).length (l++U7 L x.val)++List.take 1 (List.drop 0 (List.map O4 [IntKind.u8.wrap ((L.getD x.val []).length:Int)]))=l++U7 L x.val++[u8b (L.getD x.val []).length]:=by
   rw[List.take_length];rfl
  rw[e];have e2:(l++U7 L x.val++[u8b (L.getD x.val []).length]).length=(l++U7 L x.val).length+1:=by rw[List.length_append];rfl
  refine⟨Y8 hlt,by unfold Lt;omega,P5 _,⟨Nat.le_refl _,Nat.le_refl _,by unfold V6;omega⟩,⟨by rw[e2];exact Nat.le_refl _,by unfold V6;omega⟩,Z5 (by omega),⟨x.val+1,hlt⟩,⟨⟨⟨rfl,?_⟩,⟨rfl,rfl⟩,rfl,by dsimp only;omega,trivial⟩,trivial,⟨rfl,Z9 _ _⟩,?_,trivial⟩,W5.ext_lt hlt⟩
  ·simp only[U7,List.length_append,List.length_cons,List.length_nil];omega
  ·rw[←e2,List.take_length];simp only[U7,List.append_assoc]
 ·have hx:x.val=L.length:=by have:=x.2;have:=Y2 hc;omega
  rw[hx];exact⟨⟨⟨rfl,rfl⟩,trivial⟩,trivial,⟨rfl,Z9 _ _⟩,rfl,trivial⟩
def d43:Con:=.rel ⟨Nat,fun n=>[.int .i64 n],fun n=>.bys (by4 n),fun n=>n<4294967296⟩
noncomputable def d5f:Code:=Tryz.f270.body.getD .skip
theorem c0v:Z8 Tryz.prog 270:=⟨_,Tryz.func270,by kernel_rfl,by kernel_rfl⟩
theorem d31(n:Nat)(h:
  Nn (24:Int)/\Nn (16:Int)/\Nn (8:Int)/\(X6 IntKind.u8 (IntKind.u8.wrap ((n:Int).fdiv (16777216:Int)))/\X6 IntKind.u8 (IntKind.u8.wrap ((n:Int).fdiv (65536:Int)))/\X6 IntKind.u8 (IntKind.u8.wrap ((n:Int).fdiv (256
  :Int)))/\X6 IntKind.u8 (IntKind.u8.wrap (n:Int)))/\Le 4 4/\List.take 4 (List.drop 0 (List.map O4 [IntKind.u8.wrap ((n:Int).fdiv (16777216:Int)),IntKind.u8.wrap ((n:Int).fdiv (65536:Int)),IntKind.u8.wrap ((n:Int).fdiv
  (256:Int)),IntKind.u8.wrap (n:Int)]))=by4 n):
  Z1 Tryz.prog 270 [.int .i64 n] (.bys (by4 n)):=
 T7 (code:=d5f) gN Tryz.func270 (by kernel_rfl) (by kernel_rfl) Z0 h (by kernel_rfl)
theorem d0D:Z2 Tryz.prog 270 d43:=by
 intro(n:Nat) hn;have h8:Nn 8:=by unfold Nn;omega
 exact d31 n ⟨by unfold Nn;omega,by unfold Nn;omega,h8,⟨P5 _,P5 _,P5 _,P5 _⟩,Nat.le_refl _,by unfold by4;rw[show(n:Int).fdiv 1=n by rw[Int.fdiv_one]];rfl⟩
noncomputable def c8J:Code:=Tryz.f235.body.getD .skip
theorem a9z:Z8 Tryz.prog 235:=⟨_,Tryz.func235,by kernel_rfl,by kernel_rfl⟩
theorem c3L(l:List UInt8)(h:
  ∃(x:(a02 IntKind.u32).ι),(Le (0+l.length) l.length/\(List.take l.length (List.drop 0 l)=x/\True)/\I7 x)/\∃(x_1:Nat),((IntKind.i64.wrap (↑(crc x):Int)=(x_1:Int)/\True)/\x_1<4294967296)/\(Le l.length
  l.length/\V6 l.length 4 1)/\Le (0+(l.length+4)) (List.take l.length l++by4 x_1).length/\List.take (l.length+4) (List.drop 0 (List.take l.length l++by4 x_1))=l++by4 (crc l)/\True/\True):
  V7 Tryz.prog 235 [.osl 0 0 l.length] [some (.bys 5 l)] (.bys (l++by4 (crc l))) [none]:=
 vcE (code:=c8J) (gC a33 a2l (gC d0D c0v gN)) Tryz.func235 (by kernel_rfl) (by kernel_rfl) Z0 (bs:=[false]) h (by kernel_rfl)
def c7L:Con:=.eff l5
theorem c1t:Z2 Tryz.prog 235 c7L:=by
 intro args H res H' p h hp;unfold l5 at h;split at h
 case h_2=>cases h
 rename_i k off n ty l;split at h
 ·skip
  simp only[Option.some.injEq,Prod.mk.injEq] at h;obtain⟨rfl,rfl,rfl⟩:=h;obtain⟨rfl,hl⟩:d7 n l:=hp;have e4:(by4 (crc l)).length=4:=rfl;have hc:=c66 l;refine c3L l ⟨l,⟨by unfold Le;omega,⟨by rw[List.drop_zero,List.take_length],trivial⟩,by unfold I7;omega⟩,crc l,⟨⟨?_,trivial⟩,hc⟩,⟨Nat.le_refl _,by unfold V6;omega⟩,?_,?_,trivial,trivial⟩
  ·rw[IntKind.wrap_i64];omega
  ·unfold Le;rw[List.take_length,List.length_append,e4,Nat.zero_add];exact Nat.le_refl _
  ·rw[List.take_length,List.drop_zero];exact List.take_of_length_le (by rw[List.length_append,e4];exact Nat.le_refl _)
 ·cases h
end Go.Proofs.YtokaojbaacnngaaGreat

namespace Go.Proofs.YtokaojbaacnngaaGreat
set_option maxRecDepth 100000
open Go.SS

def b9f(r:Rec):List UInt8:=[O4 108,u8b r.e,u8b r.l,u8b r.t,u8b r.k,u8b r.p,u8b r.n,u8b r.g,u8b r.s]++P0 [r.b,r.a]
def P9(r:Rec):List UInt8:=b9f r++by4 (crc (b9f r))
def b5f(r:Rec):Prop:=r.b.length<=1000/\r.a.length<=1000
theorem a1B(a b:List UInt8):Z7 2 (fun k=>List.take 1 (List.drop (k*1) [T.str a,T.str b])) (Z6 [a,b]):=fun i hi=>by
 match i,hi with
 |0,_=>rfl
 |1,_=>rfl
theorem fs2{a b:List UInt8}(h1:a.length<=1000)(h2:b.length<=1000):m3 [a,b]:=⟨by simp,fun i hi=>by
 match i,hi with
 |0,_=>exact h1
 |1,_=>exact h2⟩
theorem c8Q{r:Rec}(fs:m3 [r.b,r.a]):(b9f r).length<=1000000:=by
 have hl:=a2f [r.b,r.a] fs.2 2 (Nat.le_refl _);have hl:(P0 [r.b,r.a]).length<=2003:=hl;unfold b9f;rw[List.length_append];simp only[List.length_cons,List.length_nil];omega
def a5F:Con:=.rel ⟨Rec,fun r=>[.agg r.ts],fun r=>.bys (P9 r),b5f⟩
noncomputable def a6j:Code:=Tryz.f187.body.getD .skip
theorem a2J:Z8 Tryz.prog 187:=⟨_,Tryz.func187,by kernel_rfl,by kernel_rfl⟩
theorem a5y(r:Rec)(h:
  X6 IntKind.u8 (108:Int)/\(true=true->W7 (0:Int) 8/\X6 IntKind.u8 (IntKind.u8.wrap r.e)/\(Le 1 1/\Le 1 1/\V6 1 1 1)/\X6 .i64 (1:Int)/\(true=true->W7 (1:Int) 8/\X6 IntKind.u8 (IntKind.u8.wrap r.l)/\(Le
  1 1/\Le (1+1) 2/\V6 (1+1) 1 1)/\X6 .i64 (2:Int)/\(true=true->W7 (2:Int) 8/\X6 IntKind.u8 (IntKind.u8.wrap r.t)/\(Le 1 1/\Le (1+1+1) 3/\V6 (1+1+1) 1 1)/\X6 .i64 (3:Int)/\(true=true->W7 (3
  :Int) 8/\X6 IntKind.u8 (IntKind.u8.wrap r.k)/\(Le 1 1/\Le (1+1+1+1) 4/\V6 (1+1+1+1) 1 1)/\X6 .i64 (4:Int)/\(true=true->W7 (4:Int) 8/\X6 IntKind.u8 (IntKind.u8.wrap r.p)/\(Le 1 1/\Le (1+1+1+
  1+1) 5/\V6 (1+1+1+1+1) 1 1)/\X6 .i64 (5:Int)/\(true=true->W7 (5:Int) 8/\X6 IntKind.u8 (IntKind.u8.wrap r.n)/\(Le 1 1/\Le (1+1+1+1+1+1) 6/\V6 (1+1+1+1+1+1) 1 1)/\X6 .i64 (6:
  Int)/\(true=true->W7 (6:Int) 8/\X6 IntKind.u8 (IntKind.u8.wrap r.g)/\(Le 1 1/\Le (1+1+1+1+1+1+1) 7/\V6 (1+1+1+1+1+1+1) 1 1)/\X6 .i64 (7:Int)/\(true=true->W7 (7:Int) 8/\X6
  IntKind.u8 (IntKind.u8.wrap r.s)/\(Le 1 1/\Le (1+1+1+1+1+1+1+1) 8/\V6 (1+1+1+1+1+1+1+1) 1 1)/\X6 .i64 (8:Int)/\(false=true->False)/\(false=false->∃(x:(List UInt8×List (List
  UInt8))),(((0=0/\1+1+1+1+1+1+1+1+1=x.fst.length)/\(0=0/\2=x.snd.length)/\True)/\(List.take (1+1+1+1+1+1+1+1) (List.take (1+1+1+1+1+1+1) (List.take (1+1+1+1+1+1)
  (List.take (1+1+1+1+1) (List.take (1+1+1+1) (List.take (1+1+1) (List.take (1+1) (List.take 1 (List.map O4 [(108:Int)])++List.take 1 (List.drop 0 (List.map O4 [IntKind.u8.wrap r.e])))++List.take 1
  (List.drop 0 (List.map O4 [IntKind.u8.wrap r.l])))++List.take 1 (List.drop 0 (List.map O4 [IntKind.u8.wrap r.t])))++List.take 1 (List.drop 0 (List.map O4 [IntKind.u8.wrap r.k])))++List.take 1 (List.drop 0 (List.map O4
  [IntKind.u8.wrap r.p])))++List.take 1 (List.drop 0 (List.map O4 [IntKind.u8.wrap r.n])))++List.take 1 (List.drop 0 (List.map O4 [IntKind.u8.wrap r.g])))++List.take 1 (List.drop 0 (List.map O4 [IntKind.u8.wrap r.s]))=
  x.fst/\(2=x.snd.length/\Z7 2 (fun(k:Nat)=>List.take 1 (List.drop (k*1) [T.str r.b,T.str r.a])) (Z6 x.snd))/\True)/\x.fst.length<=1000/\m3 x.snd)/\d7 (x.fst++P0 x.snd).length (x.fst++P0 x.snd)
  /\x.fst++P0 x.snd++by4 (crc (x.fst++P0 x.snd))=P9 r))/\(true=false->∃(x:(List UInt8×List (List UInt8))),(((0=0/\1+1+1+1+1+1+1+1=x.fst.length)/\(0=0/\2=x.snd.length)/\True)/\
  (List.take (1+1+1+1+1+1+1) (List.take (1+1+1+1+1+1) (List.take (1+1+1+1+1) (List.take (1+1+1+1) (List.take (1+1+1) (List.take (1+1) (List.take 1 (List.map O4 [(108:Int)])++List.take 1
  (List.drop 0 (List.map O4 [IntKind.u8.wrap r.e])))++List.take 1 (List.drop 0 (List.map O4 [IntKind.u8.wrap r.l])))++List.take 1 (List.drop 0 (List.map O4 [IntKind.u8.wrap r.t])))++List.take 1 (List.drop 0 (List.map O4
  [IntKind.u8.wrap r.k])))++List.take 1 (List.drop 0 (List.map O4 [IntKind.u8.wrap r.p])))++List.take 1 (List.drop 0 (List.map O4 [IntKind.u8.wrap r.n])))++List.take 1 (List.drop 0 (List.map O4 [IntKind.u8.wrap r.g]))=
  x.fst/\(2=x.snd.length/\Z7 2 (fun(k:Nat)=>List.take 1 (List.drop (k*1) [T.str r.b,T.str r.a])) (Z6 x.snd))/\True)/\x.fst.length<=1000/\m3 x.snd)/\d7 (x.fst++P0 x.snd).length (x.fst++P0 x.snd)
  /\x.fst++P0 x.snd++by4 (crc (x.fst++P0 x.snd))=P9 r))/\(true=false->∃(x:(List UInt8×List (List UInt8))),(((0=0/\1+1+1+1+1+1+1=x.fst.length)/\(0=0/\2=x.snd.length)/\True)/\
  (List.take (1+1+1+1+1+1) (List.take (1+1+1+1+1) (List.take (1+1+1+1) (List.take (1+1+1) (List.take (1+1) (List.take 1 (List.map O4 [(108:Int)])++List.take 1 (List.drop 0 (List.map O4
  [IntKind.u8.wrap r.e])))++List.take 1 (List.drop 0 (List.map O4 [IntKind.u8.wrap r.l])))++List.take 1 (List.drop 0 (List.map O4 [IntKind.u8.wrap r.t])))++List.take 1 (List.drop 0 (List.map O4 [IntKind.u8.wrap r.k])))++
  List.take 1 (List.drop 0 (List.map O4 [IntKind.u8.wrap r.p])))++List.take 1 (List.drop 0 (List.map O4 [IntKind.u8.wrap r.n]))=x.fst/\(2=x.snd.length/\Z7 2 (fun(k:Nat)=>List.take 1 (List.drop (k*1) [T.str r.b,
  T.str r.a])) (Z6 x.snd))/\True)/\x.fst.length<=1000/\m3 x.snd)/\d7 (x.fst++P0 x.snd).length (x.fst++P0 x.snd)/\x.fst++P0 x.snd++by4 (crc (x.fst++P0 x.snd))=P9 r))/\(true=false->∃(x:
  (List UInt8×List (List UInt8))),(((0=0/\1+1+1+1+1+1=x.fst.length)/\(0=0/\2=x.snd.length)/\True)/\(List.take (1+1+1+1+1) (List.take (1+1+1+1) (List.take (1+1+1) (List.take (1+1)
  (List.take 1 (List.map O4 [(108:Int)])++List.take 1 (List.drop 0 (List.map O4 [IntKind.u8.wrap r.e])))++List.take 1 (List.drop 0 (List.map O4 [IntKind.u8.wrap r.l])))++List.take 1 (List.drop 0 (List.map O4
  [IntKind.u8.wrap r.t])))++List.take 1 (List.drop 0 (List.map O4 [IntKind.u8.wrap r.k])))++List.take 1 (List.drop 0 (List.map O4 [IntKind.u8.wrap r.p]))=x.fst/\(2=x.snd.length/\Z7 2 (fun(k:Nat)=>List.take 1
  (List.drop (k*1) [T.str r.b,T.str r.a])) (Z6 x.snd))/\True)/\x.fst.length<=1000/\m3 x.snd)/\d7 (x.fst++P0 x.snd).length (x.fst++P0 x.snd)/\x.fst++P0 x.snd++by4 (crc (x.fst++P0 x.snd))=P9
  r))/\(true=false->∃(x:(List UInt8×List (List UInt8))),(((0=0/\1+1+1+1+1=x.fst.length)/\(0=0/\2=x.snd.length)/\True)/\(List.take (1+1+1+1) (List.take (1+1+1) (List.take (1+1) (List.take 1
  (List.map O4 [(108:Int)])++List.take 1 (List.drop 0 (List.map O4 [IntKind.u8.wrap r.e])))++List.take 1 (List.drop 0 (List.map O4 [IntKind.u8.wrap r.l])))++List.take 1 (List.drop 0 (List.map O4 [IntKind.u8.wrap r.t])))
  ++List.take 1 (List.drop 0 (List.map O4 [IntKind.u8.wrap r.k]))=x.fst/\(2=x.snd.length/\Z7 2 (fun(k:Nat)=>List.take 1 (List.drop (k*1) [T.str r.b,T.str r.a])) (Z6 x.snd))/\True)/\x.fst.length<=1000/\
  m3 x.snd)/\d7 (x.fst++P0 x.snd).length (x.fst++P0 x.snd)/\x.fst++P0 x.snd++by4 (crc (x.fst++P0 x.snd))=P9 r))/\(true=false->∃(x:(List UInt8×List (List UInt8))),(((0=0/\1+1+1+1=
  x.fst.length)/\(0=0/\2=x.snd.length)/\True)/\(List.take (1+1+1) (List.take (1+1) (List.take 1 (List.map O4 [(108:Int)])++List.take 1 (List.drop 0 (List.map O4 [IntKind.u8.wrap r.e])))++List.take 1 (List.drop
  0 (List.map O4 [IntKind.u8.wrap r.l])))++List.take 1 (List.drop 0 (List.map O4 [IntKind.u8.wrap r.t]))=x.fst/\(2=x.snd.length/\Z7 2 (fun(k:Nat)=>List.take 1 (List.drop (k*1) [T.str r.b,T.str r.a])) (Z6
  x.snd))/\True)/\x.fst.length<=1000/\m3 x.snd)/\d7 (x.fst++P0 x.snd).length (x.fst++P0 x.snd)/\x.fst++P0 x.snd++by4 (crc (x.fst++P0 x.snd))=P9 r))/\(true=false->∃(x:(List UInt8×List
  (List UInt8))),(((0=0/\1+1+1=x.fst.length)/\(0=0/\2=x.snd.length)/\True)/\(List.take (1+1) (List.take 1 (List.map O4 [(108:Int)])++List.take 1 (List.drop 0 (List.map O4 [IntKind.u8.wrap r.e])))++
  List.take 1 (List.drop 0 (List.map O4 [IntKind.u8.wrap r.l]))=x.fst/\(2=x.snd.length/\Z7 2 (fun(k:Nat)=>List.take 1 (List.drop (k*1) [T.str r.b,T.str r.a])) (Z6 x.snd))/\True)/\x.fst.length<=1000/\m3
  x.snd)/\d7 (x.fst++P0 x.snd).length (x.fst++P0 x.snd)/\x.fst++P0 x.snd++by4 (crc (x.fst++P0 x.snd))=P9 r))/\(true=false->∃(x:(List UInt8×List (List UInt8))),(((0=0/\1+1=x.fst.length)
  /\(0=0/\2=x.snd.length)/\True)/\(List.take 1 (List.map O4 [(108:Int)])++List.take 1 (List.drop 0 (List.map O4 [IntKind.u8.wrap r.e]))=x.fst/\(2=x.snd.length/\Z7 2 (fun(k:Nat)=>List.take 1 (List.drop (k
  *1) [T.str r.b,T.str r.a])) (Z6 x.snd))/\True)/\x.fst.length<=1000/\m3 x.snd)/\d7 (x.fst++P0 x.snd).length (x.fst++P0 x.snd)/\x.fst++P0 x.snd++by4 (crc (x.fst++P0 x.snd))=P9 r))/\(true=
  false->∃(x:(List UInt8×List (List UInt8))),(((0=0/\1=x.fst.length)/\(0=0/\2=x.snd.length)/\True)/\(List.map O4 [(108:Int)]=x.fst/\(2=x.snd.length/\Z7 2 (fun(k:Nat)=>List.take 1 (List.drop (k*
  1) [T.str r.b,T.str r.a])) (Z6 x.snd))/\True)/\x.fst.length<=1000/\m3 x.snd)/\d7 (x.fst++P0 x.snd).length (x.fst++P0 x.snd)/\x.fst++P0 x.snd++by4 (crc (x.fst++P0 x.snd))=P9 r)):
  Z1 Tryz.prog 187 [.agg r.ts] (.bys (P9 r)):=
 T7 (code:=a6j) (gC a7L a4e (gC c1t a9z gN)) Tryz.func187 (by kernel_rfl) (by kernel_rfl) (c5e 9) h (by kernel_rfl)
theorem a4h:Z2 Tryz.prog 187 a5F:=by
 rintro(r:Rec) ⟨h1,h2⟩;have fs:=fs2 h1 h2;exact a5y r ⟨(c3X _).2 (by omega),fun _=>⟨by unfold W7;omega,P5 _,⟨Nat.le_refl _,Nat.le_refl _,by unfold V6;omega⟩,Z5 (by omega),fun _=>⟨by unfold W7;omega,P5 _,⟨Nat.le_refl _,Nat.le_refl _,by unfold V6;omega⟩,Z5 (by omega),fun _=>⟨by unfold W7;omega,P5 _,⟨Nat.le_refl _,Nat.le_refl _,by unfold V6;omega⟩,Z5 (by omega),fun _=>⟨by unfold W7;omega,P5 _,⟨Nat.le_refl _,Nat.le_refl _,by unfold V6;omega⟩,Z5 (by omega),fun _=>⟨by unfold W7;omega,P5 _,⟨Nat.le_refl _,Nat.le_refl _,by unfold V6;omega⟩,Z5 (by omega),fun _=>⟨by unfold W7;omega,P5 _,⟨Nat.le_refl _,Nat.le_refl _,by unfold V6;omega⟩,Z5 (by omega),fun _=>⟨by unfold W7;omega,P5 _,⟨Nat.le_refl _,Nat.le_refl _,by unfold V6;omega⟩,Z5 (by omega),fun _=>⟨by unfold W7;omega,P5 _,⟨Nat.le_refl _,Nat.le_refl _,by unfold V6;omega⟩,Z5 (by omega),(fun h=>by cases h),fun _=>⟨([O4 108,u8b r.e,u8b r.l,u8b r.t,u8b r.k,u8b r.p,u8b r.n,u8b r.g,u8b r.s],[r.b,r.a]),⟨⟨⟨rfl,rfl⟩,⟨rfl,rfl⟩,trivial⟩,⟨rfl,⟨rfl,a1B _ _⟩,trivial⟩,by simp,fs⟩,⟨rfl,c8Q fs⟩,rfl⟩⟩,fun h=>by cases h⟩,fun h=>by cases h⟩,fun h=>by cases h⟩,fun h=>by cases h⟩,fun h=>by cases h⟩,fun h=>by cases h⟩,fun h=>by cases h⟩,fun h=>by cases h⟩
noncomputable def a7x:Con:=.rfz a0T
theorem a3z:Z8 Tryz.prog 234:=⟨_,Tryz.func234,by kernel_rfl,by kernel_rfl⟩
theorem a5X:Z2 Tryz.prog 234 a7x:=a7r
def b3o:Con:=.rel ⟨Rec,fun r=>[.agg r.ts],fun r=>.bys (P9 r),b5f⟩
noncomputable def b6n:Code:=Tryz.f184.body.getD .skip
theorem a56:Z8 Tryz.prog 184:=⟨_,Tryz.func184,by kernel_rfl,by kernel_rfl⟩
theorem b4S(r:Rec)(h:
  (X6 IntKind.u8 (108:Int)/\X6 IntKind.u8 (IntKind.u8.wrap r.e)/\X6 IntKind.u8 (IntKind.u8.wrap r.l)/\X6 IntKind.u8 (IntKind.u8.wrap r.t)/\X6 IntKind.u8 (IntKind.u8.wrap r.k)/\X6 IntKind.u8 (IntKind.u8.wrap r.p)/\X6
  IntKind.u8 (IntKind.u8.wrap r.n)/\X6 IntKind.u8 (IntKind.u8.wrap r.g)/\X6 IntKind.u8 (IntKind.u8.wrap r.s))/\∃(x:a0T.ι),(Le 2 2/\((2=List.length x/\Z7 2 (fun(k:Nat)=>List.take 1 (List.drop (k*1)
  [T.str r.b,T.str r.a])) (Z6 x))/\True)/\m3 x)/\(Le 9 9/\V6 9 (P0 x).length 1)/\d7 (9+(P0 x).length) (List.take 9 (List.map O4 [(108:Int),IntKind.u8.wrap r.e,IntKind.u8.wrap r.l,IntKind.u8.wrap r.t,
  IntKind.u8.wrap r.k,IntKind.u8.wrap r.p,IntKind.u8.wrap r.n,IntKind.u8.wrap r.g,IntKind.u8.wrap r.s])++P0 x)/\List.take 9 (List.map O4 [(108:Int),IntKind.u8.wrap r.e,IntKind.u8.wrap r.l,IntKind.u8.wrap r.t,
  IntKind.u8.wrap r.k,IntKind.u8.wrap r.p,IntKind.u8.wrap r.n,IntKind.u8.wrap r.g,IntKind.u8.wrap r.s])++P0 x++by4 (crc (List.take 9 (List.map O4 [(108:Int),IntKind.u8.wrap r.e,IntKind.u8.wrap r.l,IntKind.u8.wrap
  r.t,IntKind.u8.wrap r.k,IntKind.u8.wrap r.p,IntKind.u8.wrap r.n,IntKind.u8.wrap r.g,IntKind.u8.wrap r.s])++P0 x))=P9 r):
  Z1 Tryz.prog 184 [.agg r.ts] (.bys (P9 r)):=
 T7 (code:=b6n) (gC a5X a3z (gC a7Y a5k gN)) Tryz.func184 (by kernel_rfl) (by kernel_rfl) Z0 h (by kernel_rfl)
theorem b1D:Z2 Tryz.prog 184 b3o:=by
 rintro(r:Rec) ⟨h1,h2⟩;have fs:=fs2 h1 h2;have hl:=a2f [r.b,r.a] fs.2 2 (Nat.le_refl _);have hl:(P0 [r.b,r.a]).length<=2003:=hl;refine b4S r ⟨⟨(c3X _).2 (by omega),P5 _,P5 _,P5 _,P5 _,P5 _,P5 _,P5 _,P5 _⟩,[r.b,r.a],⟨Nat.le_refl _,⟨⟨rfl,a1B _ _⟩,trivial⟩,fs⟩,⟨Nat.le_refl _,by unfold V6;omega⟩,?_,?_⟩
 ·exact⟨by rw[List.length_append];rfl,c8Q fs⟩
 ·rfl
end Go.Proofs.YtokaojbaacnngaaGreat

namespace Go.Proofs.YtokaojbaacnngaaGreat
set_option maxRecDepth 100000
open Go.SS

def y6(sec:List (List UInt8))(C:List Pend)(Q:Nat->Bool):Nat->List (List UInt8)
 |0=>sec
 |i+1=>if Q i=true then(y6 sec C Q i).set (C.getD i default).at_.toNat (C.getD i default).d else y6 sec C Q i
theorem B2(sec:List (List UInt8))(C:List Pend)(Q:Nat->Bool):∀i,(y6 sec C Q i).length=sec.length
 |0=>rfl
 |i+1=>by
  unfold y6;split
  ·rw[List.length_set,B2 sec C Q i]
  ·exact B2 sec C Q i
theorem d6n{sec:List (List UInt8)}{C:List Pend}{Q:Nat->Bool}{i:Nat}(h:Q i=true):y6 sec C Q (i+1)=(y6 sec C Q i).set (C.getD i default).at_.toNat (C.getD i default).d:=by
 conv=>lhs;unfold y6
 rw[if_pos h]
theorem d3N{sec:List (List UInt8)}{C:List Pend}{Q:Nat->Bool}{i:Nat}(h:Q i=false):y6 sec C Q (i+1)=y6 sec C Q i:=by
 conv=>lhs;unfold y6
 rw[if_neg (by rw[h];simp)]
def kp(K:List Int)(i:Nat):Bool:=decide (i<K.length)&&(K.getD i 0 !=0)
def wrD(d:Dsk)(at_:Int)(t:List UInt8):Dsk:=⟨d.sec,d.cache++[⟨at_,t⟩],d.armed,d.keep⟩
def Sto.sd(s:Sto)(d:Dsk):Sto:=⟨d,s.ep,s.log,s.sure,s.fr,s.hand⟩
def crD(d:Dsk)(K:List Int):Dsk:=⟨y6 d.sec d.cache (kp K) d.cache.length,[],false,[]⟩
def U2(d:Dsk):Dsk×Bool:=if d.armed=true then(crD d d.keep,false) else(⟨y6 d.sec d.cache (fun _=>true) d.cache.length,[],d.armed,d.keep⟩,true)
def PdB(d:Dsk):Prop:=∀i,i<d.cache.length->0<=(d.cache.getD i default).at_/\(d.cache.getD i default).at_<d.sec.length
theorem b0u(L:List Pend)(p:Pend):Z7 (L.length+1) (W4 (Z3 L) L.length fun k=>List.take 2 (List.drop (k*2) p.ts)) (Z3 (L++[p])):=by
 intro i hi;unfold W4 Z3;by_cases h:i<L.length
 ·rw[b1b h,List.getD_eq_getElem?_getD,List.getD_eq_getElem?_getD,List.getElem?_append_left h]
 ·have:i=L.length:=by omega
  subst this;rw[a95 h];have:(L++[p]).getD L.length default=p:=by rw[List.getD_eq_getElem?_getD,List.getElem?_append_right (Nat.le_refl _)];simp
  rw[this];simp[Pend.ts]
theorem d26{L:List (List UInt8)}{n:Nat}{t:List UInt8}(j:Nat)(hj:j<L.length):setRow (Z6 L) n 0 [.str t] j=Z6 (L.set n t) j:=by
 by_cases h:j=n
 ·subst h;rw[a1C (by simp[Z6])]
  simp[Z6,List.getElem?_set_self hj]
 ·rw[a2F (by simp[Z6]) h]
  simp[Z6,List.getElem?_set_ne (Ne.symm h)]
theorem a3V{sec:List (List UInt8)}{C:List Pend}{Q:Nat->Bool}{i:Nat}(h:Q i=true):Z7 sec.length (setRow (Z6 (y6 sec C Q i)) (0+(C.getD i default).at_.toNat) 0 [.str (C.getD i default).d]) (Z6 (y6 sec C Q (i+1))):=fun j hj=>by
 rw[d6n h,Nat.zero_add];exact d26 j (by rw[B2];exact hj)
def Sto.bxC(s:Sto)(v:Nat):Y5:=[a18 (s.tn 1 6 3 4 5),I6 s.d.sec,none,C9 s.d.keep,A1 s.log,c8 v s.fr s.fr.length,J4 s.d.cache]
def c9k:Con:=.reff ⟨Sto×Int×List UInt8×Nat,fun x=>[.ref 0 0 0,.int .i64 x.2.1,.str x.2.2.1],fun x=>x.1.bx x.2.2.2,fun _=>.tup [],fun x=>(x.1.sd (wrD x.1.d x.2.1 x.2.2.1)).bxC x.2.2.2,fun x=>x.1.d.cache.length<=1048576⟩
noncomputable def d1s:Code:=Tryz.f186.body.getD .skip
theorem b3e:Z8 Tryz.prog 186:=⟨_,Tryz.func186,by kernel_rfl,by kernel_rfl⟩
theorem d22(s:Sto)(at_:Int)(t:List UInt8)(v:Nat)(h:
  (Le 1 1/\Le s.d.cache.length s.d.cache.length/\V6 s.d.cache.length 1 24)/\(True/\True)/\(1=1/\1=1/\(0=0/\s.d.sec.length=s.d.sec.length)/\(0=0/\s.d.cache.length+1=(s.d.cache++[Pend.mk at_ t]).length)/\
  s.d.armed=s.d.armed/\(0=0/\s.d.keep.length=s.d.keep.length)/\s.ep=s.ep/\(0=0/\s.log.length=s.log.length)/\s.sure=s.sure/\(0=0/\s.fr.length=s.fr.length)/\s.hand=s.hand/\True)/\(Y3 Z6 s.d.sec
  s.d.sec)/\True/\(Y3 Y7 s.d.keep s.d.keep)/\(Y3 Y4 s.log s.log)/\(v=v/\s.fr.length=s.fr.length/\T9 s.fr.length (Y0 s.fr) (Y0 s.fr))/\(s.d.cache.length+1=(s.d.cache++[Pend.mk at_ t]).length/\
  Z7 (s.d.cache.length+1) (W4 (Z3 s.d.cache) s.d.cache.length fun(k:Nat)=>List.take 2 (List.drop (k*2) [T.int .i64 at_,T.str t])) (Z3 (s.d.cache++[Pend.mk at_ t])))/\True):
  V7 Tryz.prog 186 [.ref 0 0 0,.int .i64 at_,.str t] (s.bx v) (.tup []) ((s.sd (wrD s.d at_ t)).bxC v):=
 C4 (code:=d1s) gN Tryz.func186 (by kernel_rfl) (by kernel_rfl) Z0 [[.box 0,.arr 1,.arr 2,.arr 3,.arr 4,.arr 5,.arr 7]] h (by kernel_rfl)
theorem c6g:Z2 Tryz.prog 186 c9k:=by
 rintro⟨s,at_,t,v⟩ (h:s.d.cache.length<=1048576);have hl:s.d.cache.length+1=(s.d.cache++[(⟨at_,t⟩:Pend)]).length:=by simp
 exact d22 s at_ t v ⟨⟨Nat.le_refl _,Nat.le_refl _,by unfold V6;omega⟩,⟨trivial,trivial⟩,⟨rfl,rfl,⟨rfl,rfl⟩,⟨rfl,hl⟩,rfl,⟨rfl,rfl⟩,rfl,⟨rfl,rfl⟩,rfl,⟨rfl,rfl⟩,rfl,trivial⟩,⟨rfl,Z9 _ _⟩,trivial,⟨rfl,Z9 _ _⟩,⟨rfl,Z9 _ _⟩,⟨rfl,rfl,U4 _⟩,⟨hl,b0u s.d.cache ⟨at_,t⟩⟩,trivial⟩
def Sto.bxX(s:Sto)(v:Nat)(K:List Int):Y5:=[a18 (s.tn 1 7 8 4 5),I6 s.d.sec,none,none,A1 s.log,c8 v s.fr s.fr.length,C9 K,J4 s.d.cache,C9 s.d.keep]
def d1j:Con:=.reff ⟨Sto×List Int×Nat,fun x=>[.ref 0 0 0,.osl 6 0 x.2.1.length],fun x=>x.1.bx x.2.2++[C9 x.2.1],fun _=>.tup [],fun x=>(x.1.sd (crD x.1.d x.2.1)).bxX x.2.2 x.2.1,fun x=>SmD x.1.d/\PdB x.1.d/\x.2.1.length<=1048576⟩
def d0J(s:Sto)(K:List Int)(v:Nat):Nat->Ann
 |0=>.one {i:Nat//i<=s.d.cache.length} (fun x=>⟨[(0,.ref 0 0 0),(1,.osl 6 0 K.length),(9,.osl 2 0 s.d.cache.length),(10,.int .i64 s.d.cache.length),(11,.int .i64 x.1)],[a18 (s.tn 1 2 3 4 5),some (.arr true 0 1 s.d.sec.length (Z6 (y6 s.d.sec s.d.cache (kp K) x.1))),J4 s.d.cache,C9 s.d.keep,A1 s.log,c8 v s.fr s.fr.length,C9 K]⟩) (fun x=>s.d.cache.length-x.1) [.box 0,.arr 1,.arr 2,.arr 3,.arr 4,.arr 5,.arr 6] [.box 0,.arr 1,.arr 2,.arr 3,.arr 4,.arr 5,.arr 6] (fun _=>Z0)
 |_=>.none
noncomputable def d2Q:Code:=Tryz.f113.body.getD .skip
theorem b5K:Z8 Tryz.prog 113:=⟨_,Tryz.func113,by kernel_rfl,by kernel_rfl⟩
theorem d0m(s:Sto)(K:List Int)(v:Nat)(h:
  (∃(x:{i:Nat//i<=s.d.cache.length}),((0=0/\0=0)/\(0=0/\K.length=K.length)/\(0=0/\s.d.cache.length=s.d.cache.length)/\(s.d.cache.length:Int)=(s.d.cache.length:Int)/\(0:Int)=(x.val:Int)/\True)/\
  (1=1/\1=1/\EqC s s)/\(s.d.sec.length=s.d.sec.length/\Z7 s.d.sec.length (Z6 s.d.sec) (Z6 (y6 s.d.sec s.d.cache (kp K) x.val)))/\(Y3 Z3 s.d.cache s.d.cache)/\(Y3 Y7 s.d.keep s.d.keep)/\(Y3
  Y4 s.log s.log)/\(v=v/\s.fr.length=s.fr.length/\T9 s.fr.length (Y0 s.fr) (Y0 s.fr))/\(Y3 Y7 K K)/\True)/\∀(x:{i:Nat//i<=s.d.cache.length}),(decide ((x.val:Int)<(s.d.cache.length:Int))=
  true->W7 (x.val:Int) s.d.cache.length/\Lt (0+(x.val:Int).toNat) s.d.cache.length/\(decide ((x.val:Int)<(K.length:Int))=true->W7 (x.val:Int) K.length)/\(decide ((x.val:Int)<(K.length:Int))=true->Lt (0+
  (x.val:Int).toNat) K.length)/\((decide ((x.val:Int)<(K.length:Int))&&K.getD (0+(x.val:Int).toNat) (0:Int) !=(0:Int))=true->W7 (s.d.cache.getD (0+(x.val:Int).toNat) default).at_ s.d.sec.length/\Lt (0+
  (s.d.cache.getD (0+(x.val:Int).toNat) default).at_.toNat) s.d.sec.length/\X6 .i64 ((x.val:Int)+(1:Int))/\∃(y:{i:Nat//i<=s.d.cache.length}),(((0=0/\0=0)/\(0=0/\K.length=K.length)/\(0=0/\
  s.d.cache.length=s.d.cache.length)/\(s.d.cache.length:Int)=(s.d.cache.length:Int)/\(x.val:Int)+(1:Int)=(y.val:Int)/\True)/\(1=1/\1=1/\EqC s s)/\(s.d.sec.length=s.d.sec.length/\Z7 s.d.sec.length (setRow
  (Z6 (y6 s.d.sec s.d.cache (kp K) x.val)) (0+(s.d.cache.getD (0+(x.val:Int).toNat) default).at_.toNat) 0 [T.str (s.d.cache.getD (0+(x.val:Int).toNat) default).d]) (Z6 (y6 s.d.sec s.d.cache (kp K) y.val)))/\(Y3
  Z3 s.d.cache s.d.cache)/\(Y3 Y7 s.d.keep s.d.keep)/\(Y3 Y4 s.log s.log)/\(v=v/\s.fr.length=s.fr.length/\T9 s.fr.length (Y0 s.fr) (Y0 s.fr))/\(Y3 Y7 K K)/\True)/\Lt (s.d.cache.length-
  y.val) (s.d.cache.length-x.val))/\((decide ((x.val:Int)<(K.length:Int))&&K.getD (0+(x.val:Int).toNat) (0:Int) !=(0:Int))=false->X6 .i64 ((x.val:Int)+(1:Int))/\∃(y:{i:Nat//i<=s.d.cache.length}),
  (((0=0/\0=0)/\(0=0/\K.length=K.length)/\(0=0/\s.d.cache.length=s.d.cache.length)/\(s.d.cache.length:Int)=(s.d.cache.length:Int)/\(x.val:Int)+(1:Int)=(y.val:Int)/\True)/\(1=1/\1=1/\EqC s s)/\
  (s.d.sec.length=s.d.sec.length/\Z7 s.d.sec.length (Z6 (y6 s.d.sec s.d.cache (kp K) x.val)) (Z6 (y6 s.d.sec s.d.cache (kp K) y.val)))/\(Y3 Z3 s.d.cache s.d.cache)/\(Y3 Y7 s.d.keep s.d.keep)/\(Y3
  Y4 s.log s.log)/\(v=v/\s.fr.length=s.fr.length/\T9 s.fr.length (Y0 s.fr) (Y0 s.fr))/\(Y3 Y7 K K)/\True)/\Lt (s.d.cache.length-y.val) (s.d.cache.length-x.val)))/\(decide ((x.val:Int)<
  (s.d.cache.length:Int))=false->(True/\True)/\(1=1/\1=1/\(0=0/\s.d.sec.length=(y6 s.d.sec s.d.cache (kp K) s.d.cache.length).length)/\(0=0/\0=0)/\false=false/\(0=0/\0=0)/\s.ep=s.ep/\(0=0/\
  s.log.length=s.log.length)/\s.sure=s.sure/\(0=0/\s.fr.length=s.fr.length)/\s.hand=s.hand/\True)/\(s.d.sec.length=(y6 s.d.sec s.d.cache (kp K) s.d.cache.length).length/\Z7 s.d.sec.length (Z6 (y6 s.d.sec
  s.d.cache (kp K) x.val)) (Z6 (y6 s.d.sec s.d.cache (kp K) s.d.cache.length)))/\True/\True/\(Y3 Y4 s.log s.log)/\(v=v/\s.fr.length=s.fr.length/\T9 s.fr.length (Y0 s.fr) (Y0 s.fr))/\(Y3 Y7 K K)/\
  (0=0/\Z7 0 (fun(x:Nat)=>[]) (Z3 []))/\(0=0/\Z7 0 (fun(x:Nat)=>[]) (Y7 []))/\True)):
  V7 Tryz.prog 113 [.ref 0 0 0,.osl 6 0 K.length] (s.bx v++[C9 K]) (.tup []) ((s.sd (crD s.d K)).bxX v K):=
 C4 (code:=d2Q) gN Tryz.func113 (by kernel_rfl) (by kernel_rfl) (d0J s K v) [[.nilC 0 1 0 2,.nilC 0 3 0 1,.box 0,.arr 1,.arr 2,.arr 3,.arr 4,.arr 5,.arr 6,.arr 7,.arr 8]] h (by kernel_rfl)
theorem c4Q:Z2 Tryz.prog 113 d1j:=by
 rintro⟨s,K,v⟩ ⟨⟨h1,h2,h3⟩,h4,h5⟩;dsimp only at h1 h2 h3 h4 h5;refine d0m s K v ⟨⟨⟨0,Nat.zero_le _⟩,⟨⟨rfl,rfl⟩,⟨rfl,rfl⟩,⟨rfl,rfl⟩,rfl,rfl,trivial⟩,⟨rfl,rfl,⟨rfl,rfl⟩,⟨rfl,rfl⟩,rfl,⟨rfl,rfl⟩,rfl,⟨rfl,rfl⟩,rfl,⟨rfl,rfl⟩,rfl,trivial⟩,⟨rfl,Z9 _ _⟩,⟨rfl,Z9 _ _⟩,⟨rfl,Z9 _ _⟩,⟨rfl,Z9 _ _⟩,⟨rfl,rfl,U4 _⟩,⟨rfl,Z9 _ _⟩,trivial⟩,fun x=>⟨fun hc=> ?_,fun hc=> ?_⟩⟩
 ·have hlt:=Y6 hc;have ek:(decide ((x.val:Int)<(K.length:Int))&&K.getD x.val 0 !=0)=kp K x.val:=by
   unfold kp;rw[show decide ((x.val:Int)<(K.length:Int))=decide (x.val<K.length) from decide_eq_decide.2 (by omega)]
  rw[Int.toNat_natCast,show 0+x.val=x.val by omega,ek]
  have ha:=h4 x.val hlt;refine⟨Y8 hlt,hlt,fun h=>Y8 (Y6 h),fun h=>Y6 h,fun hk=> ?_,fun hk=> ?_⟩
  ·exact⟨ha,by unfold Lt;omega,Z5 (by omega),⟨x.val+1,hlt⟩,⟨⟨⟨rfl,rfl⟩,⟨rfl,rfl⟩,⟨rfl,rfl⟩,rfl,by dsimp only;omega,trivial⟩,⟨rfl,rfl,⟨rfl,rfl⟩,⟨rfl,rfl⟩,rfl,⟨rfl,rfl⟩,rfl,⟨rfl,rfl⟩,rfl,⟨rfl,rfl⟩,rfl,trivial⟩,⟨rfl,a3V hk⟩,⟨rfl,Z9 _ _⟩,⟨rfl,Z9 _ _⟩,⟨rfl,Z9 _ _⟩,⟨rfl,rfl,U4 _⟩,⟨rfl,Z9 _ _⟩,trivial⟩,W5.ext_lt hlt⟩
  ·exact⟨Z5 (by omega),⟨x.val+1,hlt⟩,⟨⟨⟨rfl,rfl⟩,⟨rfl,rfl⟩,⟨rfl,rfl⟩,rfl,by dsimp only;omega,trivial⟩,⟨rfl,rfl,⟨rfl,rfl⟩,⟨rfl,rfl⟩,rfl,⟨rfl,rfl⟩,rfl,⟨rfl,rfl⟩,rfl,⟨rfl,rfl⟩,rfl,trivial⟩,⟨rfl,fun j _=>by dsimp only;rw[d3N hk]⟩,⟨rfl,Z9 _ _⟩,⟨rfl,Z9 _ _⟩,⟨rfl,Z9 _ _⟩,⟨rfl,rfl,U4 _⟩,⟨rfl,Z9 _ _⟩,trivial⟩,W5.ext_lt hlt⟩
 ·have hx:x.val=s.d.cache.length:=by have:=x.2;have:=Y2 hc;omega
  rw[hx];have hl:=(B2 s.d.sec s.d.cache (kp K) s.d.cache.length).symm;exact⟨⟨trivial,trivial⟩,⟨rfl,rfl,⟨rfl,hl⟩,⟨rfl,rfl⟩,rfl,⟨rfl,rfl⟩,rfl,⟨rfl,rfl⟩,rfl,⟨rfl,rfl⟩,rfl,trivial⟩,⟨hl,Z9 _ _⟩,trivial,trivial,⟨rfl,Z9 _ _⟩,⟨rfl,rfl,U4 _⟩,⟨rfl,Z9 _ _⟩,⟨rfl,V0⟩,⟨rfl,V0⟩,trivial⟩
def Sto.bxY(s:Sto)(v:Nat):Y5:=[a18 (s.tn 1 6 7 4 5),I6 s.d.sec,none,none,A1 s.log,c8 v s.fr s.fr.length,J4 s.d.cache,C9 s.d.keep]
def d5R:Con:=.reff ⟨Sto×Nat,fun x=>[.ref 0 0 0],fun x=>x.1.bx x.2,fun x=>.bool (U2 x.1.d).2,fun x=>(x.1.sd ((U2 x.1.d).1)).bxY x.2,fun x=>SmD x.1.d/\PdB x.1.d⟩
def d4S(s:Sto)(v:Nat):Nat->Ann
 |0=>.one {i:Nat//i<=s.d.cache.length} (fun x=>⟨[(0,.ref 0 0 0),(19,.osl 2 0 s.d.cache.length),(20,.int .i64 s.d.cache.length),(21,.int .i64 x.1)],[a18 (s.tn 1 2 3 4 5),some (.arr true 0 1 s.d.sec.length (Z6 (y6 s.d.sec s.d.cache (fun _=>true) x.1))),J4 s.d.cache,C9 s.d.keep,A1 s.log,c8 v s.fr s.fr.length]⟩) (fun x=>s.d.cache.length-x.1) [.box 0,.arr 1,.arr 2,.arr 3,.arr 4,.arr 5] [.box 0,.arr 1,.arr 2,.arr 3,.arr 4,.arr 5] (fun _=>Z0)
 |_=>.none
noncomputable def d5o:Code:=Tryz.f128.body.getD .skip
theorem c0C:Z8 Tryz.prog 128:=⟨_,Tryz.func128,by kernel_rfl,by kernel_rfl⟩
theorem d3Y(s:Sto)(v:Nat)(h:
  (s.d.armed=true->∃(x:(List Int)),(Le (0+s.d.keep.length) s.d.keep.length/\((s.d.keep.length=List.length x/\Z7 s.d.keep.length (Y7 s.d.keep) (Y7 x))/\True)/\List.length x<=1048576)/\∃(x_1:(Sto×List
  Int×Nat)),(((0=0/\0=0)/\(0=0/\List.length x=x_1.snd.fst.length)/\True)/\((1=1/\1=1/\EqC s x_1.fst)/\(Y3 Z6 s.d.sec x_1.fst.d.sec)/\(Y3 Z3 s.d.cache x_1.fst.d.cache)/\(Y3 Y7 s.d.keep
  x_1.fst.d.keep)/\(Y3 Y4 s.log x_1.fst.log)/\(v=x_1.snd.snd/\s.fr.length=x_1.fst.fr.length/\T9 s.fr.length (Y0 s.fr) (Y0 x_1.fst.fr))/\(List.length x=x_1.snd.fst.length/\Z7 (List.length x) (Y7 x)
  (Y7 x_1.snd.fst))/\True)/\SmD x_1.fst.d/\PdB x_1.fst.d/\x_1.snd.fst.length<=1048576)/\(false=(U2 s.d).snd/\True)/\(1=1/\1=1/\(0=0/\(y6 x_1.fst.d.sec x_1.fst.d.cache (kp x_1.snd.fst)
  x_1.fst.d.cache.length).length=(U2 s.d).fst.sec.length)/\(0=0/\0=(U2 s.d).fst.cache.length)/\false=(U2 s.d).fst.armed/\(0=0/\0=(U2 s.d).fst.keep.length)/\x_1.fst.ep=s.ep/\(0=0/\x_1.fst.log.length=
  s.log.length)/\x_1.fst.sure=s.sure/\(0=0/\x_1.fst.fr.length=s.fr.length)/\x_1.fst.hand=s.hand/\True)/\(Y3 Z6 (y6 x_1.fst.d.sec x_1.fst.d.cache (kp x_1.snd.fst) x_1.fst.d.cache.length) (U2 s.d).fst.sec)/\True
  /\True/\(Y3 Y4 x_1.fst.log s.log)/\(x_1.snd.snd=v/\x_1.fst.fr.length=s.fr.length/\T9 x_1.fst.fr.length (Y0 x_1.fst.fr) (Y0 s.fr))/\(0=(U2 s.d).fst.cache.length/\Z7 0 (Z3 []) (Z3 (U2
  s.d).fst.cache))/\(0=(U2 s.d).fst.keep.length/\Z7 0 (Y7 []) (Y7 (U2 s.d).fst.keep))/\True)/\(s.d.armed=false->(∃(x:{i:Nat//i<=s.d.cache.length}),((0=0/\0=0)/\(0=0/\s.d.cache.length=
  s.d.cache.length)/\(s.d.cache.length:Int)=(s.d.cache.length:Int)/\(0:Int)=(x.val:Int)/\True)/\(1=1/\1=1/\EqC s s)/\(s.d.sec.length=s.d.sec.length/\Z7 s.d.sec.length (Z6 s.d.sec) (Z6 (y6 s.d.sec
  s.d.cache (fun(x:Nat)=>true) x.val)))/\(Y3 Z3 s.d.cache s.d.cache)/\(Y3 Y7 s.d.keep s.d.keep)/\(Y3 Y4 s.log s.log)/\(v=v/\s.fr.length=s.fr.length/\T9 s.fr.length (Y0 s.fr) (Y0 s.fr))/\
  True)/\∀(x:{i:Nat//i<=s.d.cache.length}),(decide ((x.val:Int)<(s.d.cache.length:Int))=true->W7 (x.val:Int) s.d.cache.length/\Lt (0+(x.val:Int).toNat) s.d.cache.length/\W7 (s.d.cache.getD (0+
  (x.val:Int).toNat) default).at_ s.d.sec.length/\Lt (0+(s.d.cache.getD (0+(x.val:Int).toNat) default).at_.toNat) s.d.sec.length/\X6 .i64 ((x.val:Int)+(1:Int))/\∃(y:{i:Nat//i<=s.d.cache.length}),(((0=0/\0=
  0)/\(0=0/\s.d.cache.length=s.d.cache.length)/\(s.d.cache.length:Int)=(s.d.cache.length:Int)/\(x.val:Int)+(1:Int)=(y.val:Int)/\True)/\(1=1/\1=1/\EqC s s)/\(s.d.sec.length=s.d.sec.length/\Z7
  s.d.sec.length (setRow (Z6 (y6 s.d.sec s.d.cache (fun(x:Nat)=>true) x.val)) (0+(s.d.cache.getD (0+(x.val:Int).toNat) default).at_.toNat) 0 [T.str (s.d.cache.getD (0+(x.val:Int).toNat) default).d]) (Z6 (y6
  s.d.sec s.d.cache (fun(x:Nat)=>true) y.val)))/\(Y3 Z3 s.d.cache s.d.cache)/\(Y3 Y7 s.d.keep s.d.keep)/\(Y3 Y4 s.log s.log)/\(v=v/\s.fr.length=s.fr.length/\T9 s.fr.length (Y0 s.fr) (Y0
  s.fr))/\True)/\Lt (s.d.cache.length-y.val) (s.d.cache.length-x.val))/\(decide ((x.val:Int)<(s.d.cache.length:Int))=false->(true=(U2 s.d).snd/\True)/\(1=1/\1=1/\(0=0/\s.d.sec.length=(U2
  s.d).fst.sec.length)/\(0=0/\0=(U2 s.d).fst.cache.length)/\s.d.armed=(U2 s.d).fst.armed/\(0=0/\s.d.keep.length=(U2 s.d).fst.keep.length)/\s.ep=s.ep/\(0=0/\s.log.length=s.log.length)/\s.sure=s.sure/\
  (0=0/\s.fr.length=s.fr.length)/\s.hand=s.hand/\True)/\(s.d.sec.length=(U2 s.d).fst.sec.length/\Z7 s.d.sec.length (Z6 (y6 s.d.sec s.d.cache (fun(x:Nat)=>true) x.val)) (Z6 (U2 s.d).fst.sec))/\True
  /\True/\(Y3 Y4 s.log s.log)/\(v=v/\s.fr.length=s.fr.length/\T9 s.fr.length (Y0 s.fr) (Y0 s.fr))/\(0=(U2 s.d).fst.cache.length/\Z7 0 (fun(x:Nat)=>[]) (Z3 (U2 s.d).fst.cache))/\(Y3
  Y7 s.d.keep (U2 s.d).fst.keep)/\True))):
  V7 Tryz.prog 128 [.ref 0 0 0] (s.bx v) (.bool (U2 s.d).2) ((s.sd ((U2 s.d).1)).bxY v):=
 C4 (code:=d5o) (gC a9A a5s (gC c4Q b5K gN)) Tryz.func128 (by kernel_rfl) (by kernel_rfl) (d4S s v) [[.box 0,.arr 1,.arr 2,.arr 3,.arr 4,.arr 5,.arr 7,.arr 8],[.nilC 0 1 0 2,.box 0,.arr 1,.arr 2,.arr 3,.arr 4,.arr 5,.arr 6,.arr 3]] h (by kernel_rfl)
theorem d0k:Z2 Tryz.prog 128 d5R:=by
 rintro⟨s,v⟩ ⟨⟨h1,h2,h3⟩,h4⟩;dsimp only at h1 h2 h3 h4;refine d3Y s v ⟨fun ha=> ?_,fun ha=> ?_⟩
 ·have e:U2 s.d=(crD s.d s.d.keep,false):=by unfold U2;rw[if_pos ha]
  rw[e];exact⟨s.d.keep,⟨T3 _,⟨⟨rfl,Z9 _ _⟩,trivial⟩,h3⟩,(s,s.d.keep,v),⟨⟨⟨rfl,rfl⟩,⟨rfl,rfl⟩,trivial⟩,⟨⟨rfl,rfl,⟨rfl,rfl⟩,⟨rfl,rfl⟩,rfl,⟨rfl,rfl⟩,rfl,⟨rfl,rfl⟩,rfl,⟨rfl,rfl⟩,rfl,trivial⟩,⟨rfl,Z9 _ _⟩,⟨rfl,Z9 _ _⟩,⟨rfl,Z9 _ _⟩,⟨rfl,Z9 _ _⟩,⟨rfl,rfl,U4 _⟩,⟨rfl,Z9 _ _⟩,trivial⟩,⟨h1,h2,h3⟩,h4,h3⟩,⟨rfl,trivial⟩,⟨rfl,rfl,⟨rfl,rfl⟩,⟨rfl,rfl⟩,rfl,⟨rfl,rfl⟩,rfl,⟨rfl,rfl⟩,rfl,⟨rfl,rfl⟩,rfl,trivial⟩,⟨rfl,Z9 _ _⟩,trivial,trivial,⟨rfl,Z9 _ _⟩,⟨rfl,rfl,U4 _⟩,⟨rfl,V0⟩,⟨rfl,V0⟩,trivial⟩
 ·have e:U2 s.d=(⟨y6 s.d.sec s.d.cache (fun _=>true) s.d.cache.length,[],s.d.armed,s.d.keep⟩,true):=by unfold U2;rw[if_neg (by rw[ha];simp)]
  rw[e];refine⟨⟨⟨0,Nat.zero_le _⟩,⟨⟨rfl,rfl⟩,⟨rfl,rfl⟩,rfl,rfl,trivial⟩,⟨rfl,rfl,⟨rfl,rfl⟩,⟨rfl,rfl⟩,rfl,⟨rfl,rfl⟩,rfl,⟨rfl,rfl⟩,rfl,⟨rfl,rfl⟩,rfl,trivial⟩,⟨rfl,Z9 _ _⟩,⟨rfl,Z9 _ _⟩,⟨rfl,Z9 _ _⟩,⟨rfl,Z9 _ _⟩,⟨rfl,rfl,U4 _⟩,trivial⟩,fun x=>⟨fun hc=> ?_,fun hc=> ?_⟩⟩
  ·have hlt:=Y6 hc;rw[Int.toNat_natCast,show 0+x.val=x.val by omega]
   have ha:=h4 x.val hlt;exact⟨Y8 hlt,hlt,ha,by unfold Lt;omega,Z5 (by omega),⟨x.val+1,hlt⟩,⟨⟨⟨rfl,rfl⟩,⟨rfl,rfl⟩,rfl,by dsimp only;omega,trivial⟩,⟨rfl,rfl,⟨rfl,rfl⟩,⟨rfl,rfl⟩,rfl,⟨rfl,rfl⟩,rfl,⟨rfl,rfl⟩,rfl,⟨rfl,rfl⟩,rfl,trivial⟩,⟨rfl,a3V (Q:=fun _=>true) rfl⟩,⟨rfl,Z9 _ _⟩,⟨rfl,Z9 _ _⟩,⟨rfl,Z9 _ _⟩,⟨rfl,rfl,U4 _⟩,trivial⟩,W5.ext_lt hlt⟩
  ·have hx:x.val=s.d.cache.length:=by have:=x.2;have:=Y2 hc;omega
   rw[hx];have hl:=(B2 s.d.sec s.d.cache (fun _=>true) s.d.cache.length).symm
   exact⟨⟨rfl,trivial⟩,⟨rfl,rfl,⟨rfl,hl⟩,⟨rfl,rfl⟩,rfl,⟨rfl,rfl⟩,rfl,⟨rfl,rfl⟩,rfl,⟨rfl,rfl⟩,rfl,trivial⟩,⟨hl,Z9 _ _⟩,trivial,trivial,⟨rfl,Z9 _ _⟩,⟨rfl,rfl,U4 _⟩,⟨rfl,V0⟩,⟨rfl,Z9 _ _⟩,trivial⟩
end Go.Proofs.YtokaojbaacnngaaGreat

namespace Go.Proofs.YtokaojbaacnngaaGreat
set_option maxRecDepth 100000
open Go.SS

theorem d3C{hi lsn:Int}{s:RdSt}:∀n,(RdSt.go hi lsn s n).ok=true->s.ok=true
 |0,h=>h
 |n+1,h=>by
  refine d3C (hi:=hi) (lsn:=lsn) n ?_
  simp only[RdSt.go,RdSt.step,Bool.and_eq_true] at h;exact h.1.1
theorem c85{hi lsn:Int}{s:RdSt}:∀n,s.l.length<=(RdSt.go hi lsn s n).l.length+2*n
 |0=>by simp[RdSt.go]
 |n+1=>by
  have:=c85 (hi:=hi) (lsn:=lsn) (s:=s) n;simp only[RdSt.go,RdSt.step,List.length_drop];omega
theorem c8x{most lo hi lsn:Int}{l:List UInt8}{fl:Bool}(h:(S6 most lo hi lsn l fl).ok=true):(l.length:Int)<=(S6 most lo hi lsn l fl).l.length+2*most+1:=by
 have h1:=d3C _ h;have h2:=c85 (hi:=hi) (lsn:=lsn) (s:=g7 most lo l fl) (numR l).toNat;have h3:numR l<=most:=of_decide_eq_true h1;have h4:=(k7 l).1;have h5:(g7 most lo l fl).l.length=l.length-1:=by simp[g7]
 have h6:(S6 most lo hi lsn l fl).l.length=(RdSt.go hi lsn (g7 most lo l fl) (numR l).toNat).l.length:=rfl;omega
theorem b7Q{a:List UInt8}{lsn:Int}(h:a8Z a lsn=true):a.length<=38:=by
 unfold a8Z at h;simp only[Bool.and_eq_true] at h;have h1:=c8x h.1.1.1;have h2:=c8x h.1.2.1;have h3:=List.isEmpty_iff.1 h.2.2;rw[h3] at h2;simp at h2;omega
theorem d5E{r:Rec}(h:S2 r=true):b5f r:=by
 have h:=(Q8 r).1 h;unfold m7 at h;obtain⟨_,_,_,_,_,_,_,_,_,_,_,_,_,_,hb,h6,h7⟩:=h;refine⟨by omega,?_⟩
 by_cases hk:r.k=6
 ·have:=b7Q (h6 hk).2.2.2.2.2.2;omega
 ·have:=(h7 hk).2.2.1;omega
def pdR(s:Sto)(i:Nat):Pend:=⟨9+(s.log.getD (s.sure.toNat+i) default).l-1,P9 (s.log.getD (s.sure.toNat+i) default)⟩
def wrN(s:Sto)(n:Nat):Dsk:=⟨s.d.sec,s.d.cache++(List.range n).map (pdR s),s.d.armed,s.d.keep⟩
def P8(s:Sto)(lsn:Int):Nat:=lsn.toNat-s.sure.toNat
def W2(s:Sto)(lsn:Int):Sto×Bool:=if lsn<=s.sure then(s,true) else
 (⟨(U2 (wrN s (P8 s lsn))).1,s.ep,s.log,if(U2 (wrN s (P8 s lsn))).2=true then lsn else s.sure,s.fr,s.hand⟩,(U2 (wrN s (P8 s lsn))).2)
def a3D(s:Sto)(lsn:Int):Prop:=SmD s.d/\s.d.cache.length<=1000/\PdB s.d/\s.d.sec.length=69/\0<=s.sure/\s.sure<=s.log.length/\s.log.length<=60/\lsn<=s.log.length/\∀i,i<s.log.length->(s.log.getD i default).l=(i:Int)+1/\b5f (s.log.getD i default)
def d06:Con:=.reff ⟨Sto×Int×Nat,fun x=>[.ref 0 0 0,.int .i64 x.2.1],fun x=>x.1.bx x.2.2,fun x=>.bool (W2 x.1 x.2.1).2,fun x=>(W2 x.1 x.2.1).1.bxY x.2.2,fun x=>a3D x.1 x.2.1⟩
def d0f(s:Sto)(lsn:Int)(v:Nat):Nat->Ann
 |0=>.one {i:Nat//i<=P8 s lsn} (fun x=>⟨[(0,.ref 0 0 0),(1,.int .i64 lsn),(22,.osl 4 s.sure.toNat (P8 s lsn)),(23,.int .i64 (P8 s lsn)),(24,.int .i64 x.1)],(s.sd (wrN s x.1)).bxC v⟩) (fun x=>P8 s lsn-x.1) [.box 0,.arr 1,.arr 2,.arr 3,.arr 4,.arr 5,.arr 2] [.box 0,.arr 1,.arr 2,.arr 3,.arr 4,.arr 5,.arr 8] (fun _=>Z0)
 |_=>.none
noncomputable def d0w:Code:=Tryz.f118.body.getD .skip
theorem b3N:Z8 Tryz.prog 118:=⟨_,Tryz.func118,by kernel_rfl,by kernel_rfl⟩
theorem c9z(s:Sto)(lsn:Int)(v:Nat)(h:
  (decide (lsn<=s.sure)=true->(true=(W2 s lsn).snd/\True)/\(1=1/\1=1/\EqC s (W2 s lsn).fst)/\(Y3 Z6 s.d.sec (W2 s lsn).fst.d.sec)/\True/\True/\(Y3 Y4 s.log (W2 s lsn).fst.log)/\(v=v/\
  s.fr.length=(W2 s lsn).fst.fr.length/\T9 s.fr.length (Y0 s.fr) (Y0 (W2 s lsn).fst.fr))/\(Y3 Z3 s.d.cache (W2 s lsn).fst.d.cache)/\(Y3 Y7 s.d.keep (W2 s lsn).fst.d.keep)/\True)/\(decide (lsn<=
  s.sure)=false->d2q s.sure lsn s.log.length/\(∃(x:{i:Nat//i<=P8 s lsn}),((0=0/\0=0)/\lsn=lsn/\(0+s.sure.toNat=s.sure.toNat/\lsn.toNat-s.sure.toNat=P8 s lsn)/\(↑(lsn.toNat-s.sure.toNat):
  Int)=(↑(P8 s lsn):Int)/\(0:Int)=(x.val:Int)/\True)/\(1=1/\1=1/\(0=0/\s.d.sec.length=s.d.sec.length)/\(0=0/\s.d.cache.length=(s.d.cache++List.map (pdR s) (List.range x.val)).length)/\s.d.armed=
  s.d.armed/\(0=0/\s.d.keep.length=s.d.keep.length)/\s.ep=s.ep/\(0=0/\s.log.length=s.log.length)/\s.sure=s.sure/\(0=0/\s.fr.length=s.fr.length)/\s.hand=s.hand/\True)/\(Y3 Z6 s.d.sec s.d.sec)/\True
  /\(Y3 Y7 s.d.keep s.d.keep)/\(Y3 Y4 s.log s.log)/\(v=v/\s.fr.length=s.fr.length/\T9 s.fr.length (Y0 s.fr) (Y0 s.fr))/\(Y3 Z3 s.d.cache (s.d.cache++List.map (pdR s) (List.range x.val)))/\True)
  /\∀(x:{i:Nat//i<=P8 s lsn}),(decide ((x.val:Int)<(↑(P8 s lsn):Int))=true->W7 (x.val:Int) (P8 s lsn)/\Lt (s.sure.toNat+(x.val:Int).toNat) s.log.length/\X6 .i64 ((9:Int)+(s.log.getD (s.sure.toNat+
  (x.val:Int).toNat) default).l)/\X6 .i64 ((9:Int)+(s.log.getD (s.sure.toNat+(x.val:Int).toNat) default).l- (1:Int))/\∃(x_1:Rec),(((EqR (s.log.getD (s.sure.toNat+(x.val:Int).toNat) default) x_1)/\True)/\b5f x_1)
  /\∃(x_2:(Sto×Int×List UInt8×Nat)),(((0=0/\0=0)/\(9:Int)+(s.log.getD (s.sure.toNat+(x.val:Int).toNat) default).l- (1:Int)=x_2.snd.fst/\P9 x_1=x_2.snd.snd.fst/\True)/\((1=1/\1=1/\(0=0/\
  s.d.sec.length=x_2.fst.d.sec.length)/\(0=0/\(s.d.cache++List.map (pdR s) (List.range x.val)).length=x_2.fst.d.cache.length)/\s.d.armed=x_2.fst.d.armed/\(0=0/\s.d.keep.length=x_2.fst.d.keep.length)/\s.ep=
  x_2.fst.ep/\(0=0/\s.log.length=x_2.fst.log.length)/\s.sure=x_2.fst.sure/\(0=0/\s.fr.length=x_2.fst.fr.length)/\s.hand=x_2.fst.hand/\True)/\(Y3 Z6 s.d.sec x_2.fst.d.sec)/\(Y3 Z3 (s.d.cache++
  List.map (pdR s) (List.range x.val)) x_2.fst.d.cache)/\(Y3 Y7 s.d.keep x_2.fst.d.keep)/\(Y3 Y4 s.log x_2.fst.log)/\(v=x_2.snd.snd.snd/\s.fr.length=x_2.fst.fr.length/\T9 s.fr.length (Y0 s.fr) (Y0
  x_2.fst.fr))/\True)/\x_2.fst.d.cache.length<=1048576)/\X6 .i64 ((x.val:Int)+(1:Int))/\∃(y:{i:Nat//i<=P8 s lsn}),(((0=0/\0=0)/\lsn=lsn/\(s.sure.toNat=s.sure.toNat/\P8 s lsn=P8 s lsn)/\
  (↑(P8 s lsn):Int)=(↑(P8 s lsn):Int)/\(x.val:Int)+(1:Int)=(y.val:Int)/\True)/\(1=1/\1=1/\(0=0/\x_2.fst.d.sec.length=s.d.sec.length)/\(0=0/\(x_2.fst.d.cache++[Pend.mk x_2.snd.fst
  x_2.snd.snd.fst]).length=(s.d.cache++List.map (pdR s) (List.range y.val)).length)/\x_2.fst.d.armed=s.d.armed/\(0=0/\x_2.fst.d.keep.length=s.d.keep.length)/\x_2.fst.ep=s.ep/\(0=0/\x_2.fst.log.length=
  s.log.length)/\x_2.fst.sure=s.sure/\(0=0/\x_2.fst.fr.length=s.fr.length)/\x_2.fst.hand=s.hand/\True)/\(Y3 Z6 x_2.fst.d.sec s.d.sec)/\True/\(Y3 Y7 x_2.fst.d.keep s.d.keep)/\(Y3 Y4 x_2.fst.log s.log)
  /\(x_2.snd.snd.snd=v/\x_2.fst.fr.length=s.fr.length/\T9 x_2.fst.fr.length (Y0 x_2.fst.fr) (Y0 s.fr))/\(Y3 Z3 (x_2.fst.d.cache++[Pend.mk x_2.snd.fst x_2.snd.snd.fst]) (s.d.cache++List.map (pdR s)
  (List.range y.val)))/\True)/\Lt (P8 s lsn-y.val) (P8 s lsn-x.val))/\(decide ((x.val:Int)<(↑(P8 s lsn):Int))=false->∃(x_1:(Sto×Nat)),(((0=0/\0=0)/\True)/\((1=1/\1=1/\(0=0/\s.d.sec.length=
  x_1.fst.d.sec.length)/\(0=0/\(s.d.cache++List.map (pdR s) (List.range x.val)).length=x_1.fst.d.cache.length)/\s.d.armed=x_1.fst.d.armed/\(0=0/\s.d.keep.length=x_1.fst.d.keep.length)/\s.ep=x_1.fst.ep/\(0=0/\
  s.log.length=x_1.fst.log.length)/\s.sure=x_1.fst.sure/\(0=0/\s.fr.length=x_1.fst.fr.length)/\s.hand=x_1.fst.hand/\True)/\(Y3 Z6 s.d.sec x_1.fst.d.sec)/\(Y3 Z3 (s.d.cache++List.map (pdR s) (List.range
  x.val)) x_1.fst.d.cache)/\(Y3 Y7 s.d.keep x_1.fst.d.keep)/\(Y3 Y4 s.log x_1.fst.log)/\(v=x_1.snd/\s.fr.length=x_1.fst.fr.length/\T9 s.fr.length (Y0 s.fr) (Y0 x_1.fst.fr))/\True)/\SmD x_1.fst.d/\PdB
  x_1.fst.d)/\((!(U2 x_1.fst.d).snd)=true->(false=(W2 s lsn).snd/\True)/\(1=1/\1=1/\(0=0/\(U2 x_1.fst.d).fst.sec.length=(W2 s lsn).fst.d.sec.length)/\(0=0/\(U2 x_1.fst.d).fst.cache.length=(W2 s
  lsn).fst.d.cache.length)/\(U2 x_1.fst.d).fst.armed=(W2 s lsn).fst.d.armed/\(0=0/\(U2 x_1.fst.d).fst.keep.length=(W2 s lsn).fst.d.keep.length)/\x_1.fst.ep=(W2 s lsn).fst.ep/\(0=0/\x_1.fst.log.length=
  (W2 s lsn).fst.log.length)/\x_1.fst.sure=(W2 s lsn).fst.sure/\(0=0/\x_1.fst.fr.length=(W2 s lsn).fst.fr.length)/\x_1.fst.hand=(W2 s lsn).fst.hand/\True)/\(Y3 Z6 (U2 x_1.fst.d).fst.sec (W2 s
  lsn).fst.d.sec)/\True/\True/\(Y3 Y4 x_1.fst.log (W2 s lsn).fst.log)/\(x_1.snd=v/\x_1.fst.fr.length=(W2 s lsn).fst.fr.length/\T9 x_1.fst.fr.length (Y0 x_1.fst.fr) (Y0 (W2 s lsn).fst.fr))/\(Y3
  Z3 (U2 x_1.fst.d).fst.cache (W2 s lsn).fst.d.cache)/\(Y3 Y7 (U2 x_1.fst.d).fst.keep (W2 s lsn).fst.d.keep)/\True)/\((!(U2 x_1.fst.d).snd)=false->(true=(W2 s lsn).snd/\True)/\(1=1/\1=1/\(0=0
  /\(U2 x_1.fst.d).fst.sec.length=(W2 s lsn).fst.d.sec.length)/\(0=0/\(U2 x_1.fst.d).fst.cache.length=(W2 s lsn).fst.d.cache.length)/\(U2 x_1.fst.d).fst.armed=(W2 s lsn).fst.d.armed/\(0=0/\(U2
  x_1.fst.d).fst.keep.length=(W2 s lsn).fst.d.keep.length)/\x_1.fst.ep=(W2 s lsn).fst.ep/\(0=0/\x_1.fst.log.length=(W2 s lsn).fst.log.length)/\lsn=(W2 s lsn).fst.sure/\(0=0/\x_1.fst.fr.length=(W2 s
  lsn).fst.fr.length)/\x_1.fst.hand=(W2 s lsn).fst.hand/\True)/\(Y3 Z6 (U2 x_1.fst.d).fst.sec (W2 s lsn).fst.d.sec)/\True/\True/\(Y3 Y4 x_1.fst.log (W2 s lsn).fst.log)/\(x_1.snd=v/\x_1.fst.fr.length=
  (W2 s lsn).fst.fr.length/\T9 x_1.fst.fr.length (Y0 x_1.fst.fr) (Y0 (W2 s lsn).fst.fr))/\(Y3 Z3 (U2 x_1.fst.d).fst.cache (W2 s lsn).fst.d.cache)/\(Y3 Y7 (U2 x_1.fst.d).fst.keep (W2 s
  lsn).fst.d.keep)/\True)))):
  V7 Tryz.prog 118 [.ref 0 0 0,.int .i64 lsn] (s.bx v) (.bool (W2 s lsn).2) ((W2 s lsn).1.bxY v):=
 C4 (code:=d0w) (gC a4h a2J (gC c6g b3e (gC d0k c0C gN))) Tryz.func118 (by kernel_rfl) (by kernel_rfl) (d0f s lsn v) [[.box 0,.arr 1,.arr 2,.arr 3,.arr 4,.arr 5,.arr 7,.arr 8],[.box 0,.arr 1,.arr 2,.arr 3,.arr 4,.arr 5,.arr 2,.arr 3]] h (by kernel_rfl)
theorem a72{s:Sto}{lsn:Int}(h:lsn<=s.sure):W2 s lsn=(s,true):=if_pos h
theorem a9j{s:Sto}{lsn:Int}(h:¬lsn<=s.sure):W2 s lsn=(⟨(U2 (wrN s (P8 s lsn))).1,s.ep,s.log,if(U2 (wrN s (P8 s lsn))).2=true then lsn else s.sure,s.fr,s.hand⟩,(U2 (wrN s (P8 s lsn))).2):=if_neg h
theorem a8m{s:Sto}{lsn:Int}{i:Nat}(h:a3D s lsn)(hi:i<P8 s lsn):(pdR s i).at_=9+s.sure+i/\b5f (s.log.getD (s.sure.toNat+i) default)/\s.sure+i<lsn:=by
 obtain⟨_,_,_,_,h5,h6,_,h8,h9⟩:=h;unfold P8 at hi;obtain⟨a,b⟩:=h9 (s.sure.toNat+i) (by omega)
 refine⟨?_,b,by omega⟩
 unfold pdR;dsimp only;rw[a];omega
theorem a0M(s:Sto)(n:Nat):s.d.cache++List.map (pdR s) (List.range n)++[pdR s n]=s.d.cache++List.map (pdR s) (List.range (n+1)):=by
 rw[List.range_succ,List.map_append,List.append_assoc];rfl
theorem c9a{s:Sto}{lsn:Int}(h:a3D s lsn):SmD (wrN s (P8 s lsn))/\PdB (wrN s (P8 s lsn)):=by
 have hn:=fun i=>a8m (i:=i) h
 obtain⟨⟨a1,a2,a3⟩,h2,h3,h4,h5,h6,h7,h8,h9⟩:=h;have hN:P8 s lsn<=60:=by unfold P8;omega
 refine⟨⟨a1,?_,a3⟩,fun i hi=> ?_⟩
 ·show(s.d.cache++List.map (pdR s) (List.range _)).length<=1048576;simp only[List.length_append,List.length_map,List.length_range];omega
 ·have hi:i<(s.d.cache++List.map (pdR s) (List.range (P8 s lsn))).length:=hi;show 0<=((s.d.cache++List.map (pdR s) (List.range (P8 s lsn))).getD i default).at_/\((s.d.cache++List.map (pdR s) (List.range (P8 s lsn))).getD i default).at_<(s.d.sec.length:Int);rw[h4,List.getD_eq_getElem?_getD]
  by_cases hc:i<s.d.cache.length
  ·rw[List.getElem?_append_left hc,←List.getD_eq_getElem?_getD]
   have:=h3 i hc;rw[h4] at this;exact this
  ·rw[List.getElem?_append_right (by omega),←List.getD_eq_getElem?_getD]
   simp only[List.length_append,List.length_map,List.length_range] at hi;rw[C3 _ (by omega)]
   obtain⟨e,_,q⟩:=hn (i-s.d.cache.length) (by omega)
   rw[e];omega
theorem c6Z:Z2 Tryz.prog 118 d06:=by
 rintro⟨s,lsn,v⟩ h;dsimp only at h;have hn:=fun i=>a8m (i:=i) h
 have hw:=c9a h;obtain⟨⟨a1,a2,a3⟩,h2,h3,h4,h5,h6,h7,h8,h9⟩:=h;have hN:P8 s lsn<=60:=by unfold P8;omega
 refine c9z s lsn v ⟨fun hc=> ?_,fun hc=> ?_⟩
 ·rw[a72 (of_decide_eq_true hc)];exact⟨⟨rfl,trivial⟩,⟨rfl,rfl,⟨rfl,rfl⟩,⟨rfl,rfl⟩,rfl,⟨rfl,rfl⟩,rfl,⟨rfl,rfl⟩,rfl,⟨rfl,rfl⟩,rfl,trivial⟩,⟨rfl,Z9 _ _⟩,trivial,trivial,⟨rfl,Z9 _ _⟩,⟨rfl,rfl,U4 _⟩,⟨rfl,Z9 _ _⟩,⟨rfl,Z9 _ _⟩,trivial⟩
 ·have hc:=of_decide_eq_false hc;refine⟨⟨h5,by omega,h8⟩,⟨⟨0,Nat.zero_le _⟩,⟨⟨rfl,rfl⟩,rfl,⟨Nat.zero_add _,rfl⟩,rfl,rfl,trivial⟩,⟨rfl,rfl,⟨rfl,rfl⟩,⟨rfl,by simp⟩,rfl,⟨rfl,rfl⟩,rfl,⟨rfl,rfl⟩,rfl,⟨rfl,rfl⟩,rfl,trivial⟩,⟨rfl,Z9 _ _⟩,trivial,⟨rfl,Z9 _ _⟩,⟨rfl,Z9 _ _⟩,⟨rfl,rfl,U4 _⟩,⟨by simp,fun i _=>by simp⟩,trivial⟩,fun x=>⟨fun hx=> ?_,fun hx=> ?_⟩⟩
  ·have hlt:=Y6 hx;obtain⟨e,hb,q⟩:=hn x.val hlt;have e':9+(s.log.getD (s.sure.toNat+x.val) default).l-1=9+s.sure+x.val:=e;rw[Int.toNat_natCast];refine⟨Y8 hlt,by unfold Lt;omega,Z5 (by omega),Z5 (by omega),_,⟨⟨⟨rfl,rfl,rfl,rfl,rfl,rfl,rfl,rfl,rfl,rfl,trivial⟩,trivial⟩,hb⟩,(s.sd (wrN s x.val),9+(s.log.getD (s.sure.toNat+x.val) default).l-1,P9 (s.log.getD (s.sure.toNat+x.val) default),v),⟨⟨⟨rfl,rfl⟩,rfl,rfl,trivial⟩,⟨⟨rfl,rfl,⟨rfl,rfl⟩,⟨rfl,rfl⟩,rfl,⟨rfl,rfl⟩,rfl,⟨rfl,rfl⟩,rfl,⟨rfl,rfl⟩,rfl,trivial⟩,⟨rfl,Z9 _ _⟩,⟨rfl,Z9 _ _⟩,⟨rfl,Z9 _ _⟩,⟨rfl,Z9 _ _⟩,⟨rfl,rfl,U4 _⟩,trivial⟩,?_⟩,Z5 (by omega),⟨x.val+1,hlt⟩,⟨⟨⟨rfl,rfl⟩,rfl,⟨rfl,rfl⟩,rfl,by dsimp only;omega,trivial⟩,⟨rfl,rfl,⟨rfl,rfl⟩,⟨rfl,congrArg List.length (a0M s x.val)⟩,rfl,⟨rfl,rfl⟩,rfl,⟨rfl,rfl⟩,rfl,⟨rfl,rfl⟩,rfl,trivial⟩,⟨rfl,Z9 _ _⟩,trivial,⟨rfl,Z9 _ _⟩,⟨rfl,Z9 _ _⟩,⟨rfl,rfl,U4 _⟩,⟨congrArg List.length (a0M s x.val),fun i _=>congrArg (fun L=>Z3 L i) (a0M s x.val)⟩,trivial⟩,W5.ext_lt hlt⟩
   show(s.d.cache++List.map (pdR s) (List.range _)).length<=1048576;simp only[List.length_append,List.length_map,List.length_range];omega
  ·have hx:x.val=P8 s lsn:=by have:=x.2;have:=Y2 hx;omega
   rw[hx,a9j hc];refine⟨(s.sd (wrN s (P8 s lsn)),v),⟨⟨⟨rfl,rfl⟩,trivial⟩,⟨⟨rfl,rfl,⟨rfl,rfl⟩,⟨rfl,rfl⟩,rfl,⟨rfl,rfl⟩,rfl,⟨rfl,rfl⟩,rfl,⟨rfl,rfl⟩,rfl,trivial⟩,⟨rfl,Z9 _ _⟩,⟨rfl,Z9 _ _⟩,⟨rfl,Z9 _ _⟩,⟨rfl,Z9 _ _⟩,⟨rfl,rfl,U4 _⟩,trivial⟩,hw⟩,fun hy=> ?_,fun hy=> ?_⟩
   ·have hy:(U2 (wrN s (P8 s lsn))).2=false:=(Bool.not_eq_true' _).mp hy;exact⟨⟨hy.symm,trivial⟩,⟨rfl,rfl,⟨rfl,rfl⟩,⟨rfl,rfl⟩,rfl,⟨rfl,rfl⟩,rfl,⟨rfl,rfl⟩,(if_neg (by rw[hy];simp)).symm,⟨rfl,rfl⟩,rfl,trivial⟩,⟨rfl,Z9 _ _⟩,trivial,trivial,⟨rfl,Z9 _ _⟩,⟨rfl,rfl,U4 _⟩,⟨rfl,Z9 _ _⟩,⟨rfl,Z9 _ _⟩,trivial⟩
   ·have hy:(U2 (wrN s (P8 s lsn))).2=true:=(Bool.not_eq_false' _).mp hy;exact⟨⟨hy.symm,trivial⟩,⟨rfl,rfl,⟨rfl,rfl⟩,⟨rfl,rfl⟩,rfl,⟨rfl,rfl⟩,rfl,⟨rfl,rfl⟩,(if_pos hy).symm,⟨rfl,rfl⟩,rfl,trivial⟩,⟨rfl,Z9 _ _⟩,trivial,trivial,⟨rfl,Z9 _ _⟩,⟨rfl,rfl,U4 _⟩,⟨rfl,Z9 _ _⟩,⟨rfl,Z9 _ _⟩,trivial⟩
theorem d7a{a b c:Int}(h:W9 a b c=true):b<=a/\a<=c:=by simpa[W9] using h
end Go.Proofs.YtokaojbaacnngaaGreat

namespace Go.Proofs.YtokaojbaacnngaaGreat
set_option maxRecDepth 100000
open Go.SS

def b57:Con:=.rel ⟨Dsk×Int×List UInt8,fun x=>[.agg x.1.ts,.int .i64 x.2.1,.str x.2.2],fun x=>.agg (wrD x.1 x.2.1 x.2.2).ts,fun x=>x.1.cache.length<=1048576⟩
noncomputable def b3H:Code:=Tryz.f183.body.getD .skip
theorem a6b:Z8 Tryz.prog 183:=⟨_,Tryz.func183,by kernel_rfl,by kernel_rfl⟩
theorem b68(d:Dsk)(at_:Int)(t:List UInt8)(h:
  (Le 0 0/\V6 0 d.cache.length 24)/\(Le 1 1/\Le (0+d.cache.length) (0+d.cache.length)/\V6 (0+d.cache.length) 1 24)/\Le (0+(0+d.cache.length+1)) (0+d.cache.length+1)/\(Y3 Z6 d.sec d.sec)/\(0+
  d.cache.length+1=(d.cache++[Pend.mk at_ t]).length/\Z7 (0+d.cache.length+1) (W4 (W4 (fun(k:Nat)=>List.take 2 (List.drop (k*2) [])) 0 (Z3 d.cache)) (0+d.cache.length) fun(k:Nat)=>List.take
  2 (List.drop (k*2) [T.int .i64 at_,T.str t])) (Z3 (d.cache++[Pend.mk at_ t])))/\d.armed=d.armed/\(Y3 Y7 d.keep d.keep)/\True):
  Z1 Tryz.prog 183 [.agg d.ts,.int .i64 at_,.str t] (.agg (wrD d at_ t).ts):=
 T7 (code:=b3H) gN Tryz.func183 (by kernel_rfl) (by kernel_rfl) Z0 h (by kernel_rfl)

theorem b0o:Z2 Tryz.prog 183 b57:=by
 rintro⟨d,at_,t⟩ (h:d.cache.length<=1048576);exact b68 d at_ t ⟨⟨Nat.le_refl _,by unfold V6;omega⟩,⟨Nat.le_refl _,Nat.le_refl _,by unfold V6;omega⟩,by unfold Le;omega,⟨rfl,Z9 _ _⟩,⟨by simp,by rw[Nat.zero_add];exact b0u d.cache ⟨at_,t⟩⟩,rfl,⟨rfl,Z9 _ _⟩,trivial⟩
def d3P(l:List T):Option Ob:=some (.arr false 1000000 4 1 fun _=>l)
def b8u(l:List T):Option Ob:=some (.arr true 1000000 4 1 fun _=>l)
def d6D:List T:=[.v (.slice none 0 0),.v (.slice none 0 0),.bool false,.v (.slice none 0 0)]
def b6k:Con:=.rel ⟨Dsk×List Int,fun x=>[.agg x.1.ts,w4 x.2],fun x=>.agg (crD x.1 x.2).ts,fun x=>SmD x.1/\PdB x.1⟩
def b4k(d:Dsk)(K:List Int):Nat->Ann
 |0=>.one {i:Nat//i<=d.cache.length} (fun x=>⟨[(1,w4 K),(2,.ref 0 0 0),(4,.ref 1 0 0),(5,.ref 2 0 0),(6,.int .i64 x.1)],[b8u d.ts,b8u d6D,d3P (d.tm 3),some (.arr true 0 1 d.sec.length (Z6 (y6 d.sec d.cache (kp K) x.1))),J4 d.cache,C9 d.keep]⟩) (fun x=>d.cache.length-x.1) [.box 0,.box 1,.box 5,.arr 2,.arr 3,.arr 4] [.box 0,.box 1,.box 2,.arr 3,.arr 4,.arr 5] (fun _=>Z0)
 |_=>.none
noncomputable def b5t:Code:=Tryz.f56.body.getD .skip
theorem a5w:Z8 Tryz.prog 56:=⟨_,Tryz.func56,by kernel_rfl,by kernel_rfl⟩
theorem b50(d:Dsk)(K:List Int)(h:
  ∃(x:Dsk),(((EqD d x)/\True)/\SmD x)/\(∃(x_1:{i:Nat//i<=d.cache.length}),((Y3 Y7 K K)/\(0=0/\0=0)/\(0=0/\0=0)/\(0=0/\0=0)/\(0:Int)=(x_1.val:Int)/\True)/\(1=1/\1=1/\EqD d d)/\(1
  =1/\1=1/\Value.slice none 0 0=Value.slice none 0 0/\Value.slice none 0 0=Value.slice none 0 0/\false=false/\Value.slice none 0 0=Value.slice none 0 0/\True)/\(1=1/\1=1/\(0=0/\x.sec.length=d.sec.length)
  /\(0=0/\x.cache.length=d.cache.length)/\x.armed=d.armed/\(0=0/\x.keep.length=d.keep.length)/\True)/\(x.sec.length=d.sec.length/\Z7 x.sec.length (Z6 x.sec) (Z6 (y6 d.sec d.cache (kp K) x_1.val)))/\
  (Y3 Z3 x.cache d.cache)/\(Y3 Y7 x.keep d.keep)/\True)/\∀(x:{i:Nat//i<=d.cache.length}),(decide ((x.val:Int)<(d.cache.length:Int))=true->(decide ((x.val:Int)<(K.length:Int))=true->W7 (x.val:Int)
  K.length)/\((decide ((x.val:Int)<(K.length:Int))&&K.getD (x.val:Int).toNat (0:Int) !=(0:Int))=true->W7 (x.val:Int) d.cache.length/\W7 (x.val:Int) d.cache.length/\W7 (d.cache.getD (x.val:Int).toNat default).at_
  d.sec.length/\Lt (0+(d.cache.getD (x.val:Int).toNat default).at_.toNat) d.sec.length/\X6 .i64 ((x.val:Int)+(1:Int))/\∃(y:{i:Nat//i<=d.cache.length}),(((Y3 Y7 K K)/\(0=0/\0=0)/\(0=0/\0=0)/\(0
  =0/\0=0)/\(x.val:Int)+(1:Int)=(y.val:Int)/\True)/\(1=1/\1=1/\EqD d d)/\(1=1/\1=1/\Value.slice none 0 0=Value.slice none 0 0/\Value.slice none 0 0=Value.slice none 0 0/\false=false/\Value.slice
  none 0 0=Value.slice none 0 0/\True)/\(1=1/\1=1/\(0=0/\d.sec.length=d.sec.length)/\(0=0/\d.cache.length=d.cache.length)/\d.armed=d.armed/\(0=0/\d.keep.length=d.keep.length)/\True)/\(d.sec.length=
  d.sec.length/\Z7 d.sec.length (setRow (Z6 (y6 d.sec d.cache (kp K) x.val)) (0+(d.cache.getD (x.val:Int).toNat default).at_.toNat) 0 [T.str (d.cache.getD (x.val:Int).toNat default).d]) (Z6 (y6 d.sec d.cache (kp K)
  y.val)))/\(Y3 Z3 d.cache d.cache)/\(Y3 Y7 d.keep d.keep)/\True)/\Lt (d.cache.length-y.val) (d.cache.length-x.val))/\((decide ((x.val:Int)<(K.length:Int))&&K.getD (x.val:Int).toNat (0:Int) !=(0:Int))=
  false->X6 .i64 ((x.val:Int)+(1:Int))/\∃(y:{i:Nat//i<=d.cache.length}),(((Y3 Y7 K K)/\(0=0/\0=0)/\(0=0/\0=0)/\(0=0/\0=0)/\(x.val:Int)+(1:Int)=(y.val:Int)/\True)/\(1=1/\1=1/\
  EqD d d)/\(1=1/\1=1/\Value.slice none 0 0=Value.slice none 0 0/\Value.slice none 0 0=Value.slice none 0 0/\false=false/\Value.slice none 0 0=Value.slice none 0 0/\True)/\(1=1/\1=1/\(0=0/\d.sec.length=
  d.sec.length)/\(0=0/\d.cache.length=d.cache.length)/\d.armed=d.armed/\(0=0/\d.keep.length=d.keep.length)/\True)/\(d.sec.length=d.sec.length/\Z7 d.sec.length (Z6 (y6 d.sec d.cache (kp K) x.val)) (Z6
  (y6 d.sec d.cache (kp K) y.val)))/\(Y3 Z3 d.cache d.cache)/\(Y3 Y7 d.keep d.keep)/\True)/\Lt (d.cache.length-y.val) (d.cache.length-x.val)))/\(decide ((x.val:Int)<(d.cache.length:Int))=false->(Le (0+
  d.sec.length) d.sec.length/\Le 0 0/\Le 0 0)/\(d.sec.length=(y6 d.sec d.cache (kp K) d.cache.length).length/\Z7 d.sec.length (Z6 (y6 d.sec d.cache (kp K) x.val)) (Z6 (y6 d.sec d.cache (kp K) d.cache.length)))/\
  (0=0/\Z7 0 (fun(k:Nat)=>List.take 2 (List.drop (k*2) [])) (Z3 []))/\false=false/\(0=0/\Z7 0 (fun(k:Nat)=>List.take 1 (List.drop (k*1) [])) (Y7 []))/\True)):
  Z1 Tryz.prog 56 [.agg d.ts,w4 K] (.agg (crD d K).ts):=
 T7 (code:=b5t) (gC a2Z a0K gN) Tryz.func56 (by kernel_rfl) (by kernel_rfl) (b4k d K) h (by kernel_rfl)
theorem b0l:Z2 Tryz.prog 56 b6k:=by
 rintro⟨d,K⟩ ⟨⟨h1,h2,h3⟩,h4⟩;dsimp only at h1 h2 h3 h4;refine b50 d K ⟨d,⟨⟨eqD _,trivial⟩,h1,h2,h3⟩,⟨⟨0,Nat.zero_le _⟩,(by repeat' first|exact trivial|exact rfl|exact Z9 _ _|exact U4 _|exact V0|exact T3 _|exact Nat.le_refl _|exact Nat.zero_le _|refine And.intro ?_ ?_)⟩,fun x=>⟨fun hc=> ?_,fun hc=> ?_⟩⟩
 ·have hlt:=Y6 hc;have ek:(decide ((x.val:Int)<(K.length:Int))&&K.getD x.val 0 !=0)=kp K x.val:=by
   unfold kp;rw[show decide ((x.val:Int)<(K.length:Int))=decide (x.val<K.length) from decide_eq_decide.2 (by omega)]
  have ha:=h4 x.val hlt;rw[Int.toNat_natCast,ek];refine⟨fun h=>Y8 (Y6 h),fun hk=> ?_,fun hk=> ?_⟩
  ·exact⟨Y8 hlt,Y8 hlt,ha,by unfold Lt;omega,Z5 (by omega),⟨x.val+1,hlt⟩,⟨⟨⟨rfl,Z9 _ _⟩,⟨rfl,rfl⟩,⟨rfl,rfl⟩,⟨rfl,rfl⟩,by dsimp only;omega,trivial⟩,⟨rfl,rfl,eqD _⟩,(by repeat' first|exact trivial|exact rfl|exact Z9 _ _|exact U4 _|exact V0|exact T3 _|exact Nat.le_refl _|exact Nat.zero_le _|refine And.intro ?_ ?_),(by repeat' first|exact trivial|exact rfl|exact Z9 _ _|exact U4 _|exact V0|exact T3 _|exact Nat.le_refl _|exact Nat.zero_le _|refine And.intro ?_ ?_),⟨rfl,a3V hk⟩,(by repeat' first|exact trivial|exact rfl|exact Z9 _ _|exact U4 _|exact V0|exact T3 _|exact Nat.le_refl _|exact Nat.zero_le _|refine And.intro ?_ ?_)⟩,W5.ext_lt hlt⟩
  ·exact⟨Z5 (by omega),⟨x.val+1,hlt⟩,⟨⟨⟨rfl,Z9 _ _⟩,⟨rfl,rfl⟩,⟨rfl,rfl⟩,⟨rfl,rfl⟩,by dsimp only;omega,trivial⟩,⟨rfl,rfl,eqD _⟩,(by repeat' first|exact trivial|exact rfl|exact Z9 _ _|exact U4 _|exact V0|exact T3 _|exact Nat.le_refl _|exact Nat.zero_le _|refine And.intro ?_ ?_),(by repeat' first|exact trivial|exact rfl|exact Z9 _ _|exact U4 _|exact V0|exact T3 _|exact Nat.le_refl _|exact Nat.zero_le _|refine And.intro ?_ ?_),⟨rfl,fun j _=>by dsimp only;rw[d3N hk]⟩,(by repeat' first|exact trivial|exact rfl|exact Z9 _ _|exact U4 _|exact V0|exact T3 _|exact Nat.le_refl _|exact Nat.zero_le _|refine And.intro ?_ ?_)⟩,W5.ext_lt hlt⟩
 ·have hx:x.val=d.cache.length:=by have:=x.2;have:=Y2 hc;omega
  rw[hx];exact⟨(by repeat' first|exact trivial|exact rfl|exact Z9 _ _|exact U4 _|exact V0|exact T3 _|exact Nat.le_refl _|exact Nat.zero_le _|refine And.intro ?_ ?_),⟨(B2 _ _ _ _).symm,Z9 _ _⟩,(by repeat' first|exact trivial|exact rfl|exact Z9 _ _|exact U4 _|exact V0|exact T3 _|exact Nat.le_refl _|exact Nat.zero_le _|refine And.intro ?_ ?_)⟩
def b8P:Con:=.rel ⟨Dsk,fun d=>[.agg d.ts],fun d=>.tup [.agg (U2 d).1.ts,.bool (U2 d).2],fun d=>SmD d/\PdB d⟩
def c2z(d:Dsk):Nat->Ann
 |0=>.one {i:Nat//i<=d.cache.length} (fun x=>⟨[(1,.ref 0 0 0),(2,.ref 1 0 0),(4,.ref 2 0 0),(5,.int .i64 x.1)],[b8u d.ts,b8u d6D,d3P (d.tm 3),some (.arr true 0 1 d.sec.length (Z6 (y6 d.sec d.cache (fun _=>true) x.1))),J4 d.cache,C9 d.keep]⟩) (fun x=>d.cache.length-x.1) [.box 0,.box 1,.box 5,.arr 2,.arr 3,.arr 4] [.box 0,.box 1,.box 2,.arr 3,.arr 4,.arr 5] (fun _=>Z0)
 |_=>.none
noncomputable def c1c:Code:=Tryz.f124.body.getD .skip
theorem a7R:Z8 Tryz.prog 124:=⟨_,Tryz.func124,by kernel_rfl,by kernel_rfl⟩
theorem c2k(d:Dsk)(h:
  (d.armed=true->∃(x:(Dsk×List Int)),(((EqD d x.fst)/\(Y3 Y7 d.keep x.snd)/\True)/\SmD x.fst/\PdB x.fst)/\((Y3 Z6 (y6 x.fst.sec x.fst.cache (kp x.snd) x.fst.cache.length) (U2 d).fst.sec)/\(0=(U2
  d).fst.cache.length/\Z7 0 (Z3 []) (Z3 (U2 d).fst.cache))/\false=(U2 d).fst.armed/\(0=(U2 d).fst.keep.length/\Z7 0 (Y7 []) (Y7 (U2 d).fst.keep))/\True)/\false=(U2 d).snd/\True)/\
  (d.armed=false->∃(x:Dsk),(((EqD d x)/\True)/\SmD x)/\(∃(x_1:{i:Nat//i<=d.cache.length}),((0=0/\0=0)/\(0=0/\0=0)/\(0=0/\0=0)/\(0:Int)=(x_1.val:Int)/\True)/\(1=1/\1=1/\EqD d d)/\(1
  =1/\1=1/\Value.slice none 0 0=Value.slice none 0 0/\Value.slice none 0 0=Value.slice none 0 0/\false=false/\Value.slice none 0 0=Value.slice none 0 0/\True)/\(1=1/\1=1/\(0=0/\x.sec.length=d.sec.length)
  /\(0=0/\x.cache.length=d.cache.length)/\x.armed=d.armed/\(0=0/\x.keep.length=d.keep.length)/\True)/\(x.sec.length=d.sec.length/\Z7 x.sec.length (Z6 x.sec) (Z6 (y6 d.sec d.cache (fun(x:Nat)=>
  true) x_1.val)))/\(Y3 Z3 x.cache d.cache)/\(Y3 Y7 x.keep d.keep)/\True)/\∀(x:{i:Nat//i<=d.cache.length}),(decide ((x.val:Int)<(d.cache.length:Int))=true->W7 (x.val:Int) d.cache.length/\W7
  (x.val:Int) d.cache.length/\W7 (d.cache.getD (x.val:Int).toNat default).at_ d.sec.length/\Lt (0+(d.cache.getD (x.val:Int).toNat default).at_.toNat) d.sec.length/\X6 .i64 ((x.val:Int)+(1:Int))/\∃(y:{i:Nat//i<=
  d.cache.length}),(((0=0/\0=0)/\(0=0/\0=0)/\(0=0/\0=0)/\(x.val:Int)+(1:Int)=(y.val:Int)/\True)/\(1=1/\1=1/\EqD d d)/\(1=1/\1=1/\Value.slice none 0 0=Value.slice none 0 0/\Value.slice none
  0 0=Value.slice none 0 0/\false=false/\Value.slice none 0 0=Value.slice none 0 0/\True)/\(1=1/\1=1/\(0=0/\d.sec.length=d.sec.length)/\(0=0/\d.cache.length=d.cache.length)/\d.armed=d.armed/\(0=0/\
  d.keep.length=d.keep.length)/\True)/\(d.sec.length=d.sec.length/\Z7 d.sec.length (setRow (Z6 (y6 d.sec d.cache (fun(x:Nat)=>true) x.val)) (0+(d.cache.getD (x.val:Int).toNat default).at_.toNat) 0 [T.str
  (d.cache.getD (x.val:Int).toNat default).d]) (Z6 (y6 d.sec d.cache (fun(x:Nat)=>true) y.val)))/\(Y3 Z3 d.cache d.cache)/\(Y3 Y7 d.keep d.keep)/\True)/\Lt (d.cache.length-y.val) (d.cache.length-x.val))
  /\(decide ((x.val:Int)<(d.cache.length:Int))=false->(Le (0+d.sec.length) d.sec.length/\Le 0 0/\Le (0+d.keep.length) d.keep.length)/\((d.sec.length=(U2 d).fst.sec.length/\Z7 d.sec.length (Z6 (y6 d.sec
  d.cache (fun(x:Nat)=>true) x.val)) (Z6 (U2 d).fst.sec))/\(0=(U2 d).fst.cache.length/\Z7 0 (fun(k:Nat)=>List.take 2 (List.drop (k*2) [])) (Z3 (U2 d).fst.cache))/\d.armed=(U2 d).fst.armed/\
  (Y3 Y7 d.keep (U2 d).fst.keep)/\True)/\true=(U2 d).snd/\True))):
  Z1 Tryz.prog 124 [.agg d.ts] (.tup [.agg (U2 d).1.ts,.bool (U2 d).2]):=
 T7 (code:=c1c) (gC b0l a5w (gC a2Z a0K gN)) Tryz.func124 (by kernel_rfl) (by kernel_rfl) (c2z d) h (by kernel_rfl)
theorem b3E:Z2 Tryz.prog 124 b8P:=by
 rintro(d:Dsk) ⟨⟨h1,h2,h3⟩,h4⟩;refine c2k d ⟨fun hd=> ?_,fun hd=> ?_⟩
 ·have e:U2 d=(crD d d.keep,false):=by unfold U2;rw[if_pos hd]
  rw[e];exact⟨(d,d.keep),⟨⟨eqD _,⟨rfl,Z9 _ _⟩,trivial⟩,⟨h1,h2,h3⟩,h4⟩,(by repeat' first|exact trivial|exact rfl|exact Z9 _ _|exact U4 _|exact V0|exact T3 _|exact Nat.le_refl _|exact Nat.zero_le _|refine And.intro ?_ ?_)⟩
 ·have e:U2 d=(⟨y6 d.sec d.cache (fun _=>true) d.cache.length,[],d.armed,d.keep⟩,true):=by unfold U2;rw[if_neg (by rw[hd];simp)]
  rw[e];refine⟨d,⟨⟨eqD _,trivial⟩,h1,h2,h3⟩,⟨⟨0,Nat.zero_le _⟩,(by repeat' first|exact trivial|exact rfl|exact Z9 _ _|exact U4 _|exact V0|exact T3 _|exact Nat.le_refl _|exact Nat.zero_le _|refine And.intro ?_ ?_)⟩,fun x=>⟨fun hc=> ?_,fun hc=> ?_⟩⟩
  ·have hlt:=Y6 hc;have ha:=h4 x.val hlt;rw[Int.toNat_natCast];exact⟨Y8 hlt,Y8 hlt,ha,by unfold Lt;omega,Z5 (by omega),⟨x.val+1,hlt⟩,⟨⟨⟨rfl,rfl⟩,⟨rfl,rfl⟩,⟨rfl,rfl⟩,by dsimp only;omega,trivial⟩,⟨rfl,rfl,eqD _⟩,(by repeat' first|exact trivial|exact rfl|exact Z9 _ _|exact U4 _|exact V0|exact T3 _|exact Nat.le_refl _|exact Nat.zero_le _|refine And.intro ?_ ?_),(by repeat' first|exact trivial|exact rfl|exact Z9 _ _|exact U4 _|exact V0|exact T3 _|exact Nat.le_refl _|exact Nat.zero_le _|refine And.intro ?_ ?_),⟨rfl,a3V (Q:=fun _=>true) rfl⟩,(by repeat' first|exact trivial|exact rfl|exact Z9 _ _|exact U4 _|exact V0|exact T3 _|exact Nat.le_refl _|exact Nat.zero_le _|refine And.intro ?_ ?_)⟩,W5.ext_lt hlt⟩
  ·have hx:x.val=d.cache.length:=by have:=x.2;have:=Y2 hc;omega
   rw[hx];exact⟨(by repeat' first|exact trivial|exact rfl|exact Z9 _ _|exact U4 _|exact V0|exact T3 _|exact Nat.le_refl _|exact Nat.zero_le _|refine And.intro ?_ ?_),⟨⟨(B2 _ _ _ _).symm,Z9 _ _⟩,(by repeat' first|exact trivial|exact rfl|exact Z9 _ _|exact U4 _|exact V0|exact T3 _|exact Nat.le_refl _|exact Nat.zero_le _|refine And.intro ?_ ?_)⟩,(by repeat' first|exact trivial|exact rfl|exact Z9 _ _|exact U4 _|exact V0|exact T3 _|exact Nat.le_refl _|exact Nat.zero_le _|refine And.intro ?_ ?_)⟩
def d6g(l:List T):Option Ob:=some (.arr true 1000000 9 1 fun _=>l)
def b4q:Con:=.rel ⟨Sto×Int,fun x=>[.agg x.1.ts,.int .i64 x.2],fun x=>.tup [.agg (W2 x.1 x.2).1.ts,.bool (W2 x.1 x.2).2],fun x=>a3D x.1 x.2⟩
def b6O(s:Sto)(lsn:Int):Nat->Ann
 |0=>.one {i:Nat//i<=P8 s lsn} (fun x=>⟨[(1,.int .i64 lsn),(2,.ref 0 0 0),(4,.ref 1 0 0),(6,.int .i64 (s.sure+x.1+1))],[d6g (s.sd (wrN s x.1)).ts,c9b]⟩) (fun x=>P8 s lsn-x.1) [.box 0,.box 1] [.box 0,.box 1] (fun _=>Z0)
 |_=>.none
noncomputable def b61:Code:=Tryz.f116.body.getD .skip
theorem a53:Z8 Tryz.prog 116:=⟨_,Tryz.func116,by kernel_rfl,by kernel_rfl⟩
theorem b4Z(s:Sto)(lsn:Int)(h:
  (decide (lsn<=s.sure)=true->(EqS s (W2 s lsn).fst)/\true=(W2 s lsn).snd/\True)/\(decide (lsn<=s.sure)=false->X6 .i64 (s.sure+(1:Int))/\(∃(x:{i:Nat//i<=P8 s lsn}),(lsn=lsn/\(0=0/\0=0)/\
  (0=0/\0=0)/\s.sure+(1:Int)=s.sure+(x.val:Int)+(1:Int)/\True)/\(1=1/\1=1/\(Y3 Z6 s.d.sec s.d.sec)/\(Y3 Z3 s.d.cache (s.d.cache++List.map (pdR s) (List.range x.val)))/\s.d.armed=s.d.armed/\
  (Y3 Y7 s.d.keep s.d.keep)/\s.ep=s.ep/\(Y3 Y4 s.log s.log)/\s.sure=s.sure/\(Y3 V3 s.fr s.fr)/\s.hand=s.hand/\True)/\(1=1/\1=1/\Value.slice none 0 0=Value.slice none 0 0/\Value.slice none 0 0=
  Value.slice none 0 0/\false=false/\Value.slice none 0 0=Value.slice none 0 0/\(0:Int)=(0:Int)/\Value.slice none 0 0=Value.slice none 0 0/\(0:Int)=(0:Int)/\Value.slice none 0 0=Value.slice none 0 0/\(0:
  Int)=(0:Int)/\True)/\True)/\∀(x:{i:Nat//i<=P8 s lsn}),(decide (s.sure+(x.val:Int)+(1:Int)<=lsn)=true->X6 .i64 ((9:Int)+(s.sure+(x.val:Int)+(1:Int)))/\X6 .i64 ((9:Int)+(s.sure+
  (x.val:Int)+(1:Int))- (1:Int))/\X6 .i64 (s.sure+(x.val:Int)+(1:Int)- (1:Int))/\W7 (s.sure+(x.val:Int)+(1:Int)- (1:Int)) s.log.length/\∃(x_1:Rec),(((EqR (s.log.getD (s.sure+(x.val:Int)+(1:
  Int)- (1:Int)).toNat default) x_1)/\True)/\b5f x_1)/\∃(x_2:(Dsk×Int×List UInt8)),((((Y3 Z6 s.d.sec x_2.fst.sec)/\(Y3 Z3 (s.d.cache++List.map (pdR s) (List.range x.val)) x_2.fst.cache)/\s.d.armed=
  x_2.fst.armed/\(Y3 Y7 s.d.keep x_2.fst.keep)/\True)/\(9:Int)+(s.sure+(x.val:Int)+(1:Int))- (1:Int)=x_2.snd.fst/\P9 x_1=x_2.snd.snd/\True)/\x_2.fst.cache.length<=1048576)/\X6 .i64 (s.sure+
  (x.val:Int)+(1:Int)+(1:Int))/\∃(y:{i:Nat//i<=P8 s lsn}),((lsn=lsn/\(0=0/\0=0)/\(0=0/\0=0)/\s.sure+(x.val:Int)+(1:Int)+(1:Int)=s.sure+(y.val:Int)+(1:Int)/\True)/\(1=1/\1=
  1/\(Y3 Z6 x_2.fst.sec s.d.sec)/\(Y3 Z3 (x_2.fst.cache++[Pend.mk x_2.snd.fst x_2.snd.snd]) (s.d.cache++List.map (pdR s) (List.range y.val)))/\x_2.fst.armed=s.d.armed/\(Y3 Y7 x_2.fst.keep s.d.keep)/\s.ep=
  s.ep/\(Y3 Y4 s.log s.log)/\s.sure=s.sure/\(Y3 V3 s.fr s.fr)/\s.hand=s.hand/\True)/\(1=1/\1=1/\Value.slice none 0 0=Value.slice none 0 0/\Value.slice none 0 0=Value.slice none 0 0/\false=false/\
  Value.slice none 0 0=Value.slice none 0 0/\(0:Int)=(0:Int)/\Value.slice none 0 0=Value.slice none 0 0/\(0:Int)=(0:Int)/\Value.slice none 0 0=Value.slice none 0 0/\(0:Int)=(0:Int)/\True)/\True)/\Lt
  (P8 s lsn-y.val) (P8 s lsn-x.val))/\(decide (s.sure+(x.val:Int)+(1:Int)<=lsn)=false->∃(x_1:Dsk),((((Y3 Z6 s.d.sec x_1.sec)/\(Y3 Z3 (s.d.cache++List.map (pdR s) (List.range x.val)) x_1.cache)/\
  s.d.armed=x_1.armed/\(Y3 Y7 s.d.keep x_1.keep)/\True)/\True)/\SmD x_1/\PdB x_1)/\((U2 x_1).snd=true->((Y3 Z6 (U2 x_1).fst.sec (W2 s lsn).fst.d.sec)/\(Y3 Z3 (U2 x_1).fst.cache (W2 s
  lsn).fst.d.cache)/\(U2 x_1).fst.armed=(W2 s lsn).fst.d.armed/\(Y3 Y7 (U2 x_1).fst.keep (W2 s lsn).fst.d.keep)/\s.ep=(W2 s lsn).fst.ep/\(Y3 Y4 s.log (W2 s lsn).fst.log)/\lsn=(W2 s lsn).fst.sure/\
  (Y3 V3 s.fr (W2 s lsn).fst.fr)/\s.hand=(W2 s lsn).fst.hand/\True)/\(U2 x_1).snd=(W2 s lsn).snd/\True)/\((U2 x_1).snd=false->((Y3 Z6 (U2 x_1).fst.sec (W2 s lsn).fst.d.sec)/\(Y3 Z3 (U2
  x_1).fst.cache (W2 s lsn).fst.d.cache)/\(U2 x_1).fst.armed=(W2 s lsn).fst.d.armed/\(Y3 Y7 (U2 x_1).fst.keep (W2 s lsn).fst.d.keep)/\s.ep=(W2 s lsn).fst.ep/\(Y3 Y4 s.log (W2 s lsn).fst.log)/\s.sure
  =(W2 s lsn).fst.sure/\(Y3 V3 s.fr (W2 s lsn).fst.fr)/\s.hand=(W2 s lsn).fst.hand/\True)/\(U2 x_1).snd=(W2 s lsn).snd/\True)))):
  Z1 Tryz.prog 116 [.agg s.ts,.int .i64 lsn] (.tup [.agg (W2 s lsn).1.ts,.bool (W2 s lsn).2]):=
 T7 (code:=b61) (gC b1D a56 (gC b0o a6b (gC b3E a7R gN))) Tryz.func116 (by kernel_rfl) (by kernel_rfl) (b6O s lsn) h (by kernel_rfl)
theorem b2k:Z2 Tryz.prog 116 b4q:=by
 rintro⟨s,lsn⟩ h;dsimp only at h;have hn:=fun i=>a8m (i:=i) h
 have hw:=c9a h;obtain⟨⟨a1,a2,a3⟩,h2,h3,h4,h5,h6,h7,h8,h9⟩:=h;have hN:P8 s lsn<=60:=by unfold P8;omega
 refine b4Z s lsn ⟨fun hc=> ?_,fun hc=> ?_⟩
 ·rw[a72 (of_decide_eq_true hc)];exact(by repeat' first|exact trivial|exact rfl|exact Z9 _ _|exact U4 _|exact V0|exact T3 _|exact Nat.le_refl _|exact Nat.zero_le _|refine And.intro ?_ ?_)
 ·have hc:=of_decide_eq_false hc;refine⟨Z5 (by omega),⟨⟨0,Nat.zero_le _⟩,⟨rfl,⟨rfl,rfl⟩,⟨rfl,rfl⟩,by dsimp only;omega,trivial⟩,⟨rfl,rfl,⟨rfl,Z9 _ _⟩,⟨by simp,fun i _=>by simp⟩,(by repeat' first|exact trivial|exact rfl|exact Z9 _ _|exact U4 _|exact V0|exact T3 _|exact Nat.le_refl _|exact Nat.zero_le _|refine And.intro ?_ ?_)⟩,(by repeat' first|exact trivial|exact rfl|exact Z9 _ _|exact U4 _|exact V0|exact T3 _|exact Nat.le_refl _|exact Nat.zero_le _|refine And.intro ?_ ?_)⟩,fun x=>⟨fun hx=> ?_,fun hx=> ?_⟩⟩
  ·have hlt:x.val<P8 s lsn:=by have:=of_decide_eq_true hx;unfold P8;omega
   obtain⟨e,hb,q⟩:=hn x.val hlt;rw[show(s.sure+(x.val:Int)+1-1).toNat=s.sure.toNat+x.val by omega]
   refine⟨Z5 (by omega),Z5 (by omega),Z5 (by omega),⟨by omega,by omega⟩,_,⟨⟨⟨rfl,rfl,rfl,rfl,rfl,rfl,rfl,rfl,rfl,rfl,trivial⟩,trivial⟩,hb⟩,(wrN s x.val,(pdR s x.val).at_,P9 (s.log.getD (s.sure.toNat+x.val) default)),⟨⟨(by repeat' first|exact trivial|exact rfl|exact Z9 _ _|exact U4 _|exact V0|exact T3 _|exact Nat.le_refl _|exact Nat.zero_le _|refine And.intro ?_ ?_),by show _=(pdR s x.val).at_;rw[e];omega,rfl,trivial⟩,?_⟩,Z5 (by omega),⟨x.val+1,hlt⟩,⟨⟨rfl,⟨rfl,rfl⟩,⟨rfl,rfl⟩,by dsimp only;omega,trivial⟩,⟨rfl,rfl,⟨rfl,Z9 _ _⟩,⟨congrArg List.length (a0M s x.val),fun i _=>congrArg (fun L=>Z3 L i) (a0M s x.val)⟩,(by repeat' first|exact trivial|exact rfl|exact Z9 _ _|exact U4 _|exact V0|exact T3 _|exact Nat.le_refl _|exact Nat.zero_le _|refine And.intro ?_ ?_)⟩,(by repeat' first|exact trivial|exact rfl|exact Z9 _ _|exact U4 _|exact V0|exact T3 _|exact Nat.le_refl _|exact Nat.zero_le _|refine And.intro ?_ ?_)⟩,W5.ext_lt hlt⟩
   show(s.d.cache++List.map (pdR s) (List.range _)).length<=1048576;simp only[List.length_append,List.length_map,List.length_range];omega
  ·have hx:x.val=P8 s lsn:=by have:=x.2;have:=of_decide_eq_false hx;unfold P8 at*;omega
   rw[hx,a9j hc];refine⟨wrN s (P8 s lsn),⟨⟨(by repeat' first|exact trivial|exact rfl|exact Z9 _ _|exact U4 _|exact V0|exact T3 _|exact Nat.le_refl _|exact Nat.zero_le _|refine And.intro ?_ ?_),trivial⟩,hw⟩,fun hy=>⟨⟨⟨rfl,Z9 _ _⟩,⟨rfl,Z9 _ _⟩,rfl,⟨rfl,Z9 _ _⟩,rfl,⟨rfl,Z9 _ _⟩,(if_pos hy).symm,(by repeat' first|exact trivial|exact rfl|exact Z9 _ _|exact U4 _|exact V0|exact T3 _|exact Nat.le_refl _|exact Nat.zero_le _|refine And.intro ?_ ?_)⟩,(by repeat' first|exact trivial|exact rfl|exact Z9 _ _|exact U4 _|exact V0|exact T3 _|exact Nat.le_refl _|exact Nat.zero_le _|refine And.intro ?_ ?_)⟩,fun hy=>⟨⟨⟨rfl,Z9 _ _⟩,⟨rfl,Z9 _ _⟩,rfl,⟨rfl,Z9 _ _⟩,rfl,⟨rfl,Z9 _ _⟩,(if_neg (by rw[hy];simp)).symm,(by repeat' first|exact trivial|exact rfl|exact Z9 _ _|exact U4 _|exact V0|exact T3 _|exact Nat.le_refl _|exact Nat.zero_le _|refine And.intro ?_ ?_)⟩,(by repeat' first|exact trivial|exact rfl|exact Z9 _ _|exact U4 _|exact V0|exact T3 _|exact Nat.le_refl _|exact Nat.zero_le _|refine And.intro ?_ ?_)⟩⟩
end Go.Proofs.YtokaojbaacnngaaGreat

