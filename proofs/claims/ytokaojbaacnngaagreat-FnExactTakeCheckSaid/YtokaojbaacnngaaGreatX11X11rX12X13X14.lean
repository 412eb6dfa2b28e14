/- A part of the proof. -/
import Derived.Test.YtokaojbaacnngaaGreatX1X2X3
import Derived.Test.YtokaojbaacnngaaGreatX5X6
namespace Go.Proofs.YtokaojbaacnngaaGreat
set_option maxRecDepth 100000
open Go.SS

def c6p(l:List UInt8)(L:List (List UInt8)):Nat->Ann
 |0=>.one {i:Nat//i<=L.length} (fun x=>⟨[(0,.osl 2 0 (l++U7 L x.1).length),(13,.osl 1 0 L.length),(14,.int .i64 L.length),(15,.int .i64 x.1)],[none,G8 L,some (.bys 5 (l++U7 L x.1))]⟩) (fun x=>L.length-x.1) [.arr 0,.arr 1,.arr 3] [.arr 0,.arr 1,.at_ 0] (fun _=>Z0)
 |_=>.none
def a32:Con:=.reff ⟨List UInt8×List (List UInt8),fun x=>[.osl 0 0 x.1.length,.osl 1 0 x.2.length],fun x=>[some (.bys 5 x.1),G8 x.2],fun x=>.osl 2 0 (x.1++O9 x.2).length,fun x=>[none,G8 x.2,some (.bys 5 (x.1++O9 x.2))],fun x=>x.1.length<=1000/\zY x.2⟩
noncomputable def a0W:Code:=Tryz.f236.body.getD .skip
theorem lX:Z7 Tryz.prog 236:=⟨_,Tryz.func236,by kernel_rfl,by kernel_rfl⟩
theorem a3x(l:List UInt8)(L:List (List UInt8))(h:
  X8 IntKind.u8 (IntKind.u8.wrap (L.length:Int))/\(Le 1 1/\Le l.length l.length/\V7 l.length 1 1)/\(∃(x:{i:Nat//i<=L.length}),((0=0/\l.length+1=(l++U7 L x.val).length)/\(0=0/\L.length=L.length)/\
  (L.length:Int)=(L.length:Int)/\(0:Int)=(x.val:Int)/\True)/\True/\(Y4 Z6 L L)/\List.take l.length l++List.take 1 (List.drop 0 (List.map P4 [IntKind.u8.wrap (L.length:Int)]))=l++U7 L x.val/\True)/\∀(x:
  {i:Nat//i<=L.length}),(decide ((x.val:Int)<(L.length:Int))=true->X0 (x.val:Int) L.length/\Lt (0+(x.val:Int).toNat) L.length/\X8 IntKind.u8 (IntKind.u8.wrap (↑(L.getD (0+(x.val:Int).toNat) []).length:Int))/\
  (Le 1 1/\Le (l++U7 L x.val).length (l++U7 L x.val).length/\V7 (l++U7 L x.val).length 1 1)/\(Le ((l++U7 L x.val).length+1) (List.take (l++U7 L x.val).length (l++U7 L x.val)++List.take 1
  (List.drop 0 (List.map P4 [IntKind.u8.wrap (↑(L.getD (0+(x.val:Int).toNat) []).length:Int)]))).length/\V7 ((l++U7 L x.val).length+1) (L.getD (0+(x.val:Int).toNat) []).length 1)/\X8 .i64 ((x.val:Int)+(1:Int))
  /\∃(y:{i:Nat//i<=L.length}),(((0=0/\(l++U7 L x.val).length+1+(L.getD (0+(x.val:Int).toNat) []).length=(l++U7 L y.val).length)/\(0=0/\L.length=L.length)/\(L.length:Int)=(L.length:Int)/\
  (x.val:Int)+(1:Int)=(y.val:Int)/\True)/\True/\(Y4 Z6 L L)/\List.take ((l++U7 L x.val).length+1) (List.take (l++U7 L x.val).length (l++U7 L x.val)++List.take 1 (List.drop 0 (List.map P4
  [IntKind.u8.wrap (↑(L.getD (0+(x.val:Int).toNat) []).length:Int)])))++L.getD (0+(x.val:Int).toNat) []=l++U7 L y.val/\True)/\Lt (L.length-y.val) (L.length-x.val))/\(decide ((x.val:Int)<(L.length:Int))=
  false->((0=0/\(l++U7 L x.val).length=(l++O9 L).length)/\True)/\True/\(Y4 Z6 L L)/\l++U7 L x.val=l++O9 L/\True)):
  V3 Tryz.prog 236 [.osl 0 0 l.length,.osl 1 0 L.length] [some (.bys 5 l),G8 L] (.osl 2 0 (l++O9 L).length) [none,G8 L,some (.bys 5 (l++O9 L))]:=
 v5 (code:=a0W) gN Tryz.func236 (by kernel_rfl) (by kernel_rfl) (c6p l L) [[.arr 0,.arr 1,.arr 2]] h (by kernel_rfl)
theorem bM:Z1 Tryz.prog 236 a32:=by
 rintro⟨l,L⟩ ⟨h1,h2,h3⟩;dsimp only at h1 h2 h3;have e0:List.take l.length l++List.take 1 (List.drop 0 (List.map P4 [IntKind.u8.wrap (L.length:Int)]))=l++U7 L 0:=by rw[nQ];rfl
 refine a3x l L ⟨T3 _,⟨V5 _,V5 _,by unfold V7;omega⟩,⟨⟨0,T0 _⟩,⟨⟨rfl,by simp[U7]⟩,⟨rfl,rfl⟩,rfl,rfl,trivial⟩,trivial,⟨rfl,Z9 _ _⟩,e0,trivial⟩,fun x=>⟨fun hc=> ?_,fun hc=> ?_⟩⟩
 ·have hlt:=Y9 hc;have f1:=sK L h3 x.val (by omega)
  have f2:=h3 x.val hlt;rw[v4,yO];have hl:(l++U7 L x.val).length<=1100000:=by rw[s7];omega
  have e:List.take (l++U7 L x.val).length (l++U7 L x.val)++List.take 1 (List.drop 0 (List.map P4 [IntKind.u8.wrap ((L.getD x.val []).length:Int)]))=l++U7 L x.val++[i9 (L.getD x.val []).length]:=by
   rw[nQ];rfl
  rw[e];have e2:(l++U7 L x.val++[i9 (L.getD x.val []).length]).length=(l++U7 L x.val).length+1:=by rw[s7];rfl
  refine⟨Y7 hlt,by unfold Lt;omega,T3 _,⟨V5 _,V5 _,by unfold V7;omega⟩,⟨by rw[e2];exact V5 _,by unfold V7;omega⟩,Z5 (by omega),⟨x.val+1,hlt⟩,⟨⟨⟨rfl,?_⟩,⟨rfl,rfl⟩,rfl,by dsimp only;omega,trivial⟩,trivial,⟨rfl,Z9 _ _⟩,?_,trivial⟩,V9.ext_lt hlt⟩
  ·simp only[U7,s7,List.length_cons,List.length_nil];omega
  ·rw[←e2,nQ];simp only[U7,List.append_assoc]
 ·have hx:x.val=L.length:=by have:=x.2;have:=Y3 hc;omega
  rw[hx];exact⟨⟨⟨rfl,rfl⟩,trivial⟩,trivial,⟨rfl,Z9 _ _⟩,rfl,trivial⟩
def c5a:Con:=.rel ⟨Nat,fun n=>[.int .i64 n],fun n=>.bys (xQ n),fun n=>n<4294967296⟩
noncomputable def c6U:Code:=Tryz.f270.body.getD .skip
theorem b2M:Z7 Tryz.prog 270:=⟨_,Tryz.func270,by kernel_rfl,by kernel_rfl⟩
theorem c62(n:Nat)(h:
  Nn (24:Int)/\Nn (16:Int)/\Nn (8:Int)/\(X8 IntKind.u8 (IntKind.u8.wrap ((n:Int).fdiv (16777216:Int)))/\X8 IntKind.u8 (IntKind.u8.wrap ((n:Int).fdiv (65536:Int)))/\X8 IntKind.u8 (IntKind.u8.wrap ((n:Int).fdiv (256
  :Int)))/\X8 IntKind.u8 (IntKind.u8.wrap (n:Int)))/\Le 4 4/\List.take 4 (List.drop 0 (List.map P4 [IntKind.u8.wrap ((n:Int).fdiv (16777216:Int)),IntKind.u8.wrap ((n:Int).fdiv (65536:Int)),IntKind.u8.wrap ((n:Int).fdiv
  (256:Int)),IntKind.u8.wrap (n:Int)]))=xQ n):
  Z2 Tryz.prog 270 [.int .i64 n] (.bys (xQ n)):=
 T4 (code:=c6U) gN Tryz.func270 (by kernel_rfl) (by kernel_rfl) Z0 h (by kernel_rfl)
theorem c2L:Z1 Tryz.prog 270 c5a:=by
 intro(n:Nat) hn;have h8:Nn 8:=by unfold Nn;omega
 exact c62 n ⟨by unfold Nn;omega,by unfold Nn;omega,h8,⟨T3 _,T3 _,T3 _,T3 _⟩,V5 _,by unfold xQ;rw[show(n:Int).fdiv 1=n by rw[Int.fdiv_one]];rfl⟩
noncomputable def b9f:Code:=Tryz.f235.body.getD .skip
theorem a2w:Z7 Tryz.prog 235:=⟨_,Tryz.func235,by kernel_rfl,by kernel_rfl⟩
theorem b4Q(l:List UInt8)(h:
  ∃(x:(wJ IntKind.u32).ι),(Le (0+l.length) l.length/\(List.take l.length (List.drop 0 l)=x/\True)/\G9 x)/\∃(x_1:Nat),((IntKind.i64.wrap (↑(xK x):Int)=(x_1:Int)/\True)/\x_1<4294967296)/\(Le l.length
  l.length/\V7 l.length 4 1)/\Le (0+(l.length+4)) (List.take l.length l++xQ x_1).length/\List.take (l.length+4) (List.drop 0 (List.take l.length l++xQ x_1))=l++xQ (xK l)/\True/\True):
  V3 Tryz.prog 235 [.osl 0 0 l.length] [some (.bys 5 l)] (.bys (l++xQ (xK l))) [none]:=
 vcE (code:=b9f) (gC lC tH (gC c2L b2M gN)) Tryz.func235 (by kernel_rfl) (by kernel_rfl) Z0 (bs:=[false]) h (by kernel_rfl)
def b9i:Con:=.eff d9
theorem a93:Z1 Tryz.prog 235 b9i:=by
 intro args H res H' p h hp;unfold d9 at h;split at h
 case h_2=>cases h
 rename_i k off n ty l;split at h
 ·skip
  simp only[X6,V1] at h;obtain⟨rfl,rfl,rfl⟩:=h;obtain⟨rfl,hl⟩:zE n l:=hp;have e4:(xQ (xK l)).length=4:=rfl;have hc:=b8D l;refine b4Q l ⟨l,⟨by unfold Le;omega,⟨by rw[List.drop_zero,nQ],trivial⟩,by unfold G9;omega⟩,xK l,⟨⟨?_,trivial⟩,hc⟩,⟨V5 _,by unfold V7;omega⟩,?_,?_,trivial,trivial⟩
  ·rw[IntKind.wrap_i64];omega
  ·unfold Le;rw[nQ,s7,e4,yO];exact V5 _
  ·rw[nQ,List.drop_zero];exact List.take_of_length_le (by rw[s7,e4];exact V5 _)
 ·cases h
end Go.Proofs.YtokaojbaacnngaaGreat

namespace Go.Proofs.YtokaojbaacnngaaGreat
set_option maxRecDepth 100000
open Go.SS

def b1F(r:Rec):List UInt8:=[P4 108,i9 r.e,i9 r.l,i9 r.t,i9 r.k,i9 r.p,i9 r.n,i9 r.g,i9 r.s]++O9 [r.b,r.a]
def P7(r:Rec):List UInt8:=b1F r++xQ (xK (b1F r))
def a5v(r:Rec):Prop:=r.b.length<=1000/\r.a.length<=1000
theorem tX(a b:List UInt8):Z8 2 (fun k=>List.take 1 (List.drop (k*1) [T.str a,T.str b])) (Z6 [a,b]):=fun i hi=>by
 match i,hi with
 |0,_=>rfl
 |1,_=>rfl
theorem fs2{a b:List UInt8}(h1:a.length<=1000)(h2:b.length<=1000):zY [a,b]:=⟨by simp,fun i hi=>by
 match i,hi with
 |0,_=>exact h1
 |1,_=>exact h2⟩
theorem b84{r:Rec}(fs:zY [r.b,r.a]):(b1F r).length<=1000000:=by
 have hl:=sK [r.b,r.a] fs.2 2 (V5 _);have hl:(O9 [r.b,r.a]).length<=2003:=hl;unfold b1F;rw[s7];simp only[List.length_cons,List.length_nil];omega
def jL:Con:=.rel ⟨Rec,fun r=>[.agg r.ts],fun r=>.bys (P7 r),a5v⟩
noncomputable def iX:Code:=Tryz.f187.body.getD .skip
theorem qW:Z7 Tryz.prog 187:=⟨_,Tryz.func187,by kernel_rfl,by kernel_rfl⟩
theorem iN(r:Rec)(h:
  X8 IntKind.u8 (108:Int)/\(true=true->X0 (0:Int) 8/\X8 IntKind.u8 (IntKind.u8.wrap r.e)/\(Le 1 1/\Le 1 1/\V7 1 1 1)/\X8 .i64 (1:Int)/\(true=true->X0 (1:Int) 8/\X8 IntKind.u8 (IntKind.u8.wrap r.l)/\(Le
  1 1/\Le (1+1) 2/\V7 (1+1) 1 1)/\X8 .i64 (2:Int)/\(true=true->X0 (2:Int) 8/\X8 IntKind.u8 (IntKind.u8.wrap r.t)/\(Le 1 1/\Le (1+1+1) 3/\V7 (1+1+1) 1 1)/\X8 .i64 (3:Int)/\(true=true->X0 (3
  :Int) 8/\X8 IntKind.u8 (IntKind.u8.wrap r.k)/\(Le 1 1/\Le (1+1+1+1) 4/\V7 (1+1+1+1) 1 1)/\X8 .i64 (4:Int)/\(true=true->X0 (4:Int) 8/\X8 IntKind.u8 (IntKind.u8.wrap r.p)/\(Le 1 1/\Le (1+1+1+
  1+1) 5/\V7 (1+1+1+1+1) 1 1)/\X8 .i64 (5:Int)/\(true=true->X0 (5:Int) 8/\X8 IntKind.u8 (IntKind.u8.wrap r.n)/\(Le 1 1/\Le (1+1+1+1+1+1) 6/\V7 (1+1+1+1+1+1) 1 1)/\X8 .i64 (6:
  Int)/\(true=true->X0 (6:Int) 8/\X8 IntKind.u8 (IntKind.u8.wrap r.g)/\(Le 1 1/\Le (1+1+1+1+1+1+1) 7/\V7 (1+1+1+1+1+1+1) 1 1)/\X8 .i64 (7:Int)/\(true=true->X0 (7:Int) 8/\X8
  IntKind.u8 (IntKind.u8.wrap r.s)/\(Le 1 1/\Le (1+1+1+1+1+1+1+1) 8/\V7 (1+1+1+1+1+1+1+1) 1 1)/\X8 .i64 (8:Int)/\(false=true->False)/\(false=false->∃(x:(List UInt8×List (List
  UInt8))),(((0=0/\1+1+1+1+1+1+1+1+1=x.fst.length)/\(0=0/\2=x.snd.length)/\True)/\(List.take (1+1+1+1+1+1+1+1) (List.take (1+1+1+1+1+1+1) (List.take (1+1+1+1+1+1)
  (List.take (1+1+1+1+1) (List.take (1+1+1+1) (List.take (1+1+1) (List.take (1+1) (List.take 1 (List.map P4 [(108:Int)])++List.take 1 (List.drop 0 (List.map P4 [IntKind.u8.wrap r.e])))++List.take 1
  (List.drop 0 (List.map P4 [IntKind.u8.wrap r.l])))++List.take 1 (List.drop 0 (List.map P4 [IntKind.u8.wrap r.t])))++List.take 1 (List.drop 0 (List.map P4 [IntKind.u8.wrap r.k])))++List.take 1 (List.drop 0 (List.map P4
  [IntKind.u8.wrap r.p])))++List.take 1 (List.drop 0 (List.map P4 [IntKind.u8.wrap r.n])))++List.take 1 (List.drop 0 (List.map P4 [IntKind.u8.wrap r.g])))++List.take 1 (List.drop 0 (List.map P4 [IntKind.u8.wrap r.s]))=
  x.fst/\(2=x.snd.length/\Z8 2 (fun(k:Nat)=>List.take 1 (List.drop (k*1) [T.str r.b,T.str r.a])) (Z6 x.snd))/\True)/\x.fst.length<=1000/\zY x.snd)/\zE (x.fst++O9 x.snd).length (x.fst++O9 x.snd)
  /\x.fst++O9 x.snd++xQ (xK (x.fst++O9 x.snd))=P7 r))/\(true=false->∃(x:(List UInt8×List (List UInt8))),(((0=0/\1+1+1+1+1+1+1+1=x.fst.length)/\(0=0/\2=x.snd.length)/\True)/\
  (List.take (1+1+1+1+1+1+1) (List.take (1+1+1+1+1+1) (List.take (1+1+1+1+1) (List.take (1+1+1+1) (List.take (1+1+1) (List.take (1+1) (List.take 1 (List.map P4 [(108:Int)])++List.take 1
  (List.drop 0 (List.map P4 [IntKind.u8.wrap r.e])))++List.take 1 (List.drop 0 (List.map P4 [IntKind.u8.wrap r.l])))++List.take 1 (List.drop 0 (List.map P4 [IntKind.u8.wrap r.t])))++List.take 1 (List.drop 0 (List.map P4
  [IntKind.u8.wrap r.k])))++List.take 1 (List.drop 0 (List.map P4 [IntKind.u8.wrap r.p])))++List.take 1 (List.drop 0 (List.map P4 [IntKind.u8.wrap r.n])))++List.take 1 (List.drop 0 (List.map P4 [IntKind.u8.wrap r.g]))=
  x.fst/\(2=x.snd.length/\Z8 2 (fun(k:Nat)=>List.take 1 (List.drop (k*1) [T.str r.b,T.str r.a])) (Z6 x.snd))/\True)/\x.fst.length<=1000/\zY x.snd)/\zE (x.fst++O9 x.snd).length (x.fst++O9 x.snd)
  /\x.fst++O9 x.snd++xQ (xK (x.fst++O9 x.snd))=P7 r))/\(true=false->∃(x:(List UInt8×List (List UInt8))),(((0=0/\1+1+1+1+1+1+1=x.fst.length)/\(0=0/\2=x.snd.length)/\True)/\
  (List.take (1+1+1+1+1+1) (List.take (1+1+1+1+1) (List.take (1+1+1+1) (List.take (1+1+1) (List.take (1+1) (List.take 1 (List.map P4 [(108:Int)])++List.take 1 (List.drop 0 (List.map P4
  [IntKind.u8.wrap r.e])))++List.take 1 (List.drop 0 (List.map P4 [IntKind.u8.wrap r.l])))++List.take 1 (List.drop 0 (List.map P4 [IntKind.u8.wrap r.t])))++List.take 1 (List.drop 0 (List.map P4 [IntKind.u8.wrap r.k])))++
  List.take 1 (List.drop 0 (List.map P4 [IntKind.u8.wrap r.p])))++List.take 1 (List.drop 0 (List.map P4 [IntKind.u8.wrap r.n]))=x.fst/\(2=x.snd.length/\Z8 2 (fun(k:Nat)=>List.take 1 (List.drop (k*1) [T.str r.b,
  T.str r.a])) (Z6 x.snd))/\True)/\x.fst.length<=1000/\zY x.snd)/\zE (x.fst++O9 x.snd).length (x.fst++O9 x.snd)/\x.fst++O9 x.snd++xQ (xK (x.fst++O9 x.snd))=P7 r))/\(true=false->∃(x:
  (List UInt8×List (List UInt8))),(((0=0/\1+1+1+1+1+1=x.fst.length)/\(0=0/\2=x.snd.length)/\True)/\(List.take (1+1+1+1+1) (List.take (1+1+1+1) (List.take (1+1+1) (List.take (1+1)
  (List.take 1 (List.map P4 [(108:Int)])++List.take 1 (List.drop 0 (List.map P4 [IntKind.u8.wrap r.e])))++List.take 1 (List.drop 0 (List.map P4 [IntKind.u8.wrap r.l])))++List.take 1 (List.drop 0 (List.map P4
  [IntKind.u8.wrap r.t])))++List.take 1 (List.drop 0 (List.map P4 [IntKind.u8.wrap r.k])))++List.take 1 (List.drop 0 (List.map P4 [IntKind.u8.wrap r.p]))=x.fst/\(2=x.snd.length/\Z8 2 (fun(k:Nat)=>List.take 1
  (List.drop (k*1) [T.str r.b,T.str r.a])) (Z6 x.snd))/\True)/\x.fst.length<=1000/\zY x.snd)/\zE (x.fst++O9 x.snd).length (x.fst++O9 x.snd)/\x.fst++O9 x.snd++xQ (xK (x.fst++O9 x.snd))=P7
  r))/\(true=false->∃(x:(List UInt8×List (List UInt8))),(((0=0/\1+1+1+1+1=x.fst.length)/\(0=0/\2=x.snd.length)/\True)/\(List.take (1+1+1+1) (List.take (1+1+1) (List.take (1+1) (List.take 1
  (List.map P4 [(108:Int)])++List.take 1 (List.drop 0 (List.map P4 [IntKind.u8.wrap r.e])))++List.take 1 (List.drop 0 (List.map P4 [IntKind.u8.wrap r.l])))++List.take 1 (List.drop 0 (List.map P4 [IntKind.u8.wrap r.t])))
  ++List.take 1 (List.drop 0 (List.map P4 [IntKind.u8.wrap r.k]))=x.fst/\(2=x.snd.length/\Z8 2 (fun(k:Nat)=>List.take 1 (List.drop (k*1) [T.str r.b,T.str r.a])) (Z6 x.snd))/\True)/\x.fst.length<=1000/\
  zY x.snd)/\zE (x.fst++O9 x.snd).length (x.fst++O9 x.snd)/\x.fst++O9 x.snd++xQ (xK (x.fst++O9 x.snd))=P7 r))/\(true=false->∃(x:(List UInt8×List (List UInt8))),(((0=0/\1+1+1+1=
  x.fst.length)/\(0=0/\2=x.snd.length)/\True)/\(List.take (1+1+1) (List.take (1+1) (List.take 1 (List.map P4 [(108:Int)])++List.take 1 (List.drop 0 (List.map P4 [IntKind.u8.wrap r.e])))++List.take 1 (List.drop
  0 (List.map P4 [IntKind.u8.wrap r.l])))++List.take 1 (List.drop 0 (List.map P4 [IntKind.u8.wrap r.t]))=x.fst/\(2=x.snd.length/\Z8 2 (fun(k:Nat)=>List.take 1 (List.drop (k*1) [T.str r.b,T.str r.a])) (Z6
  x.snd))/\True)/\x.fst.length<=1000/\zY x.snd)/\zE (x.fst++O9 x.snd).length (x.fst++O9 x.snd)/\x.fst++O9 x.snd++xQ (xK (x.fst++O9 x.snd))=P7 r))/\(true=false->∃(x:(List UInt8×List
  (List UInt8))),(((0=0/\1+1+1=x.fst.length)/\(0=0/\2=x.snd.length)/\True)/\(List.take (1+1) (List.take 1 (List.map P4 [(108:Int)])++List.take 1 (List.drop 0 (List.map P4 [IntKind.u8.wrap r.e])))++
  List.take 1 (List.drop 0 (List.map P4 [IntKind.u8.wrap r.l]))=x.fst/\(2=x.snd.length/\Z8 2 (fun(k:Nat)=>List.take 1 (List.drop (k*1) [T.str r.b,T.str r.a])) (Z6 x.snd))/\True)/\x.fst.length<=1000/\zY
  x.snd)/\zE (x.fst++O9 x.snd).length (x.fst++O9 x.snd)/\x.fst++O9 x.snd++xQ (xK (x.fst++O9 x.snd))=P7 r))/\(true=false->∃(x:(List UInt8×List (List UInt8))),(((0=0/\1+1=x.fst.length)
  /\(0=0/\2=x.snd.length)/\True)/\(List.take 1 (List.map P4 [(108:Int)])++List.take 1 (List.drop 0 (List.map P4 [IntKind.u8.wrap r.e]))=x.fst/\(2=x.snd.length/\Z8 2 (fun(k:Nat)=>List.take 1 (List.drop (k
  *1) [T.str r.b,T.str r.a])) (Z6 x.snd))/\True)/\x.fst.length<=1000/\zY x.snd)/\zE (x.fst++O9 x.snd).length (x.fst++O9 x.snd)/\x.fst++O9 x.snd++xQ (xK (x.fst++O9 x.snd))=P7 r))/\(true=
  false->∃(x:(List UInt8×List (List UInt8))),(((0=0/\1=x.fst.length)/\(0=0/\2=x.snd.length)/\True)/\(List.map P4 [(108:Int)]=x.fst/\(2=x.snd.length/\Z8 2 (fun(k:Nat)=>List.take 1 (List.drop (k*
  1) [T.str r.b,T.str r.a])) (Z6 x.snd))/\True)/\x.fst.length<=1000/\zY x.snd)/\zE (x.fst++O9 x.snd).length (x.fst++O9 x.snd)/\x.fst++O9 x.snd++xQ (xK (x.fst++O9 x.snd))=P7 r)):
  Z2 Tryz.prog 187 [.agg r.ts] (.bys (P7 r)):=
 T4 (code:=iX) (gC bM lX (gC a93 a2w gN)) Tryz.func187 (by kernel_rfl) (by kernel_rfl) (b8M 9) h (by kernel_rfl)
theorem nY:Z1 Tryz.prog 187 jL:=by
 rintro(r:Rec) ⟨h1,h2⟩;have fs:=fs2 h1 h2;exact iN r ⟨(b5a _).2 (by omega),fun _=>⟨by unfold X0;omega,T3 _,⟨V5 _,V5 _,by unfold V7;omega⟩,Z5 (by omega),fun _=>⟨by unfold X0;omega,T3 _,⟨V5 _,V5 _,by unfold V7;omega⟩,Z5 (by omega),fun _=>⟨by unfold X0;omega,T3 _,⟨V5 _,V5 _,by unfold V7;omega⟩,Z5 (by omega),fun _=>⟨by unfold X0;omega,T3 _,⟨V5 _,V5 _,by unfold V7;omega⟩,Z5 (by omega),fun _=>⟨by unfold X0;omega,T3 _,⟨V5 _,V5 _,by unfold V7;omega⟩,Z5 (by omega),fun _=>⟨by unfold X0;omega,T3 _,⟨V5 _,V5 _,by unfold V7;omega⟩,Z5 (by omega),fun _=>⟨by unfold X0;omega,T3 _,⟨V5 _,V5 _,by unfold V7;omega⟩,Z5 (by omega),fun _=>⟨by unfold X0;omega,T3 _,⟨V5 _,V5 _,by unfold V7;omega⟩,Z5 (by omega),(fun h=>by cases h),fun _=>⟨([P4 108,i9 r.e,i9 r.l,i9 r.t,i9 r.k,i9 r.p,i9 r.n,i9 r.g,i9 r.s],[r.b,r.a]),⟨⟨⟨rfl,rfl⟩,⟨rfl,rfl⟩,trivial⟩,⟨rfl,⟨rfl,tX _ _⟩,trivial⟩,by simp,fs⟩,⟨rfl,b84 fs⟩,rfl⟩⟩,fun h=>by cases h⟩,fun h=>by cases h⟩,fun h=>by cases h⟩,fun h=>by cases h⟩,fun h=>by cases h⟩,fun h=>by cases h⟩,fun h=>by cases h⟩,fun h=>by cases h⟩
noncomputable def cV:Con:=.rfz wQ
theorem pE:Z7 Tryz.prog 234:=⟨_,Tryz.func234,by kernel_rfl,by kernel_rfl⟩
theorem jI:Z1 Tryz.prog 234 cV:=dO
def a7v:Con:=.rel ⟨Rec,fun r=>[.agg r.ts],fun r=>.bys (P7 r),a5v⟩
noncomputable def a7Q:Code:=Tryz.f184.body.getD .skip
theorem iQ:Z7 Tryz.prog 184:=⟨_,Tryz.func184,by kernel_rfl,by kernel_rfl⟩
theorem a5p(r:Rec)(h:
  (X8 IntKind.u8 (108:Int)/\X8 IntKind.u8 (IntKind.u8.wrap r.e)/\X8 IntKind.u8 (IntKind.u8.wrap r.l)/\X8 IntKind.u8 (IntKind.u8.wrap r.t)/\X8 IntKind.u8 (IntKind.u8.wrap r.k)/\X8 IntKind.u8 (IntKind.u8.wrap r.p)/\X8
  IntKind.u8 (IntKind.u8.wrap r.n)/\X8 IntKind.u8 (IntKind.u8.wrap r.g)/\X8 IntKind.u8 (IntKind.u8.wrap r.s))/\∃(x:wQ.ι),(Le 2 2/\((2=List.length x/\Z8 2 (fun(k:Nat)=>List.take 1 (List.drop (k*1)
  [T.str r.b,T.str r.a])) (Z6 x))/\True)/\zY x)/\(Le 9 9/\V7 9 (O9 x).length 1)/\zE (9+(O9 x).length) (List.take 9 (List.map P4 [(108:Int),IntKind.u8.wrap r.e,IntKind.u8.wrap r.l,IntKind.u8.wrap r.t,
  IntKind.u8.wrap r.k,IntKind.u8.wrap r.p,IntKind.u8.wrap r.n,IntKind.u8.wrap r.g,IntKind.u8.wrap r.s])++O9 x)/\List.take 9 (List.map P4 [(108:Int),IntKind.u8.wrap r.e,IntKind.u8.wrap r.l,IntKind.u8.wrap r.t,
  IntKind.u8.wrap r.k,IntKind.u8.wrap r.p,IntKind.u8.wrap r.n,IntKind.u8.wrap r.g,IntKind.u8.wrap r.s])++O9 x++xQ (xK (List.take 9 (List.map P4 [(108:Int),IntKind.u8.wrap r.e,IntKind.u8.wrap r.l,IntKind.u8.wrap
  r.t,IntKind.u8.wrap r.k,IntKind.u8.wrap r.p,IntKind.u8.wrap r.n,IntKind.u8.wrap r.g,IntKind.u8.wrap r.s])++O9 x))=P7 r):
  Z2 Tryz.prog 184 [.agg r.ts] (.bys (P7 r)):=
 T4 (code:=a7Q) (gC jI pE (gC eJ mM gN)) Tryz.func184 (by kernel_rfl) (by kernel_rfl) Z0 h (by kernel_rfl)
theorem a2y:Z1 Tryz.prog 184 a7v:=by
 rintro(r:Rec) ⟨h1,h2⟩;have fs:=fs2 h1 h2;have hl:=sK [r.b,r.a] fs.2 2 (V5 _);have hl:(O9 [r.b,r.a]).length<=2003:=hl;refine a5p r ⟨⟨(b5a _).2 (by omega),T3 _,T3 _,T3 _,T3 _,T3 _,T3 _,T3 _,T3 _⟩,[r.b,r.a],⟨V5 _,⟨⟨rfl,tX _ _⟩,trivial⟩,fs⟩,⟨V5 _,by unfold V7;omega⟩,?_,?_⟩
 ·exact⟨by rw[s7];rfl,b84 fs⟩
 ·rfl
end Go.Proofs.YtokaojbaacnngaaGreat

namespace Go.Proofs.YtokaojbaacnngaaGreat
set_option maxRecDepth 100000
open Go.SS

def u2(sec:List (List UInt8))(C:List Pend)(Q:Nat->Bool):Nat->List (List UInt8)
 |0=>sec
 |i+1=>if Q i=true then(u2 sec C Q i).set (C.getD i default).at_.toNat (C.getD i default).d else u2 sec C Q i
theorem y7(sec:List (List UInt8))(C:List Pend)(Q:Nat->Bool):∀i,(u2 sec C Q i).length=sec.length
 |0=>rfl
 |i+1=>by
  unfold u2;split
  ·rw[j_l,y7 sec C Q i]
  ·exact y7 sec C Q i
theorem c7D{sec:List (List UInt8)}{C:List Pend}{Q:Nat->Bool}{i:Nat}(h:Q i=true):u2 sec C Q (i+1)=(u2 sec C Q i).set (C.getD i default).at_.toNat (C.getD i default).d:=by
 conv=>lhs;unfold u2
 rw[if_pos h]
theorem c4R{sec:List (List UInt8)}{C:List Pend}{Q:Nat->Bool}{i:Nat}(h:Q i=false):u2 sec C Q (i+1)=u2 sec C Q i:=by
 conv=>lhs;unfold u2
 rw[if_neg (by rw[h];simp)]
def kp(K:List Int)(i:Nat):Bool:=decide (i<K.length)&&(K.getD i 0 !=0)
def wrD(d:Dsk)(at_:Int)(t:List UInt8):Dsk:=⟨d.sec,d.cache++[⟨at_,t⟩],d.armed,d.keep⟩
def Sto.sd(s:Sto)(d:Dsk):Sto:=⟨d,s.ep,s.log,s.sure,s.fr,s.hand⟩
def crD(d:Dsk)(K:List Int):Dsk:=⟨u2 d.sec d.cache (kp K) d.cache.length,[],false,[]⟩
def V4(d:Dsk):Dsk×Bool:=if d.armed=true then(crD d d.keep,false) else(⟨u2 d.sec d.cache (fun _=>true) d.cache.length,[],d.armed,d.keep⟩,true)
def PdB(d:Dsk):Prop:=∀i,i<d.cache.length->0<=(d.cache.getD i default).at_/\(d.cache.getD i default).at_<d.sec.length
theorem a17(L:List Pend)(p:Pend):Z8 (L.length+1) (W6 (Z3 L) L.length fun k=>List.take 2 (List.drop (k*2) p.ts)) (Z3 (L++[p])):=by
 intro i hi;unfold W6 Z3;by_cases h:i<L.length
 ·rw[gJ h,C0,C0,kE h]
 ·have:i=L.length:=by omega
  subst this;rw[fX h];have:(L++[p]).getD L.length default=p:=by rw[C0,eT (V5 _)];simp
  rw[this];simp[Pend.ts]
theorem c2J{L:List (List UInt8)}{n:Nat}{t:List UInt8}(j:Nat)(hj:j<L.length):setRow (Z6 L) n 0 [.str t] j=Z6 (L.set n t) j:=by
 by_cases h:j=n
 ·subst h;rw[nD (by simp[Z6])]
  simp[Z6,List.getElem?_set_self hj]
 ·rw[fD (by simp[Z6]) h]
  simp[Z6,j_h (Ne.symm h)]
theorem oW{sec:List (List UInt8)}{C:List Pend}{Q:Nat->Bool}{i:Nat}(h:Q i=true):Z8 sec.length (setRow (Z6 (u2 sec C Q i)) (0+(C.getD i default).at_.toNat) 0 [.str (C.getD i default).d]) (Z6 (u2 sec C Q (i+1))):=fun j hj=>by
 rw[c7D h,yO];exact c2J j (by rw[y7];exact hj)
def Sto.bxC(s:Sto)(v:Nat):Y6:=[sE (s.tn 1 6 3 4 5),G8 s.d.sec,none,B2 s.d.keep,w9 s.log,yU v s.fr s.fr.length,I8 s.d.cache]
def c12:Con:=.reff ⟨Sto×Int×List UInt8×Nat,fun x=>[.ref 0 0 0,.int .i64 x.2.1,.str x.2.2.1],fun x=>x.1.bx x.2.2.2,fun _=>.tup [],fun x=>(x.1.sd (wrD x.1.d x.2.1 x.2.2.1)).bxC x.2.2.2,fun x=>x.1.d.cache.length<=1048576⟩
noncomputable def c2o:Code:=Tryz.f186.body.getD .skip
theorem a5I:Z7 Tryz.prog 186:=⟨_,Tryz.func186,by kernel_rfl,by kernel_rfl⟩
theorem c1b(s:Sto)(at_:Int)(t:List UInt8)(v:Nat)(h:
  (Le 1 1/\Le s.d.cache.length s.d.cache.length/\V7 s.d.cache.length 1 24)/\(True/\True)/\(1=1/\1=1/\(0=0/\s.d.sec.length=s.d.sec.length)/\(0=0/\s.d.cache.length+1=(s.d.cache++[Pend.mk at_ t]).length)/\
  s.d.armed=s.d.armed/\(0=0/\s.d.keep.length=s.d.keep.length)/\s.ep=s.ep/\(0=0/\s.log.length=s.log.length)/\s.sure=s.sure/\(0=0/\s.fr.length=s.fr.length)/\s.hand=s.hand/\True)/\(Y4 Z6 s.d.sec
  s.d.sec)/\True/\(Y4 Y8 s.d.keep s.d.keep)/\(Y4 Y5 s.log s.log)/\(v=v/\s.fr.length=s.fr.length/\T5 s.fr.length (X9 s.fr) (X9 s.fr))/\(s.d.cache.length+1=(s.d.cache++[Pend.mk at_ t]).length/\
  Z8 (s.d.cache.length+1) (W6 (Z3 s.d.cache) s.d.cache.length fun(k:Nat)=>List.take 2 (List.drop (k*2) [T.int .i64 at_,T.str t])) (Z3 (s.d.cache++[Pend.mk at_ t])))/\True):
  V3 Tryz.prog 186 [.ref 0 0 0,.int .i64 at_,.str t] (s.bx v) (.tup []) ((s.sd (wrD s.d at_ t)).bxC v):=
 v5 (code:=c2o) gN Tryz.func186 (by kernel_rfl) (by kernel_rfl) Z0 [[.box 0,.arr 1,.arr 2,.arr 3,.arr 4,.arr 5,.arr 7]] h (by kernel_rfl)
theorem b6M:Z1 Tryz.prog 186 c12:=by
 rintro⟨s,at_,t,v⟩ (h:s.d.cache.length<=1048576);have hl:s.d.cache.length+1=(s.d.cache++[(⟨at_,t⟩:Pend)]).length:=by simp
 exact c1b s at_ t v ⟨⟨V5 _,V5 _,by unfold V7;omega⟩,⟨trivial,trivial⟩,⟨rfl,rfl,⟨rfl,rfl⟩,⟨rfl,hl⟩,rfl,⟨rfl,rfl⟩,rfl,⟨rfl,rfl⟩,rfl,⟨rfl,rfl⟩,rfl,trivial⟩,⟨rfl,Z9 _ _⟩,trivial,⟨rfl,Z9 _ _⟩,⟨rfl,Z9 _ _⟩,⟨rfl,rfl,U3 _⟩,⟨hl,a17 s.d.cache ⟨at_,t⟩⟩,trivial⟩
def Sto.bxX(s:Sto)(v:Nat)(K:List Int):Y6:=[sE (s.tn 1 7 8 4 5),G8 s.d.sec,none,none,w9 s.log,yU v s.fr s.fr.length,B2 K,I8 s.d.cache,B2 s.d.keep]
def c1n:Con:=.reff ⟨Sto×List Int×Nat,fun x=>[.ref 0 0 0,.osl 6 0 x.2.1.length],fun x=>x.1.bx x.2.2++[B2 x.2.1],fun _=>.tup [],fun x=>(x.1.sd (crD x.1.d x.2.1)).bxX x.2.2 x.2.1,fun x=>pD x.1.d/\PdB x.1.d/\x.2.1.length<=1048576⟩
def c1S(s:Sto)(K:List Int)(v:Nat):Nat->Ann
 |0=>.one {i:Nat//i<=s.d.cache.length} (fun x=>⟨[(0,.ref 0 0 0),(1,.osl 6 0 K.length),(9,.osl 2 0 s.d.cache.length),(10,.int .i64 s.d.cache.length),(11,.int .i64 x.1)],[sE (s.tn 1 2 3 4 5),some (.arr true 0 1 s.d.sec.length (Z6 (u2 s.d.sec s.d.cache (kp K) x.1))),I8 s.d.cache,B2 s.d.keep,w9 s.log,yU v s.fr s.fr.length,B2 K]⟩) (fun x=>s.d.cache.length-x.1) [.box 0,.arr 1,.arr 2,.arr 3,.arr 4,.arr 5,.arr 6] [.box 0,.arr 1,.arr 2,.arr 3,.arr 4,.arr 5,.arr 6] (fun _=>Z0)
 |_=>.none
noncomputable def c35:Code:=Tryz.f113.body.getD .skip
theorem a8q:Z7 Tryz.prog 113:=⟨_,Tryz.func113,by kernel_rfl,by kernel_rfl⟩
theorem c1d(s:Sto)(K:List Int)(v:Nat)(h:
  (∃(x:{i:Nat//i<=s.d.cache.length}),((0=0/\0=0)/\(0=0/\K.length=K.length)/\(0=0/\s.d.cache.length=s.d.cache.length)/\(s.d.cache.length:Int)=(s.d.cache.length:Int)/\(0:Int)=(x.val:Int)/\True)/\
  (1=1/\1=1/\EqC s s)/\(s.d.sec.length=s.d.sec.length/\Z8 s.d.sec.length (Z6 s.d.sec) (Z6 (u2 s.d.sec s.d.cache (kp K) x.val)))/\(Y4 Z3 s.d.cache s.d.cache)/\(Y4 Y8 s.d.keep s.d.keep)/\(Y4
  Y5 s.log s.log)/\(v=v/\s.fr.length=s.fr.length/\T5 s.fr.length (X9 s.fr) (X9 s.fr))/\(Y4 Y8 K K)/\True)/\∀(x:{i:Nat//i<=s.d.cache.length}),(decide ((x.val:Int)<(s.d.cache.length:Int))=
  true->X0 (x.val:Int) s.d.cache.length/\Lt (0+(x.val:Int).toNat) s.d.cache.length/\(decide ((x.val:Int)<(K.length:Int))=true->X0 (x.val:Int) K.length)/\(decide ((x.val:Int)<(K.length:Int))=true->Lt (0+
  (x.val:Int).toNat) K.length)/\((decide ((x.val:Int)<(K.length:Int))&&K.getD (0+(x.val:Int).toNat) (0:Int) !=(0:Int))=true->X0 (s.d.cache.getD (0+(x.val:Int).toNat) default).at_ s.d.sec.length/\Lt (0+
  (s.d.cache.getD (0+(x.val:Int).toNat) default).at_.toNat) s.d.sec.length/\X8 .i64 ((x.val:Int)+(1:Int))/\∃(y:{i:Nat//i<=s.d.cache.length}),(((0=0/\0=0)/\(0=0/\K.length=K.length)/\(0=0/\
  s.d.cache.length=s.d.cache.length)/\(s.d.cache.length:Int)=(s.d.cache.length:Int)/\(x.val:Int)+(1:Int)=(y.val:Int)/\True)/\(1=1/\1=1/\EqC s s)/\(s.d.sec.length=s.d.sec.length/\Z8 s.d.sec.length (setRow
  (Z6 (u2 s.d.sec s.d.cache (kp K) x.val)) (0+(s.d.cache.getD (0+(x.val:Int).toNat) default).at_.toNat) 0 [T.str (s.d.cache.getD (0+(x.val:Int).toNat) default).d]) (Z6 (u2 s.d.sec s.d.cache (kp K) y.val)))/\(Y4
  Z3 s.d.cache s.d.cache)/\(Y4 Y8 s.d.keep s.d.keep)/\(Y4 Y5 s.log s.log)/\(v=v/\s.fr.length=s.fr.length/\T5 s.fr.length (X9 s.fr) (X9 s.fr))/\(Y4 Y8 K K)/\True)/\Lt (s.d.cache.length-
  y.val) (s.d.cache.length-x.val))/\((decide ((x.val:Int)<(K.length:Int))&&K.getD (0+(x.val:Int).toNat) (0:Int) !=(0:Int))=false->X8 .i64 ((x.val:Int)+(1:Int))/\∃(y:{i:Nat//i<=s.d.cache.length}),
  (((0=0/\0=0)/\(0=0/\K.length=K.length)/\(0=0/\s.d.cache.length=s.d.cache.length)/\(s.d.cache.length:Int)=(s.d.cache.length:Int)/\(x.val:Int)+(1:Int)=(y.val:Int)/\True)/\(1=1/\1=1/\EqC s s)/\
  (s.d.sec.length=s.d.sec.length/\Z8 s.d.sec.length (Z6 (u2 s.d.sec s.d.cache (kp K) x.val)) (Z6 (u2 s.d.sec s.d.cache (kp K) y.val)))/\(Y4 Z3 s.d.cache s.d.cache)/\(Y4 Y8 s.d.keep s.d.keep)/\(Y4
  Y5 s.log s.log)/\(v=v/\s.fr.length=s.fr.length/\T5 s.fr.length (X9 s.fr) (X9 s.fr))/\(Y4 Y8 K K)/\True)/\Lt (s.d.cache.length-y.val) (s.d.cache.length-x.val)))/\(decide ((x.val:Int)<
  (s.d.cache.length:Int))=false->(True/\True)/\(1=1/\1=1/\(0=0/\s.d.sec.length=(u2 s.d.sec s.d.cache (kp K) s.d.cache.length).length)/\(0=0/\0=0)/\false=false/\(0=0/\0=0)/\s.ep=s.ep/\(0=0/\
  s.log.length=s.log.length)/\s.sure=s.sure/\(0=0/\s.fr.length=s.fr.length)/\s.hand=s.hand/\True)/\(s.d.sec.length=(u2 s.d.sec s.d.cache (kp K) s.d.cache.length).length/\Z8 s.d.sec.length (Z6 (u2 s.d.sec
  s.d.cache (kp K) x.val)) (Z6 (u2 s.d.sec s.d.cache (kp K) s.d.cache.length)))/\True/\True/\(Y4 Y5 s.log s.log)/\(v=v/\s.fr.length=s.fr.length/\T5 s.fr.length (X9 s.fr) (X9 s.fr))/\(Y4 Y8 K K)/\
  (0=0/\Z8 0 (fun(x:Nat)=>[]) (Z3 []))/\(0=0/\Z8 0 (fun(x:Nat)=>[]) (Y8 []))/\True)):
  V3 Tryz.prog 113 [.ref 0 0 0,.osl 6 0 K.length] (s.bx v++[B2 K]) (.tup []) ((s.sd (crD s.d K)).bxX v K):=
 v5 (code:=c35) gN Tryz.func113 (by kernel_rfl) (by kernel_rfl) (c1S s K v) [[.nilC 0 1 0 2,.nilC 0 3 0 1,.box 0,.arr 1,.arr 2,.arr 3,.arr 4,.arr 5,.arr 6,.arr 7,.arr 8]] h (by kernel_rfl)
theorem b6Y:Z1 Tryz.prog 113 c1n:=by
 rintro⟨s,K,v⟩ ⟨⟨h1,h2,h3⟩,h4,h5⟩;dsimp only at h1 h2 h3 h4 h5;refine c1d s K v ⟨⟨⟨0,T0 _⟩,⟨⟨rfl,rfl⟩,⟨rfl,rfl⟩,⟨rfl,rfl⟩,rfl,rfl,trivial⟩,⟨rfl,rfl,⟨rfl,rfl⟩,⟨rfl,rfl⟩,rfl,⟨rfl,rfl⟩,rfl,⟨rfl,rfl⟩,rfl,⟨rfl,rfl⟩,rfl,trivial⟩,⟨rfl,Z9 _ _⟩,⟨rfl,Z9 _ _⟩,⟨rfl,Z9 _ _⟩,⟨rfl,Z9 _ _⟩,⟨rfl,rfl,U3 _⟩,⟨rfl,Z9 _ _⟩,trivial⟩,fun x=>⟨fun hc=> ?_,fun hc=> ?_⟩⟩
 ·have hlt:=Y9 hc;have ek:(decide ((x.val:Int)<(K.length:Int))&&K.getD x.val 0 !=0)=kp K x.val:=by
   unfold kp;rw[show decide ((x.val:Int)<(K.length:Int))=decide (x.val<K.length) from decide_eq_decide.2 (by omega)]
  rw[v4,show 0+x.val=x.val by omega,ek]
  have ha:=h4 x.val hlt;refine⟨Y7 hlt,hlt,fun h=>Y7 (Y9 h),fun h=>Y9 h,fun hk=> ?_,fun hk=> ?_⟩
  ·exact⟨ha,by unfold Lt;omega,Z5 (by omega),⟨x.val+1,hlt⟩,⟨⟨⟨rfl,rfl⟩,⟨rfl,rfl⟩,⟨rfl,rfl⟩,rfl,by dsimp only;omega,trivial⟩,⟨rfl,rfl,⟨rfl,rfl⟩,⟨rfl,rfl⟩,rfl,⟨rfl,rfl⟩,rfl,⟨rfl,rfl⟩,rfl,⟨rfl,rfl⟩,rfl,trivial⟩,⟨rfl,oW hk⟩,⟨rfl,Z9 _ _⟩,⟨rfl,Z9 _ _⟩,⟨rfl,Z9 _ _⟩,⟨rfl,rfl,U3 _⟩,⟨rfl,Z9 _ _⟩,trivial⟩,V9.ext_lt hlt⟩
  ·exact⟨Z5 (by omega),⟨x.val+1,hlt⟩,⟨⟨⟨rfl,rfl⟩,⟨rfl,rfl⟩,⟨rfl,rfl⟩,rfl,by dsimp only;omega,trivial⟩,⟨rfl,rfl,⟨rfl,rfl⟩,⟨rfl,rfl⟩,rfl,⟨rfl,rfl⟩,rfl,⟨rfl,rfl⟩,rfl,⟨rfl,rfl⟩,rfl,trivial⟩,⟨rfl,fun j _=>by dsimp only;rw[c4R hk]⟩,⟨rfl,Z9 _ _⟩,⟨rfl,Z9 _ _⟩,⟨rfl,Z9 _ _⟩,⟨rfl,rfl,U3 _⟩,⟨rfl,Z9 _ _⟩,trivial⟩,V9.ext_lt hlt⟩
 ·have hx:x.val=s.d.cache.length:=by have:=x.2;have:=Y3 hc;omega
  rw[hx];have hl:=(y7 s.d.sec s.d.cache (kp K) s.d.cache.length).symm;exact⟨⟨trivial,trivial⟩,⟨rfl,rfl,⟨rfl,hl⟩,⟨rfl,rfl⟩,rfl,⟨rfl,rfl⟩,rfl,⟨rfl,rfl⟩,rfl,⟨rfl,rfl⟩,rfl,trivial⟩,⟨hl,Z9 _ _⟩,trivial,trivial,⟨rfl,Z9 _ _⟩,⟨rfl,rfl,U3 _⟩,⟨rfl,Z9 _ _⟩,⟨rfl,U1⟩,⟨rfl,U1⟩,trivial⟩
def Sto.bxY(s:Sto)(v:Nat):Y6:=[sE (s.tn 1 6 7 4 5),G8 s.d.sec,none,none,w9 s.log,yU v s.fr s.fr.length,I8 s.d.cache,B2 s.d.keep]
def c7a:Con:=.reff ⟨Sto×Nat,fun x=>[.ref 0 0 0],fun x=>x.1.bx x.2,fun x=>.bool (V4 x.1.d).2,fun x=>(x.1.sd ((V4 x.1.d).1)).bxY x.2,fun x=>pD x.1.d/\PdB x.1.d⟩
def c6n(s:Sto)(v:Nat):Nat->Ann
 |0=>.one {i:Nat//i<=s.d.cache.length} (fun x=>⟨[(0,.ref 0 0 0),(19,.osl 2 0 s.d.cache.length),(20,.int .i64 s.d.cache.length),(21,.int .i64 x.1)],[sE (s.tn 1 2 3 4 5),some (.arr true 0 1 s.d.sec.length (Z6 (u2 s.d.sec s.d.cache (fun _=>true) x.1))),I8 s.d.cache,B2 s.d.keep,w9 s.log,yU v s.fr s.fr.length]⟩) (fun x=>s.d.cache.length-x.1) [.box 0,.arr 1,.arr 2,.arr 3,.arr 4,.arr 5] [.box 0,.arr 1,.arr 2,.arr 3,.arr 4,.arr 5] (fun _=>Z0)
 |_=>.none
noncomputable def c5F:Code:=Tryz.f128.body.getD .skip
theorem fT:Z7 Tryz.prog 128:=⟨_,Tryz.func128,by kernel_rfl,by kernel_rfl⟩
theorem c6q(s:Sto)(v:Nat)(h:
  (s.d.armed=true->∃(x:(List Int)),(Le (0+s.d.keep.length) s.d.keep.length/\((s.d.keep.length=List.length x/\Z8 s.d.keep.length (Y8 s.d.keep) (Y8 x))/\True)/\List.length x<=1048576)/\∃(x_1:(Sto×List
  Int×Nat)),(((0=0/\0=0)/\(0=0/\List.length x=x_1.snd.fst.length)/\True)/\((1=1/\1=1/\EqC s x_1.fst)/\(Y4 Z6 s.d.sec x_1.fst.d.sec)/\(Y4 Z3 s.d.cache x_1.fst.d.cache)/\(Y4 Y8 s.d.keep
  x_1.fst.d.keep)/\(Y4 Y5 s.log x_1.fst.log)/\(v=x_1.snd.snd/\s.fr.length=x_1.fst.fr.length/\T5 s.fr.length (X9 s.fr) (X9 x_1.fst.fr))/\(List.length x=x_1.snd.fst.length/\Z8 (List.length x) (Y8 x)
  (Y8 x_1.snd.fst))/\True)/\pD x_1.fst.d/\PdB x_1.fst.d/\x_1.snd.fst.length<=1048576)/\(false=(V4 s.d).snd/\True)/\(1=1/\1=1/\(0=0/\(u2 x_1.fst.d.sec x_1.fst.d.cache (kp x_1.snd.fst)
  x_1.fst.d.cache.length).length=(V4 s.d).fst.sec.length)/\(0=0/\0=(V4 s.d).fst.cache.length)/\false=(V4 s.d).fst.armed/\(0=0/\0=(V4 s.d).fst.keep.length)/\x_1.fst.ep=s.ep/\(0=0/\x_1.fst.log.length=
  s.log.length)/\x_1.fst.sure=s.sure/\(0=0/\x_1.fst.fr.length=s.fr.length)/\x_1.fst.hand=s.hand/\True)/\(Y4 Z6 (u2 x_1.fst.d.sec x_1.fst.d.cache (kp x_1.snd.fst) x_1.fst.d.cache.length) (V4 s.d).fst.sec)/\True
  /\True/\(Y4 Y5 x_1.fst.log s.log)/\(x_1.snd.snd=v/\x_1.fst.fr.length=s.fr.length/\T5 x_1.fst.fr.length (X9 x_1.fst.fr) (X9 s.fr))/\(0=(V4 s.d).fst.cache.length/\Z8 0 (Z3 []) (Z3 (V4
  s.d).fst.cache))/\(0=(V4 s.d).fst.keep.length/\Z8 0 (Y8 []) (Y8 (V4 s.d).fst.keep))/\True)/\(s.d.armed=false->(∃(x:{i:Nat//i<=s.d.cache.length}),((0=0/\0=0)/\(0=0/\s.d.cache.length=
  s.d.cache.length)/\(s.d.cache.length:Int)=(s.d.cache.length:Int)/\(0:Int)=(x.val:Int)/\True)/\(1=1/\1=1/\EqC s s)/\(s.d.sec.length=s.d.sec.length/\Z8 s.d.sec.length (Z6 s.d.sec) (Z6 (u2 s.d.sec
  s.d.cache (fun(x:Nat)=>true) x.val)))/\(Y4 Z3 s.d.cache s.d.cache)/\(Y4 Y8 s.d.keep s.d.keep)/\(Y4 Y5 s.log s.log)/\(v=v/\s.fr.length=s.fr.length/\T5 s.fr.length (X9 s.fr) (X9 s.fr))/\
  True)/\∀(x:{i:Nat//i<=s.d.cache.length}),(decide ((x.val:Int)<(s.d.cache.length:Int))=true->X0 (x.val:Int) s.d.cache.length/\Lt (0+(x.val:Int).toNat) s.d.cache.length/\X0 (s.d.cache.getD (0+
  (x.val:Int).toNat) default).at_ s.d.sec.length/\Lt (0+(s.d.cache.getD (0+(x.val:Int).toNat) default).at_.toNat) s.d.sec.length/\X8 .i64 ((x.val:Int)+(1:Int))/\∃(y:{i:Nat//i<=s.d.cache.length}),(((0=0/\0=
  0)/\(0=0/\s.d.cache.length=s.d.cache.length)/\(s.d.cache.length:Int)=(s.d.cache.length:Int)/\(x.val:Int)+(1:Int)=(y.val:Int)/\True)/\(1=1/\1=1/\EqC s s)/\(s.d.sec.length=s.d.sec.length/\Z8
  s.d.sec.length (setRow (Z6 (u2 s.d.sec s.d.cache (fun(x:Nat)=>true) x.val)) (0+(s.d.cache.getD (0+(x.val:Int).toNat) default).at_.toNat) 0 [T.str (s.d.cache.getD (0+(x.val:Int).toNat) default).d]) (Z6 (u2
  s.d.sec s.d.cache (fun(x:Nat)=>true) y.val)))/\(Y4 Z3 s.d.cache s.d.cache)/\(Y4 Y8 s.d.keep s.d.keep)/\(Y4 Y5 s.log s.log)/\(v=v/\s.fr.length=s.fr.length/\T5 s.fr.length (X9 s.fr) (X9
  s.fr))/\True)/\Lt (s.d.cache.length-y.val) (s.d.cache.length-x.val))/\(decide ((x.val:Int)<(s.d.cache.length:Int))=false->(true=(V4 s.d).snd/\True)/\(1=1/\1=1/\(0=0/\s.d.sec.length=(V4
  s.d).fst.sec.length)/\(0=0/\0=(V4 s.d).fst.cache.length)/\s.d.armed=(V4 s.d).fst.armed/\(0=0/\s.d.keep.length=(V4 s.d).fst.keep.length)/\s.ep=s.ep/\(0=0/\s.log.length=s.log.length)/\s.sure=s.sure/\
  (0=0/\s.fr.length=s.fr.length)/\s.hand=s.hand/\True)/\(s.d.sec.length=(V4 s.d).fst.sec.length/\Z8 s.d.sec.length (Z6 (u2 s.d.sec s.d.cache (fun(x:Nat)=>true) x.val)) (Z6 (V4 s.d).fst.sec))/\True
  /\True/\(Y4 Y5 s.log s.log)/\(v=v/\s.fr.length=s.fr.length/\T5 s.fr.length (X9 s.fr) (X9 s.fr))/\(0=(V4 s.d).fst.cache.length/\Z8 0 (fun(x:Nat)=>[]) (Z3 (V4 s.d).fst.cache))/\(Y4
  Y8 s.d.keep (V4 s.d).fst.keep)/\True))):
  V3 Tryz.prog 128 [.ref 0 0 0] (s.bx v) (.bool (V4 s.d).2) ((s.sd ((V4 s.d).1)).bxY v):=
 v5 (code:=c5F) (gC a0J mG (gC b6Y a8q gN)) Tryz.func128 (by kernel_rfl) (by kernel_rfl) (c6n s v) [[.box 0,.arr 1,.arr 2,.arr 3,.arr 4,.arr 5,.arr 7,.arr 8],[.nilC 0 1 0 2,.box 0,.arr 1,.arr 2,.arr 3,.arr 4,.arr 5,.arr 6,.arr 3]] h (by kernel_rfl)
theorem a9D:Z1 Tryz.prog 128 c7a:=by
 rintro⟨s,v⟩ ⟨⟨h1,h2,h3⟩,h4⟩;dsimp only at h1 h2 h3 h4;refine c6q s v ⟨fun ha=> ?_,fun ha=> ?_⟩
 ·have e:V4 s.d=(crD s.d s.d.keep,false):=by unfold V4;rw[if_pos ha]
  rw[e];exact⟨s.d.keep,⟨S7 _,⟨⟨rfl,Z9 _ _⟩,trivial⟩,h3⟩,(s,s.d.keep,v),⟨⟨⟨rfl,rfl⟩,⟨rfl,rfl⟩,trivial⟩,⟨⟨rfl,rfl,⟨rfl,rfl⟩,⟨rfl,rfl⟩,rfl,⟨rfl,rfl⟩,rfl,⟨rfl,rfl⟩,rfl,⟨rfl,rfl⟩,rfl,trivial⟩,⟨rfl,Z9 _ _⟩,⟨rfl,Z9 _ _⟩,⟨rfl,Z9 _ _⟩,⟨rfl,Z9 _ _⟩,⟨rfl,rfl,U3 _⟩,⟨rfl,Z9 _ _⟩,trivial⟩,⟨h1,h2,h3⟩,h4,h3⟩,⟨rfl,trivial⟩,⟨rfl,rfl,⟨rfl,rfl⟩,⟨rfl,rfl⟩,rfl,⟨rfl,rfl⟩,rfl,⟨rfl,rfl⟩,rfl,⟨rfl,rfl⟩,rfl,trivial⟩,⟨rfl,Z9 _ _⟩,trivial,trivial,⟨rfl,Z9 _ _⟩,⟨rfl,rfl,U3 _⟩,⟨rfl,U1⟩,⟨rfl,U1⟩,trivial⟩
 ·have e:V4 s.d=(⟨u2 s.d.sec s.d.cache (fun _=>true) s.d.cache.length,[],s.d.armed,s.d.keep⟩,true):=by unfold V4;rw[if_neg (by rw[ha];simp)]
  rw[e];refine⟨⟨⟨0,T0 _⟩,⟨⟨rfl,rfl⟩,⟨rfl,rfl⟩,rfl,rfl,trivial⟩,⟨rfl,rfl,⟨rfl,rfl⟩,⟨rfl,rfl⟩,rfl,⟨rfl,rfl⟩,rfl,⟨rfl,rfl⟩,rfl,⟨rfl,rfl⟩,rfl,trivial⟩,⟨rfl,Z9 _ _⟩,⟨rfl,Z9 _ _⟩,⟨rfl,Z9 _ _⟩,⟨rfl,Z9 _ _⟩,⟨rfl,rfl,U3 _⟩,trivial⟩,fun x=>⟨fun hc=> ?_,fun hc=> ?_⟩⟩
  ·have hlt:=Y9 hc;rw[v4,show 0+x.val=x.val by omega]
   have ha:=h4 x.val hlt;exact⟨Y7 hlt,hlt,ha,by unfold Lt;omega,Z5 (by omega),⟨x.val+1,hlt⟩,⟨⟨⟨rfl,rfl⟩,⟨rfl,rfl⟩,rfl,by dsimp only;omega,trivial⟩,⟨rfl,rfl,⟨rfl,rfl⟩,⟨rfl,rfl⟩,rfl,⟨rfl,rfl⟩,rfl,⟨rfl,rfl⟩,rfl,⟨rfl,rfl⟩,rfl,trivial⟩,⟨rfl,oW (Q:=fun _=>true) rfl⟩,⟨rfl,Z9 _ _⟩,⟨rfl,Z9 _ _⟩,⟨rfl,Z9 _ _⟩,⟨rfl,rfl,U3 _⟩,trivial⟩,V9.ext_lt hlt⟩
  ·have hx:x.val=s.d.cache.length:=by have:=x.2;have:=Y3 hc;omega
   rw[hx];have hl:=(y7 s.d.sec s.d.cache (fun _=>true) s.d.cache.length).symm
   exact⟨⟨rfl,trivial⟩,⟨rfl,rfl,⟨rfl,hl⟩,⟨rfl,rfl⟩,rfl,⟨rfl,rfl⟩,rfl,⟨rfl,rfl⟩,rfl,⟨rfl,rfl⟩,rfl,trivial⟩,⟨hl,Z9 _ _⟩,trivial,trivial,⟨rfl,Z9 _ _⟩,⟨rfl,rfl,U3 _⟩,⟨rfl,U1⟩,⟨rfl,Z9 _ _⟩,trivial⟩
end Go.Proofs.YtokaojbaacnngaaGreat

namespace Go.Proofs.YtokaojbaacnngaaGreat
set_option maxRecDepth 100000
open Go.SS

theorem c4Z{hi lsn:Int}{s:RdSt}:∀n,(RdSt.go hi lsn s n).ok=true->s.ok=true
 |0,h=>h
 |n+1,h=>by
  refine c4Z (hi:=hi) (lsn:=lsn) n ?_
  simp only[RdSt.go,RdSt.step,K5] at h;exact h.1.1
theorem b9k{hi lsn:Int}{s:RdSt}:∀n,s.l.length<=(RdSt.go hi lsn s n).l.length+2*n
 |0=>by simp[RdSt.go]
 |n+1=>by
  have:=b9k (hi:=hi) (lsn:=lsn) (s:=s) n;simp only[RdSt.go,RdSt.step,List.length_drop];omega
theorem b9K{most lo hi lsn:Int}{l:List UInt8}{fl:Bool}(h:(T2 most lo hi lsn l fl).ok=true):(l.length:Int)<=(T2 most lo hi lsn l fl).l.length+2*most+1:=by
 have h1:=c4Z _ h;have h2:=b9k (hi:=hi) (lsn:=lsn) (s:=j4 most lo l fl) (numR l).toNat;have h3:numR l<=most:=D8 h1;have h4:=(e9 l).1;have h5:(j4 most lo l fl).l.length=l.length-1:=by simp[j4]
 have h6:(T2 most lo hi lsn l fl).l.length=(RdSt.go hi lsn (j4 most lo l fl) (numR l).toNat).l.length:=rfl;omega
theorem a9p{a:List UInt8}{lsn:Int}(h:oY a lsn=true):a.length<=38:=by
 unfold oY at h;simp only[K5] at h;have h1:=b9K h.1.1.1;have h2:=b9K h.1.2.1;have h3:=List.isEmpty_iff.1 h.2.2;rw[h3] at h2;simp at h2;omega
theorem c46{r:Rec}(h:S3 r=true):a5v r:=by
 have h:=(P8 r).1 h;unfold j3 at h;obtain⟨_,_,_,_,_,_,_,_,_,_,_,_,_,_,hb,h6,h7⟩:=h;refine⟨by omega,?_⟩
 by_cases hk:r.k=6
 ·have:=a9p (h6 hk).2.2.2.2.2.2;omega
 ·have:=(h7 hk).2.2.1;omega
def rU(s:Sto)(i:Nat):Pend:=⟨9+(s.log.getD (s.sure.toNat+i) default).l-1,P7 (s.log.getD (s.sure.toNat+i) default)⟩
def wrN(s:Sto)(n:Nat):Dsk:=⟨s.d.sec,s.d.cache++(List.range n).map (rU s),s.d.armed,s.d.keep⟩
def P6(s:Sto)(lsn:Int):Nat:=lsn.toNat-s.sure.toNat
def X1(s:Sto)(lsn:Int):Sto×Bool:=if lsn<=s.sure then(s,true) else
 (⟨(V4 (wrN s (P6 s lsn))).1,s.ep,s.log,if(V4 (wrN s (P6 s lsn))).2=true then lsn else s.sure,s.fr,s.hand⟩,(V4 (wrN s (P6 s lsn))).2)
def xO(s:Sto)(lsn:Int):Prop:=pD s.d/\s.d.cache.length<=1000/\PdB s.d/\s.d.sec.length=69/\0<=s.sure/\s.sure<=s.log.length/\s.log.length<=60/\lsn<=s.log.length/\∀i,i<s.log.length->(s.log.getD i default).l=(i:Int)+1/\a5v (s.log.getD i default)
def c36:Con:=.reff ⟨Sto×Int×Nat,fun x=>[.ref 0 0 0,.int .i64 x.2.1],fun x=>x.1.bx x.2.2,fun x=>.bool (X1 x.1 x.2.1).2,fun x=>(X1 x.1 x.2.1).1.bxY x.2.2,fun x=>xO x.1 x.2.1⟩
def c0I(s:Sto)(lsn:Int)(v:Nat):Nat->Ann
 |0=>.one {i:Nat//i<=P6 s lsn} (fun x=>⟨[(0,.ref 0 0 0),(1,.int .i64 lsn),(22,.osl 4 s.sure.toNat (P6 s lsn)),(23,.int .i64 (P6 s lsn)),(24,.int .i64 x.1)],(s.sd (wrN s x.1)).bxC v⟩) (fun x=>P6 s lsn-x.1) [.box 0,.arr 1,.arr 2,.arr 3,.arr 4,.arr 5,.arr 2] [.box 0,.arr 1,.arr 2,.arr 3,.arr 4,.arr 5,.arr 8] (fun _=>Z0)
 |_=>.none
noncomputable def c08:Code:=Tryz.f118.body.getD .skip
theorem a8k:Z7 Tryz.prog 118:=⟨_,Tryz.func118,by kernel_rfl,by kernel_rfl⟩
theorem c0Z(s:Sto)(lsn:Int)(v:Nat)(h:
  (decide (lsn<=s.sure)=true->(true=(X1 s lsn).snd/\True)/\(1=1/\1=1/\EqC s (X1 s lsn).fst)/\(Y4 Z6 s.d.sec (X1 s lsn).fst.d.sec)/\True/\True/\(Y4 Y5 s.log (X1 s lsn).fst.log)/\(v=v/\
  s.fr.length=(X1 s lsn).fst.fr.length/\T5 s.fr.length (X9 s.fr) (X9 (X1 s lsn).fst.fr))/\(Y4 Z3 s.d.cache (X1 s lsn).fst.d.cache)/\(Y4 Y8 s.d.keep (X1 s lsn).fst.d.keep)/\True)/\(decide (lsn<=
  s.sure)=false->c3o s.sure lsn s.log.length/\(∃(x:{i:Nat//i<=P6 s lsn}),((0=0/\0=0)/\lsn=lsn/\(0+s.sure.toNat=s.sure.toNat/\lsn.toNat-s.sure.toNat=P6 s lsn)/\(↑(lsn.toNat-s.sure.toNat):
  Int)=(↑(P6 s lsn):Int)/\(0:Int)=(x.val:Int)/\True)/\(1=1/\1=1/\(0=0/\s.d.sec.length=s.d.sec.length)/\(0=0/\s.d.cache.length=(s.d.cache++List.map (rU s) (List.range x.val)).length)/\s.d.armed=
  s.d.armed/\(0=0/\s.d.keep.length=s.d.keep.length)/\s.ep=s.ep/\(0=0/\s.log.length=s.log.length)/\s.sure=s.sure/\(0=0/\s.fr.length=s.fr.length)/\s.hand=s.hand/\True)/\(Y4 Z6 s.d.sec s.d.sec)/\True
  /\(Y4 Y8 s.d.keep s.d.keep)/\(Y4 Y5 s.log s.log)/\(v=v/\s.fr.length=s.fr.length/\T5 s.fr.length (X9 s.fr) (X9 s.fr))/\(Y4 Z3 s.d.cache (s.d.cache++List.map (rU s) (List.range x.val)))/\True)
  /\∀(x:{i:Nat//i<=P6 s lsn}),(decide ((x.val:Int)<(↑(P6 s lsn):Int))=true->X0 (x.val:Int) (P6 s lsn)/\Lt (s.sure.toNat+(x.val:Int).toNat) s.log.length/\X8 .i64 ((9:Int)+(s.log.getD (s.sure.toNat+
  (x.val:Int).toNat) default).l)/\X8 .i64 ((9:Int)+(s.log.getD (s.sure.toNat+(x.val:Int).toNat) default).l- (1:Int))/\∃(x_1:Rec),(((EqR (s.log.getD (s.sure.toNat+(x.val:Int).toNat) default) x_1)/\True)/\a5v x_1)
  /\∃(x_2:(Sto×Int×List UInt8×Nat)),(((0=0/\0=0)/\(9:Int)+(s.log.getD (s.sure.toNat+(x.val:Int).toNat) default).l- (1:Int)=x_2.snd.fst/\P7 x_1=x_2.snd.snd.fst/\True)/\((1=1/\1=1/\(0=0/\
  s.d.sec.length=x_2.fst.d.sec.length)/\(0=0/\(s.d.cache++List.map (rU s) (List.range x.val)).length=x_2.fst.d.cache.length)/\s.d.armed=x_2.fst.d.armed/\(0=0/\s.d.keep.length=x_2.fst.d.keep.length)/\s.ep=
  x_2.fst.ep/\(0=0/\s.log.length=x_2.fst.log.length)/\s.sure=x_2.fst.sure/\(0=0/\s.fr.length=x_2.fst.fr.length)/\s.hand=x_2.fst.hand/\True)/\(Y4 Z6 s.d.sec x_2.fst.d.sec)/\(Y4 Z3 (s.d.cache++
  List.map (rU s) (List.range x.val)) x_2.fst.d.cache)/\(Y4 Y8 s.d.keep x_2.fst.d.keep)/\(Y4 Y5 s.log x_2.fst.log)/\(v=x_2.snd.snd.snd/\s.fr.length=x_2.fst.fr.length/\T5 s.fr.length (X9 s.fr) (X9
  x_2.fst.fr))/\True)/\x_2.fst.d.cache.length<=1048576)/\X8 .i64 ((x.val:Int)+(1:Int))/\∃(y:{i:Nat//i<=P6 s lsn}),(((0=0/\0=0)/\lsn=lsn/\(s.sure.toNat=s.sure.toNat/\P6 s lsn=P6 s lsn)/\
  (↑(P6 s lsn):Int)=(↑(P6 s lsn):Int)/\(x.val:Int)+(1:Int)=(y.val:Int)/\True)/\(1=1/\1=1/\(0=0/\x_2.fst.d.sec.length=s.d.sec.length)/\(0=0/\(x_2.fst.d.cache++[Pend.mk x_2.snd.fst
  x_2.snd.snd.fst]).length=(s.d.cache++List.map (rU s) (List.range y.val)).length)/\x_2.fst.d.armed=s.d.armed/\(0=0/\x_2.fst.d.keep.length=s.d.keep.length)/\x_2.fst.ep=s.ep/\(0=0/\x_2.fst.log.length=
  s.log.length)/\x_2.fst.sure=s.sure/\(0=0/\x_2.fst.fr.length=s.fr.length)/\x_2.fst.hand=s.hand/\True)/\(Y4 Z6 x_2.fst.d.sec s.d.sec)/\True/\(Y4 Y8 x_2.fst.d.keep s.d.keep)/\(Y4 Y5 x_2.fst.log s.log)
  /\(x_2.snd.snd.snd=v/\x_2.fst.fr.length=s.fr.length/\T5 x_2.fst.fr.length (X9 x_2.fst.fr) (X9 s.fr))/\(Y4 Z3 (x_2.fst.d.cache++[Pend.mk x_2.snd.fst x_2.snd.snd.fst]) (s.d.cache++List.map (rU s)
  (List.range y.val)))/\True)/\Lt (P6 s lsn-y.val) (P6 s lsn-x.val))/\(decide ((x.val:Int)<(↑(P6 s lsn):Int))=false->∃(x_1:(Sto×Nat)),(((0=0/\0=0)/\True)/\((1=1/\1=1/\(0=0/\s.d.sec.length=
  x_1.fst.d.sec.length)/\(0=0/\(s.d.cache++List.map (rU s) (List.range x.val)).length=x_1.fst.d.cache.length)/\s.d.armed=x_1.fst.d.armed/\(0=0/\s.d.keep.length=x_1.fst.d.keep.length)/\s.ep=x_1.fst.ep/\(0=0/\
  s.log.length=x_1.fst.log.length)/\s.sure=x_1.fst.sure/\(0=0/\s.fr.length=x_1.fst.fr.length)/\s.hand=x_1.fst.hand/\True)/\(Y4 Z6 s.d.sec x_1.fst.d.sec)/\(Y4 Z3 (s.d.cache++List.map (rU s) (List.range
  x.val)) x_1.fst.d.cache)/\(Y4 Y8 s.d.keep x_1.fst.d.keep)/\(Y4 Y5 s.log x_1.fst.log)/\(v=x_1.snd/\s.fr.length=x_1.fst.fr.length/\T5 s.fr.length (X9 s.fr) (X9 x_1.fst.fr))/\True)/\pD x_1.fst.d/\PdB
  x_1.fst.d)/\((!(V4 x_1.fst.d).snd)=true->(false=(X1 s lsn).snd/\True)/\(1=1/\1=1/\(0=0/\(V4 x_1.fst.d).fst.sec.length=(X1 s lsn).fst.d.sec.length)/\(0=0/\(V4 x_1.fst.d).fst.cache.length=(X1 s
  lsn).fst.d.cache.length)/\(V4 x_1.fst.d).fst.armed=(X1 s lsn).fst.d.armed/\(0=0/\(V4 x_1.fst.d).fst.keep.length=(X1 s lsn).fst.d.keep.length)/\x_1.fst.ep=(X1 s lsn).fst.ep/\(0=0/\x_1.fst.log.length=
  (X1 s lsn).fst.log.length)/\x_1.fst.sure=(X1 s lsn).fst.sure/\(0=0/\x_1.fst.fr.length=(X1 s lsn).fst.fr.length)/\x_1.fst.hand=(X1 s lsn).fst.hand/\True)/\(Y4 Z6 (V4 x_1.fst.d).fst.sec (X1 s
  lsn).fst.d.sec)/\True/\True/\(Y4 Y5 x_1.fst.log (X1 s lsn).fst.log)/\(x_1.snd=v/\x_1.fst.fr.length=(X1 s lsn).fst.fr.length/\T5 x_1.fst.fr.length (X9 x_1.fst.fr) (X9 (X1 s lsn).fst.fr))/\(Y4
  Z3 (V4 x_1.fst.d).fst.cache (X1 s lsn).fst.d.cache)/\(Y4 Y8 (V4 x_1.fst.d).fst.keep (X1 s lsn).fst.d.keep)/\True)/\((!(V4 x_1.fst.d).snd)=false->(true=(X1 s lsn).snd/\True)/\(1=1/\1=1/\(0=0
  /\(V4 x_1.fst.d).fst.sec.length=(X1 s lsn).fst.d.sec.length)/\(0=0/\(V4 x_1.fst.d).fst.cache.length=(X1 s lsn).fst.d.cache.length)/\(V4 x_1.fst.d).fst.armed=(X1 s lsn).fst.d.armed/\(0=0/\(V4
  x_1.fst.d).fst.keep.length=(X1 s lsn).fst.d.keep.length)/\x_1.fst.ep=(X1 s lsn).fst.ep/\(0=0/\x_1.fst.log.length=(X1 s lsn).fst.log.length)/\lsn=(X1 s lsn).fst.sure/\(0=0/\x_1.fst.fr.length=(X1 s
  lsn).fst.fr.length)/\x_1.fst.hand=(X1 s lsn).fst.hand/\True)/\(Y4 Z6 (V4 x_1.fst.d).fst.sec (X1 s lsn).fst.d.sec)/\True/\True/\(Y4 Y5 x_1.fst.log (X1 s lsn).fst.log)/\(x_1.snd=v/\x_1.fst.fr.length=
  (X1 s lsn).fst.fr.length/\T5 x_1.fst.fr.length (X9 x_1.fst.fr) (X9 (X1 s lsn).fst.fr))/\(Y4 Z3 (V4 x_1.fst.d).fst.cache (X1 s lsn).fst.d.cache)/\(Y4 Y8 (V4 x_1.fst.d).fst.keep (X1 s
  lsn).fst.d.keep)/\True)))):
  V3 Tryz.prog 118 [.ref 0 0 0,.int .i64 lsn] (s.bx v) (.bool (X1 s lsn).2) ((X1 s lsn).1.bxY v):=
 v5 (code:=c08) (gC nY qW (gC b6M a5I (gC a9D fT gN))) Tryz.func118 (by kernel_rfl) (by kernel_rfl) (c0I s lsn v) [[.box 0,.arr 1,.arr 2,.arr 3,.arr 4,.arr 5,.arr 7,.arr 8],[.box 0,.arr 1,.arr 2,.arr 3,.arr 4,.arr 5,.arr 2,.arr 3]] h (by kernel_rfl)
theorem qL{s:Sto}{lsn:Int}(h:lsn<=s.sure):X1 s lsn=(s,true):=if_pos h
theorem qV{s:Sto}{lsn:Int}(h:¬lsn<=s.sure):X1 s lsn=(⟨(V4 (wrN s (P6 s lsn))).1,s.ep,s.log,if(V4 (wrN s (P6 s lsn))).2=true then lsn else s.sure,s.fr,s.hand⟩,(V4 (wrN s (P6 s lsn))).2):=if_neg h
theorem cE{s:Sto}{lsn:Int}{i:Nat}(h:xO s lsn)(hi:i<P6 s lsn):(rU s i).at_=9+s.sure+i/\a5v (s.log.getD (s.sure.toNat+i) default)/\s.sure+i<lsn:=by
 obtain⟨_,_,_,_,h5,h6,_,h8,h9⟩:=h;unfold P6 at hi;obtain⟨a,b⟩:=h9 (s.sure.toNat+i) (by omega)
 refine⟨?_,b,by omega⟩
 unfold rU;dsimp only;rw[a];omega
theorem xJ(s:Sto)(n:Nat):s.d.cache++List.map (rU s) (List.range n)++[rU s n]=s.d.cache++List.map (rU s) (List.range (n+1)):=by
 rw[List.range_succ,List.map_append,List.append_assoc];rfl
theorem b5M{s:Sto}{lsn:Int}(h:xO s lsn):pD (wrN s (P6 s lsn))/\PdB (wrN s (P6 s lsn)):=by
 have hn:=fun i=>cE (i:=i) h
 obtain⟨⟨a1,a2,a3⟩,h2,h3,h4,h5,h6,h7,h8,h9⟩:=h;have hN:P6 s lsn<=60:=by unfold P6;omega
 refine⟨⟨a1,?_,a3⟩,fun i hi=> ?_⟩
 ·show(s.d.cache++List.map (rU s) (List.range _)).length<=1048576;simp only[s7,List.length_map,j_i];omega
 ·have hi:i<(s.d.cache++List.map (rU s) (List.range (P6 s lsn))).length:=hi;show 0<=((s.d.cache++List.map (rU s) (List.range (P6 s lsn))).getD i default).at_/\((s.d.cache++List.map (rU s) (List.range (P6 s lsn))).getD i default).at_<(s.d.sec.length:Int);rw[h4,C0]
  by_cases hc:i<s.d.cache.length
  ·rw[kE hc,←C0]
   have:=h3 i hc;rw[h4] at this;exact this
  ·rw[eT (by omega),←C0]
   simp only[s7,List.length_map,j_i] at hi;rw[A6 _ (by omega)]
   obtain⟨e,_,q⟩:=hn (i-s.d.cache.length) (by omega)
   rw[e];omega
theorem b6t:Z1 Tryz.prog 118 c36:=by
 rintro⟨s,lsn,v⟩ h;dsimp only at h;have hn:=fun i=>cE (i:=i) h
 have hw:=b5M h;obtain⟨⟨a1,a2,a3⟩,h2,h3,h4,h5,h6,h7,h8,h9⟩:=h;have hN:P6 s lsn<=60:=by unfold P6;omega
 refine c0Z s lsn v ⟨fun hc=> ?_,fun hc=> ?_⟩
 ·rw[qL (D8 hc)];exact⟨⟨rfl,trivial⟩,⟨rfl,rfl,⟨rfl,rfl⟩,⟨rfl,rfl⟩,rfl,⟨rfl,rfl⟩,rfl,⟨rfl,rfl⟩,rfl,⟨rfl,rfl⟩,rfl,trivial⟩,⟨rfl,Z9 _ _⟩,trivial,trivial,⟨rfl,Z9 _ _⟩,⟨rfl,rfl,U3 _⟩,⟨rfl,Z9 _ _⟩,⟨rfl,Z9 _ _⟩,trivial⟩
 ·have hc:=yQ hc;refine⟨⟨h5,by omega,h8⟩,⟨⟨0,T0 _⟩,⟨⟨rfl,rfl⟩,rfl,⟨yO _,rfl⟩,rfl,rfl,trivial⟩,⟨rfl,rfl,⟨rfl,rfl⟩,⟨rfl,by simp⟩,rfl,⟨rfl,rfl⟩,rfl,⟨rfl,rfl⟩,rfl,⟨rfl,rfl⟩,rfl,trivial⟩,⟨rfl,Z9 _ _⟩,trivial,⟨rfl,Z9 _ _⟩,⟨rfl,Z9 _ _⟩,⟨rfl,rfl,U3 _⟩,⟨by simp,fun i _=>by simp⟩,trivial⟩,fun x=>⟨fun hx=> ?_,fun hx=> ?_⟩⟩
  ·have hlt:=Y9 hx;obtain⟨e,hb,q⟩:=hn x.val hlt;have e':9+(s.log.getD (s.sure.toNat+x.val) default).l-1=9+s.sure+x.val:=e;rw[v4];refine⟨Y7 hlt,by unfold Lt;omega,Z5 (by omega),Z5 (by omega),_,⟨⟨⟨rfl,rfl,rfl,rfl,rfl,rfl,rfl,rfl,rfl,rfl,trivial⟩,trivial⟩,hb⟩,(s.sd (wrN s x.val),9+(s.log.getD (s.sure.toNat+x.val) default).l-1,P7 (s.log.getD (s.sure.toNat+x.val) default),v),⟨⟨⟨rfl,rfl⟩,rfl,rfl,trivial⟩,⟨⟨rfl,rfl,⟨rfl,rfl⟩,⟨rfl,rfl⟩,rfl,⟨rfl,rfl⟩,rfl,⟨rfl,rfl⟩,rfl,⟨rfl,rfl⟩,rfl,trivial⟩,⟨rfl,Z9 _ _⟩,⟨rfl,Z9 _ _⟩,⟨rfl,Z9 _ _⟩,⟨rfl,Z9 _ _⟩,⟨rfl,rfl,U3 _⟩,trivial⟩,?_⟩,Z5 (by omega),⟨x.val+1,hlt⟩,⟨⟨⟨rfl,rfl⟩,rfl,⟨rfl,rfl⟩,rfl,by dsimp only;omega,trivial⟩,⟨rfl,rfl,⟨rfl,rfl⟩,⟨rfl,congrArg List.length (xJ s x.val)⟩,rfl,⟨rfl,rfl⟩,rfl,⟨rfl,rfl⟩,rfl,⟨rfl,rfl⟩,rfl,trivial⟩,⟨rfl,Z9 _ _⟩,trivial,⟨rfl,Z9 _ _⟩,⟨rfl,Z9 _ _⟩,⟨rfl,rfl,U3 _⟩,⟨congrArg List.length (xJ s x.val),fun i _=>congrArg (fun L=>Z3 L i) (xJ s x.val)⟩,trivial⟩,V9.ext_lt hlt⟩
   show(s.d.cache++List.map (rU s) (List.range _)).length<=1048576;simp only[s7,List.length_map,j_i];omega
  ·have hx:x.val=P6 s lsn:=by have:=x.2;have:=Y3 hx;omega
   rw[hx,qV hc];refine⟨(s.sd (wrN s (P6 s lsn)),v),⟨⟨⟨rfl,rfl⟩,trivial⟩,⟨⟨rfl,rfl,⟨rfl,rfl⟩,⟨rfl,rfl⟩,rfl,⟨rfl,rfl⟩,rfl,⟨rfl,rfl⟩,rfl,⟨rfl,rfl⟩,rfl,trivial⟩,⟨rfl,Z9 _ _⟩,⟨rfl,Z9 _ _⟩,⟨rfl,Z9 _ _⟩,⟨rfl,Z9 _ _⟩,⟨rfl,rfl,U3 _⟩,trivial⟩,hw⟩,fun hy=> ?_,fun hy=> ?_⟩
   ·have hy:(V4 (wrN s (P6 s lsn))).2=false:=(sB _).mp hy;exact⟨⟨hy.symm,trivial⟩,⟨rfl,rfl,⟨rfl,rfl⟩,⟨rfl,rfl⟩,rfl,⟨rfl,rfl⟩,rfl,⟨rfl,rfl⟩,(if_neg (by rw[hy];simp)).symm,⟨rfl,rfl⟩,rfl,trivial⟩,⟨rfl,Z9 _ _⟩,trivial,trivial,⟨rfl,Z9 _ _⟩,⟨rfl,rfl,U3 _⟩,⟨rfl,Z9 _ _⟩,⟨rfl,Z9 _ _⟩,trivial⟩
   ·have hy:(V4 (wrN s (P6 s lsn))).2=true:=(tE _).mp hy;exact⟨⟨hy.symm,trivial⟩,⟨rfl,rfl,⟨rfl,rfl⟩,⟨rfl,rfl⟩,rfl,⟨rfl,rfl⟩,rfl,⟨rfl,rfl⟩,(if_pos hy).symm,⟨rfl,rfl⟩,rfl,trivial⟩,⟨rfl,Z9 _ _⟩,trivial,trivial,⟨rfl,Z9 _ _⟩,⟨rfl,rfl,U3 _⟩,⟨rfl,Z9 _ _⟩,⟨rfl,Z9 _ _⟩,trivial⟩
theorem b7z{a b c:Int}(h:W8 a b c=true):b<=a/\a<=c:=by simpa[W8] using h
end Go.Proofs.YtokaojbaacnngaaGreat

namespace Go.Proofs.YtokaojbaacnngaaGreat
set_option maxRecDepth 100000
open Go.SS

def a7e:Con:=.rel ⟨Dsk×Int×List UInt8,fun x=>[.agg x.1.ts,.int .i64 x.2.1,.str x.2.2],fun x=>.agg (wrD x.1 x.2.1 x.2.2).ts,fun x=>x.1.cache.length<=1048576⟩
noncomputable def a49:Code:=Tryz.f183.body.getD .skip
theorem jC:Z7 Tryz.prog 183:=⟨_,Tryz.func183,by kernel_rfl,by kernel_rfl⟩
theorem a5O(d:Dsk)(at_:Int)(t:List UInt8)(h:
  (Le 0 0/\V7 0 d.cache.length 24)/\(Le 1 1/\Le (0+d.cache.length) (0+d.cache.length)/\V7 (0+d.cache.length) 1 24)/\Le (0+(0+d.cache.length+1)) (0+d.cache.length+1)/\(Y4 Z6 d.sec d.sec)/\(0+
  d.cache.length+1=(d.cache++[Pend.mk at_ t]).length/\Z8 (0+d.cache.length+1) (W6 (W6 (fun(k:Nat)=>List.take 2 (List.drop (k*2) [])) 0 (Z3 d.cache)) (0+d.cache.length) fun(k:Nat)=>List.take
  2 (List.drop (k*2) [T.int .i64 at_,T.str t])) (Z3 (d.cache++[Pend.mk at_ t])))/\d.armed=d.armed/\(Y4 Y8 d.keep d.keep)/\True):
  Z2 Tryz.prog 183 [.agg d.ts,.int .i64 at_,.str t] (.agg (wrD d at_ t).ts):=
 T4 (code:=a49) gN Tryz.func183 (by kernel_rfl) (by kernel_rfl) Z0 h (by kernel_rfl)

theorem a3M:Z1 Tryz.prog 183 a7e:=by
 rintro⟨d,at_,t⟩ (h:d.cache.length<=1048576);exact a5O d at_ t ⟨⟨V5 _,by unfold V7;omega⟩,⟨V5 _,V5 _,by unfold V7;omega⟩,by unfold Le;omega,⟨rfl,Z9 _ _⟩,⟨by simp,by rw[yO];exact a17 d.cache ⟨at_,t⟩⟩,rfl,⟨rfl,Z9 _ _⟩,trivial⟩
def c4Q(l:List T):Option Ob:=some (.arr false 1000000 4 1 fun _=>l)
def a8W(l:List T):Option Ob:=some (.arr true 1000000 4 1 fun _=>l)
def c7v:List T:=[.v (.slice none 0 0),.v (.slice none 0 0),.bool false,.v (.slice none 0 0)]
def a7d:Con:=.rel ⟨Dsk×List Int,fun x=>[.agg x.1.ts,r7 x.2],fun x=>.agg (crD x.1 x.2).ts,fun x=>pD x.1/\PdB x.1⟩
def a7s(d:Dsk)(K:List Int):Nat->Ann
 |0=>.one {i:Nat//i<=d.cache.length} (fun x=>⟨[(1,r7 K),(2,.ref 0 0 0),(4,.ref 1 0 0),(5,.ref 2 0 0),(6,.int .i64 x.1)],[a8W d.ts,a8W c7v,c4Q (d.tm 3),some (.arr true 0 1 d.sec.length (Z6 (u2 d.sec d.cache (kp K) x.1))),I8 d.cache,B2 d.keep]⟩) (fun x=>d.cache.length-x.1) [.box 0,.box 1,.box 5,.arr 2,.arr 3,.arr 4] [.box 0,.box 1,.box 2,.arr 3,.arr 4,.arr 5] (fun _=>Z0)
 |_=>.none
noncomputable def a4T:Code:=Tryz.f56.body.getD .skip
theorem jS:Z7 Tryz.prog 56:=⟨_,Tryz.func56,by kernel_rfl,by kernel_rfl⟩
theorem a67(d:Dsk)(K:List Int)(h:
  ∃(x:Dsk),(((zR d x)/\True)/\pD x)/\(∃(x_1:{i:Nat//i<=d.cache.length}),((Y4 Y8 K K)/\(0=0/\0=0)/\(0=0/\0=0)/\(0=0/\0=0)/\(0:Int)=(x_1.val:Int)/\True)/\(1=1/\1=1/\zR d d)/\(1
  =1/\1=1/\Value.slice none 0 0=Value.slice none 0 0/\Value.slice none 0 0=Value.slice none 0 0/\false=false/\Value.slice none 0 0=Value.slice none 0 0/\True)/\(1=1/\1=1/\(0=0/\x.sec.length=d.sec.length)
  /\(0=0/\x.cache.length=d.cache.length)/\x.armed=d.armed/\(0=0/\x.keep.length=d.keep.length)/\True)/\(x.sec.length=d.sec.length/\Z8 x.sec.length (Z6 x.sec) (Z6 (u2 d.sec d.cache (kp K) x_1.val)))/\
  (Y4 Z3 x.cache d.cache)/\(Y4 Y8 x.keep d.keep)/\True)/\∀(x:{i:Nat//i<=d.cache.length}),(decide ((x.val:Int)<(d.cache.length:Int))=true->(decide ((x.val:Int)<(K.length:Int))=true->X0 (x.val:Int)
  K.length)/\((decide ((x.val:Int)<(K.length:Int))&&K.getD (x.val:Int).toNat (0:Int) !=(0:Int))=true->X0 (x.val:Int) d.cache.length/\X0 (x.val:Int) d.cache.length/\X0 (d.cache.getD (x.val:Int).toNat default).at_
  d.sec.length/\Lt (0+(d.cache.getD (x.val:Int).toNat default).at_.toNat) d.sec.length/\X8 .i64 ((x.val:Int)+(1:Int))/\∃(y:{i:Nat//i<=d.cache.length}),(((Y4 Y8 K K)/\(0=0/\0=0)/\(0=0/\0=0)/\(0
  =0/\0=0)/\(x.val:Int)+(1:Int)=(y.val:Int)/\True)/\(1=1/\1=1/\zR d d)/\(1=1/\1=1/\Value.slice none 0 0=Value.slice none 0 0/\Value.slice none 0 0=Value.slice none 0 0/\false=false/\Value.slice
  none 0 0=Value.slice none 0 0/\True)/\(1=1/\1=1/\(0=0/\d.sec.length=d.sec.length)/\(0=0/\d.cache.length=d.cache.length)/\d.armed=d.armed/\(0=0/\d.keep.length=d.keep.length)/\True)/\(d.sec.length=
  d.sec.length/\Z8 d.sec.length (setRow (Z6 (u2 d.sec d.cache (kp K) x.val)) (0+(d.cache.getD (x.val:Int).toNat default).at_.toNat) 0 [T.str (d.cache.getD (x.val:Int).toNat default).d]) (Z6 (u2 d.sec d.cache (kp K)
  y.val)))/\(Y4 Z3 d.cache d.cache)/\(Y4 Y8 d.keep d.keep)/\True)/\Lt (d.cache.length-y.val) (d.cache.length-x.val))/\((decide ((x.val:Int)<(K.length:Int))&&K.getD (x.val:Int).toNat (0:Int) !=(0:Int))=
  false->X8 .i64 ((x.val:Int)+(1:Int))/\∃(y:{i:Nat//i<=d.cache.length}),(((Y4 Y8 K K)/\(0=0/\0=0)/\(0=0/\0=0)/\(0=0/\0=0)/\(x.val:Int)+(1:Int)=(y.val:Int)/\True)/\(1=1/\1=1/\
  zR d d)/\(1=1/\1=1/\Value.slice none 0 0=Value.slice none 0 0/\Value.slice none 0 0=Value.slice none 0 0/\false=false/\Value.slice none 0 0=Value.slice none 0 0/\True)/\(1=1/\1=1/\(0=0/\d.sec.length=
  d.sec.length)/\(0=0/\d.cache.length=d.cache.length)/\d.armed=d.armed/\(0=0/\d.keep.length=d.keep.length)/\True)/\(d.sec.length=d.sec.length/\Z8 d.sec.length (Z6 (u2 d.sec d.cache (kp K) x.val)) (Z6
  (u2 d.sec d.cache (kp K) y.val)))/\(Y4 Z3 d.cache d.cache)/\(Y4 Y8 d.keep d.keep)/\True)/\Lt (d.cache.length-y.val) (d.cache.length-x.val)))/\(decide ((x.val:Int)<(d.cache.length:Int))=false->(Le (0+
  d.sec.length) d.sec.length/\Le 0 0/\Le 0 0)/\(d.sec.length=(u2 d.sec d.cache (kp K) d.cache.length).length/\Z8 d.sec.length (Z6 (u2 d.sec d.cache (kp K) x.val)) (Z6 (u2 d.sec d.cache (kp K) d.cache.length)))/\
  (0=0/\Z8 0 (fun(k:Nat)=>List.take 2 (List.drop (k*2) [])) (Z3 []))/\false=false/\(0=0/\Z8 0 (fun(k:Nat)=>List.take 1 (List.drop (k*1) [])) (Y8 []))/\True)):
  Z2 Tryz.prog 56 [.agg d.ts,r7 K] (.agg (crD d K).ts):=
 T4 (code:=a4T) (gC qT xH gN) Tryz.func56 (by kernel_rfl) (by kernel_rfl) (a7s d K) h (by kernel_rfl)
theorem a0Z:Z1 Tryz.prog 56 a7d:=by
 rintro⟨d,K⟩ ⟨⟨h1,h2,h3⟩,h4⟩;dsimp only at h1 h2 h3 h4;refine a67 d K ⟨d,⟨⟨xL _,trivial⟩,h1,h2,h3⟩,⟨⟨0,T0 _⟩,(by repeat' first|exact trivial|exact rfl|exact Z9 _ _|exact U3 _|exact U1|exact S7 _|exact V5 _|exact T0 _|refine And.intro ?_ ?_)⟩,fun x=>⟨fun hc=> ?_,fun hc=> ?_⟩⟩
 ·have hlt:=Y9 hc;have ek:(decide ((x.val:Int)<(K.length:Int))&&K.getD x.val 0 !=0)=kp K x.val:=by
   unfold kp;rw[show decide ((x.val:Int)<(K.length:Int))=decide (x.val<K.length) from decide_eq_decide.2 (by omega)]
  have ha:=h4 x.val hlt;rw[v4,ek];refine⟨fun h=>Y7 (Y9 h),fun hk=> ?_,fun hk=> ?_⟩
  ·exact⟨Y7 hlt,Y7 hlt,ha,by unfold Lt;omega,Z5 (by omega),⟨x.val+1,hlt⟩,⟨⟨⟨rfl,Z9 _ _⟩,⟨rfl,rfl⟩,⟨rfl,rfl⟩,⟨rfl,rfl⟩,by dsimp only;omega,trivial⟩,⟨rfl,rfl,xL _⟩,(by repeat' first|exact trivial|exact rfl|exact Z9 _ _|exact U3 _|exact U1|exact S7 _|exact V5 _|exact T0 _|refine And.intro ?_ ?_),(by repeat' first|exact trivial|exact rfl|exact Z9 _ _|exact U3 _|exact U1|exact S7 _|exact V5 _|exact T0 _|refine And.intro ?_ ?_),⟨rfl,oW hk⟩,(by repeat' first|exact trivial|exact rfl|exact Z9 _ _|exact U3 _|exact U1|exact S7 _|exact V5 _|exact T0 _|refine And.intro ?_ ?_)⟩,V9.ext_lt hlt⟩
  ·exact⟨Z5 (by omega),⟨x.val+1,hlt⟩,⟨⟨⟨rfl,Z9 _ _⟩,⟨rfl,rfl⟩,⟨rfl,rfl⟩,⟨rfl,rfl⟩,by dsimp only;omega,trivial⟩,⟨rfl,rfl,xL _⟩,(by repeat' first|exact trivial|exact rfl|exact Z9 _ _|exact U3 _|exact U1|exact S7 _|exact V5 _|exact T0 _|refine And.intro ?_ ?_),(by repeat' first|exact trivial|exact rfl|exact Z9 _ _|exact U3 _|exact U1|exact S7 _|exact V5 _|exact T0 _|refine And.intro ?_ ?_),⟨rfl,fun j _=>by dsimp only;rw[c4R hk]⟩,(by repeat' first|exact trivial|exact rfl|exact Z9 _ _|exact U3 _|exact U1|exact S7 _|exact V5 _|exact T0 _|refine And.intro ?_ ?_)⟩,V9.ext_lt hlt⟩
 ·have hx:x.val=d.cache.length:=by have:=x.2;have:=Y3 hc;omega
  rw[hx];exact⟨(by repeat' first|exact trivial|exact rfl|exact Z9 _ _|exact U3 _|exact U1|exact S7 _|exact V5 _|exact T0 _|refine And.intro ?_ ?_),⟨(y7 _ _ _ _).symm,Z9 _ _⟩,(by repeat' first|exact trivial|exact rfl|exact Z9 _ _|exact U3 _|exact U1|exact S7 _|exact V5 _|exact T0 _|refine And.intro ?_ ?_)⟩
def b3b:Con:=.rel ⟨Dsk,fun d=>[.agg d.ts],fun d=>.tup [.agg (V4 d).1.ts,.bool (V4 d).2],fun d=>pD d/\PdB d⟩
def b1T(d:Dsk):Nat->Ann
 |0=>.one {i:Nat//i<=d.cache.length} (fun x=>⟨[(1,.ref 0 0 0),(2,.ref 1 0 0),(4,.ref 2 0 0),(5,.int .i64 x.1)],[a8W d.ts,a8W c7v,c4Q (d.tm 3),some (.arr true 0 1 d.sec.length (Z6 (u2 d.sec d.cache (fun _=>true) x.1))),I8 d.cache,B2 d.keep]⟩) (fun x=>d.cache.length-x.1) [.box 0,.box 1,.box 5,.arr 2,.arr 3,.arr 4] [.box 0,.box 1,.box 2,.arr 3,.arr 4,.arr 5] (fun _=>Z0)
 |_=>.none
noncomputable def b3K:Code:=Tryz.f124.body.getD .skip
theorem sP:Z7 Tryz.prog 124:=⟨_,Tryz.func124,by kernel_rfl,by kernel_rfl⟩
theorem b3d(d:Dsk)(h:
  (d.armed=true->∃(x:(Dsk×List Int)),(((zR d x.fst)/\(Y4 Y8 d.keep x.snd)/\True)/\pD x.fst/\PdB x.fst)/\((Y4 Z6 (u2 x.fst.sec x.fst.cache (kp x.snd) x.fst.cache.length) (V4 d).fst.sec)/\(0=(V4
  d).fst.cache.length/\Z8 0 (Z3 []) (Z3 (V4 d).fst.cache))/\false=(V4 d).fst.armed/\(0=(V4 d).fst.keep.length/\Z8 0 (Y8 []) (Y8 (V4 d).fst.keep))/\True)/\false=(V4 d).snd/\True)/\
  (d.armed=false->∃(x:Dsk),(((zR d x)/\True)/\pD x)/\(∃(x_1:{i:Nat//i<=d.cache.length}),((0=0/\0=0)/\(0=0/\0=0)/\(0=0/\0=0)/\(0:Int)=(x_1.val:Int)/\True)/\(1=1/\1=1/\zR d d)/\(1
  =1/\1=1/\Value.slice none 0 0=Value.slice none 0 0/\Value.slice none 0 0=Value.slice none 0 0/\false=false/\Value.slice none 0 0=Value.slice none 0 0/\True)/\(1=1/\1=1/\(0=0/\x.sec.length=d.sec.length)
  /\(0=0/\x.cache.length=d.cache.length)/\x.armed=d.armed/\(0=0/\x.keep.length=d.keep.length)/\True)/\(x.sec.length=d.sec.length/\Z8 x.sec.length (Z6 x.sec) (Z6 (u2 d.sec d.cache (fun(x:Nat)=>
  true) x_1.val)))/\(Y4 Z3 x.cache d.cache)/\(Y4 Y8 x.keep d.keep)/\True)/\∀(x:{i:Nat//i<=d.cache.length}),(decide ((x.val:Int)<(d.cache.length:Int))=true->X0 (x.val:Int) d.cache.length/\X0
  (x.val:Int) d.cache.length/\X0 (d.cache.getD (x.val:Int).toNat default).at_ d.sec.length/\Lt (0+(d.cache.getD (x.val:Int).toNat default).at_.toNat) d.sec.length/\X8 .i64 ((x.val:Int)+(1:Int))/\∃(y:{i:Nat//i<=
  d.cache.length}),(((0=0/\0=0)/\(0=0/\0=0)/\(0=0/\0=0)/\(x.val:Int)+(1:Int)=(y.val:Int)/\True)/\(1=1/\1=1/\zR d d)/\(1=1/\1=1/\Value.slice none 0 0=Value.slice none 0 0/\Value.slice none
  0 0=Value.slice none 0 0/\false=false/\Value.slice none 0 0=Value.slice none 0 0/\True)/\(1=1/\1=1/\(0=0/\d.sec.length=d.sec.length)/\(0=0/\d.cache.length=d.cache.length)/\d.armed=d.armed/\(0=0/\
  d.keep.length=d.keep.length)/\True)/\(d.sec.length=d.sec.length/\Z8 d.sec.length (setRow (Z6 (u2 d.sec d.cache (fun(x:Nat)=>true) x.val)) (0+(d.cache.getD (x.val:Int).toNat default).at_.toNat) 0 [T.str
  (d.cache.getD (x.val:Int).toNat default).d]) (Z6 (u2 d.sec d.cache (fun(x:Nat)=>true) y.val)))/\(Y4 Z3 d.cache d.cache)/\(Y4 Y8 d.keep d.keep)/\True)/\Lt (d.cache.length-y.val) (d.cache.length-x.val))
  /\(decide ((x.val:Int)<(d.cache.length:Int))=false->(Le (0+d.sec.length) d.sec.length/\Le 0 0/\Le (0+d.keep.length) d.keep.length)/\((d.sec.length=(V4 d).fst.sec.length/\Z8 d.sec.length (Z6 (u2 d.sec
  d.cache (fun(x:Nat)=>true) x.val)) (Z6 (V4 d).fst.sec))/\(0=(V4 d).fst.cache.length/\Z8 0 (fun(k:Nat)=>List.take 2 (List.drop (k*2) [])) (Z3 (V4 d).fst.cache))/\d.armed=(V4 d).fst.armed/\
  (Y4 Y8 d.keep (V4 d).fst.keep)/\True)/\true=(V4 d).snd/\True))):
  Z2 Tryz.prog 124 [.agg d.ts] (.tup [.agg (V4 d).1.ts,.bool (V4 d).2]):=
 T4 (code:=b3K) (gC a0Z jS (gC qT xH gN)) Tryz.func124 (by kernel_rfl) (by kernel_rfl) (b1T d) h (by kernel_rfl)
theorem nS:Z1 Tryz.prog 124 b3b:=by
 rintro(d:Dsk) ⟨⟨h1,h2,h3⟩,h4⟩;refine b3d d ⟨fun hd=> ?_,fun hd=> ?_⟩
 ·have e:V4 d=(crD d d.keep,false):=by unfold V4;rw[if_pos hd]
  rw[e];exact⟨(d,d.keep),⟨⟨xL _,⟨rfl,Z9 _ _⟩,trivial⟩,⟨h1,h2,h3⟩,h4⟩,(by repeat' first|exact trivial|exact rfl|exact Z9 _ _|exact U3 _|exact U1|exact S7 _|exact V5 _|exact T0 _|refine And.intro ?_ ?_)⟩
 ·have e:V4 d=(⟨u2 d.sec d.cache (fun _=>true) d.cache.length,[],d.armed,d.keep⟩,true):=by unfold V4;rw[if_neg (by rw[hd];simp)]
  rw[e];refine⟨d,⟨⟨xL _,trivial⟩,h1,h2,h3⟩,⟨⟨0,T0 _⟩,(by repeat' first|exact trivial|exact rfl|exact Z9 _ _|exact U3 _|exact U1|exact S7 _|exact V5 _|exact T0 _|refine And.intro ?_ ?_)⟩,fun x=>⟨fun hc=> ?_,fun hc=> ?_⟩⟩
  ·have hlt:=Y9 hc;have ha:=h4 x.val hlt;rw[v4];exact⟨Y7 hlt,Y7 hlt,ha,by unfold Lt;omega,Z5 (by omega),⟨x.val+1,hlt⟩,⟨⟨⟨rfl,rfl⟩,⟨rfl,rfl⟩,⟨rfl,rfl⟩,by dsimp only;omega,trivial⟩,⟨rfl,rfl,xL _⟩,(by repeat' first|exact trivial|exact rfl|exact Z9 _ _|exact U3 _|exact U1|exact S7 _|exact V5 _|exact T0 _|refine And.intro ?_ ?_),(by repeat' first|exact trivial|exact rfl|exact Z9 _ _|exact U3 _|exact U1|exact S7 _|exact V5 _|exact T0 _|refine And.intro ?_ ?_),⟨rfl,oW (Q:=fun _=>true) rfl⟩,(by repeat' first|exact trivial|exact rfl|exact Z9 _ _|exact U3 _|exact U1|exact S7 _|exact V5 _|exact T0 _|refine And.intro ?_ ?_)⟩,V9.ext_lt hlt⟩
  ·have hx:x.val=d.cache.length:=by have:=x.2;have:=Y3 hc;omega
   rw[hx];exact⟨(by repeat' first|exact trivial|exact rfl|exact Z9 _ _|exact U3 _|exact U1|exact S7 _|exact V5 _|exact T0 _|refine And.intro ?_ ?_),⟨⟨(y7 _ _ _ _).symm,Z9 _ _⟩,(by repeat' first|exact trivial|exact rfl|exact Z9 _ _|exact U3 _|exact U1|exact S7 _|exact V5 _|exact T0 _|refine And.intro ?_ ?_)⟩,(by repeat' first|exact trivial|exact rfl|exact Z9 _ _|exact U3 _|exact U1|exact S7 _|exact V5 _|exact T0 _|refine And.intro ?_ ?_)⟩
def c7J(l:List T):Option Ob:=some (.arr true 1000000 9 1 fun _=>l)
def a8e:Con:=.rel ⟨Sto×Int,fun x=>[.agg x.1.ts,.int .i64 x.2],fun x=>.tup [.agg (X1 x.1 x.2).1.ts,.bool (X1 x.1 x.2).2],fun x=>xO x.1 x.2⟩
def a71(s:Sto)(lsn:Int):Nat->Ann
 |0=>.one {i:Nat//i<=P6 s lsn} (fun x=>⟨[(1,.int .i64 lsn),(2,.ref 0 0 0),(4,.ref 1 0 0),(6,.int .i64 (s.sure+x.1+1))],[c7J (s.sd (wrN s x.1)).ts,b8g]⟩) (fun x=>P6 s lsn-x.1) [.box 0,.box 1] [.box 0,.box 1] (fun _=>Z0)
 |_=>.none
noncomputable def a8b:Code:=Tryz.f116.body.getD .skip
theorem iI:Z7 Tryz.prog 116:=⟨_,Tryz.func116,by kernel_rfl,by kernel_rfl⟩
theorem a8a(s:Sto)(lsn:Int)(h:
  (decide (lsn<=s.sure)=true->(xM s (X1 s lsn).fst)/\true=(X1 s lsn).snd/\True)/\(decide (lsn<=s.sure)=false->X8 .i64 (s.sure+(1:Int))/\(∃(x:{i:Nat//i<=P6 s lsn}),(lsn=lsn/\(0=0/\0=0)/\
  (0=0/\0=0)/\s.sure+(1:Int)=s.sure+(x.val:Int)+(1:Int)/\True)/\(1=1/\1=1/\(Y4 Z6 s.d.sec s.d.sec)/\(Y4 Z3 s.d.cache (s.d.cache++List.map (rU s) (List.range x.val)))/\s.d.armed=s.d.armed/\
  (Y4 Y8 s.d.keep s.d.keep)/\s.ep=s.ep/\(Y4 Y5 s.log s.log)/\s.sure=s.sure/\(Y4 V6 s.fr s.fr)/\s.hand=s.hand/\True)/\(1=1/\1=1/\Value.slice none 0 0=Value.slice none 0 0/\Value.slice none 0 0=
  Value.slice none 0 0/\false=false/\Value.slice none 0 0=Value.slice none 0 0/\(0:Int)=(0:Int)/\Value.slice none 0 0=Value.slice none 0 0/\(0:Int)=(0:Int)/\Value.slice none 0 0=Value.slice none 0 0/\(0:
  Int)=(0:Int)/\True)/\True)/\∀(x:{i:Nat//i<=P6 s lsn}),(decide (s.sure+(x.val:Int)+(1:Int)<=lsn)=true->X8 .i64 ((9:Int)+(s.sure+(x.val:Int)+(1:Int)))/\X8 .i64 ((9:Int)+(s.sure+
  (x.val:Int)+(1:Int))- (1:Int))/\X8 .i64 (s.sure+(x.val:Int)+(1:Int)- (1:Int))/\X0 (s.sure+(x.val:Int)+(1:Int)- (1:Int)) s.log.length/\∃(x_1:Rec),(((EqR (s.log.getD (s.sure+(x.val:Int)+(1:
  Int)- (1:Int)).toNat default) x_1)/\True)/\a5v x_1)/\∃(x_2:(Dsk×Int×List UInt8)),((((Y4 Z6 s.d.sec x_2.fst.sec)/\(Y4 Z3 (s.d.cache++List.map (rU s) (List.range x.val)) x_2.fst.cache)/\s.d.armed=
  x_2.fst.armed/\(Y4 Y8 s.d.keep x_2.fst.keep)/\True)/\(9:Int)+(s.sure+(x.val:Int)+(1:Int))- (1:Int)=x_2.snd.fst/\P7 x_1=x_2.snd.snd/\True)/\x_2.fst.cache.length<=1048576)/\X8 .i64 (s.sure+
  (x.val:Int)+(1:Int)+(1:Int))/\∃(y:{i:Nat//i<=P6 s lsn}),((lsn=lsn/\(0=0/\0=0)/\(0=0/\0=0)/\s.sure+(x.val:Int)+(1:Int)+(1:Int)=s.sure+(y.val:Int)+(1:Int)/\True)/\(1=1/\1=
  1/\(Y4 Z6 x_2.fst.sec s.d.sec)/\(Y4 Z3 (x_2.fst.cache++[Pend.mk x_2.snd.fst x_2.snd.snd]) (s.d.cache++List.map (rU s) (List.range y.val)))/\x_2.fst.armed=s.d.armed/\(Y4 Y8 x_2.fst.keep s.d.keep)/\s.ep=
  s.ep/\(Y4 Y5 s.log s.log)/\s.sure=s.sure/\(Y4 V6 s.fr s.fr)/\s.hand=s.hand/\True)/\(1=1/\1=1/\Value.slice none 0 0=Value.slice none 0 0/\Value.slice none 0 0=Value.slice none 0 0/\false=false/\
  Value.slice none 0 0=Value.slice none 0 0/\(0:Int)=(0:Int)/\Value.slice none 0 0=Value.slice none 0 0/\(0:Int)=(0:Int)/\Value.slice none 0 0=Value.slice none 0 0/\(0:Int)=(0:Int)/\True)/\True)/\Lt
  (P6 s lsn-y.val) (P6 s lsn-x.val))/\(decide (s.sure+(x.val:Int)+(1:Int)<=lsn)=false->∃(x_1:Dsk),((((Y4 Z6 s.d.sec x_1.sec)/\(Y4 Z3 (s.d.cache++List.map (rU s) (List.range x.val)) x_1.cache)/\
  s.d.armed=x_1.armed/\(Y4 Y8 s.d.keep x_1.keep)/\True)/\True)/\pD x_1/\PdB x_1)/\((V4 x_1).snd=true->((Y4 Z6 (V4 x_1).fst.sec (X1 s lsn).fst.d.sec)/\(Y4 Z3 (V4 x_1).fst.cache (X1 s
  lsn).fst.d.cache)/\(V4 x_1).fst.armed=(X1 s lsn).fst.d.armed/\(Y4 Y8 (V4 x_1).fst.keep (X1 s lsn).fst.d.keep)/\s.ep=(X1 s lsn).fst.ep/\(Y4 Y5 s.log (X1 s lsn).fst.log)/\lsn=(X1 s lsn).fst.sure/\
  (Y4 V6 s.fr (X1 s lsn).fst.fr)/\s.hand=(X1 s lsn).fst.hand/\True)/\(V4 x_1).snd=(X1 s lsn).snd/\True)/\((V4 x_1).snd=false->((Y4 Z6 (V4 x_1).fst.sec (X1 s lsn).fst.d.sec)/\(Y4 Z3 (V4
  x_1).fst.cache (X1 s lsn).fst.d.cache)/\(V4 x_1).fst.armed=(X1 s lsn).fst.d.armed/\(Y4 Y8 (V4 x_1).fst.keep (X1 s lsn).fst.d.keep)/\s.ep=(X1 s lsn).fst.ep/\(Y4 Y5 s.log (X1 s lsn).fst.log)/\s.sure
  =(X1 s lsn).fst.sure/\(Y4 V6 s.fr (X1 s lsn).fst.fr)/\s.hand=(X1 s lsn).fst.hand/\True)/\(V4 x_1).snd=(X1 s lsn).snd/\True)))):
  Z2 Tryz.prog 116 [.agg s.ts,.int .i64 lsn] (.tup [.agg (X1 s lsn).1.ts,.bool (X1 s lsn).2]):=
 T4 (code:=a8b) (gC a2y iQ (gC a3M jC (gC nS sP gN))) Tryz.func116 (by kernel_rfl) (by kernel_rfl) (a71 s lsn) h (by kernel_rfl)
theorem a3l:Z1 Tryz.prog 116 a8e:=by
 rintro⟨s,lsn⟩ h;dsimp only at h;have hn:=fun i=>cE (i:=i) h
 have hw:=b5M h;obtain⟨⟨a1,a2,a3⟩,h2,h3,h4,h5,h6,h7,h8,h9⟩:=h;have hN:P6 s lsn<=60:=by unfold P6;omega
 refine a8a s lsn ⟨fun hc=> ?_,fun hc=> ?_⟩
 ·rw[qL (D8 hc)];exact(by repeat' first|exact trivial|exact rfl|exact Z9 _ _|exact U3 _|exact U1|exact S7 _|exact V5 _|exact T0 _|refine And.intro ?_ ?_)
 ·have hc:=yQ hc;refine⟨Z5 (by omega),⟨⟨0,T0 _⟩,⟨rfl,⟨rfl,rfl⟩,⟨rfl,rfl⟩,by dsimp only;omega,trivial⟩,⟨rfl,rfl,⟨rfl,Z9 _ _⟩,⟨by simp,fun i _=>by simp⟩,(by repeat' first|exact trivial|exact rfl|exact Z9 _ _|exact U3 _|exact U1|exact S7 _|exact V5 _|exact T0 _|refine And.intro ?_ ?_)⟩,(by repeat' first|exact trivial|exact rfl|exact Z9 _ _|exact U3 _|exact U1|exact S7 _|exact V5 _|exact T0 _|refine And.intro ?_ ?_)⟩,fun x=>⟨fun hx=> ?_,fun hx=> ?_⟩⟩
  ·have hlt:x.val<P6 s lsn:=by have:=D8 hx;unfold P6;omega
   obtain⟨e,hb,q⟩:=hn x.val hlt;rw[show(s.sure+(x.val:Int)+1-1).toNat=s.sure.toNat+x.val by omega]
   refine⟨Z5 (by omega),Z5 (by omega),Z5 (by omega),⟨by omega,by omega⟩,_,⟨⟨⟨rfl,rfl,rfl,rfl,rfl,rfl,rfl,rfl,rfl,rfl,trivial⟩,trivial⟩,hb⟩,(wrN s x.val,(rU s x.val).at_,P7 (s.log.getD (s.sure.toNat+x.val) default)),⟨⟨(by repeat' first|exact trivial|exact rfl|exact Z9 _ _|exact U3 _|exact U1|exact S7 _|exact V5 _|exact T0 _|refine And.intro ?_ ?_),by show _=(rU s x.val).at_;rw[e];omega,rfl,trivial⟩,?_⟩,Z5 (by omega),⟨x.val+1,hlt⟩,⟨⟨rfl,⟨rfl,rfl⟩,⟨rfl,rfl⟩,by dsimp only;omega,trivial⟩,⟨rfl,rfl,⟨rfl,Z9 _ _⟩,⟨congrArg List.length (xJ s x.val),fun i _=>congrArg (fun L=>Z3 L i) (xJ s x.val)⟩,(by repeat' first|exact trivial|exact rfl|exact Z9 _ _|exact U3 _|exact U1|exact S7 _|exact V5 _|exact T0 _|refine And.intro ?_ ?_)⟩,(by repeat' first|exact trivial|exact rfl|exact Z9 _ _|exact U3 _|exact U1|exact S7 _|exact V5 _|exact T0 _|refine And.intro ?_ ?_)⟩,V9.ext_lt hlt⟩
   show(s.d.cache++List.map (rU s) (List.range _)).length<=1048576;simp only[s7,List.length_map,j_i];omega
  ·have hx:x.val=P6 s lsn:=by have:=x.2;have:=yQ hx;unfold P6 at*;omega
   rw[hx,qV hc];refine⟨wrN s (P6 s lsn),⟨⟨(by repeat' first|exact trivial|exact rfl|exact Z9 _ _|exact U3 _|exact U1|exact S7 _|exact V5 _|exact T0 _|refine And.intro ?_ ?_),trivial⟩,hw⟩,fun hy=>⟨⟨⟨rfl,Z9 _ _⟩,⟨rfl,Z9 _ _⟩,rfl,⟨rfl,Z9 _ _⟩,rfl,⟨rfl,Z9 _ _⟩,(if_pos hy).symm,(by repeat' first|exact trivial|exact rfl|exact Z9 _ _|exact U3 _|exact U1|exact S7 _|exact V5 _|exact T0 _|refine And.intro ?_ ?_)⟩,(by repeat' first|exact trivial|exact rfl|exact Z9 _ _|exact U3 _|exact U1|exact S7 _|exact V5 _|exact T0 _|refine And.intro ?_ ?_)⟩,fun hy=>⟨⟨⟨rfl,Z9 _ _⟩,⟨rfl,Z9 _ _⟩,rfl,⟨rfl,Z9 _ _⟩,rfl,⟨rfl,Z9 _ _⟩,(if_neg (by rw[hy];simp)).symm,(by repeat' first|exact trivial|exact rfl|exact Z9 _ _|exact U3 _|exact U1|exact S7 _|exact V5 _|exact T0 _|refine And.intro ?_ ?_)⟩,(by repeat' first|exact trivial|exact rfl|exact Z9 _ _|exact U3 _|exact U1|exact S7 _|exact V5 _|exact T0 _|refine And.intro ?_ ?_)⟩⟩
end Go.Proofs.YtokaojbaacnngaaGreat

