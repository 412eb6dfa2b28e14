/- A part of the proof. -/
import Derived.Test.YtokaojbaacnngaaGreatE7E8
namespace Go.Proofs.YtokaojbaacnngaaGreat
set_option maxRecDepth 100000
open Go.SS

def u5(row:Nat->List T)(z:List T)(i j:Nat):List T:=if j<i then row j else z
theorem q7{row:Nat->List T}{z cs:List T}{m:Nat}(hr:∀j,(row j).length=m)(hz:z.length=m)(i:Nat)(hc:cs=row i)(j:Nat):setRow (u5 row z i) (0+(i:Int).toNat) 0 cs j=u5 row z (i+1) j:=by
 have hl:(u5 row z i j).length=m:=by unfold u5;split<;>simp only[hr,hz]
 rw[z9 (by rw[hl,hc,hr]),show 0+(i:Int).toNat=i by omega]
 by_cases hji:j=i
 ·subst hji;rw[show Nat.beq j j=true from by simp]
  show cs=u5 row z (j+1) j;unfold u5;rw[if_pos (Nat.lt_succ_self j)];exact hc
 ·rw[show Nat.beq j i=false from Bool.eq_false_iff.2 fun h=>hji (Nat.eq_of_beq_eq_true h)]
  show u5 row z i j=u5 row z (i+1) j;unfold u5;by_cases h2:j<i
  ·rw[if_pos h2,if_pos (by omega)]
  ·rw[if_neg h2,if_neg (by omega)]
theorem a0w{row:Nat->List T}{z:List T}{n:Nat}:Z7 n (u5 row z n) row:=fun i hi=>by unfold u5;rw[if_pos hi]
theorem i7{row:Nat->List T}{z:List T}{n:Nat}:Z7 n (fun _=>z) (u5 row z 0):=fun i hi=>by unfold u5;rw[if_neg (by omega)]
def Lim(n:Nat):Prop:=n<=9223372036854775807

def L7(s:List UInt8):Nat:=s.length
def a4F:Rl:=⟨List (List UInt8)×Int,fun x=>[L6 x.1,.int .i64 x.2],fun x=>.int .i64 (rem x.2 (V4 L7 x.1)),fun x=>I4 x.2/\Lim x.1.length/\∀i,i<x.1.length->Lim (x.1.getD i []).length⟩
def c6F:Con:=.rel a4F
def c6q(L:List (List UInt8))(left:Int):Nat->Ann
 |0=>.one {i:Nat//i<=L.length/\(W6 L7 L L.length i:Int)<=left} (fun x=>⟨[(0,L6 L),(1,.int .i64 (left-W6 L7 L L.length x.1)),(5,.int .i64 x.1)],[]⟩) (fun x=>L.length-x.1) [] [] (fun _=>Z0)
 |_=>.none
noncomputable def c7a:Code:=Tryz.f132.body.getD .skip
theorem a26:Z8 Tryz.prog 132:=⟨_,Tryz.func132,by kernel_rfl,by kernel_rfl⟩
theorem c8p(L:List (List UInt8))(left:Int)(h:
  X6 .i64 (left- (L.length:Int))/\(decide (left- (L.length:Int)<(0:Int))=true->(-1:Int)=rem left (V4 L7 L))/\(decide (left- (L.length:Int)<(0:Int))=false->(∃(x:{i:Nat//i<=L.length/\(↑(W6
  L7 L L.length i):Int)<=left}),((Y3 Z6 L L)/\left- (L.length:Int)=left- (↑(W6 L7 L L.length x.val):Int)/\(0:Int)=(x.val:Int)/\True)/\True)/\∀(x:{i:Nat//i<=L.length/\(↑(W6 L7 L
  L.length i):Int)<=left}),(decide ((x.val:Int)<(L.length:Int))=true->W7 (x.val:Int) L.length/\X6 .i64 (left- (↑(W6 L7 L L.length x.val):Int)- (↑(L.getD (x.val:Int).toNat []).length:Int))/\(decide (left-
  (↑(W6 L7 L L.length x.val):Int)- (↑(L.getD (x.val:Int).toNat []).length:Int)<(0:Int))=true->(-1:Int)=rem left (V4 L7 L))/\(decide (left- (↑(W6 L7 L L.length x.val):Int)- (↑(L.getD
  (x.val:Int).toNat []).length:Int)<(0:Int))=false->X6 .i64 ((x.val:Int)+(1:Int))/\∃(y:{i:Nat//i<=L.length/\(↑(W6 L7 L L.length i):Int)<=left}),(((Y3 Z6 L L)/\left- (↑(W6 L7 L
  L.length x.val):Int)- (↑(L.getD (x.val:Int).toNat []).length:Int)=left- (↑(W6 L7 L L.length y.val):Int)/\(x.val:Int)+(1:Int)=(y.val:Int)/\True)/\True)/\Lt (L.length-y.val) (L.length-x.val)))/\(decide
  ((x.val:Int)<(L.length:Int))=false->left- (↑(W6 L7 L L.length x.val):Int)=rem left (V4 L7 L)))):
  Z1 Tryz.prog 132 [L6 L,.int .i64 left] (.int .i64 (rem left (V4 L7 L))):=
 T7 (code:=c7a) gN Tryz.func132 (by kernel_rfl) (by kernel_rfl) (c6q L left) h (by kernel_rfl)
theorem a6P:Z2 Tryz.prog 132 c6F:=by
 rintro⟨L,left⟩ ⟨⟨h0,h1⟩,hn,hb⟩;have hn:L.length<=9223372036854775807:=hn;simp only at h0 h1 hb;have hm:∀i,i<=L.length->W6 L7 L L.length i<=V4 L7 L:=fun i hi=>H8 _ _ _ hi
 have hz:W6 L7 L L.length 0=L.length:=rfl;refine c8p L left ?_
 simp only[D3,decide_eq_true_eq,decide_eq_false_iff_not];refine⟨by omega,fun h=>(O9 (by have:=hm 0 (Nat.zero_le _);omega)).symm,fun h=>⟨⟨⟨0,Nat.zero_le _,by omega⟩,⟨⟨(by trivial),Z9 _ _⟩,by simp only[hz],rfl,trivial⟩,trivial⟩,fun x=>⟨fun hc=> ?_,fun hc=> ?_⟩⟩⟩
 ·have hlt:x.val<L.length:=by omega
  have hx:=x.2;have hs:=A8 L7 L L.length [] hlt;have hle:=hm (x.val+1) hlt;have hbr:(L.getD x.val []).length<=9223372036854775807:=hb _ hlt;unfold L7 at hs hx hle ⊢;rw[Int.toNat_natCast];refine⟨Y8 hlt,by omega,fun hr=>(O9 (by unfold L7 at*;omega)).symm,fun hr=>⟨by omega,⟨x.val+1,hlt,by unfold L7;omega⟩,⟨⟨⟨(by trivial),Z9 _ _⟩,by unfold L7;simp only;omega,by simp only;omega,trivial⟩,trivial⟩,W5.ext_lt hlt⟩⟩
 ·have hx:=x.2;have he:x.val=L.length:=by omega
  rw[he] at hx ⊢;exact(L0 hx.2).symm
def c5W(L:List (List UInt8)):Nat->Ann
 |0=>.one {i:Nat//i<=L.length} (fun x=>⟨[(0,L6 L),(3,.osl 0 0 L.length),(4,.int .i64 x.1)],[some (.arr true 0 1 L.length (u5 (Z6 L) [.str []] x.1))]⟩) (fun x=>L.length-x.1) [.arr 0] [.arr 0] (fun _=>Z0)
 |_=>.none
def a31:Rl:=⟨List (List UInt8),fun L=>[L6 L,L6 L],fun _=>.bool true,fun L=>L.length<=1048576⟩
def c8u:Con:=.rel a31
def c4D(L:List (List UInt8)):Nat->Ann
 |0=>.one {i:Nat//i<=L.length} (fun x=>⟨[(0,L6 L),(1,L6 L),(5,.int .i64 x.1)],[]⟩) (fun x=>L.length-x.1) [] [] (fun _=>Z0)
 |_=>.none
noncomputable def c6r:Code:=Tryz.f167.body.getD .skip
theorem a3f:Z8 Tryz.prog 167:=⟨_,Tryz.func167,by kernel_rfl,by kernel_rfl⟩
theorem c8y(L:List (List UInt8))(h:
  (((L.length:Int) !=(L.length:Int))=true->false=true)/\(((L.length:Int) !=(L.length:Int))=false->(∃(x:{i:Nat//i<=L.length}),((Y3 Z6 L L)/\(Y3 Z6 L L)/\(0:Int)=(x.val:Int)/\True)/\True)/\∀(x
  :{i:Nat//i<=L.length}),(decide ((x.val:Int)<(L.length:Int))=true->W7 (x.val:Int) L.length/\W7 (x.val:Int) L.length/\((!L.getD (x.val:Int).toNat []==L.getD (x.val:Int).toNat [])=true->false=true)/\
  ((!L.getD (x.val:Int).toNat []==L.getD (x.val:Int).toNat [])=false->X6 .i64 ((x.val:Int)+(1:Int))/\∃(y:{i:Nat//i<=L.length}),(((Y3 Z6 L L)/\(Y3 Z6 L L)/\(x.val:Int)+(1:Int)=(y.val:Int)/\
  True)/\True)/\Lt (L.length-y.val) (L.length-x.val)))/\(decide ((x.val:Int)<(L.length:Int))=false->true=true))):
  Z1 Tryz.prog 167 [L6 L,L6 L] (.bool true):=
 T7 (code:=c6r) gN Tryz.func167 (by kernel_rfl) (by kernel_rfl) (c4D L) h (by kernel_rfl)
theorem a6N:Z2 Tryz.prog 167 c8u:=by
 intro(L:List (List UInt8)) (hL:L.length<=1048576);refine c8y L ⟨fun h=>by simp at h,fun _=>⟨⟨⟨0,Nat.zero_le _⟩,⟨⟨(by trivial),Z9 _ _⟩,⟨(by trivial),Z9 _ _⟩,rfl,trivial⟩,trivial⟩,fun x=>⟨fun hc=> ?_,fun _=>rfl⟩⟩⟩
 have hlt:=Y6 hc;exact⟨Y8 hlt,Y8 hlt,fun h=>by simp at h,fun _=>⟨W8 hlt (by omega),⟨x.val+1,hlt⟩,⟨⟨⟨(by trivial),Z9 _ _⟩,⟨(by trivial),Z9 _ _⟩,by simp only;omega,trivial⟩,trivial⟩,W5.ext_lt hlt⟩⟩
def b1O:Rl:=⟨List Int×Int,fun x=>[w4 x.1,.int .i64 x.2],fun x=>.int .i64 (rem x.2 x.1.length),fun x=>I4 x.2/\Lim x.1.length⟩
def c44:Con:=.rel b1O
noncomputable def c8U:Code:=Tryz.f134.body.getD .skip
theorem b1u:Z8 Tryz.prog 134:=⟨_,Tryz.func134,by kernel_rfl,by kernel_rfl⟩
theorem c8d(L:List Int)(left:Int)(h:
  X6 .i64 (left- (L.length:Int))/\(decide (left- (L.length:Int)<(0:Int))=true->(-1:Int)=rem left L.length)/\(decide (left- (L.length:Int)<(0:Int))=false->left- (L.length:Int)=rem left L.length)):
  Z1 Tryz.prog 134 [w4 L,.int .i64 left] (.int .i64 (rem left L.length)):=
 T7 (code:=c8U) gN Tryz.func134 (by kernel_rfl) (by kernel_rfl) Z0 h (by kernel_rfl)
theorem c26:Z2 Tryz.prog 134 c44:=by
 rintro⟨L,left⟩ ⟨⟨h0,h1⟩,hn⟩;have hn:L.length<=9223372036854775807:=hn;simp only at h0 h1;refine c8d L left ?_
 simp only[D3,decide_eq_true_eq,decide_eq_false_iff_not];exact⟨by omega,fun h=>(O9 (by omega)).symm,fun h=>(L0 (by omega)).symm⟩
def c8o(L:List Int):Nat->Ann
 |0=>.one {i:Nat//i<=L.length} (fun x=>⟨[(0,w4 L),(3,.osl 0 0 L.length),(4,.int .i64 x.1)],[some (.arr true 0 1 L.length (u5 (Y7 L) [.int .i64 0] x.1))]⟩) (fun x=>L.length-x.1) [.arr 0] [.arr 0] (fun _=>Z0)
 |_=>.none
def b1A:Rl:=⟨List Int,fun L=>[w4 L,w4 L],fun _=>.bool true,fun L=>L.length<=1048576⟩
def c4r:Con:=.rel b1A
def c7H(L:List Int):Nat->Ann
 |0=>.one {i:Nat//i<=L.length} (fun x=>⟨[(0,w4 L),(1,w4 L),(5,.int .i64 x.1)],[]⟩) (fun x=>L.length-x.1) [] [] (fun _=>Z0)
 |_=>.none
noncomputable def c4A:Code:=Tryz.f16.body.getD .skip
theorem b12:Z8 Tryz.prog 16:=⟨_,Tryz.func16,by kernel_rfl,by kernel_rfl⟩
theorem c7Y(L:List Int)(h:
  (((L.length:Int) !=(L.length:Int))=true->false=true)/\(((L.length:Int) !=(L.length:Int))=false->(∃(x:{i:Nat//i<=L.length}),((Y3 Y7 L L)/\(Y3 Y7 L L)/\(0:Int)=(x.val:Int)/\True)/\True)/\∀(x
  :{i:Nat//i<=L.length}),(decide ((x.val:Int)<(L.length:Int))=true->W7 (x.val:Int) L.length/\W7 (x.val:Int) L.length/\((L.getD (x.val:Int).toNat (0:Int) !=L.getD (x.val:Int).toNat (0:Int))=true->false=
  true)/\((L.getD (x.val:Int).toNat (0:Int) !=L.getD (x.val:Int).toNat (0:Int))=false->X6 .i64 ((x.val:Int)+(1:Int))/\∃(y:{i:Nat//i<=L.length}),(((Y3 Y7 L L)/\(Y3 Y7 L L)/\(x.val:Int)+(1:
  Int)=(y.val:Int)/\True)/\True)/\Lt (L.length-y.val) (L.length-x.val)))/\(decide ((x.val:Int)<(L.length:Int))=false->true=true))):
  Z1 Tryz.prog 16 [w4 L,w4 L] (.bool true):=
 T7 (code:=c4A) gN Tryz.func16 (by kernel_rfl) (by kernel_rfl) (c7H L) h (by kernel_rfl)
theorem c1q:Z2 Tryz.prog 16 c4r:=by
 intro(L:List Int) (hL:L.length<=1048576);refine c7Y L ⟨fun h=>by simp at h,fun _=>⟨⟨⟨0,Nat.zero_le _⟩,⟨⟨(by trivial),Z9 _ _⟩,⟨(by trivial),Z9 _ _⟩,rfl,trivial⟩,trivial⟩,fun x=>⟨fun hc=> ?_,fun _=>rfl⟩⟩⟩
 have hlt:=Y6 hc;exact⟨Y8 hlt,Y8 hlt,fun h=>by simp at h,fun _=>⟨W8 hlt (by omega),⟨x.val+1,hlt⟩,⟨⟨⟨(by trivial),Z9 _ _⟩,⟨(by trivial),Z9 _ _⟩,by simp only;omega,trivial⟩,trivial⟩,W5.ext_lt hlt⟩⟩
def R3(p:Pend):Nat:=p.d.length
def LmP(p:Pend):Prop:=Lim p.d.length
def SmP(_:Pend):Prop:=True
def b0H:Rl:=⟨Pend×Int,fun x=>[.agg x.1.ts,.int .i64 x.2],fun x=>.int .i64 (rem x.2 (R3 x.1)),fun x=>I4 x.2/\LmP x.1⟩
def c5g:Con:=.rel b0H
def b2R:Rl:=⟨Pend,fun r=>[.agg r.ts],fun r=>.agg r.ts,SmP⟩
def c7R:Con:=.rel b2R
def b2l:Rl:=⟨Pend,fun r=>[.agg r.ts,.agg r.ts],fun _=>.bool true,SmP⟩
def c7b:Con:=.rel b2l
noncomputable def c8m:Code:=Tryz.f198.body.getD .skip
theorem b0W:Z8 Tryz.prog 198:=⟨_,Tryz.func198,by kernel_rfl,by kernel_rfl⟩
theorem c81(r:Pend)(left:Int)(h:
  X6 .i64 (left- (r.d.length:Int))/\(decide (left- (r.d.length:Int)<(0:Int))=true->(-1:Int)=rem left (R3 r))/\(decide (left- (r.d.length:Int)<(0:Int))=false->left- (r.d.length:Int)=rem left (R3 r))):
  Z1 Tryz.prog 198 [.agg r.ts,.int .i64 left] (.int .i64 (rem left (R3 r))):=
 T7 (code:=c8m) gN Tryz.func198 (by kernel_rfl) (by kernel_rfl) Z0 h (by kernel_rfl)
theorem c00:Z2 Tryz.prog 198 c5g:=by
 rintro⟨r,left⟩ ⟨⟨h0,h1⟩,hb⟩;have hb:r.d.length<=9223372036854775807:=hb;simp only at h0 h1;refine c81 r left ?_
 simp only[D3,decide_eq_true_eq,decide_eq_false_iff_not];have e:((R3 r:Nat):Int)=r.d.length:=rfl;exact⟨by omega,fun h=>(O9 (by omega)).symm,fun h=>by rw[L0 (by omega)];omega⟩
noncomputable def c52:Code:=Tryz.f204.body.getD .skip
theorem a9M:Z8 Tryz.prog 204:=⟨_,Tryz.func204,by kernel_rfl,by kernel_rfl⟩
theorem c6b(r:Pend)(h:
  r.at_=r.at_/\r.d=r.d/\True):
  Z1 Tryz.prog 204 [.agg r.ts] (.agg r.ts):=
 T7 (code:=c52) gN Tryz.func204 (by kernel_rfl) (by kernel_rfl) Z0 h (by kernel_rfl)
theorem c1V:Z2 Tryz.prog 204 c7R:=fun r _=>c6b r ⟨rfl,rfl,trivial⟩
noncomputable def c6d:Code:=Tryz.f227.body.getD .skip
theorem b1t:Z8 Tryz.prog 227:=⟨_,Tryz.func227,by kernel_rfl,by kernel_rfl⟩
theorem c4C(r:Pend)(h:
  ((r.at_ !=r.at_)=true->false=true)/\((r.at_ !=r.at_)=false->((!r.d==r.d)=true->false=true)/\((!r.d==r.d)=false->true=true))):
  Z1 Tryz.prog 227 [.agg r.ts,.agg r.ts] (.bool true):=
 T7 (code:=c6d) gN Tryz.func227 (by kernel_rfl) (by kernel_rfl) Z0 h (by kernel_rfl)
theorem c1E:Z2 Tryz.prog 227 c7b:=by
 intro r _;refine c4C r ?_
 simp
def a6W:Rl:=⟨List Pend×Int,fun x=>[M0 x.1,.int .i64 x.2],fun x=>.int .i64 (rem x.2 (V4 R3 x.1)),fun x=>I4 x.2/\Lim x.1.length/\∀i,i<x.1.length->LmP (x.1.getD i default)⟩
def c1b:Con:=.rel a6W
def b9t(L:List Pend)(left:Int):Nat->Ann
 |0=>.one {i:Nat//i<=L.length/\(W6 R3 L L.length i:Int)<=left} (fun x=>⟨[(0,M0 L),(1,.int .i64 (left-W6 R3 L L.length x.1)),(5,.int .i64 x.1)],[]⟩) (fun x=>L.length-x.1) [] [] (fun _=>Z0)
 |_=>.none
noncomputable def c0b:Code:=Tryz.f133.body.getD .skip
theorem a8p:Z8 Tryz.prog 133:=⟨_,Tryz.func133,by kernel_rfl,by kernel_rfl⟩
theorem c2U(L:List Pend)(left:Int)(h:
  X6 .i64 (left- (L.length:Int))/\(decide (left- (L.length:Int)<(0:Int))=true->(-1:Int)=rem left (V4 R3 L))/\(decide (left- (L.length:Int)<(0:Int))=false->(∃(x:{i:Nat//i<=L.length/\(↑(W6
  R3 L L.length i):Int)<=left}),((Y3 Z3 L L)/\left- (L.length:Int)=left- (↑(W6 R3 L L.length x.val):Int)/\(0:Int)=(x.val:Int)/\True)/\True)/\∀(x:{i:Nat//i<=L.length/\(↑(W6 R3 L
  L.length i):Int)<=left}),(decide ((x.val:Int)<(L.length:Int))=true->W7 (x.val:Int) L.length/\∃(x_1:b0H.ι),((((L.getD (x.val:Int).toNat default).at_=x_1.fst.at_/\(L.getD (x.val:Int).toNat default).d=
  x_1.fst.d/\True)/\left- (↑(W6 R3 L L.length x.val):Int)=x_1.snd/\True)/\I4 x_1.snd/\LmP x_1.fst)/\(decide (rem x_1.snd (R3 x_1.fst)<(0:Int))=true->(-1:Int)=rem left (V4 R3 L))/\(decide (rem
  x_1.snd (R3 x_1.fst)<(0:Int))=false->X6 .i64 ((x.val:Int)+(1:Int))/\∃(y:{i:Nat//i<=L.length/\(↑(W6 R3 L L.length i):Int)<=left}),(((Y3 Z3 L L)/\rem x_1.snd (R3 x_1.fst)=left-
  (↑(W6 R3 L L.length y.val):Int)/\(x.val:Int)+(1:Int)=(y.val:Int)/\True)/\True)/\Lt (L.length-y.val) (L.length-x.val)))/\(decide ((x.val:Int)<(L.length:Int))=false->left- (↑(W6 R3 L L.length
  x.val):Int)=rem left (V4 R3 L)))):
  Z1 Tryz.prog 133 [M0 L,.int .i64 left] (.int .i64 (rem left (V4 R3 L))):=
 T7 (code:=c0b) (gC c00 b0W gN) Tryz.func133 (by kernel_rfl) (by kernel_rfl) (b9t L left) h (by kernel_rfl)
theorem b5M:Z2 Tryz.prog 133 c1b:=by
 rintro⟨L,left⟩ ⟨⟨h0,h1⟩,hn,hb⟩;have hn:L.length<=9223372036854775807:=hn;simp only at h0 h1 hb;have hm:∀i,i<=L.length->W6 R3 L L.length i<=V4 R3 L:=fun i hi=>H8 _ _ _ hi
 have hz:W6 R3 L L.length 0=L.length:=rfl;refine c2U L left ?_
 simp only[D3,decide_eq_true_eq,decide_eq_false_iff_not];refine⟨by omega,fun h=>(O9 (by have:=hm 0 (Nat.zero_le _);omega)).symm,fun h=>⟨⟨⟨0,Nat.zero_le _,by omega⟩,⟨⟨(by trivial),Z9 _ _⟩,by simp only[hz],rfl,trivial⟩,trivial⟩,fun x=>⟨fun hc=> ?_,fun hc=> ?_⟩⟩⟩
 ·have hlt:x.val<L.length:=by omega
  have hx:=x.2;have hs:=A8 R3 L L.length default hlt;have hle:=hm (x.val+1) hlt;have hbr:=hb _ hlt;refine⟨Y8 hlt,(L.getD x.val default,left- (W6 R3 L L.length x.val:Int)),⟨⟨⟨rfl,rfl,trivial⟩,rfl,trivial⟩,⟨by simp only;omega,by simp only;omega⟩,hbr⟩,fun hr=> ?_,fun hr=>⟨by omega,⟨x.val+1,hlt,?_⟩,⟨⟨⟨(by trivial),Z9 _ _⟩,?_,by simp only;omega,trivial⟩,trivial⟩,W5.ext_lt hlt⟩⟩
  ·simp only at hr;by_cases hq:(R3 (L.getD x.val default):Int)<=left- (W6 R3 L L.length x.val:Int)
   ·rw[L0 hq] at hr;omega
   ·exact(O9 (by omega)).symm
  ·simp only at hr;by_cases hq:(R3 (L.getD x.val default):Int)<=left- (W6 R3 L L.length x.val:Int)
   ·omega
   ·rw[O9 (by omega)] at hr
    omega
  ·simp only at hr ⊢;by_cases hq:(R3 (L.getD x.val default):Int)<=left- (W6 R3 L L.length x.val:Int)
   ·rw[L0 hq];omega
   ·rw[O9 (by omega)] at hr
    omega
 ·have hx:=x.2;have he:x.val=L.length:=by omega
  rw[he] at hx ⊢;exact(L0 hx.2).symm
def b9Z(L:List Pend):Nat->Ann
 |0=>.one {i:Nat//i<=L.length} (fun x=>⟨[(0,M0 L),(3,.osl 0 0 L.length),(4,.int .i64 x.1)],[some (.arr true 0 2 L.length (u5 (Z3 L) [.int .i64 0,.str []] x.1))]⟩) (fun x=>L.length-x.1) [.arr 0] [.arr 0] (fun _=>Z0)
 |_=>.none
def a6z:Rl:=⟨List Pend,fun L=>[M0 L,M0 L],fun _=>.bool true,fun L=>L.length<=1048576/\∀i,i<L.length->SmP (L.getD i default)⟩
def c2V:Con:=.rel a6z
def b85(L:List Pend):Nat->Ann
 |0=>.one {i:Nat//i<=L.length} (fun x=>⟨[(0,M0 L),(1,M0 L),(5,.int .i64 x.1)],[]⟩) (fun x=>L.length-x.1) [] [] (fun _=>Z0)
 |_=>.none
noncomputable def c0i:Code:=Tryz.f168.body.getD .skip
theorem a7Q:Z8 Tryz.prog 168:=⟨_,Tryz.func168,by kernel_rfl,by kernel_rfl⟩
theorem c0T(L:List Pend)(h:
  (((L.length:Int) !=(L.length:Int))=true->false=true)/\(((L.length:Int) !=(L.length:Int))=false->(∃(x:{i:Nat//i<=L.length}),((Y3 Z3 L L)/\(Y3 Z3 L L)/\(0:Int)=(x.val:Int)/\True)/\True)/\∀
  (x:{i:Nat//i<=L.length}),(decide ((x.val:Int)<(L.length:Int))=true->W7 (x.val:Int) L.length/\W7 (x.val:Int) L.length/\∃(x_1:b2l.ι),((((L.getD (x.val:Int).toNat default).at_=x_1.at_/\(L.getD
  (x.val:Int).toNat default).d=x_1.d/\True)/\((L.getD (x.val:Int).toNat default).at_=x_1.at_/\(L.getD (x.val:Int).toNat default).d=x_1.d/\True)/\True)/\SmP x_1)/\(false=true->false=true)/\(false=false->X6 .i64
  ((x.val:Int)+(1:Int))/\∃(y:{i:Nat//i<=L.length}),(((Y3 Z3 L L)/\(Y3 Z3 L L)/\(x.val:Int)+(1:Int)=(y.val:Int)/\True)/\True)/\Lt (L.length-y.val) (L.length-x.val)))/\(decide ((x.val:Int)<
  (L.length:Int))=false->true=true))):
  Z1 Tryz.prog 168 [M0 L,M0 L] (.bool true):=
 T7 (code:=c0i) (gC c1E b1t gN) Tryz.func168 (by kernel_rfl) (by kernel_rfl) (b85 L) h (by kernel_rfl)
theorem b6Z:Z2 Tryz.prog 168 c2V:=by
 rintro(L:List Pend) ⟨hL,hb⟩;refine c0T L ⟨fun h=>by simp at h,fun _=>⟨⟨⟨0,Nat.zero_le _⟩,⟨⟨(by trivial),Z9 _ _⟩,⟨(by trivial),Z9 _ _⟩,rfl,trivial⟩,trivial⟩,fun x=>⟨fun hc=> ?_,fun _=>rfl⟩⟩⟩
 have hlt:=Y6 hc;exact⟨Y8 hlt,Y8 hlt,L.getD x.val default,⟨⟨⟨rfl,rfl,trivial⟩,⟨rfl,rfl,trivial⟩,trivial⟩,hb _ hlt⟩,fun h=>h,fun _=>⟨W8 hlt (by omega),⟨x.val+1,hlt⟩,⟨⟨⟨(by trivial),Z9 _ _⟩,⟨(by trivial),Z9 _ _⟩,by simp only;omega,trivial⟩,trivial⟩,W5.ext_lt hlt⟩⟩
end Go.Proofs.YtokaojbaacnngaaGreat

namespace Go.Proofs.YtokaojbaacnngaaGreat
set_option maxRecDepth 100000
open Go.SS

theorem G5{left:Int}{a b:Nat}(h:rem left a<0)(hab:a<=b):rem left b= -1:=by
 refine O9 ?_
 by_cases hq:(a:Int)<=left
 ·rw[L0 hq] at h;omega
 ·omega
theorem a0p{left:Int}{a b c:Nat}(h:¬rem left a<0)(hl:I4 left)(hc:c=a+b):rem (rem left a) b=rem left c/\I4 (rem left a):=by
 by_cases hq:(a:Int)<=left
 ·rw[L0 hq] at h ⊢;obtain⟨h0,h1⟩:=hl;refine⟨?_,by constructor<;>omega⟩
  by_cases hr:(c:Int)<=left
  ·rw[L0 hr,L0 (by omega)]
   omega
  ·rw[O9 (by omega),O9 (by omega)]
 ·rw[O9 (by omega)] at h
  omega
def C2(d:Dsk):Nat:=V4 L7 d.sec+V4 R3 d.cache+d.keep.length
def LmL{α:Type}(d:α)(f:α->Prop)(L:List α):Prop:=Lim L.length/\∀i,i<L.length->f (L.getD i d)
def LmD(d:Dsk):Prop:=LmL [] (fun s=>Lim s.length) d.sec/\LmL default LmP d.cache/\Lim d.keep.length
def SmD(d:Dsk):Prop:=d.sec.length<=1048576/\d.cache.length<=1048576/\d.keep.length<=1048576
def b8f:Rl:=⟨Dsk×Int,fun x=>[.agg x.1.ts,.int .i64 x.2],fun x=>.int .i64 (rem x.2 (C2 x.1)),fun x=>I4 x.2/\LmD x.1⟩
def d29:Con:=.rel b8f
noncomputable def d2E:Code:=Tryz.f67.body.getD .skip
theorem b4Q:Z8 Tryz.prog 67:=⟨_,Tryz.func67,by kernel_rfl,by kernel_rfl⟩
theorem c9A(d:Dsk)(left:Int)(h:
  ∃(x:a4F.ι),(((Y3 Z6 d.sec x.fst)/\left=x.snd/\True)/\I4 x.snd/\Lim x.fst.length/\∀(i:Nat),i<x.fst.length->Lim (x.fst.getD i []).length)/\(decide (rem x.snd (V4 L7 x.fst)<(0:Int))=true->
  (-1:Int)=rem left (C2 d))/\(decide (rem x.snd (V4 L7 x.fst)<(0:Int))=false->∃(x_1:a6W.ι),(((Y3 Z3 d.cache x_1.fst)/\rem x.snd (V4 L7 x.fst)=x_1.snd/\True)/\I4 x_1.snd/\Lim
  x_1.fst.length/\∀(i:Nat),i<x_1.fst.length->LmP (x_1.fst.getD i default))/\(decide (rem x_1.snd (V4 R3 x_1.fst)<(0:Int))=true->(-1:Int)=rem left (C2 d))/\(decide (rem x_1.snd (V4 R3 x_1.fst)<(0
  :Int))=false->∃(x:b1O.ι),(((Y3 Y7 d.keep x.fst)/\rem x_1.snd (V4 R3 x_1.fst)=x.snd/\True)/\I4 x.snd/\Lim x.fst.length)/\(decide (rem x.snd x.fst.length<(0:Int))=true->(-1:Int)=rem left
  (C2 d))/\(decide (rem x.snd x.fst.length<(0:Int))=false->rem x.snd x.fst.length=rem left (C2 d))))):
  Z1 Tryz.prog 67 [.agg d.ts,.int .i64 left] (.int .i64 (rem left (C2 d))):=
 T7 (code:=d2E) (gC a6P a26 (gC b5M a8p (gC c26 b1u gN))) Tryz.func67 (by kernel_rfl) (by kernel_rfl) Z0 h (by kernel_rfl)
theorem c3V:Z2 Tryz.prog 67 d29:=by
 rintro⟨d,left⟩ ⟨hl,h1,h2,h3⟩;simp only at hl h1 h2 h3;have e:C2 d=V4 L7 d.sec+V4 R3 d.cache+d.keep.length:=rfl;have e1:V4 L7 d.sec<=C2 d:=by omega
 have e2:V4 L7 d.sec+V4 R3 d.cache<=C2 d:=by omega
 refine c9A d left ⟨(d.sec,left),⟨⟨⟨rfl,Z9 _ _⟩,rfl,trivial⟩,hl,h1⟩,fun h=>(G5 (of_decide_eq_true h) e1).symm,fun h=> ?_⟩
 obtain⟨q1,l1⟩:=a0p (b:=V4 R3 d.cache) (of_decide_eq_false h) hl rfl;refine⟨(d.cache,rem left (V4 L7 d.sec)),⟨⟨⟨rfl,Z9 _ _⟩,rfl,trivial⟩,l1,h2⟩,fun g=> ?_,fun g=> ?_⟩
 ·simp only at g;rw[q1] at g;exact(G5 (of_decide_eq_true g) e2).symm
 ·simp only at g ⊢;rw[q1] at g ⊢;obtain⟨q2,l2⟩:=a0p (b:=d.keep.length) (of_decide_eq_false g) hl rfl;refine⟨(d.keep,rem left (V4 L7 d.sec+V4 R3 d.cache)),⟨⟨⟨rfl,Z9 _ _⟩,rfl,trivial⟩,l2,h3⟩,fun f=> ?_,fun f=> ?_⟩
  ·simp only at f;rw[q2] at f;exact(G5 (of_decide_eq_true f) (Nat.le_refl _)).symm
  ·exact q2
def b8i:Rl:=⟨Dsk,fun d=>[.agg d.ts,.agg d.ts],fun _=>.bool true,SmD⟩
def d2H:Con:=.rel b8i
noncomputable def d0O:Code:=Tryz.f93.body.getD .skip
theorem b4T:Z8 Tryz.prog 93:=⟨_,Tryz.func93,by kernel_rfl,by kernel_rfl⟩
theorem d18(d:Dsk)(h:
  ∃(x:a31.ι),(((d.sec.length=List.length x/\Z7 d.sec.length (Z6 d.sec) (Z6 x))/\(d.sec.length=List.length x/\Z7 d.sec.length (Z6 d.sec) (Z6 x))/\True)/\List.length x<=1048576)/\(false=
  true->false=true)/\(false=false->∃(x:a6z.ι),(((d.cache.length=List.length x/\Z7 d.cache.length (Z3 d.cache) (Z3 x))/\(d.cache.length=List.length x/\Z7 d.cache.length (Z3 d.cache)
  (Z3 x))/\True)/\List.length x<=1048576/\∀(i:Nat),i<List.length x->SmP (List.getD x i default))/\(false=true->false=true)/\(false=false->((!d.armed==d.armed)=true->false=true)/\((!d.armed==
  d.armed)=false->∃(x:b1A.ι),(((d.keep.length=List.length x/\Z7 d.keep.length (Y7 d.keep) (Y7 x))/\(d.keep.length=List.length x/\Z7 d.keep.length (Y7 d.keep) (Y7 x))/\True)/\List.length x
  <=1048576)/\(false=true->false=true)/\(false=false->true=true))))):
  Z1 Tryz.prog 93 [.agg d.ts,.agg d.ts] (.bool true):=
 T7 (code:=d0O) (gC a6N a3f (gC b6Z a7Q (gC c1q b12 gN))) Tryz.func93 (by kernel_rfl) (by kernel_rfl) Z0 h (by kernel_rfl)
theorem c8A:Z2 Tryz.prog 93 d2H:=by
 rintro(d:Dsk) ⟨h1,h2,h3⟩;exact d18 d ⟨d.sec,⟨⟨⟨rfl,Z9 _ _⟩,⟨rfl,Z9 _ _⟩,trivial⟩,h1⟩,fun h=>h,fun _=>⟨d.cache,⟨⟨⟨rfl,Z9 _ _⟩,⟨rfl,Z9 _ _⟩,trivial⟩,h2,fun _ _=>trivial⟩,fun h=>h,fun _=>⟨fun h=>by simp at h,fun _=>⟨d.keep,⟨⟨⟨rfl,Z9 _ _⟩,⟨rfl,Z9 _ _⟩,trivial⟩,h3⟩,fun h=>h,fun _=>rfl⟩⟩⟩⟩
def a3a(p:Pg):Nat:=V4 L7 p.sl
def LmG(p:Pg):Prop:=LmL [] (fun s=>Lim s.length) p.sl
def SmG(p:Pg):Prop:=p.sl.length<=1048576
def c5A:Rl:=⟨Pg×Int,fun x=>[.agg x.1.ts,.int .i64 x.2],fun x=>.int .i64 (rem x.2 (a3a x.1)),fun x=>I4 x.2/\LmG x.1⟩
def d5Y:Con:=.rel c5A
noncomputable def d4r:Code:=Tryz.f199.body.getD .skip
theorem c1g:Z8 Tryz.prog 199:=⟨_,Tryz.func199,by kernel_rfl,by kernel_rfl⟩
theorem d5v(p:Pg)(left:Int)(h:
  ∃(x:a4F.ι),(((Y3 Z6 p.sl x.fst)/\left=x.snd/\True)/\I4 x.snd/\Lim x.fst.length/\∀(i:Nat),i<x.fst.length->Lim (x.fst.getD i []).length)/\(decide (rem x.snd (V4 L7 x.fst)<(0:Int))=true->(-1
  :Int)=rem left (a3a p))/\(decide (rem x.snd (V4 L7 x.fst)<(0:Int))=false->rem x.snd (V4 L7 x.fst)=rem left (a3a p))):
  Z1 Tryz.prog 199 [.agg p.ts,.int .i64 left] (.int .i64 (rem left (a3a p))):=
 T7 (code:=d4r) (gC a6P a26 gN) Tryz.func199 (by kernel_rfl) (by kernel_rfl) Z0 h (by kernel_rfl)
theorem c9H:Z2 Tryz.prog 199 d5Y:=by
 rintro⟨p,left⟩ ⟨hl,h1⟩;exact d5v p left ⟨(p.sl,left),⟨⟨⟨rfl,Z9 _ _⟩,rfl,trivial⟩,hl,h1⟩,fun h=>(G5 (of_decide_eq_true h) (Nat.le_refl _)).symm,fun _=>rfl⟩
def c6W:Rl:=⟨Pg,fun p=>[.agg p.ts,.agg p.ts],fun _=>.bool true,SmG⟩
def d5m:Con:=.rel c6W
noncomputable def d40:Code:=Tryz.f228.body.getD .skip
theorem c1L:Z8 Tryz.prog 228:=⟨_,Tryz.func228,by kernel_rfl,by kernel_rfl⟩
theorem d4q(p:Pg)(h:
  ((p.lsn !=p.lsn)=true->false=true)/\((p.lsn !=p.lsn)=false->∃(x:a31.ι),(((p.sl.length=List.length x/\Z7 p.sl.length (Z6 p.sl) (Z6 x))/\(p.sl.length=List.length x/\Z7 p.sl.length (Z6
  p.sl) (Z6 x))/\True)/\List.length x<=1048576)/\(false=true->false=true)/\(false=false->true=true))):
  Z1 Tryz.prog 228 [.agg p.ts,.agg p.ts] (.bool true):=
 T7 (code:=d40) (gC a6N a3f gN) Tryz.func228 (by kernel_rfl) (by kernel_rfl) Z0 h (by kernel_rfl)
theorem d0C:Z2 Tryz.prog 228 d5m:=fun(p:Pg) h1=>d4q p ⟨fun h=>by simp at h,fun _=>⟨p.sl,⟨⟨⟨rfl,Z9 _ _⟩,⟨rfl,Z9 _ _⟩,trivial⟩,h1⟩,fun h=>h,fun _=>rfl⟩⟩
def R1(f:Frm):Nat:=a3a f.pg
def LmF(f:Frm):Prop:=LmG f.pg
def SmF(f:Frm):Prop:=SmG f.pg
def b7q:Rl:=⟨Frm×Int,fun x=>[.agg x.1.ts,.int .i64 x.2],fun x=>.int .i64 (rem x.2 (R1 x.1)),fun x=>I4 x.2/\LmF x.1⟩
def c9N:Con:=.rel b7q
noncomputable def d0t:Code:=Tryz.f136.body.getD .skip
theorem b62:Z8 Tryz.prog 136:=⟨_,Tryz.func136,by kernel_rfl,by kernel_rfl⟩
theorem d0F(f:Frm)(left:Int)(h:
  ∃(x:c5A.ι),(((f.pg.lsn=x.fst.lsn/\(Y3 Z6 f.pg.sl x.fst.sl)/\True)/\left=x.snd/\True)/\I4 x.snd/\LmG x.fst)/\(decide (rem x.snd (a3a x.fst)<(0:Int))=true->(-1:Int)=rem left (R1 f))/\(decide
  (rem x.snd (a3a x.fst)<(0:Int))=false->rem x.snd (a3a x.fst)=rem left (R1 f))):
  Z1 Tryz.prog 136 [.agg f.ts,.int .i64 left] (.int .i64 (rem left (R1 f))):=
 T7 (code:=d0t) (gC c9H c1g gN) Tryz.func136 (by kernel_rfl) (by kernel_rfl) Z0 h (by kernel_rfl)
theorem c4m:Z2 Tryz.prog 136 c9N:=by
 rintro⟨f,left⟩ ⟨hl,h1⟩;exact d0F f left ⟨(f.pg,left),⟨⟨⟨rfl,⟨rfl,Z9 _ _⟩,trivial⟩,rfl,trivial⟩,hl,h1⟩,fun h=>(G5 (of_decide_eq_true h) (Nat.le_refl _)).symm,fun _=>rfl⟩
def b8L:Rl:=⟨Frm,fun f=>[.agg f.ts,.agg f.ts],fun _=>.bool true,SmF⟩
def d0j:Con:=.rel b8L
noncomputable def d0i:Code:=Tryz.f170.body.getD .skip
theorem b5P:Z8 Tryz.prog 170:=⟨_,Tryz.func170,by kernel_rfl,by kernel_rfl⟩
theorem d1W(f:Frm)(h:
  ((f.no !=f.no)=true->false=true)/\((f.no !=f.no)=false->∃(x:c6W.ι),(((f.pg.lsn=x.lsn/\(Y3 Z6 f.pg.sl x.sl)/\True)/\(f.pg.lsn=x.lsn/\(Y3 Z6 f.pg.sl x.sl)/\True)/\True)/\SmG x)/\(false=true
  ->false=true)/\(false=false->((!f.dirty==f.dirty)=true->false=true)/\((!f.dirty==f.dirty)=false->((f.first !=f.first)=true->false=true)/\((f.first !=f.first)=false->true=true))))):
  Z1 Tryz.prog 170 [.agg f.ts,.agg f.ts] (.bool true):=
 T7 (code:=d0i) (gC d0C c1L gN) Tryz.func170 (by kernel_rfl) (by kernel_rfl) Z0 h (by kernel_rfl)
theorem c5t:Z2 Tryz.prog 170 d0j:=fun(f:Frm) h1=>d1W f ⟨fun h=>by simp at h,fun _=>⟨f.pg,⟨⟨⟨rfl,⟨rfl,Z9 _ _⟩,trivial⟩,⟨rfl,⟨rfl,Z9 _ _⟩,trivial⟩,trivial⟩,h1⟩,fun h=>h,fun _=>⟨fun h=>by simp at h,fun _=>⟨fun h=>by simp at h,fun _=>rfl⟩⟩⟩⟩
end Go.Proofs.YtokaojbaacnngaaGreat

namespace Go.Proofs.YtokaojbaacnngaaGreat
set_option maxRecDepth 100000
open Go.SS

def a99:Rl:=⟨List Frm×Int,fun x=>[y9 x.1,.int .i64 x.2],fun x=>.int .i64 (rem x.2 (V4 R1 x.1)),fun x=>I4 x.2/\Lim x.1.length/\∀i,i<x.1.length->LmF (x.1.getD i default)⟩
def c4V:Con:=.rel a99
def c4E(L:List Frm)(left:Int):Nat->Ann
 |0=>.one {i:Nat//i<=L.length/\(W6 R1 L L.length i:Int)<=left} (fun x=>⟨[(0,y9 L),(1,.int .i64 (left-W6 R1 L L.length x.1)),(5,.int .i64 x.1)],[]⟩) (fun x=>L.length-x.1) [] [] (fun _=>Z0)
 |_=>.none
noncomputable def c76:Code:=Tryz.f69.body.getD .skip
theorem b0T:Z8 Tryz.prog 69:=⟨_,Tryz.func69,by kernel_rfl,by kernel_rfl⟩
theorem c8q(L:List Frm)(left:Int)(h:
  X6 .i64 (left- (L.length:Int))/\(decide (left- (L.length:Int)<(0:Int))=true->(-1:Int)=rem left (V4 R1 L))/\(decide (left- (L.length:Int)<(0:Int))=false->(∃(x:{i:Nat//i<=L.length/\(↑(W6
  R1 L L.length i):Int)<=left}),((Y3 V3 L L)/\left- (L.length:Int)=left- (↑(W6 R1 L L.length x.val):Int)/\(0:Int)=(x.val:Int)/\True)/\True)/\∀(x:{i:Nat//i<=L.length/\(↑(W6 R1 L
  L.length i):Int)<=left}),(decide ((x.val:Int)<(L.length:Int))=true->W7 (x.val:Int) L.length/\∃(x_1:b7q.ι),((((L.getD (x.val:Int).toNat default).no=x_1.fst.no/\(L.getD (x.val:Int).toNat default).pg.lsn=
  x_1.fst.pg.lsn/\(Y3 Z6 (L.getD (x.val:Int).toNat default).pg.sl x_1.fst.pg.sl)/\(L.getD (x.val:Int).toNat default).dirty=x_1.fst.dirty/\(L.getD (x.val:Int).toNat default).first=x_1.fst.first/\True)/\left- (↑(W6
  R1 L L.length x.val):Int)=x_1.snd/\True)/\I4 x_1.snd/\LmF x_1.fst)/\(decide (rem x_1.snd (R1 x_1.fst)<(0:Int))=true->(-1:Int)=rem left (V4 R1 L))/\(decide (rem x_1.snd (R1 x_1.fst)<(0:Int))
  =false->X6 .i64 ((x.val:Int)+(1:Int))/\∃(y:{i:Nat//i<=L.length/\(↑(W6 R1 L L.length i):Int)<=left}),(((Y3 V3 L L)/\rem x_1.snd (R1 x_1.fst)=left- (↑(W6 R1 L L.length y.val):Int)/\
  (x.val:Int)+(1:Int)=(y.val:Int)/\True)/\True)/\Lt (L.length-y.val) (L.length-x.val)))/\(decide ((x.val:Int)<(L.length:Int))=false->left- (↑(W6 R1 L L.length x.val):Int)=rem left (V4 R1 L)))):
  Z1 Tryz.prog 69 [y9 L,.int .i64 left] (.int .i64 (rem left (V4 R1 L))):=
 T7 (code:=c76) (gC c4m b62 gN) Tryz.func69 (by kernel_rfl) (by kernel_rfl) (c4E L left) h (by kernel_rfl)
theorem c1h:Z2 Tryz.prog 69 c4V:=by
 rintro⟨L,left⟩ ⟨⟨h0,h1⟩,hn,hb⟩;have hn:L.length<=9223372036854775807:=hn;simp only at h0 h1 hb;have hm:∀i,i<=L.length->W6 R1 L L.length i<=V4 R1 L:=fun i hi=>H8 _ _ _ hi
 have hz:W6 R1 L L.length 0=L.length:=rfl;refine c8q L left ?_
 simp only[D3,decide_eq_true_eq,decide_eq_false_iff_not];refine⟨by omega,fun h=>(O9 (by have:=hm 0 (Nat.zero_le _);omega)).symm,fun h=>⟨⟨⟨0,Nat.zero_le _,by omega⟩,⟨⟨(by trivial),Z9 _ _⟩,by simp only[hz],rfl,trivial⟩,trivial⟩,fun x=>⟨fun hc=> ?_,fun hc=> ?_⟩⟩⟩
 ·have hlt:x.val<L.length:=by omega
  have hx:=x.2;have hs:=A8 R1 L L.length default hlt;have hle:=hm (x.val+1) hlt;have hbr:=hb _ hlt;refine⟨Y8 hlt,(L.getD x.val default,left- (W6 R1 L L.length x.val:Int)),⟨⟨⟨rfl,rfl,⟨rfl,Z9 _ _⟩,rfl,rfl,trivial⟩,rfl,trivial⟩,⟨by simp only;omega,by simp only;omega⟩,hbr⟩,fun hr=> ?_,fun hr=>⟨by omega,⟨x.val+1,hlt,?_⟩,⟨⟨⟨(by trivial),Z9 _ _⟩,?_,by simp only;omega,trivial⟩,trivial⟩,W5.ext_lt hlt⟩⟩
  ·simp only at hr;by_cases hq:(R1 (L.getD x.val default):Int)<=left- (W6 R1 L L.length x.val:Int)
   ·rw[L0 hq] at hr;omega
   ·exact(O9 (by omega)).symm
  ·simp only at hr;by_cases hq:(R1 (L.getD x.val default):Int)<=left- (W6 R1 L L.length x.val:Int)
   ·omega
   ·rw[O9 (by omega)] at hr
    omega
  ·simp only at hr ⊢;by_cases hq:(R1 (L.getD x.val default):Int)<=left- (W6 R1 L L.length x.val:Int)
   ·rw[L0 hq];omega
   ·rw[O9 (by omega)] at hr
    omega
 ·have hx:=x.2;have he:x.val=L.length:=by omega
  rw[he] at hx ⊢;exact(L0 hx.2).symm
def b0L:Rl:=⟨List Frm,fun L=>[y9 L,y9 L],fun _=>.bool true,fun L=>L.length<=1048576/\∀i,i<L.length->SmF (L.getD i default)⟩
def c8h:Con:=.rel b0L
def c54(L:List Frm):Nat->Ann
 |0=>.one {i:Nat//i<=L.length} (fun x=>⟨[(0,y9 L),(1,y9 L),(5,.int .i64 x.1)],[]⟩) (fun x=>L.length-x.1) [] [] (fun _=>Z0)
 |_=>.none
noncomputable def c53:Code:=Tryz.f95.body.getD .skip
theorem b1c:Z8 Tryz.prog 95:=⟨_,Tryz.func95,by kernel_rfl,by kernel_rfl⟩
theorem c73(L:List Frm)(h:
  (((L.length:Int) !=(L.length:Int))=true->false=true)/\(((L.length:Int) !=(L.length:Int))=false->(∃(x:{i:Nat//i<=L.length}),((Y3 V3 L L)/\(Y3 V3 L L)/\(0:Int)=(x.val:Int)/\True)/\True)/\∀(x
  :{i:Nat//i<=L.length}),(decide ((x.val:Int)<(L.length:Int))=true->W7 (x.val:Int) L.length/\W7 (x.val:Int) L.length/\∃(x_1:b8L.ι),((((L.getD (x.val:Int).toNat default).no=x_1.no/\(L.getD
  (x.val:Int).toNat default).pg.lsn=x_1.pg.lsn/\(Y3 Z6 (L.getD (x.val:Int).toNat default).pg.sl x_1.pg.sl)/\(L.getD (x.val:Int).toNat default).dirty=x_1.dirty/\(L.getD (x.val:Int).toNat default).first=x_1.first/\True)
  /\((L.getD (x.val:Int).toNat default).no=x_1.no/\(L.getD (x.val:Int).toNat default).pg.lsn=x_1.pg.lsn/\(Y3 Z6 (L.getD (x.val:Int).toNat default).pg.sl x_1.pg.sl)/\(L.getD (x.val:Int).toNat default).dirty=x_1.dirty/\
  (L.getD (x.val:Int).toNat default).first=x_1.first/\True)/\True)/\SmF x_1)/\(false=true->false=true)/\(false=false->X6 .i64 ((x.val:Int)+(1:Int))/\∃(y:{i:Nat//i<=L.length}),(((Y3 V3 L L)/\(Y3
  V3 L L)/\(x.val:Int)+(1:Int)=(y.val:Int)/\True)/\True)/\Lt (L.length-y.val) (L.length-x.val)))/\(decide ((x.val:Int)<(L.length:Int))=false->true=true))):
  Z1 Tryz.prog 95 [y9 L,y9 L] (.bool true):=
 T7 (code:=c53) (gC c5t b5P gN) Tryz.func95 (by kernel_rfl) (by kernel_rfl) (c54 L) h (by kernel_rfl)
theorem c1I:Z2 Tryz.prog 95 c8h:=by
 rintro(L:List Frm) ⟨hL,hb⟩;refine c73 L ⟨fun h=>by simp at h,fun _=>⟨⟨⟨0,Nat.zero_le _⟩,⟨⟨(by trivial),Z9 _ _⟩,⟨(by trivial),Z9 _ _⟩,rfl,trivial⟩,trivial⟩,fun x=>⟨fun hc=> ?_,fun _=>rfl⟩⟩⟩
 have hlt:=Y6 hc;exact⟨Y8 hlt,Y8 hlt,L.getD x.val default,⟨⟨⟨rfl,rfl,⟨rfl,Z9 _ _⟩,rfl,rfl,trivial⟩,⟨rfl,rfl,⟨rfl,Z9 _ _⟩,rfl,rfl,trivial⟩,trivial⟩,hb _ hlt⟩,fun h=>h,fun _=>⟨W8 hlt (by omega),⟨x.val+1,hlt⟩,⟨⟨⟨(by trivial),Z9 _ _⟩,⟨(by trivial),Z9 _ _⟩,by simp only;omega,trivial⟩,trivial⟩,W5.ext_lt hlt⟩⟩
def D1(s:Sto):Nat:=C2 s.d+V4 S3 s.log+V4 R1 s.fr
def LmS(s:Sto):Prop:=LmD s.d/\(Lim s.log.length/\∀r ∈ s.log,c2f r)/\LmL default LmF s.fr
def SmS(s:Sto):Prop:=SmD s.d/\s.log.length<=1048576/\s.fr.length<=1048576/\∀i,i<s.fr.length->SmF (s.fr.getD i default)
def b79:Rl:=⟨Sto×Int,fun x=>[.agg x.1.ts,.int .i64 x.2],fun x=>.int .i64 (rem x.2 (D1 x.1)),fun x=>I4 x.2/\LmS x.1⟩
def c9w:Con:=.rel b79
noncomputable def d1b:Code:=Tryz.f32.body.getD .skip
theorem b4v:Z8 Tryz.prog 32:=⟨_,Tryz.func32,by kernel_rfl,by kernel_rfl⟩
theorem d2Z(s:Sto)(left:Int)(h:
  ∃(x:b8f.ι),(((EqD s.d x.fst)/\left=x.snd/\True)/\I4 x.snd/\LmD x.fst)/\(decide (rem x.snd (C2 x.fst)<(0:Int))=true->(-1:Int)=rem left (D1 s))/\(decide (rem x.snd (C2 x.fst)<(0:Int))=
  false->∃(x_1:b10.ι),(((Y3 Y4 s.log x_1.fst)/\rem x.snd (C2 x.fst)=x_1.snd/\True)/\I4 x_1.snd/\x_1.fst.length<=9223372036854775807/\∀(r:Rec),r ∈ x_1.fst->c2f r)/\(decide (rem x_1.snd (V4 S3
  x_1.fst)<(0:Int))=true->(-1:Int)=rem left (D1 s))/\(decide (rem x_1.snd (V4 S3 x_1.fst)<(0:Int))=false->∃(x:a99.ι),(((Y3 V3 s.fr x.fst)/\rem x_1.snd (V4 S3 x_1.fst)=x.snd/\True)
  /\I4 x.snd/\Lim x.fst.length/\∀(i:Nat),i<x.fst.length->LmF (x.fst.getD i default))/\(decide (rem x.snd (V4 R1 x.fst)<(0:Int))=true->(-1:Int)=rem left (D1 s))/\(decide (rem x.snd (V4 R1 x.fst)
  <(0:Int))=false->rem x.snd (V4 R1 x.fst)=rem left (D1 s))))):
  Z1 Tryz.prog 32 [.agg s.ts,.int .i64 left] (.int .i64 (rem left (D1 s))):=
 T7 (code:=d1b) (gC c3V b4Q (gC c2G b2W (gC c1h b0T gN))) Tryz.func32 (by kernel_rfl) (by kernel_rfl) Z0 h (by kernel_rfl)
theorem c65:Z2 Tryz.prog 32 c9w:=by
 rintro⟨s,left⟩ ⟨hl,h1,h2,h3⟩;simp only at hl h1 h2 h3;have e:D1 s=C2 s.d+V4 S3 s.log+V4 R1 s.fr:=rfl;have e1:C2 s.d<=D1 s:=by omega
 have e2:C2 s.d+V4 S3 s.log<=D1 s:=by omega
 refine d2Z s left ⟨(s.d,left),⟨⟨(eqD _),rfl,trivial⟩,hl,h1⟩,fun h=>(G5 (of_decide_eq_true h) e1).symm,fun h=> ?_⟩
 obtain⟨q1,l1⟩:=a0p (b:=V4 S3 s.log) (of_decide_eq_false h) hl rfl;refine⟨(s.log,rem left (C2 s.d)),⟨⟨⟨rfl,Z9 _ _⟩,rfl,trivial⟩,l1,h2⟩,fun g=> ?_,fun g=> ?_⟩
 ·simp only at g;rw[q1] at g;exact(G5 (of_decide_eq_true g) e2).symm
 ·simp only at g ⊢;rw[q1] at g ⊢;obtain⟨q2,l2⟩:=a0p (b:=V4 R1 s.fr) (of_decide_eq_false g) hl rfl;refine⟨(s.fr,rem left (C2 s.d+V4 S3 s.log)),⟨⟨⟨rfl,Z9 _ _⟩,rfl,trivial⟩,l2,h3⟩,fun f=> ?_,fun f=> ?_⟩
  ·simp only at f;rw[q2] at f;exact(G5 (of_decide_eq_true f) (Nat.le_refl _)).symm
  ·exact q2
def b8C:Rl:=⟨Sto,fun s=>[.agg s.ts,.agg s.ts],fun _=>.bool true,SmS⟩
def d12:Con:=.rel b8C
noncomputable def d1y:Code:=Tryz.f44.body.getD .skip
theorem b6p:Z8 Tryz.prog 44:=⟨_,Tryz.func44,by kernel_rfl,by kernel_rfl⟩
theorem d2l(s:Sto)(h:
  ∃(x:b8i.ι),(((EqD s.d x)/\(EqD s.d x)/\True)/\SmD x)/\(false=true->false=true)/\(false=false->((s.ep !=s.ep)=true->false=true)/\((s.ep !=s.ep)=false->∃(x:b1U.ι),(((s.log.length=
  List.length x/\Z7 s.log.length (Y4 s.log) (Y4 x))/\(s.log.length=List.length x/\Z7 s.log.length (Y4 s.log) (Y4 x))/\True)/\List.length x<=1048576)/\(false=true->false=true)/\(false=false->
  ((s.sure !=s.sure)=true->false=true)/\((s.sure !=s.sure)=false->∃(x:b0L.ι),(((s.fr.length=List.length x/\Z7 s.fr.length (V3 s.fr) (V3 x))/\(s.fr.length=List.length x/\Z7 s.fr.length
  (V3 s.fr) (V3 x))/\True)/\List.length x<=1048576/\∀(i:Nat),i<List.length x->SmF (List.getD x i default))/\(false=true->false=true)/\(false=false->((s.hand !=s.hand)=true->false=true)/\((s.hand
  !=s.hand)=false->true=true))))))):
  Z1 Tryz.prog 44 [.agg s.ts,.agg s.ts] (.bool true):=
 T7 (code:=d1y) (gC c8A b4T (gC c28 b2s (gC c1I b1c gN))) Tryz.func44 (by kernel_rfl) (by kernel_rfl) Z0 h (by kernel_rfl)
end Go.Proofs.YtokaojbaacnngaaGreat

