/- A part of the proof. -/
import Derived.Test.YtokaojbaacnngaaGreatE7E8
namespace Go.Proofs.YtokaojbaacnngaaGreat
set_option maxRecDepth 100000
open Go.SS

def o7(row:Nat->List T)(z:List T)(i j:Nat):List T:=if j<i then row j else z
theorem l6{row:Nat->List T}{z cs:List T}{m:Nat}(hr:∀j,(row j).length=m)(hz:z.length=m)(i:Nat)(hc:cs=row i)(j:Nat):setRow (o7 row z i) (0+(i:Int).toNat) 0 cs j=o7 row z (i+1) j:=by
 have hl:(o7 row z i j).length=m:=by unfold o7;split<;>simp only[hr,hz]
 rw[c8 (by rw[hl,hc,hr]),show 0+(i:Int).toNat=i by omega]
 by_cases hji:j=i
 ·subst hji;rw[show Nat.beq j j=true from by simp]
  show cs=o7 row z (j+1) j;unfold o7;rw[if_pos (Nat.lt_succ_self j)];exact hc
 ·rw[show Nat.beq j i=false from Bool.eq_false_iff.2 fun h=>hji (K1 h)]
  show o7 row z i j=o7 row z (i+1) j;unfold o7;by_cases h2:j<i
  ·rw[if_pos h2,if_pos (by omega)]
  ·rw[if_neg h2,if_neg (by omega)]
theorem xT{row:Nat->List T}{z:List T}{n:Nat}:Z8 n (o7 row z n) row:=fun i hi=>by unfold o7;rw[if_pos hi]
theorem yX{row:Nat->List T}{z:List T}{n:Nat}:Z8 n (fun _=>z) (o7 row z 0):=fun i hi=>by unfold o7;rw[if_neg (by omega)]
def rT(n:Nat):Prop:=n<=9223372036854775807

def L4(s:List UInt8):Nat:=s.length
def lB:Rl:=⟨List (List UInt8)×Int,fun x=>[L3 x.1,.int .i64 x.2],fun x=>.int .i64 (rem x.2 (V2 L4 x.1)),fun x=>G6 x.2/\rT x.1.length/\∀i,i<x.1.length->rT (x.1.getD i []).length⟩
def b88:Con:=.rel lB
def b9p(L:List (List UInt8))(left:Int):Nat->Ann
 |0=>.one {i:Nat//i<=L.length/\(W5 L4 L L.length i:Int)<=left} (fun x=>⟨[(0,L3 L),(1,.int .i64 (left-W5 L4 L L.length x.1)),(5,.int .i64 x.1)],[]⟩) (fun x=>L.length-x.1) [] [] (fun _=>Z0)
 |_=>.none
noncomputable def b9V:Code:=Tryz.f132.body.getD .skip
theorem qC:Z7 Tryz.prog 132:=⟨_,Tryz.func132,by kernel_rfl,by kernel_rfl⟩
theorem b8H(L:List (List UInt8))(left:Int)(h:
  X8 .i64 (left- (L.length:Int))/\(decide (left- (L.length:Int)<(0:Int))=true->(-1:Int)=rem left (V2 L4 L))/\(decide (left- (L.length:Int)<(0:Int))=false->(∃(x:{i:Nat//i<=L.length/\(↑(W5
  L4 L L.length i):Int)<=left}),((Y4 Z6 L L)/\left- (L.length:Int)=left- (↑(W5 L4 L L.length x.val):Int)/\(0:Int)=(x.val:Int)/\True)/\True)/\∀(x:{i:Nat//i<=L.length/\(↑(W5 L4 L
  L.length i):Int)<=left}),(decide ((x.val:Int)<(L.length:Int))=true->X0 (x.val:Int) L.length/\X8 .i64 (left- (↑(W5 L4 L L.length x.val):Int)- (↑(L.getD (x.val:Int).toNat []).length:Int))/\(decide (left-
  (↑(W5 L4 L L.length x.val):Int)- (↑(L.getD (x.val:Int).toNat []).length:Int)<(0:Int))=true->(-1:Int)=rem left (V2 L4 L))/\(decide (left- (↑(W5 L4 L L.length x.val):Int)- (↑(L.getD
  (x.val:Int).toNat []).length:Int)<(0:Int))=false->X8 .i64 ((x.val:Int)+(1:Int))/\∃(y:{i:Nat//i<=L.length/\(↑(W5 L4 L L.length i):Int)<=left}),(((Y4 Z6 L L)/\left- (↑(W5 L4 L
  L.length x.val):Int)- (↑(L.getD (x.val:Int).toNat []).length:Int)=left- (↑(W5 L4 L L.length y.val):Int)/\(x.val:Int)+(1:Int)=(y.val:Int)/\True)/\True)/\Lt (L.length-y.val) (L.length-x.val)))/\(decide
  ((x.val:Int)<(L.length:Int))=false->left- (↑(W5 L4 L L.length x.val):Int)=rem left (V2 L4 L)))):
  Z2 Tryz.prog 132 [L3 L,.int .i64 left] (.int .i64 (rem left (V2 L4 L))):=
 T4 (code:=b9V) gN Tryz.func132 (by kernel_rfl) (by kernel_rfl) (b9p L left) h (by kernel_rfl)
theorem gK:Z1 Tryz.prog 132 b88:=by
 rintro⟨L,left⟩ ⟨⟨h0,h1⟩,hn,hb⟩;have hn:L.length<=9223372036854775807:=hn;simp only at h0 h1 hb;have hm:∀i,i<=L.length->W5 L4 L L.length i<=V2 L4 L:=fun i hi=>F8 _ _ _ hi
 have hz:W5 L4 L L.length 0=L.length:=rfl;refine b8H L left ?_
 simp only[B3,t9,tV];refine⟨by omega,fun h=>(O8 (by have:=hm 0 (T0 _);omega)).symm,fun h=>⟨⟨⟨0,T0 _,by omega⟩,⟨⟨(by trivial),Z9 _ _⟩,by simp only[hz],rfl,trivial⟩,trivial⟩,fun x=>⟨fun hc=> ?_,fun hc=> ?_⟩⟩⟩
 ·have hlt:x.val<L.length:=by omega
  have hx:=x.2;have hs:=v3 L4 L L.length [] hlt;have hle:=hm (x.val+1) hlt;have hbr:(L.getD x.val []).length<=9223372036854775807:=hb _ hlt;unfold L4 at hs hx hle ⊢;rw[v4];refine⟨Y7 hlt,by omega,fun hr=>(O8 (by unfold L4 at*;omega)).symm,fun hr=>⟨by omega,⟨x.val+1,hlt,by unfold L4;omega⟩,⟨⟨⟨(by trivial),Z9 _ _⟩,by unfold L4;simp only;omega,by simp only;omega,trivial⟩,trivial⟩,V9.ext_lt hlt⟩⟩
 ·have hx:=x.2;have he:x.val=L.length:=by omega
  rw[he] at hx ⊢;exact(K9 hx.2).symm
def b8T(L:List (List UInt8)):Nat->Ann
 |0=>.one {i:Nat//i<=L.length} (fun x=>⟨[(0,L3 L),(3,.osl 0 0 L.length),(4,.int .i64 x.1)],[some (.arr true 0 1 L.length (o7 (Z6 L) [.str []] x.1))]⟩) (fun x=>L.length-x.1) [.arr 0] [.arr 0] (fun _=>Z0)
 |_=>.none
def lQ:Rl:=⟨List (List UInt8),fun L=>[L3 L,L3 L],fun _=>.bool true,fun L=>L.length<=1048576⟩
def b49:Con:=.rel lQ
def b9R(L:List (List UInt8)):Nat->Ann
 |0=>.one {i:Nat//i<=L.length} (fun x=>⟨[(0,L3 L),(1,L3 L),(5,.int .i64 x.1)],[]⟩) (fun x=>L.length-x.1) [] [] (fun _=>Z0)
 |_=>.none
noncomputable def b6s:Code:=Tryz.f167.body.getD .skip
theorem qE:Z7 Tryz.prog 167:=⟨_,Tryz.func167,by kernel_rfl,by kernel_rfl⟩
theorem b6o(L:List (List UInt8))(h:
  (((L.length:Int) !=(L.length:Int))=true->false=true)/\(((L.length:Int) !=(L.length:Int))=false->(∃(x:{i:Nat//i<=L.length}),((Y4 Z6 L L)/\(Y4 Z6 L L)/\(0:Int)=(x.val:Int)/\True)/\True)/\∀(x
  :{i:Nat//i<=L.length}),(decide ((x.val:Int)<(L.length:Int))=true->X0 (x.val:Int) L.length/\X0 (x.val:Int) L.length/\((!L.getD (x.val:Int).toNat []==L.getD (x.val:Int).toNat [])=true->false=true)/\
  ((!L.getD (x.val:Int).toNat []==L.getD (x.val:Int).toNat [])=false->X8 .i64 ((x.val:Int)+(1:Int))/\∃(y:{i:Nat//i<=L.length}),(((Y4 Z6 L L)/\(Y4 Z6 L L)/\(x.val:Int)+(1:Int)=(y.val:Int)/\
  True)/\True)/\Lt (L.length-y.val) (L.length-x.val)))/\(decide ((x.val:Int)<(L.length:Int))=false->true=true))):
  Z2 Tryz.prog 167 [L3 L,L3 L] (.bool true):=
 T4 (code:=b6s) gN Tryz.func167 (by kernel_rfl) (by kernel_rfl) (b9R L) h (by kernel_rfl)
theorem gO:Z1 Tryz.prog 167 b49:=by
 intro(L:List (List UInt8)) (hL:L.length<=1048576);refine b6o L ⟨fun h=>by simp at h,fun _=>⟨⟨⟨0,T0 _⟩,⟨⟨(by trivial),Z9 _ _⟩,⟨(by trivial),Z9 _ _⟩,rfl,trivial⟩,trivial⟩,fun x=>⟨fun hc=> ?_,fun _=>rfl⟩⟩⟩
 have hlt:=Y9 hc;exact⟨Y7 hlt,Y7 hlt,fun h=>by simp at h,fun _=>⟨W4 hlt (by omega),⟨x.val+1,hlt⟩,⟨⟨⟨(by trivial),Z9 _ _⟩,⟨(by trivial),Z9 _ _⟩,by simp only;omega,trivial⟩,trivial⟩,V9.ext_lt hlt⟩⟩
def a1X:Rl:=⟨List Int×Int,fun x=>[r7 x.1,.int .i64 x.2],fun x=>.int .i64 (rem x.2 x.1.length),fun x=>G6 x.2/\rT x.1.length⟩
def b9t:Con:=.rel a1X
noncomputable def b8e:Code:=Tryz.f134.body.getD .skip
theorem a1v:Z7 Tryz.prog 134:=⟨_,Tryz.func134,by kernel_rfl,by kernel_rfl⟩
theorem b64(L:List Int)(left:Int)(h:
  X8 .i64 (left- (L.length:Int))/\(decide (left- (L.length:Int)<(0:Int))=true->(-1:Int)=rem left L.length)/\(decide (left- (L.length:Int)<(0:Int))=false->left- (L.length:Int)=rem left L.length)):
  Z2 Tryz.prog 134 [r7 L,.int .i64 left] (.int .i64 (rem left L.length)):=
 T4 (code:=b8e) gN Tryz.func134 (by kernel_rfl) (by kernel_rfl) Z0 h (by kernel_rfl)
theorem b2t:Z1 Tryz.prog 134 b9t:=by
 rintro⟨L,left⟩ ⟨⟨h0,h1⟩,hn⟩;have hn:L.length<=9223372036854775807:=hn;simp only at h0 h1;refine b64 L left ?_
 simp only[B3,t9,tV];exact⟨by omega,fun h=>(O8 (by omega)).symm,fun h=>(K9 (by omega)).symm⟩
def b50(L:List Int):Nat->Ann
 |0=>.one {i:Nat//i<=L.length} (fun x=>⟨[(0,r7 L),(3,.osl 0 0 L.length),(4,.int .i64 x.1)],[some (.arr true 0 1 L.length (o7 (Y8 L) [.int .i64 0] x.1))]⟩) (fun x=>L.length-x.1) [.arr 0] [.arr 0] (fun _=>Z0)
 |_=>.none
def a3K:Rl:=⟨List Int,fun L=>[r7 L,r7 L],fun _=>.bool true,fun L=>L.length<=1048576⟩
def b8U:Con:=.rel a3K
def c0r(L:List Int):Nat->Ann
 |0=>.one {i:Nat//i<=L.length} (fun x=>⟨[(0,r7 L),(1,r7 L),(5,.int .i64 x.1)],[]⟩) (fun x=>L.length-x.1) [] [] (fun _=>Z0)
 |_=>.none
noncomputable def b9q:Code:=Tryz.f16.body.getD .skip
theorem a2X:Z7 Tryz.prog 16:=⟨_,Tryz.func16,by kernel_rfl,by kernel_rfl⟩
theorem b8j(L:List Int)(h:
  (((L.length:Int) !=(L.length:Int))=true->false=true)/\(((L.length:Int) !=(L.length:Int))=false->(∃(x:{i:Nat//i<=L.length}),((Y4 Y8 L L)/\(Y4 Y8 L L)/\(0:Int)=(x.val:Int)/\True)/\True)/\∀(x
  :{i:Nat//i<=L.length}),(decide ((x.val:Int)<(L.length:Int))=true->X0 (x.val:Int) L.length/\X0 (x.val:Int) L.length/\((L.getD (x.val:Int).toNat (0:Int) !=L.getD (x.val:Int).toNat (0:Int))=true->false=
  true)/\((L.getD (x.val:Int).toNat (0:Int) !=L.getD (x.val:Int).toNat (0:Int))=false->X8 .i64 ((x.val:Int)+(1:Int))/\∃(y:{i:Nat//i<=L.length}),(((Y4 Y8 L L)/\(Y4 Y8 L L)/\(x.val:Int)+(1:
  Int)=(y.val:Int)/\True)/\True)/\Lt (L.length-y.val) (L.length-x.val)))/\(decide ((x.val:Int)<(L.length:Int))=false->true=true))):
  Z2 Tryz.prog 16 [r7 L,r7 L] (.bool true):=
 T4 (code:=b9q) gN Tryz.func16 (by kernel_rfl) (by kernel_rfl) (c0r L) h (by kernel_rfl)
theorem b1x:Z1 Tryz.prog 16 b8U:=by
 intro(L:List Int) (hL:L.length<=1048576);refine b8j L ⟨fun h=>by simp at h,fun _=>⟨⟨⟨0,T0 _⟩,⟨⟨(by trivial),Z9 _ _⟩,⟨(by trivial),Z9 _ _⟩,rfl,trivial⟩,trivial⟩,fun x=>⟨fun hc=> ?_,fun _=>rfl⟩⟩⟩
 have hlt:=Y9 hc;exact⟨Y7 hlt,Y7 hlt,fun h=>by simp at h,fun _=>⟨W4 hlt (by omega),⟨x.val+1,hlt⟩,⟨⟨⟨(by trivial),Z9 _ _⟩,⟨(by trivial),Z9 _ _⟩,by simp only;omega,trivial⟩,trivial⟩,V9.ext_lt hlt⟩⟩
def R3(p:Pend):Nat:=p.d.length
def LmP(p:Pend):Prop:=rT p.d.length
def SmP(_:Pend):Prop:=True
def a2L:Rl:=⟨Pend×Int,fun x=>[.agg x.1.ts,.int .i64 x.2],fun x=>.int .i64 (rem x.2 (R3 x.1)),fun x=>G6 x.2/\LmP x.1⟩
def b9Z:Con:=.rel a2L
def a1u:Rl:=⟨Pend,fun r=>[.agg r.ts],fun r=>.agg r.ts,SmP⟩
def b5K:Con:=.rel a1u
def a1b:Rl:=⟨Pend,fun r=>[.agg r.ts,.agg r.ts],fun _=>.bool true,SmP⟩
def b5X:Con:=.rel a1b
noncomputable def b5d:Code:=Tryz.f198.body.getD .skip
theorem a2D:Z7 Tryz.prog 198:=⟨_,Tryz.func198,by kernel_rfl,by kernel_rfl⟩
theorem b5U(r:Pend)(left:Int)(h:
  X8 .i64 (left- (r.d.length:Int))/\(decide (left- (r.d.length:Int)<(0:Int))=true->(-1:Int)=rem left (R3 r))/\(decide (left- (r.d.length:Int)<(0:Int))=false->left- (r.d.length:Int)=rem left (R3 r))):
  Z2 Tryz.prog 198 [.agg r.ts,.int .i64 left] (.int .i64 (rem left (R3 r))):=
 T4 (code:=b5d) gN Tryz.func198 (by kernel_rfl) (by kernel_rfl) Z0 h (by kernel_rfl)
theorem b19:Z1 Tryz.prog 198 b9Z:=by
 rintro⟨r,left⟩ ⟨⟨h0,h1⟩,hb⟩;have hb:r.d.length<=9223372036854775807:=hb;simp only at h0 h1;refine b5U r left ?_
 simp only[B3,t9,tV];have e:((R3 r:Nat):Int)=r.d.length:=rfl;exact⟨by omega,fun h=>(O8 (by omega)).symm,fun h=>by rw[K9 (by omega)];omega⟩
noncomputable def b85:Code:=Tryz.f204.body.getD .skip
theorem a00:Z7 Tryz.prog 204:=⟨_,Tryz.func204,by kernel_rfl,by kernel_rfl⟩
theorem b6Q(r:Pend)(h:
  r.at_=r.at_/\r.d=r.d/\True):
  Z2 Tryz.prog 204 [.agg r.ts] (.agg r.ts):=
 T4 (code:=b85) gN Tryz.func204 (by kernel_rfl) (by kernel_rfl) Z0 h (by kernel_rfl)
theorem b0J:Z1 Tryz.prog 204 b5K:=fun r _=>b6Q r ⟨rfl,rfl,trivial⟩
noncomputable def c0g:Code:=Tryz.f227.body.getD .skip
theorem a3j:Z7 Tryz.prog 227:=⟨_,Tryz.func227,by kernel_rfl,by kernel_rfl⟩
theorem b5C(r:Pend)(h:
  ((r.at_ !=r.at_)=true->false=true)/\((r.at_ !=r.at_)=false->((!r.d==r.d)=true->false=true)/\((!r.d==r.d)=false->true=true))):
  Z2 Tryz.prog 227 [.agg r.ts,.agg r.ts] (.bool true):=
 T4 (code:=c0g) gN Tryz.func227 (by kernel_rfl) (by kernel_rfl) Z0 h (by kernel_rfl)
theorem b1t:Z1 Tryz.prog 227 b5X:=by
 intro r _;refine b5C r ?_
 simp
def gE:Rl:=⟨List Pend×Int,fun x=>[M4 x.1,.int .i64 x.2],fun x=>.int .i64 (rem x.2 (V2 R3 x.1)),fun x=>G6 x.2/\rT x.1.length/\∀i,i<x.1.length->LmP (x.1.getD i default)⟩
def b2l:Con:=.rel gE
def b3c(L:List Pend)(left:Int):Nat->Ann
 |0=>.one {i:Nat//i<=L.length/\(W5 R3 L L.length i:Int)<=left} (fun x=>⟨[(0,M4 L),(1,.int .i64 (left-W5 R3 L L.length x.1)),(5,.int .i64 x.1)],[]⟩) (fun x=>L.length-x.1) [] [] (fun _=>Z0)
 |_=>.none
noncomputable def b3T:Code:=Tryz.f133.body.getD .skip
theorem dE:Z7 Tryz.prog 133:=⟨_,Tryz.func133,by kernel_rfl,by kernel_rfl⟩
theorem b3D(L:List Pend)(left:Int)(h:
  X8 .i64 (left- (L.length:Int))/\(decide (left- (L.length:Int)<(0:Int))=true->(-1:Int)=rem left (V2 R3 L))/\(decide (left- (L.length:Int)<(0:Int))=false->(∃(x:{i:Nat//i<=L.length/\(↑(W5
  R3 L L.length i):Int)<=left}),((Y4 Z3 L L)/\left- (L.length:Int)=left- (↑(W5 R3 L L.length x.val):Int)/\(0:Int)=(x.val:Int)/\True)/\True)/\∀(x:{i:Nat//i<=L.length/\(↑(W5 R3 L
  L.length i):Int)<=left}),(decide ((x.val:Int)<(L.length:Int))=true->X0 (x.val:Int) L.length/\∃(x_1:a2L.ι),((((L.getD (x.val:Int).toNat default).at_=x_1.fst.at_/\(L.getD (x.val:Int).toNat default).d=
  x_1.fst.d/\True)/\left- (↑(W5 R3 L L.length x.val):Int)=x_1.snd/\True)/\G6 x_1.snd/\LmP x_1.fst)/\(decide (rem x_1.snd (R3 x_1.fst)<(0:Int))=true->(-1:Int)=rem left (V2 R3 L))/\(decide (rem
  x_1.snd (R3 x_1.fst)<(0:Int))=false->X8 .i64 ((x.val:Int)+(1:Int))/\∃(y:{i:Nat//i<=L.length/\(↑(W5 R3 L L.length i):Int)<=left}),(((Y4 Z3 L L)/\rem x_1.snd (R3 x_1.fst)=left-
  (↑(W5 R3 L L.length y.val):Int)/\(x.val:Int)+(1:Int)=(y.val:Int)/\True)/\True)/\Lt (L.length-y.val) (L.length-x.val)))/\(decide ((x.val:Int)<(L.length:Int))=false->left- (↑(W5 R3 L L.length
  x.val):Int)=rem left (V2 R3 L)))):
  Z2 Tryz.prog 133 [M4 L,.int .i64 left] (.int .i64 (rem left (V2 R3 L))):=
 T4 (code:=b3T) (gC b19 a2D gN) Tryz.func133 (by kernel_rfl) (by kernel_rfl) (b3c L left) h (by kernel_rfl)
theorem a6K:Z1 Tryz.prog 133 b2l:=by
 rintro⟨L,left⟩ ⟨⟨h0,h1⟩,hn,hb⟩;have hn:L.length<=9223372036854775807:=hn;simp only at h0 h1 hb;have hm:∀i,i<=L.length->W5 R3 L L.length i<=V2 R3 L:=fun i hi=>F8 _ _ _ hi
 have hz:W5 R3 L L.length 0=L.length:=rfl;refine b3D L left ?_
 simp only[B3,t9,tV];refine⟨by omega,fun h=>(O8 (by have:=hm 0 (T0 _);omega)).symm,fun h=>⟨⟨⟨0,T0 _,by omega⟩,⟨⟨(by trivial),Z9 _ _⟩,by simp only[hz],rfl,trivial⟩,trivial⟩,fun x=>⟨fun hc=> ?_,fun hc=> ?_⟩⟩⟩
 ·have hlt:x.val<L.length:=by omega
  have hx:=x.2;have hs:=v3 R3 L L.length default hlt;have hle:=hm (x.val+1) hlt;have hbr:=hb _ hlt;refine⟨Y7 hlt,(L.getD x.val default,left- (W5 R3 L L.length x.val:Int)),⟨⟨⟨rfl,rfl,trivial⟩,rfl,trivial⟩,⟨by simp only;omega,by simp only;omega⟩,hbr⟩,fun hr=> ?_,fun hr=>⟨by omega,⟨x.val+1,hlt,?_⟩,⟨⟨⟨(by trivial),Z9 _ _⟩,?_,by simp only;omega,trivial⟩,trivial⟩,V9.ext_lt hlt⟩⟩
  ·simp only at hr;by_cases hq:(R3 (L.getD x.val default):Int)<=left- (W5 R3 L L.length x.val:Int)
   ·rw[K9 hq] at hr;omega
   ·exact(O8 (by omega)).symm
  ·simp only at hr;by_cases hq:(R3 (L.getD x.val default):Int)<=left- (W5 R3 L L.length x.val:Int)
   ·omega
   ·rw[O8 (by omega)] at hr
    omega
  ·simp only at hr ⊢;by_cases hq:(R3 (L.getD x.val default):Int)<=left- (W5 R3 L L.length x.val:Int)
   ·rw[K9 hq];omega
   ·rw[O8 (by omega)] at hr
    omega
 ·have hx:=x.2;have he:x.val=L.length:=by omega
  rw[he] at hx ⊢;exact(K9 hx.2).symm
def b4y(L:List Pend):Nat->Ann
 |0=>.one {i:Nat//i<=L.length} (fun x=>⟨[(0,M4 L),(3,.osl 0 0 L.length),(4,.int .i64 x.1)],[some (.arr true 0 2 L.length (o7 (Z3 L) [.int .i64 0,.str []] x.1))]⟩) (fun x=>L.length-x.1) [.arr 0] [.arr 0] (fun _=>Z0)
 |_=>.none
def gP:Rl:=⟨List Pend,fun L=>[M4 L,M4 L],fun _=>.bool true,fun L=>L.length<=1048576/\∀i,i<L.length->SmP (L.getD i default)⟩
def b3F:Con:=.rel gP
def b2T(L:List Pend):Nat->Ann
 |0=>.one {i:Nat//i<=L.length} (fun x=>⟨[(0,M4 L),(1,M4 L),(5,.int .i64 x.1)],[]⟩) (fun x=>L.length-x.1) [] [] (fun _=>Z0)
 |_=>.none
noncomputable def b0D:Code:=Tryz.f168.body.getD .skip
theorem bV:Z7 Tryz.prog 168:=⟨_,Tryz.func168,by kernel_rfl,by kernel_rfl⟩
theorem a99(L:List Pend)(h:
  (((L.length:Int) !=(L.length:Int))=true->false=true)/\(((L.length:Int) !=(L.length:Int))=false->(∃(x:{i:Nat//i<=L.length}),((Y4 Z3 L L)/\(Y4 Z3 L L)/\(0:Int)=(x.val:Int)/\True)/\True)/\∀
  (x:{i:Nat//i<=L.length}),(decide ((x.val:Int)<(L.length:Int))=true->X0 (x.val:Int) L.length/\X0 (x.val:Int) L.length/\∃(x_1:a1b.ι),((((L.getD (x.val:Int).toNat default).at_=x_1.at_/\(L.getD
  (x.val:Int).toNat default).d=x_1.d/\True)/\((L.getD (x.val:Int).toNat default).at_=x_1.at_/\(L.getD (x.val:Int).toNat default).d=x_1.d/\True)/\True)/\SmP x_1)/\(false=true->false=true)/\(false=false->X8 .i64
  ((x.val:Int)+(1:Int))/\∃(y:{i:Nat//i<=L.length}),(((Y4 Z3 L L)/\(Y4 Z3 L L)/\(x.val:Int)+(1:Int)=(y.val:Int)/\True)/\True)/\Lt (L.length-y.val) (L.length-x.val)))/\(decide ((x.val:Int)<
  (L.length:Int))=false->true=true))):
  Z2 Tryz.prog 168 [M4 L,M4 L] (.bool true):=
 T4 (code:=b0D) (gC b1t a3j gN) Tryz.func168 (by kernel_rfl) (by kernel_rfl) (b2T L) h (by kernel_rfl)
theorem a42:Z1 Tryz.prog 168 b3F:=by
 rintro(L:List Pend) ⟨hL,hb⟩;refine a99 L ⟨fun h=>by simp at h,fun _=>⟨⟨⟨0,T0 _⟩,⟨⟨(by trivial),Z9 _ _⟩,⟨(by trivial),Z9 _ _⟩,rfl,trivial⟩,trivial⟩,fun x=>⟨fun hc=> ?_,fun _=>rfl⟩⟩⟩
 have hlt:=Y9 hc;exact⟨Y7 hlt,Y7 hlt,L.getD x.val default,⟨⟨⟨rfl,rfl,trivial⟩,⟨rfl,rfl,trivial⟩,trivial⟩,hb _ hlt⟩,fun h=>h,fun _=>⟨W4 hlt (by omega),⟨x.val+1,hlt⟩,⟨⟨⟨(by trivial),Z9 _ _⟩,⟨(by trivial),Z9 _ _⟩,by simp only;omega,trivial⟩,trivial⟩,V9.ext_lt hlt⟩⟩
end Go.Proofs.YtokaojbaacnngaaGreat

namespace Go.Proofs.YtokaojbaacnngaaGreat
set_option maxRecDepth 100000
open Go.SS

theorem F2{left:Int}{a b:Nat}(h:rem left a<0)(hab:a<=b):rem left b= -1:=by
 refine O8 ?_
 by_cases hq:(a:Int)<=left
 ·rw[K9 hq] at h;omega
 ·omega
theorem xW{left:Int}{a b c:Nat}(h:¬rem left a<0)(hl:G6 left)(hc:c=a+b):rem (rem left a) b=rem left c/\G6 (rem left a):=by
 by_cases hq:(a:Int)<=left
 ·rw[K9 hq] at h ⊢;obtain⟨h0,h1⟩:=hl;refine⟨?_,by constructor<;>omega⟩
  by_cases hr:(c:Int)<=left
  ·rw[K9 hr,K9 (by omega)]
   omega
  ·rw[O8 (by omega),O8 (by omega)]
 ·rw[O8 (by omega)] at h
  omega
def A4(d:Dsk):Nat:=V2 L4 d.sec+V2 R3 d.cache+d.keep.length
def LmL{α:Type}(d:α)(f:α->Prop)(L:List α):Prop:=rT L.length/\∀i,i<L.length->f (L.getD i d)
def LmD(d:Dsk):Prop:=LmL [] (fun s=>rT s.length) d.sec/\LmL default LmP d.cache/\rT d.keep.length
def pD(d:Dsk):Prop:=d.sec.length<=1048576/\d.cache.length<=1048576/\d.keep.length<=1048576
def a9w:Rl:=⟨Dsk×Int,fun x=>[.agg x.1.ts,.int .i64 x.2],fun x=>.int .i64 (rem x.2 (A4 x.1)),fun x=>G6 x.2/\LmD x.1⟩
def c0H:Con:=.rel a9w
noncomputable def c1E:Code:=Tryz.f67.body.getD .skip
theorem a7y:Z7 Tryz.prog 67:=⟨_,Tryz.func67,by kernel_rfl,by kernel_rfl⟩
theorem c2F(d:Dsk)(left:Int)(h:
  ∃(x:lB.ι),(((Y4 Z6 d.sec x.fst)/\left=x.snd/\True)/\G6 x.snd/\rT x.fst.length/\∀(i:Nat),i<x.fst.length->rT (x.fst.getD i []).length)/\(decide (rem x.snd (V2 L4 x.fst)<(0:Int))=true->
  (-1:Int)=rem left (A4 d))/\(decide (rem x.snd (V2 L4 x.fst)<(0:Int))=false->∃(x_1:gE.ι),(((Y4 Z3 d.cache x_1.fst)/\rem x.snd (V2 L4 x.fst)=x_1.snd/\True)/\G6 x_1.snd/\rT
  x_1.fst.length/\∀(i:Nat),i<x_1.fst.length->LmP (x_1.fst.getD i default))/\(decide (rem x_1.snd (V2 R3 x_1.fst)<(0:Int))=true->(-1:Int)=rem left (A4 d))/\(decide (rem x_1.snd (V2 R3 x_1.fst)<(0
  :Int))=false->∃(x:a1X.ι),(((Y4 Y8 d.keep x.fst)/\rem x_1.snd (V2 R3 x_1.fst)=x.snd/\True)/\G6 x.snd/\rT x.fst.length)/\(decide (rem x.snd x.fst.length<(0:Int))=true->(-1:Int)=rem left
  (A4 d))/\(decide (rem x.snd x.fst.length<(0:Int))=false->rem x.snd x.fst.length=rem left (A4 d))))):
  Z2 Tryz.prog 67 [.agg d.ts,.int .i64 left] (.int .i64 (rem left (A4 d))):=
 T4 (code:=c1E) (gC gK qC (gC a6K dE (gC b2t a1v gN))) Tryz.func67 (by kernel_rfl) (by kernel_rfl) Z0 h (by kernel_rfl)
theorem b8x:Z1 Tryz.prog 67 c0H:=by
 rintro⟨d,left⟩ ⟨hl,h1,h2,h3⟩;simp only at hl h1 h2 h3;have e:A4 d=V2 L4 d.sec+V2 R3 d.cache+d.keep.length:=rfl;have e1:V2 L4 d.sec<=A4 d:=by omega
 have e2:V2 L4 d.sec+V2 R3 d.cache<=A4 d:=by omega
 refine c2F d left ⟨(d.sec,left),⟨⟨⟨rfl,Z9 _ _⟩,rfl,trivial⟩,hl,h1⟩,fun h=>(F2 (D8 h) e1).symm,fun h=> ?_⟩
 obtain⟨q1,l1⟩:=xW (b:=V2 R3 d.cache) (yQ h) hl rfl;refine⟨(d.cache,rem left (V2 L4 d.sec)),⟨⟨⟨rfl,Z9 _ _⟩,rfl,trivial⟩,l1,h2⟩,fun g=> ?_,fun g=> ?_⟩
 ·simp only at g;rw[q1] at g;exact(F2 (D8 g) e2).symm
 ·simp only at g ⊢;rw[q1] at g ⊢;obtain⟨q2,l2⟩:=xW (b:=d.keep.length) (yQ g) hl rfl;refine⟨(d.keep,rem left (V2 L4 d.sec+V2 R3 d.cache)),⟨⟨⟨rfl,Z9 _ _⟩,rfl,trivial⟩,l2,h3⟩,fun f=> ?_,fun f=> ?_⟩
  ·simp only at f;rw[q2] at f;exact(F2 (D8 f) (V5 _)).symm
  ·exact q2
def a8H:Rl:=⟨Dsk,fun d=>[.agg d.ts,.agg d.ts],fun _=>.bool true,pD⟩
def c3d:Con:=.rel a8H
noncomputable def c1w:Code:=Tryz.f93.body.getD .skip
theorem a5H:Z7 Tryz.prog 93:=⟨_,Tryz.func93,by kernel_rfl,by kernel_rfl⟩
theorem c1B(d:Dsk)(h:
  ∃(x:lQ.ι),(((d.sec.length=List.length x/\Z8 d.sec.length (Z6 d.sec) (Z6 x))/\(d.sec.length=List.length x/\Z8 d.sec.length (Z6 d.sec) (Z6 x))/\True)/\List.length x<=1048576)/\(false=
  true->false=true)/\(false=false->∃(x:gP.ι),(((d.cache.length=List.length x/\Z8 d.cache.length (Z3 d.cache) (Z3 x))/\(d.cache.length=List.length x/\Z8 d.cache.length (Z3 d.cache)
  (Z3 x))/\True)/\List.length x<=1048576/\∀(i:Nat),i<List.length x->SmP (List.getD x i default))/\(false=true->false=true)/\(false=false->((!d.armed==d.armed)=true->false=true)/\((!d.armed==
  d.armed)=false->∃(x:a3K.ι),(((d.keep.length=List.length x/\Z8 d.keep.length (Y8 d.keep) (Y8 x))/\(d.keep.length=List.length x/\Z8 d.keep.length (Y8 d.keep) (Y8 x))/\True)/\List.length x
  <=1048576)/\(false=true->false=true)/\(false=false->true=true))))):
  Z2 Tryz.prog 93 [.agg d.ts,.agg d.ts] (.bool true):=
 T4 (code:=c1w) (gC gO qE (gC a42 bV (gC b1x a2X gN))) Tryz.func93 (by kernel_rfl) (by kernel_rfl) Z0 h (by kernel_rfl)
theorem b8c:Z1 Tryz.prog 93 c3d:=by
 rintro(d:Dsk) ⟨h1,h2,h3⟩;exact c1B d ⟨d.sec,⟨⟨⟨rfl,Z9 _ _⟩,⟨rfl,Z9 _ _⟩,trivial⟩,h1⟩,fun h=>h,fun _=>⟨d.cache,⟨⟨⟨rfl,Z9 _ _⟩,⟨rfl,Z9 _ _⟩,trivial⟩,h2,fun _ _=>trivial⟩,fun h=>h,fun _=>⟨fun h=>by simp at h,fun _=>⟨d.keep,⟨⟨⟨rfl,Z9 _ _⟩,⟨rfl,Z9 _ _⟩,trivial⟩,h3⟩,fun h=>h,fun _=>rfl⟩⟩⟩⟩
def qK(p:Pg):Nat:=V2 L4 p.sl
def LmG(p:Pg):Prop:=LmL [] (fun s=>rT s.length) p.sl
def SmG(p:Pg):Prop:=p.sl.length<=1048576
def b5o:Rl:=⟨Pg×Int,fun x=>[.agg x.1.ts,.int .i64 x.2],fun x=>.int .i64 (rem x.2 (qK x.1)),fun x=>G6 x.2/\LmG x.1⟩
def c6R:Con:=.rel b5o
noncomputable def c5W:Code:=Tryz.f199.body.getD .skip
theorem b0O:Z7 Tryz.prog 199:=⟨_,Tryz.func199,by kernel_rfl,by kernel_rfl⟩
theorem c6E(p:Pg)(left:Int)(h:
  ∃(x:lB.ι),(((Y4 Z6 p.sl x.fst)/\left=x.snd/\True)/\G6 x.snd/\rT x.fst.length/\∀(i:Nat),i<x.fst.length->rT (x.fst.getD i []).length)/\(decide (rem x.snd (V2 L4 x.fst)<(0:Int))=true->(-1
  :Int)=rem left (qK p))/\(decide (rem x.snd (V2 L4 x.fst)<(0:Int))=false->rem x.snd (V2 L4 x.fst)=rem left (qK p))):
  Z2 Tryz.prog 199 [.agg p.ts,.int .i64 left] (.int .i64 (rem left (qK p))):=
 T4 (code:=c5W) (gC gK qC gN) Tryz.func199 (by kernel_rfl) (by kernel_rfl) Z0 h (by kernel_rfl)
theorem c2u:Z1 Tryz.prog 199 c6R:=by
 rintro⟨p,left⟩ ⟨hl,h1⟩;exact c6E p left ⟨(p.sl,left),⟨⟨⟨rfl,Z9 _ _⟩,rfl,trivial⟩,hl,h1⟩,fun h=>(F2 (D8 h) (V5 _)).symm,fun _=>rfl⟩
def b5F:Rl:=⟨Pg,fun p=>[.agg p.ts,.agg p.ts],fun _=>.bool true,SmG⟩
def c5Y:Con:=.rel b5F
noncomputable def c44:Code:=Tryz.f228.body.getD .skip
theorem b37:Z7 Tryz.prog 228:=⟨_,Tryz.func228,by kernel_rfl,by kernel_rfl⟩
theorem c5L(p:Pg)(h:
  ((p.lsn !=p.lsn)=true->false=true)/\((p.lsn !=p.lsn)=false->∃(x:lQ.ι),(((p.sl.length=List.length x/\Z8 p.sl.length (Z6 p.sl) (Z6 x))/\(p.sl.length=List.length x/\Z8 p.sl.length (Z6
  p.sl) (Z6 x))/\True)/\List.length x<=1048576)/\(false=true->false=true)/\(false=false->true=true))):
  Z2 Tryz.prog 228 [.agg p.ts,.agg p.ts] (.bool true):=
 T4 (code:=c44) (gC gO qE gN) Tryz.func228 (by kernel_rfl) (by kernel_rfl) Z0 h (by kernel_rfl)
theorem c2b:Z1 Tryz.prog 228 c5Y:=fun(p:Pg) h1=>c5L p ⟨fun h=>by simp at h,fun _=>⟨p.sl,⟨⟨⟨rfl,Z9 _ _⟩,⟨rfl,Z9 _ _⟩,trivial⟩,h1⟩,fun h=>h,fun _=>rfl⟩⟩
def R1(f:Frm):Nat:=qK f.pg
def LmF(f:Frm):Prop:=LmG f.pg
def SmF(f:Frm):Prop:=SmG f.pg
def a9V:Rl:=⟨Frm×Int,fun x=>[.agg x.1.ts,.int .i64 x.2],fun x=>.int .i64 (rem x.2 (R1 x.1)),fun x=>G6 x.2/\LmF x.1⟩
def c1C:Con:=.rel a9V
noncomputable def c1Z:Code:=Tryz.f136.body.getD .skip
theorem a7F:Z7 Tryz.prog 136:=⟨_,Tryz.func136,by kernel_rfl,by kernel_rfl⟩
theorem c3Y(f:Frm)(left:Int)(h:
  ∃(x:b5o.ι),(((f.pg.lsn=x.fst.lsn/\(Y4 Z6 f.pg.sl x.fst.sl)/\True)/\left=x.snd/\True)/\G6 x.snd/\LmG x.fst)/\(decide (rem x.snd (qK x.fst)<(0:Int))=true->(-1:Int)=rem left (R1 f))/\(decide
  (rem x.snd (qK x.fst)<(0:Int))=false->rem x.snd (qK x.fst)=rem left (R1 f))):
  Z2 Tryz.prog 136 [.agg f.ts,.int .i64 left] (.int .i64 (rem left (R1 f))):=
 T4 (code:=c1Z) (gC c2u b0O gN) Tryz.func136 (by kernel_rfl) (by kernel_rfl) Z0 h (by kernel_rfl)
theorem b4L:Z1 Tryz.prog 136 c1C:=by
 rintro⟨f,left⟩ ⟨hl,h1⟩;exact c3Y f left ⟨(f.pg,left),⟨⟨⟨rfl,⟨rfl,Z9 _ _⟩,trivial⟩,rfl,trivial⟩,hl,h1⟩,fun h=>(F2 (D8 h) (V5 _)).symm,fun _=>rfl⟩
def a9t:Rl:=⟨Frm,fun f=>[.agg f.ts,.agg f.ts],fun _=>.bool true,SmF⟩
def c4d:Con:=.rel a9t
noncomputable def c3A:Code:=Tryz.f170.body.getD .skip
theorem a4x:Z7 Tryz.prog 170:=⟨_,Tryz.func170,by kernel_rfl,by kernel_rfl⟩
theorem c3j(f:Frm)(h:
  ((f.no !=f.no)=true->false=true)/\((f.no !=f.no)=false->∃(x:b5F.ι),(((f.pg.lsn=x.lsn/\(Y4 Z6 f.pg.sl x.sl)/\True)/\(f.pg.lsn=x.lsn/\(Y4 Z6 f.pg.sl x.sl)/\True)/\True)/\SmG x)/\(false=true
  ->false=true)/\(false=false->((!f.dirty==f.dirty)=true->false=true)/\((!f.dirty==f.dirty)=false->((f.first !=f.first)=true->false=true)/\((f.first !=f.first)=false->true=true))))):
  Z2 Tryz.prog 170 [.agg f.ts,.agg f.ts] (.bool true):=
 T4 (code:=c3A) (gC c2b b37 gN) Tryz.func170 (by kernel_rfl) (by kernel_rfl) Z0 h (by kernel_rfl)
theorem b68:Z1 Tryz.prog 170 c4d:=fun(f:Frm) h1=>c3j f ⟨fun h=>by simp at h,fun _=>⟨f.pg,⟨⟨⟨rfl,⟨rfl,Z9 _ _⟩,trivial⟩,⟨rfl,⟨rfl,Z9 _ _⟩,trivial⟩,trivial⟩,h1⟩,fun h=>h,fun _=>⟨fun h=>by simp at h,fun _=>⟨fun h=>by simp at h,fun _=>rfl⟩⟩⟩⟩
end Go.Proofs.YtokaojbaacnngaaGreat

namespace Go.Proofs.YtokaojbaacnngaaGreat
set_option maxRecDepth 100000
open Go.SS

def a1n:Rl:=⟨List Frm×Int,fun x=>[w5 x.1,.int .i64 x.2],fun x=>.int .i64 (rem x.2 (V2 R1 x.1)),fun x=>G6 x.2/\rT x.1.length/\∀i,i<x.1.length->LmF (x.1.getD i default)⟩
def b75:Con:=.rel a1n
def b6l(L:List Frm)(left:Int):Nat->Ann
 |0=>.one {i:Nat//i<=L.length/\(W5 R1 L L.length i:Int)<=left} (fun x=>⟨[(0,w5 L),(1,.int .i64 (left-W5 R1 L L.length x.1)),(5,.int .i64 x.1)],[]⟩) (fun x=>L.length-x.1) [] [] (fun _=>Z0)
 |_=>.none
noncomputable def b5D:Code:=Tryz.f69.body.getD .skip
theorem a3p:Z7 Tryz.prog 69:=⟨_,Tryz.func69,by kernel_rfl,by kernel_rfl⟩
theorem b6v(L:List Frm)(left:Int)(h:
  X8 .i64 (left- (L.length:Int))/\(decide (left- (L.length:Int)<(0:Int))=true->(-1:Int)=rem left (V2 R1 L))/\(decide (left- (L.length:Int)<(0:Int))=false->(∃(x:{i:Nat//i<=L.length/\(↑(W5
  R1 L L.length i):Int)<=left}),((Y4 V6 L L)/\left- (L.length:Int)=left- (↑(W5 R1 L L.length x.val):Int)/\(0:Int)=(x.val:Int)/\True)/\True)/\∀(x:{i:Nat//i<=L.length/\(↑(W5 R1 L
  L.length i):Int)<=left}),(decide ((x.val:Int)<(L.length:Int))=true->X0 (x.val:Int) L.length/\∃(x_1:a9V.ι),((((L.getD (x.val:Int).toNat default).no=x_1.fst.no/\(L.getD (x.val:Int).toNat default).pg.lsn=
  x_1.fst.pg.lsn/\(Y4 Z6 (L.getD (x.val:Int).toNat default).pg.sl x_1.fst.pg.sl)/\(L.getD (x.val:Int).toNat default).dirty=x_1.fst.dirty/\(L.getD (x.val:Int).toNat default).first=x_1.fst.first/\True)/\left- (↑(W5
  R1 L L.length x.val):Int)=x_1.snd/\True)/\G6 x_1.snd/\LmF x_1.fst)/\(decide (rem x_1.snd (R1 x_1.fst)<(0:Int))=true->(-1:Int)=rem left (V2 R1 L))/\(decide (rem x_1.snd (R1 x_1.fst)<(0:Int))
  =false->X8 .i64 ((x.val:Int)+(1:Int))/\∃(y:{i:Nat//i<=L.length/\(↑(W5 R1 L L.length i):Int)<=left}),(((Y4 V6 L L)/\rem x_1.snd (R1 x_1.fst)=left- (↑(W5 R1 L L.length y.val):Int)/\
  (x.val:Int)+(1:Int)=(y.val:Int)/\True)/\True)/\Lt (L.length-y.val) (L.length-x.val)))/\(decide ((x.val:Int)<(L.length:Int))=false->left- (↑(W5 R1 L L.length x.val):Int)=rem left (V2 R1 L)))):
  Z2 Tryz.prog 69 [w5 L,.int .i64 left] (.int .i64 (rem left (V2 R1 L))):=
 T4 (code:=b5D) (gC b4L a7F gN) Tryz.func69 (by kernel_rfl) (by kernel_rfl) (b6l L left) h (by kernel_rfl)
theorem b1o:Z1 Tryz.prog 69 b75:=by
 rintro⟨L,left⟩ ⟨⟨h0,h1⟩,hn,hb⟩;have hn:L.length<=9223372036854775807:=hn;simp only at h0 h1 hb;have hm:∀i,i<=L.length->W5 R1 L L.length i<=V2 R1 L:=fun i hi=>F8 _ _ _ hi
 have hz:W5 R1 L L.length 0=L.length:=rfl;refine b6v L left ?_
 simp only[B3,t9,tV];refine⟨by omega,fun h=>(O8 (by have:=hm 0 (T0 _);omega)).symm,fun h=>⟨⟨⟨0,T0 _,by omega⟩,⟨⟨(by trivial),Z9 _ _⟩,by simp only[hz],rfl,trivial⟩,trivial⟩,fun x=>⟨fun hc=> ?_,fun hc=> ?_⟩⟩⟩
 ·have hlt:x.val<L.length:=by omega
  have hx:=x.2;have hs:=v3 R1 L L.length default hlt;have hle:=hm (x.val+1) hlt;have hbr:=hb _ hlt;refine⟨Y7 hlt,(L.getD x.val default,left- (W5 R1 L L.length x.val:Int)),⟨⟨⟨rfl,rfl,⟨rfl,Z9 _ _⟩,rfl,rfl,trivial⟩,rfl,trivial⟩,⟨by simp only;omega,by simp only;omega⟩,hbr⟩,fun hr=> ?_,fun hr=>⟨by omega,⟨x.val+1,hlt,?_⟩,⟨⟨⟨(by trivial),Z9 _ _⟩,?_,by simp only;omega,trivial⟩,trivial⟩,V9.ext_lt hlt⟩⟩
  ·simp only at hr;by_cases hq:(R1 (L.getD x.val default):Int)<=left- (W5 R1 L L.length x.val:Int)
   ·rw[K9 hq] at hr;omega
   ·exact(O8 (by omega)).symm
  ·simp only at hr;by_cases hq:(R1 (L.getD x.val default):Int)<=left- (W5 R1 L L.length x.val:Int)
   ·omega
   ·rw[O8 (by omega)] at hr
    omega
  ·simp only at hr ⊢;by_cases hq:(R1 (L.getD x.val default):Int)<=left- (W5 R1 L L.length x.val:Int)
   ·rw[K9 hq];omega
   ·rw[O8 (by omega)] at hr
    omega
 ·have hx:=x.2;have he:x.val=L.length:=by omega
  rw[he] at hx ⊢;exact(K9 hx.2).symm
def a0L:Rl:=⟨List Frm,fun L=>[w5 L,w5 L],fun _=>.bool true,fun L=>L.length<=1048576/\∀i,i<L.length->SmF (L.getD i default)⟩
def b61:Con:=.rel a0L
def b8f(L:List Frm):Nat->Ann
 |0=>.one {i:Nat//i<=L.length} (fun x=>⟨[(0,w5 L),(1,w5 L),(5,.int .i64 x.1)],[]⟩) (fun x=>L.length-x.1) [] [] (fun _=>Z0)
 |_=>.none
noncomputable def b8n:Code:=Tryz.f95.body.getD .skip
theorem a1l:Z7 Tryz.prog 95:=⟨_,Tryz.func95,by kernel_rfl,by kernel_rfl⟩
theorem b6I(L:List Frm)(h:
  (((L.length:Int) !=(L.length:Int))=true->false=true)/\(((L.length:Int) !=(L.length:Int))=false->(∃(x:{i:Nat//i<=L.length}),((Y4 V6 L L)/\(Y4 V6 L L)/\(0:Int)=(x.val:Int)/\True)/\True)/\∀(x
  :{i:Nat//i<=L.length}),(decide ((x.val:Int)<(L.length:Int))=true->X0 (x.val:Int) L.length/\X0 (x.val:Int) L.length/\∃(x_1:a9t.ι),((((L.getD (x.val:Int).toNat default).no=x_1.no/\(L.getD
  (x.val:Int).toNat default).pg.lsn=x_1.pg.lsn/\(Y4 Z6 (L.getD (x.val:Int).toNat default).pg.sl x_1.pg.sl)/\(L.getD (x.val:Int).toNat default).dirty=x_1.dirty/\(L.getD (x.val:Int).toNat default).first=x_1.first/\True)
  /\((L.getD (x.val:Int).toNat default).no=x_1.no/\(L.getD (x.val:Int).toNat default).pg.lsn=x_1.pg.lsn/\(Y4 Z6 (L.getD (x.val:Int).toNat default).pg.sl x_1.pg.sl)/\(L.getD (x.val:Int).toNat default).dirty=x_1.dirty/\
  (L.getD (x.val:Int).toNat default).first=x_1.first/\True)/\True)/\SmF x_1)/\(false=true->false=true)/\(false=false->X8 .i64 ((x.val:Int)+(1:Int))/\∃(y:{i:Nat//i<=L.length}),(((Y4 V6 L L)/\(Y4
  V6 L L)/\(x.val:Int)+(1:Int)=(y.val:Int)/\True)/\True)/\Lt (L.length-y.val) (L.length-x.val)))/\(decide ((x.val:Int)<(L.length:Int))=false->true=true))):
  Z2 Tryz.prog 95 [w5 L,w5 L] (.bool true):=
 T4 (code:=b8n) (gC b68 a4x gN) Tryz.func95 (by kernel_rfl) (by kernel_rfl) (b8f L) h (by kernel_rfl)
theorem b18:Z1 Tryz.prog 95 b61:=by
 rintro(L:List Frm) ⟨hL,hb⟩;refine b6I L ⟨fun h=>by simp at h,fun _=>⟨⟨⟨0,T0 _⟩,⟨⟨(by trivial),Z9 _ _⟩,⟨(by trivial),Z9 _ _⟩,rfl,trivial⟩,trivial⟩,fun x=>⟨fun hc=> ?_,fun _=>rfl⟩⟩⟩
 have hlt:=Y9 hc;exact⟨Y7 hlt,Y7 hlt,L.getD x.val default,⟨⟨⟨rfl,rfl,⟨rfl,Z9 _ _⟩,rfl,rfl,trivial⟩,⟨rfl,rfl,⟨rfl,Z9 _ _⟩,rfl,rfl,trivial⟩,trivial⟩,hb _ hlt⟩,fun h=>h,fun _=>⟨W4 hlt (by omega),⟨x.val+1,hlt⟩,⟨⟨⟨(by trivial),Z9 _ _⟩,⟨(by trivial),Z9 _ _⟩,by simp only;omega,trivial⟩,trivial⟩,V9.ext_lt hlt⟩⟩
def B8(s:Sto):Nat:=A4 s.d+V2 S2 s.log+V2 R1 s.fr
def LmS(s:Sto):Prop:=LmD s.d/\(rT s.log.length/\∀r ∈ s.log,b2x r)/\LmL default LmF s.fr
def SmS(s:Sto):Prop:=pD s.d/\s.log.length<=1048576/\s.fr.length<=1048576/\∀i,i<s.fr.length->SmF (s.fr.getD i default)
def a8X:Rl:=⟨Sto×Int,fun x=>[.agg x.1.ts,.int .i64 x.2],fun x=>.int .i64 (rem x.2 (B8 x.1)),fun x=>G6 x.2/\LmS x.1⟩
def c1c:Con:=.rel a8X
noncomputable def c2B:Code:=Tryz.f32.body.getD .skip
theorem a4E:Z7 Tryz.prog 32:=⟨_,Tryz.func32,by kernel_rfl,by kernel_rfl⟩
theorem c4n(s:Sto)(left:Int)(h:
  ∃(x:a9w.ι),(((zR s.d x.fst)/\left=x.snd/\True)/\G6 x.snd/\LmD x.fst)/\(decide (rem x.snd (A4 x.fst)<(0:Int))=true->(-1:Int)=rem left (B8 s))/\(decide (rem x.snd (A4 x.fst)<(0:Int))=
  false->∃(x_1:a0Q.ι),(((Y4 Y5 s.log x_1.fst)/\rem x.snd (A4 x.fst)=x_1.snd/\True)/\G6 x_1.snd/\x_1.fst.length<=9223372036854775807/\∀(r:Rec),r ∈ x_1.fst->b2x r)/\(decide (rem x_1.snd (V2 S2
  x_1.fst)<(0:Int))=true->(-1:Int)=rem left (B8 s))/\(decide (rem x_1.snd (V2 S2 x_1.fst)<(0:Int))=false->∃(x:a1n.ι),(((Y4 V6 s.fr x.fst)/\rem x_1.snd (V2 S2 x_1.fst)=x.snd/\True)
  /\G6 x.snd/\rT x.fst.length/\∀(i:Nat),i<x.fst.length->LmF (x.fst.getD i default))/\(decide (rem x.snd (V2 R1 x.fst)<(0:Int))=true->(-1:Int)=rem left (B8 s))/\(decide (rem x.snd (V2 R1 x.fst)
  <(0:Int))=false->rem x.snd (V2 R1 x.fst)=rem left (B8 s))))):
  Z2 Tryz.prog 32 [.agg s.ts,.int .i64 left] (.int .i64 (rem left (B8 s))):=
 T4 (code:=c2B) (gC b8x a7y (gC b0Z a1K (gC b1o a3p gN))) Tryz.func32 (by kernel_rfl) (by kernel_rfl) Z0 h (by kernel_rfl)
theorem b9g:Z1 Tryz.prog 32 c1c:=by
 rintro⟨s,left⟩ ⟨hl,h1,h2,h3⟩;simp only at hl h1 h2 h3;have e:B8 s=A4 s.d+V2 S2 s.log+V2 R1 s.fr:=rfl;have e1:A4 s.d<=B8 s:=by omega
 have e2:A4 s.d+V2 S2 s.log<=B8 s:=by omega
 refine c4n s left ⟨(s.d,left),⟨⟨(xL _),rfl,trivial⟩,hl,h1⟩,fun h=>(F2 (D8 h) e1).symm,fun h=> ?_⟩
 obtain⟨q1,l1⟩:=xW (b:=V2 S2 s.log) (yQ h) hl rfl;refine⟨(s.log,rem left (A4 s.d)),⟨⟨⟨rfl,Z9 _ _⟩,rfl,trivial⟩,l1,h2⟩,fun g=> ?_,fun g=> ?_⟩
 ·simp only at g;rw[q1] at g;exact(F2 (D8 g) e2).symm
 ·simp only at g ⊢;rw[q1] at g ⊢;obtain⟨q2,l2⟩:=xW (b:=V2 R1 s.fr) (yQ g) hl rfl;refine⟨(s.fr,rem left (A4 s.d+V2 S2 s.log)),⟨⟨⟨rfl,Z9 _ _⟩,rfl,trivial⟩,l2,h3⟩,fun f=> ?_,fun f=> ?_⟩
  ·simp only at f;rw[q2] at f;exact(F2 (D8 f) (V5 _)).symm
  ·exact q2
def a84:Rl:=⟨Sto,fun s=>[.agg s.ts,.agg s.ts],fun _=>.bool true,SmS⟩
def c3T:Con:=.rel a84
noncomputable def c3w:Code:=Tryz.f44.body.getD .skip
theorem a51:Z7 Tryz.prog 44:=⟨_,Tryz.func44,by kernel_rfl,by kernel_rfl⟩
theorem c29(s:Sto)(h:
  ∃(x:a8H.ι),(((zR s.d x)/\(zR s.d x)/\True)/\pD x)/\(false=true->false=true)/\(false=false->((s.ep !=s.ep)=true->false=true)/\((s.ep !=s.ep)=false->∃(x:a1L.ι),(((s.log.length=
  List.length x/\Z8 s.log.length (Y5 s.log) (Y5 x))/\(s.log.length=List.length x/\Z8 s.log.length (Y5 s.log) (Y5 x))/\True)/\List.length x<=1048576)/\(false=true->false=true)/\(false=false->
  ((s.sure !=s.sure)=true->false=true)/\((s.sure !=s.sure)=false->∃(x:a0L.ι),(((s.fr.length=List.length x/\Z8 s.fr.length (V6 s.fr) (V6 x))/\(s.fr.length=List.length x/\Z8 s.fr.length
  (V6 s.fr) (V6 x))/\True)/\List.length x<=1048576/\∀(i:Nat),i<List.length x->SmF (List.getD x i default))/\(false=true->false=true)/\(false=false->((s.hand !=s.hand)=true->false=true)/\((s.hand
  !=s.hand)=false->true=true))))))):
  Z2 Tryz.prog 44 [.agg s.ts,.agg s.ts] (.bool true):=
 T4 (code:=c3w) (gC b8c a5H (gC b2e a1W (gC b18 a1l gN))) Tryz.func44 (by kernel_rfl) (by kernel_rfl) Z0 h (by kernel_rfl)
end Go.Proofs.YtokaojbaacnngaaGreat

