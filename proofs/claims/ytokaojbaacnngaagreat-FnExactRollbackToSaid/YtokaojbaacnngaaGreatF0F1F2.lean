/- A part of the proof. -/
import Derived.Test.YtokaojbaacnngaaGreatE7E8
namespace Go.Proofs.YtokaojbaacnngaaGreat
set_option maxRecDepth 100000
open Go.SS

def i9(row:Nat->List T)(z:List T)(i j:Nat):List T:=if j<i then row j else z
theorem c9{row:Nat->List T}{z cs:List T}{m:Nat}(hr:∀j,(row j).length=m)(hz:z.length=m)(i:Nat)(hc:cs=row i)(j:Nat):setRow (i9 row z i) (0+(i:Int).toNat) 0 cs j=i9 row z (i+1) j:=by
 have hl:(i9 row z i j).length=m:=by unfold i9;split<;>simp only[hr,hz]
 rw[I2 (by rw[hl,hc,hr]),show 0+(i:Int).toNat=i by omega]
 by_cases hji:j=i
 ·subst hji;rw[show Nat.beq j j=true from by simp]
  show cs=i9 row z (j+1) j;unfold i9;rw[if_pos (Nat.lt_succ_self j)];exact hc
 ·rw[show Nat.beq j i=false from Bool.eq_false_iff.2 λh=>hji (H9 h)]
  show i9 row z i j=i9 row z (i+1) j;unfold i9;by_cases h2:j<i
  ·rw[if_pos h2,if_pos (by omega)]
  ·rw[if_neg h2,if_neg (by omega)]
theorem wJ{row:Nat->List T}{z:List T}{n:Nat}:Z6 n (i9 row z n) row:=λi hi=>by unfold i9;rw[if_pos hi]
theorem xZ{row:Nat->List T}{z:List T}{n:Nat}:Z6 n (λ_=>z) (i9 row z 0):=λi hi=>by unfold i9;rw[if_neg (by omega)]
def rE(n:Nat):Prop:=n<=9223372036854775807

def I6(s:List UInt8):Nat:=s.length
def mF:Rl:=⟨List (List UInt8)×Int,λx=>[C0 x.1,.int .i64 x.2],λx=>.int .i64 (rem x.2 (T9 I6 x.1)),λx=>F1 x.2/\rE x.1.length/\∀i,i<x.1.length->rE (x.1.getD i []).length⟩
def b0N:Con:=.rel mF
def b0s(L:List (List UInt8))(left:Int):Nat->Ann
 |0=>.one {i:Nat//i<=L.length/\(V8 I6 L L.length i:Int)<=left} (λx=>⟨[(0,C0 L),(1,.int .i64 (left-V8 I6 L L.length x.1)),(5,.int .i64 x.1)],[]⟩) (λx=>L.length-x.1) [] [] (λ_=>Z0)
 |_=>.none
theorem iE:GK 132 b0N:=gk Tryz.func132<|by
 rintro⟨L,left⟩ ⟨⟨h0,h1⟩,hn,hb⟩;have hn:L.length<=9223372036854775807:=hn;simp only at h0 h1 hb;have hm:∀i,i<=L.length->V8 I6 L L.length i<=T9 I6 L:=λi hi=>E9 _ _ _ hi
 have hz:V8 I6 L L.length 0=L.length:=rfl;refine S6 gN Tryz.func132 (b0s L left) (α:=X4 .i64 (left- (L.length:Int))/\(decide (left- (L.length:Int)<(0:Int))=true->(-1:Int)=rem left (T9 I6 L))/\(decide (left- (L.length:Int)<(0:Int))=false->(∃(x:{i:Nat//i<=L.length/\(↑(V8 I6 L L.length i):Int)<=left}),((Y5 Z5 L L)/\left- (L.length:Int)=left- (↑(V8 I6 L L.length x.val):Int)/\(0:Int)=(x.val:Int)/\True)/\True)/\∀(x:{i:Nat//i<=L.length/\(↑(V8 I6 L L.length i):Int)<=left}),(decide ((x.val:Int)<(L.length:Int))=true->W4 (x.val:Int) L.length/\X4 .i64 (left- (↑(V8 I6 L L.length x.val):Int)- (↑(L.getD (x.val:Int).toNat []).length:Int))/\(decide (left- (↑(V8 I6 L L.length x.val):Int)- (↑(L.getD (x.val:Int).toNat []).length:Int)<(0:Int))=true->(-1:Int)=rem left (T9 I6 L))/\(decide (left- (↑(V8 I6 L L.length x.val):Int)- (↑(L.getD (x.val:Int).toNat []).length:Int)<(0:Int))=false->X4 .i64 ((x.val:Int)+(1:Int))/\∃(y:{i:Nat//i<=L.length/\(↑(V8 I6 L L.length i):Int)<=left}),(((Y5 Z5 L L)/\left- (↑(V8 I6 L L.length x.val):Int)- (↑(L.getD (x.val:Int).toNat []).length:Int)=left- (↑(V8 I6 L L.length y.val):Int)/\(x.val:Int)+(1:Int)=(y.val:Int)/\True)/\True)/\Lt (L.length-y.val) (L.length-x.val)))/\(decide ((x.val:Int)<(L.length:Int))=false->left- (↑(V8 I6 L L.length x.val):Int)=rem left (T9 I6 L)))) ?_
 simp only[z9,o9,tW];refine⟨by omega,λh=>(N6 (by have:=hm 0 (S7 _);omega)).symm,λh=>⟨⟨⟨0,S7 _,by omega⟩,⟨⟨(by trivial),Z2 _ _⟩,by simp only[hz],rfl,trivial⟩,trivial⟩,λx=>⟨λhc=> ?_,λhc=> ?_⟩⟩⟩
 ·have hlt:x.val<L.length:=by omega
  have hx:=x.2;have hs:=s3 I6 L L.length [] hlt;have hle:=hm (x.val+1) hlt;have hbr:(L.getD x.val []).length<=9223372036854775807:=hb _ hlt;unfold I6 at hs hx hle ⊢;rw[u9];refine⟨Y2 hlt,by omega,λhr=>(N6 (by unfold I6 at*;omega)).symm,λhr=>⟨by omega,⟨x.val+1,hlt,by unfold I6;omega⟩,⟨⟨⟨(by trivial),Z2 _ _⟩,by unfold I6;simp only;omega,by simp only;omega,trivial⟩,trivial⟩,V4.ext_lt hlt⟩⟩
 ·have hx:=x.2;have he:x.val=L.length:=by omega
  rw[he] at hx ⊢;exact(I7 hx.2).symm
def a9z(L:List (List UInt8)):Nat->Ann
 |0=>.one {i:Nat//i<=L.length} (λx=>⟨[(0,C0 L),(3,.osl 0 0 L.length),(4,.int .i64 x.1)],[some (.arr true 0 1 L.length (i9 (Z5 L) [.str []] x.1))]⟩) (λx=>L.length-x.1) [.arr 0] [.arr 0] (λ_=>Z0)
 |_=>.none
def lP:Rl:=⟨List (List UInt8),λL=>[C0 L,C0 L],λ_=>.bool true,λL=>L.length<=1048576⟩
def b2x:Con:=.rel lP
def b1w(L:List (List UInt8)):Nat->Ann
 |0=>.one {i:Nat//i<=L.length} (λx=>⟨[(0,C0 L),(1,C0 L),(5,.int .i64 x.1)],[]⟩) (λx=>L.length-x.1) [] [] (λ_=>Z0)
 |_=>.none
theorem jR:GK 167 b2x:=gk Tryz.func167<|by
 intro(L:List (List UInt8)) (hL:L.length<=1048576);refine S6 gN Tryz.func167 (b1w L) (α:=(((L.length:Int) !=(L.length:Int))=true->false=true)/\(((L.length:Int) !=(L.length:Int))=false->(∃(x:{i:Nat//i<=L.length}),((Y5 Z5 L L)/\(Y5 Z5 L L)/\(0:Int)=(x.val:Int)/\True)/\True)/\∀(x:{i:Nat//i<=L.length}),(decide ((x.val:Int)<(L.length:Int))=true->W4 (x.val:Int) L.length/\W4 (x.val:Int) L.length/\((!L.getD (x.val:Int).toNat []==L.getD (x.val:Int).toNat [])=true->false=true)/\((!L.getD (x.val:Int).toNat []==L.getD (x.val:Int).toNat [])=false->X4 .i64 ((x.val:Int)+(1:Int))/\∃(y:{i:Nat//i<=L.length}),(((Y5 Z5 L L)/\(Y5 Z5 L L)/\(x.val:Int)+(1:Int)=(y.val:Int)/\True)/\True)/\Lt (L.length-y.val) (L.length-x.val)))/\(decide ((x.val:Int)<(L.length:Int))=false->true=true))) ⟨λh=>by simp at h,λ_=>⟨⟨⟨0,S7 _⟩,⟨⟨(by trivial),Z2 _ _⟩,⟨(by trivial),Z2 _ _⟩,Z9⟩,trivial⟩,λx=>⟨λhc=> ?_,λ_=>rfl⟩⟩⟩
 have hlt:=Y1 hc;exact⟨Y2 hlt,Y2 hlt,λh=>by simp at h,λ_=>⟨V7 hlt (by omega),⟨x.val+1,hlt⟩,⟨⟨⟨(by trivial),Z2 _ _⟩,⟨(by trivial),Z2 _ _⟩,by simp only;omega,trivial⟩,trivial⟩,V4.ext_lt hlt⟩⟩
def a1g:Rl:=⟨List Int×Int,λx=>[wE x.1,.int .i64 x.2],λx=>.int .i64 (rem x.2 x.1.length),λx=>F1 x.2/\rE x.1.length⟩
def b0J:Con:=.rel a1g
theorem a8y:GK 134 b0J:=gk Tryz.func134<|by
 rintro⟨L,left⟩ ⟨⟨h0,h1⟩,hn⟩;have hn:L.length<=9223372036854775807:=hn;simp only at h0 h1;refine S6 gN Tryz.func134 Z0 (α:=X4 .i64 (left- (L.length:Int))/\(decide (left- (L.length:Int)<(0:Int))=true->(-1:Int)=rem left L.length)/\(decide (left- (L.length:Int)<(0:Int))=false->left- (L.length:Int)=rem left L.length)) ?_
 simp only[z9,o9,tW];exact⟨by omega,λh=>(N6 (by omega)).symm,λh=>(I7 (by omega)).symm⟩
def a85(L:List Int):Nat->Ann
 |0=>.one {i:Nat//i<=L.length} (λx=>⟨[(0,wE L),(3,.osl 0 0 L.length),(4,.int .i64 x.1)],[some (.arr true 0 1 L.length (i9 (Y9 L) [.int .i64 0] x.1))]⟩) (λx=>L.length-x.1) [.arr 0] [.arr 0] (λ_=>Z0)
 |_=>.none
def aT:Rl:=⟨List Int,λL=>[wE L,wE L],λ_=>.bool true,λL=>L.length<=1048576⟩
def b29:Con:=.rel aT
def b2P(L:List Int):Nat->Ann
 |0=>.one {i:Nat//i<=L.length} (λx=>⟨[(0,wE L),(1,wE L),(5,.int .i64 x.1)],[]⟩) (λx=>L.length-x.1) [] [] (λ_=>Z0)
 |_=>.none
theorem a70:GK 16 b29:=gk Tryz.func16<|by
 intro(L:List Int) (hL:L.length<=1048576);refine S6 gN Tryz.func16 (b2P L) (α:=(((L.length:Int) !=(L.length:Int))=true->false=true)/\(((L.length:Int) !=(L.length:Int))=false->(∃(x:{i:Nat//i<=L.length}),((Y5 Y9 L L)/\(Y5 Y9 L L)/\(0:Int)=(x.val:Int)/\True)/\True)/\∀(x:{i:Nat//i<=L.length}),(decide ((x.val:Int)<(L.length:Int))=true->W4 (x.val:Int) L.length/\W4 (x.val:Int) L.length/\((L.getD (x.val:Int).toNat (0:Int) !=L.getD (x.val:Int).toNat (0:Int))=true->false=true)/\((L.getD (x.val:Int).toNat (0:Int) !=L.getD (x.val:Int).toNat (0:Int))=false->X4 .i64 ((x.val:Int)+(1:Int))/\∃(y:{i:Nat//i<=L.length}),(((Y5 Y9 L L)/\(Y5 Y9 L L)/\(x.val:Int)+(1:Int)=(y.val:Int)/\True)/\True)/\Lt (L.length-y.val) (L.length-x.val)))/\(decide ((x.val:Int)<(L.length:Int))=false->true=true))) ⟨λh=>by simp at h,λ_=>⟨⟨⟨0,S7 _⟩,⟨⟨(by trivial),Z2 _ _⟩,⟨(by trivial),Z2 _ _⟩,Z9⟩,trivial⟩,λx=>⟨λhc=> ?_,λ_=>rfl⟩⟩⟩
 have hlt:=Y1 hc;exact⟨Y2 hlt,Y2 hlt,λh=>by simp at h,λ_=>⟨V7 hlt (by omega),⟨x.val+1,hlt⟩,⟨⟨⟨(by trivial),Z2 _ _⟩,⟨(by trivial),Z2 _ _⟩,by simp only;omega,trivial⟩,trivial⟩,V4.ext_lt hlt⟩⟩
def P3(p:Pend):Nat:=p.d.length
def LmP(p:Pend):Prop:=rE p.d.length
def SmP(_:Pend):Prop:=True
def bP:Rl:=⟨Pend×Int,λx=>[.agg x.1.ts,.int .i64 x.2],λx=>.int .i64 (rem x.2 (P3 x.1)),λx=>F1 x.2/\LmP x.1⟩
def a9D:Con:=.rel bP
def a0j:Rl:=⟨Pend,λr=>[.agg r.ts],λr=>.agg r.ts,SmP⟩
def b0P:Con:=.rel a0j
def aE:Rl:=⟨Pend,λr=>[.agg r.ts,.agg r.ts],λ_=>.bool true,SmP⟩
def b10:Con:=.rel aE
theorem a78:GK 198 a9D:=gk Tryz.func198<|by
 rintro⟨r,left⟩ ⟨⟨h0,h1⟩,hb⟩;have hb:r.d.length<=9223372036854775807:=hb;simp only at h0 h1;refine S6 gN Tryz.func198 Z0 (α:=X4 .i64 (left- (r.d.length:Int))/\(decide (left- (r.d.length:Int)<(0:Int))=true->(-1:Int)=rem left (P3 r))/\(decide (left- (r.d.length:Int)<(0:Int))=false->left- (r.d.length:Int)=rem left (P3 r))) ?_
 simp only[z9,o9,tW];have e:((P3 r:Nat):Int)=r.d.length:=rfl;exact⟨by omega,λh=>(N6 (by omega)).symm,λh=>by rw[I7 (by omega)];omega⟩
theorem b3g(r:Pend)(h:
  r.at_=r.at_/\r.d=r.d/\True):
  U6 Tryz.prog 204 [.agg r.ts] (.agg r.ts):=
 S6 gN Tryz.func204 Z0 h
theorem a6a:GK 204 b0P:=gk Tryz.func204<|λr _=>b3g r ⟨rfl,Z9⟩
theorem a6e:GK 227 b10:=gk Tryz.func227<|by
 intro r _;refine S6 gN Tryz.func227 Z0 (α:=((r.at_ !=r.at_)=true->false=true)/\((r.at_ !=r.at_)=false->((!r.d==r.d)=true->false=true)/\((!r.d==r.d)=false->true=true))) ?_
 simp
def jM:Rl:=⟨List Pend×Int,λx=>[C8 x.1,.int .i64 x.2],λx=>.int .i64 (rem x.2 (T9 P3 x.1)),λx=>F1 x.2/\rE x.1.length/\∀i,i<x.1.length->LmP (x.1.getD i default)⟩
def a80:Con:=.rel jM
def a63(L:List Pend)(left:Int):Nat->Ann
 |0=>.one {i:Nat//i<=L.length/\(V8 P3 L L.length i:Int)<=left} (λx=>⟨[(0,C8 L),(1,.int .i64 (left-V8 P3 L L.length x.1)),(5,.int .i64 x.1)],[]⟩) (λx=>L.length-x.1) [] [] (λ_=>Z0)
 |_=>.none
theorem a26:GK 133 a80:=gk Tryz.func133<|by
 rintro⟨L,left⟩ ⟨⟨h0,h1⟩,hn,hb⟩;have hn:L.length<=9223372036854775807:=hn;simp only at h0 h1 hb;have hm:∀i,i<=L.length->V8 P3 L L.length i<=T9 P3 L:=λi hi=>E9 _ _ _ hi
 have hz:V8 P3 L L.length 0=L.length:=rfl;refine S6 (gC a78 gN) Tryz.func133 (a63 L left) (α:=X4 .i64 (left- (L.length:Int))/\(decide (left- (L.length:Int)<(0:Int))=true->(-1:Int)=rem left (T9 P3 L))/\(decide (left- (L.length:Int)<(0:Int))=false->(∃(x:{i:Nat//i<=L.length/\(↑(V8 P3 L L.length i):Int)<=left}),((Y5 Z3 L L)/\left- (L.length:Int)=left- (↑(V8 P3 L L.length x.val):Int)/\(0:Int)=(x.val:Int)/\True)/\True)/\∀(x:{i:Nat//i<=L.length/\(↑(V8 P3 L L.length i):Int)<=left}),(decide ((x.val:Int)<(L.length:Int))=true->W4 (x.val:Int) L.length/\∃(x_1:bP.ι),((((L.getD (x.val:Int).toNat default).at_=x_1.1.at_/\(L.getD (x.val:Int).toNat default).d=x_1.1.d/\True)/\left- (↑(V8 P3 L L.length x.val):Int)=x_1.2/\True)/\F1 x_1.2/\LmP x_1.1)/\(decide (rem x_1.2 (P3 x_1.1)<(0:Int))=true->(-1:Int)=rem left (T9 P3 L))/\(decide (rem x_1.2 (P3 x_1.1)<(0:Int))=false->X4 .i64 ((x.val:Int)+(1:Int))/\∃(y:{i:Nat//i<=L.length/\(↑(V8 P3 L L.length i):Int)<=left}),(((Y5 Z3 L L)/\rem x_1.2 (P3 x_1.1)=left- (↑(V8 P3 L L.length y.val):Int)/\(x.val:Int)+(1:Int)=(y.val:Int)/\True)/\True)/\Lt (L.length-y.val) (L.length-x.val)))/\(decide ((x.val:Int)<(L.length:Int))=false->left- (↑(V8 P3 L L.length x.val):Int)=rem left (T9 P3 L)))) ?_
 simp only[z9,o9,tW];refine⟨by omega,λh=>(N6 (by have:=hm 0 (S7 _);omega)).symm,λh=>⟨⟨⟨0,S7 _,by omega⟩,⟨⟨(by trivial),Z2 _ _⟩,by simp only[hz],rfl,trivial⟩,trivial⟩,λx=>⟨λhc=> ?_,λhc=> ?_⟩⟩⟩
 ·have hlt:x.val<L.length:=by omega
  have hx:=x.2;have hs:=s3 P3 L L.length default hlt;have hle:=hm (x.val+1) hlt;have hbr:=hb _ hlt;refine⟨Y2 hlt,(L.getD x.val default,left- (V8 P3 L L.length x.val:Int)),⟨⟨⟨rfl,Z9⟩,Z9⟩,⟨by simp only;omega,by simp only;omega⟩,hbr⟩,λhr=> ?_,λhr=>⟨by omega,⟨x.val+1,hlt,?_⟩,⟨⟨⟨(by trivial),Z2 _ _⟩,?_,by simp only;omega,trivial⟩,trivial⟩,V4.ext_lt hlt⟩⟩
  ·simp only at hr;by_cases hq:(P3 (L.getD x.val default):Int)<=left- (V8 P3 L L.length x.val:Int)
   ·rw[I7 hq] at hr;omega
   ·exact(N6 (by omega)).symm
  ·simp only at hr;by_cases hq:(P3 (L.getD x.val default):Int)<=left- (V8 P3 L L.length x.val:Int)
   ·omega
   ·rw[N6 (by omega)] at hr
    omega
  ·simp only at hr ⊢;by_cases hq:(P3 (L.getD x.val default):Int)<=left- (V8 P3 L L.length x.val:Int)
   ·rw[I7 hq];omega
   ·rw[N6 (by omega)] at hr
    omega
 ·have hx:=x.2;have he:x.val=L.length:=by omega
  rw[he] at hx ⊢;exact(I7 hx.2).symm
def a7M(L:List Pend):Nat->Ann
 |0=>.one {i:Nat//i<=L.length} (λx=>⟨[(0,C8 L),(3,.osl 0 0 L.length),(4,.int .i64 x.1)],[some (.arr true 0 2 L.length (i9 (Z3 L) [.int .i64 0,.str []] x.1))]⟩) (λx=>L.length-x.1) [.arr 0] [.arr 0] (λ_=>Z0)
 |_=>.none
def iN:Rl:=⟨List Pend,λL=>[C8 L,C8 L],λ_=>.bool true,λL=>L.length<=1048576/\∀i,i<L.length->SmP (L.getD i default)⟩
def a8x:Con:=.rel iN
def a62(L:List Pend):Nat->Ann
 |0=>.one {i:Nat//i<=L.length} (λx=>⟨[(0,C8 L),(1,C8 L),(5,.int .i64 x.1)],[]⟩) (λx=>L.length-x.1) [] [] (λ_=>Z0)
 |_=>.none
theorem a1y:GK 168 a8x:=gk Tryz.func168<|by
 rintro(L:List Pend) ⟨hL,hb⟩;refine S6 (gC a6e gN) Tryz.func168 (a62 L) (α:=(((L.length:Int) !=(L.length:Int))=true->false=true)/\(((L.length:Int) !=(L.length:Int))=false->(∃(x:{i:Nat//i<=L.length}),((Y5 Z3 L L)/\(Y5 Z3 L L)/\(0:Int)=(x.val:Int)/\True)/\True)/\∀(x:{i:Nat//i<=L.length}),(decide ((x.val:Int)<(L.length:Int))=true->W4 (x.val:Int) L.length/\W4 (x.val:Int) L.length/\∃(x_1:aE.ι),((((L.getD (x.val:Int).toNat default).at_=x_1.at_/\(L.getD (x.val:Int).toNat default).d=x_1.d/\True)/\((L.getD (x.val:Int).toNat default).at_=x_1.at_/\(L.getD (x.val:Int).toNat default).d=x_1.d/\True)/\True)/\SmP x_1)/\(false=true->false=true)/\(false=false->X4 .i64 ((x.val:Int)+(1:Int))/\∃(y:{i:Nat//i<=L.length}),(((Y5 Z3 L L)/\(Y5 Z3 L L)/\(x.val:Int)+(1:Int)=(y.val:Int)/\True)/\True)/\Lt (L.length-y.val) (L.length-x.val)))/\(decide ((x.val:Int)<(L.length:Int))=false->true=true))) ⟨λh=>by simp at h,λ_=>⟨⟨⟨0,S7 _⟩,⟨⟨(by trivial),Z2 _ _⟩,⟨(by trivial),Z2 _ _⟩,Z9⟩,trivial⟩,λx=>⟨λhc=> ?_,λ_=>rfl⟩⟩⟩
 have hlt:=Y1 hc;exact⟨Y2 hlt,Y2 hlt,L.getD x.val default,⟨⟨⟨rfl,Z9⟩,⟨rfl,Z9⟩,trivial⟩,hb _ hlt⟩,λh=>h,λ_=>⟨V7 hlt (by omega),⟨x.val+1,hlt⟩,⟨⟨⟨(by trivial),Z2 _ _⟩,⟨(by trivial),Z2 _ _⟩,by simp only;omega,trivial⟩,trivial⟩,V4.ext_lt hlt⟩⟩
end Go.Proofs.YtokaojbaacnngaaGreat

namespace Go.Proofs.YtokaojbaacnngaaGreat
set_option maxRecDepth 100000
open Go.SS

theorem D3{left:Int}{a b:Nat}(h:rem left a<0)(hab:a<=b):rem left b= -1:=by
 refine N6 ?_
 by_cases hq:(a:Int)<=left
 ·rw[I7 hq] at h;omega
 ·omega
theorem wP{left:Int}{a b c:Nat}(h:¬rem left a<0)(hl:F1 left)(hc:c=a+b):rem (rem left a) b=rem left c/\F1 (rem left a):=by
 by_cases hq:(a:Int)<=left
 ·rw[I7 hq] at h ⊢;obtain⟨h0,h1⟩:=hl;refine⟨?_,by constructor<;>omega⟩
  by_cases hr:(c:Int)<=left
  ·rw[I7 hr,I7 (by omega)]
   omega
  ·rw[N6 (by omega),N6 (by omega)]
 ·rw[N6 (by omega)] at h
  omega
def t8(d:Dsk):Nat:=T9 I6 d.sec+T9 P3 d.cache+d.keep.length
def LmL{α:Type}(d:α)(f:α->Prop)(L:List α):Prop:=rE L.length/\∀i,i<L.length->f (L.getD i d)
def LmD(d:Dsk):Prop:=LmL [] (λs=>rE s.length) d.sec/\LmL default LmP d.cache/\rE d.keep.length
def sQ(d:Dsk):Prop:=d.sec.length<=1048576/\d.cache.length<=1048576/\d.keep.length<=1048576
def a4M:Rl:=⟨Dsk×Int,λx=>[.agg x.1.ts,.int .i64 x.2],λx=>.int .i64 (rem x.2 (t8 x.1)),λx=>F1 x.2/\LmD x.1⟩
def b5O:Con:=.rel a4M
theorem b0O:GK 67 b5O:=gk Tryz.func67<|by
 rintro⟨d,left⟩ ⟨hl,h1,h2,h3⟩;simp only at hl h1 h2 h3;have e:t8 d=T9 I6 d.sec+T9 P3 d.cache+d.keep.length:=rfl;have e1:T9 I6 d.sec<=t8 d:=by omega
 have e2:T9 I6 d.sec+T9 P3 d.cache<=t8 d:=by omega
 refine S6 (gC iE (gC a26 (gC a8y gN))) Tryz.func67 Z0 (α:=∃(x:mF.ι),(((Y5 Z5 d.sec x.1)/\left=x.2/\True)/\F1 x.2/\rE x.1.length/\∀(i:Nat),i<x.1.length->rE (x.1.getD i []).length)/\(decide (rem x.2 (T9 I6 x.1)<(0:Int))=true->(-1:Int)=rem left (t8 d))/\(decide (rem x.2 (T9 I6 x.1)<(0:Int))=false->∃(x_1:jM.ι),(((Y5 Z3 d.cache x_1.1)/\rem x.2 (T9 I6 x.1)=x_1.2/\True)/\F1 x_1.2/\rE x_1.1.length/\∀(i:Nat),i<x_1.1.length->LmP (x_1.1.getD i default))/\(decide (rem x_1.2 (T9 P3 x_1.1)<(0:Int))=true->(-1:Int)=rem left (t8 d))/\(decide (rem x_1.2 (T9 P3 x_1.1)<(0:Int))=false->∃(x:a1g.ι),(((Y5 Y9 d.keep x.1)/\rem x_1.2 (T9 P3 x_1.1)=x.2/\True)/\F1 x.2/\rE x.1.length)/\(decide (rem x.2 x.1.length<(0:Int))=true->(-1:Int)=rem left (t8 d))/\(decide (rem x.2 x.1.length<(0:Int))=false->rem x.2 x.1.length=rem left (t8 d))))) ⟨(d.sec,left),⟨⟨Z8,Z9⟩,hl,h1⟩,λh=>(D3 (F3 h) e1).symm,λh=> ?_⟩
 obtain⟨q1,l1⟩:=wP (b:=T9 P3 d.cache) (yQ h) hl rfl;refine⟨(d.cache,rem left (T9 I6 d.sec)),⟨⟨Z8,Z9⟩,l1,h2⟩,λg=> ?_,λg=> ?_⟩
 ·simp only at g;rw[q1] at g;exact(D3 (F3 g) e2).symm
 ·simp only at g ⊢;rw[q1] at g ⊢;obtain⟨q2,l2⟩:=wP (b:=d.keep.length) (yQ g) hl rfl;refine⟨(d.keep,rem left (T9 I6 d.sec+T9 P3 d.cache)),⟨⟨Z8,Z9⟩,l2,h3⟩,λf=> ?_,λf=> ?_⟩
  ·simp only at f;rw[q2] at f;exact(D3 (F3 f) (V2 _)).symm
  ·exact q2
def a5Z:Rl:=⟨Dsk,λd=>[.agg d.ts,.agg d.ts],λ_=>.bool true,sQ⟩
def b36:Con:=.rel a5Z
theorem b1p:GK 93 b36:=gk Tryz.func93<|by
 rintro(d:Dsk) ⟨h1,h2,h3⟩;exact S6 (gC jR (gC a1y (gC a70 gN))) Tryz.func93 Z0 (α:=∃(x:lP.ι),(((d.sec.length=List.length x/\Z6 d.sec.length (Z5 d.sec) (Z5 x))/\(d.sec.length=List.length x/\Z6 d.sec.length (Z5 d.sec) (Z5 x))/\True)/\List.length x<=1048576)/\(false=true->false=true)/\(false=false->∃(x:iN.ι),(((d.cache.length=List.length x/\Z6 d.cache.length (Z3 d.cache) (Z3 x))/\(d.cache.length=List.length x/\Z6 d.cache.length (Z3 d.cache) (Z3 x))/\True)/\List.length x<=1048576/\∀(i:Nat),i<List.length x->SmP (List.getD x i default))/\(false=true->false=true)/\(false=false->((!d.armed==d.armed)=true->false=true)/\((!d.armed==d.armed)=false->∃(x:aT.ι),(((d.keep.length=List.length x/\Z6 d.keep.length (Y9 d.keep) (Y9 x))/\(d.keep.length=List.length x/\Z6 d.keep.length (Y9 d.keep) (Y9 x))/\True)/\List.length x<=1048576)/\(false=true->false=true)/\(false=false->true=true))))) ⟨d.sec,⟨⟨Z8,X8⟩,h1⟩,λh=>h,λ_=>⟨d.cache,⟨⟨Z8,X8⟩,h2,λ_ _=>trivial⟩,λh=>h,λ_=>⟨λh=>by simp at h,λ_=>⟨d.keep,⟨⟨Z8,X8⟩,h3⟩,λh=>h,λ_=>rfl⟩⟩⟩⟩
def lL(p:Pg):Nat:=T9 I6 p.sl
def LmG(p:Pg):Prop:=LmL [] (λs=>rE s.length) p.sl
def SmG(p:Pg):Prop:=p.sl.length<=1048576
def b1Z:Rl:=⟨Pg×Int,λx=>[.agg x.1.ts,.int .i64 x.2],λx=>.int .i64 (rem x.2 (lL x.1)),λx=>F1 x.2/\LmG x.1⟩
def b7X:Con:=.rel b1Z
theorem b3k:GK 199 b7X:=gk Tryz.func199<|by
 rintro⟨p,left⟩ ⟨hl,h1⟩;exact S6 (gC iE gN) Tryz.func199 Z0 (α:=∃(x:mF.ι),(((Y5 Z5 p.sl x.1)/\left=x.2/\True)/\F1 x.2/\rE x.1.length/\∀(i:Nat),i<x.1.length->rE (x.1.getD i []).length)/\(decide (rem x.2 (T9 I6 x.1)<(0:Int))=true->(-1:Int)=rem left (lL p))/\(decide (rem x.2 (T9 I6 x.1)<(0:Int))=false->rem x.2 (T9 I6 x.1)=rem left (lL p))) ⟨(p.sl,left),⟨⟨Z8,Z9⟩,hl,h1⟩,λh=>(D3 (F3 h) (V2 _)).symm,λ_=>rfl⟩
def b05:Rl:=⟨Pg,λp=>[.agg p.ts,.agg p.ts],λ_=>.bool true,SmG⟩
def b6S:Con:=.rel b05
theorem b7S(p:Pg)(h:
  ((p.lsn !=p.lsn)=true->false=true)/\((p.lsn !=p.lsn)=false->∃(x:lP.ι),(((p.sl.length=List.length x/\Z6 p.sl.length (Z5 p.sl) (Z5 x))/\(p.sl.length=List.length x/\Z6 p.sl.length (Z5
  p.sl) (Z5 x))/\True)/\List.length x<=1048576)/\(false=true->false=true)/\(false=false->true=true))):
  U6 Tryz.prog 228 [.agg p.ts,.agg p.ts] (.bool true):=
 S6 (gC jR gN) Tryz.func228 Z0 h
theorem b4o:GK 228 b6S:=gk Tryz.func228<|λ(p:Pg) h1=>b7S p ⟨λh=>by simp at h,λ_=>⟨p.sl,⟨⟨Z8,X8⟩,h1⟩,λh=>h,λ_=>rfl⟩⟩
def P0(f:Frm):Nat:=lL f.pg
def LmF(f:Frm):Prop:=LmG f.pg
def SmF(f:Frm):Prop:=SmG f.pg
def a5H:Rl:=⟨Frm×Int,λx=>[.agg x.1.ts,.int .i64 x.2],λx=>.int .i64 (rem x.2 (P0 x.1)),λx=>F1 x.2/\LmF x.1⟩
def b3O:Con:=.rel a5H
theorem b2Y:GK 136 b3O:=gk Tryz.func136<|by
 rintro⟨f,left⟩ ⟨hl,h1⟩;exact S6 (gC b3k gN) Tryz.func136 Z0 (α:=∃(x:b1Z.ι),(((f.pg.lsn=x.1.lsn/\(Y5 Z5 f.pg.sl x.1.sl)/\True)/\left=x.2/\True)/\F1 x.2/\LmG x.1)/\(decide (rem x.2 (lL x.1)<(0:Int))=true->(-1:Int)=rem left (P0 f))/\(decide (rem x.2 (lL x.1)<(0:Int))=false->rem x.2 (lL x.1)=rem left (P0 f))) ⟨(f.pg,left),⟨⟨⟨rfl,X8⟩,Z9⟩,hl,h1⟩,λh=>(D3 (F3 h) (V2 _)).symm,λ_=>rfl⟩
def a5q:Rl:=⟨Frm,λf=>[.agg f.ts,.agg f.ts],λ_=>.bool true,SmF⟩
def b49:Con:=.rel a5q
theorem b5S(f:Frm)(h:
  ((f.no !=f.no)=true->false=true)/\((f.no !=f.no)=false->∃(x:b05.ι),(((f.pg.lsn=x.lsn/\(Y5 Z5 f.pg.sl x.sl)/\True)/\(f.pg.lsn=x.lsn/\(Y5 Z5 f.pg.sl x.sl)/\True)/\True)/\SmG x)/\(false=true
  ->false=true)/\(false=false->((!f.dirty==f.dirty)=true->false=true)/\((!f.dirty==f.dirty)=false->((f.first !=f.first)=true->false=true)/\((f.first !=f.first)=false->true=true))))):
  U6 Tryz.prog 170 [.agg f.ts,.agg f.ts] (.bool true):=
 S6 (gC b4o gN) Tryz.func170 Z0 h
theorem b0o:GK 170 b49:=gk Tryz.func170<|λ(f:Frm) h1=>b5S f ⟨λh=>by simp at h,λ_=>⟨f.pg,⟨⟨⟨rfl,X8⟩,⟨rfl,X8⟩,trivial⟩,h1⟩,λh=>h,λ_=>⟨λh=>by simp at h,λ_=>⟨λh=>by simp at h,λ_=>rfl⟩⟩⟩⟩
end Go.Proofs.YtokaojbaacnngaaGreat

namespace Go.Proofs.YtokaojbaacnngaaGreat
set_option maxRecDepth 100000
open Go.SS

def a0L:Rl:=⟨List Frm×Int,λx=>[wL x.1,.int .i64 x.2],λx=>.int .i64 (rem x.2 (T9 P0 x.1)),λx=>F1 x.2/\rE x.1.length/\∀i,i<x.1.length->LmF (x.1.getD i default)⟩
def b1q:Con:=.rel a0L
def a87(L:List Frm)(left:Int):Nat->Ann
 |0=>.one {i:Nat//i<=L.length/\(V8 P0 L L.length i:Int)<=left} (λx=>⟨[(0,wL L),(1,.int .i64 (left-V8 P0 L L.length x.1)),(5,.int .i64 x.1)],[]⟩) (λx=>L.length-x.1) [] [] (λ_=>Z0)
 |_=>.none
theorem a8c:GK 69 b1q:=gk Tryz.func69<|by
 rintro⟨L,left⟩ ⟨⟨h0,h1⟩,hn,hb⟩;have hn:L.length<=9223372036854775807:=hn;simp only at h0 h1 hb;have hm:∀i,i<=L.length->V8 P0 L L.length i<=T9 P0 L:=λi hi=>E9 _ _ _ hi
 have hz:V8 P0 L L.length 0=L.length:=rfl;refine S6 (gC b2Y gN) Tryz.func69 (a87 L left) (α:=X4 .i64 (left- (L.length:Int))/\(decide (left- (L.length:Int)<(0:Int))=true->(-1:Int)=rem left (T9 P0 L))/\(decide (left- (L.length:Int)<(0:Int))=false->(∃(x:{i:Nat//i<=L.length/\(↑(V8 P0 L L.length i):Int)<=left}),((Y5 X3 L L)/\left- (L.length:Int)=left- (↑(V8 P0 L L.length x.val):Int)/\(0:Int)=(x.val:Int)/\True)/\True)/\∀(x:{i:Nat//i<=L.length/\(↑(V8 P0 L L.length i):Int)<=left}),(decide ((x.val:Int)<(L.length:Int))=true->W4 (x.val:Int) L.length/\∃(x_1:a5H.ι),((((L.getD (x.val:Int).toNat default).no=x_1.1.no/\(L.getD (x.val:Int).toNat default).pg.lsn=x_1.1.pg.lsn/\(Y5 Z5 (L.getD (x.val:Int).toNat default).pg.sl x_1.1.pg.sl)/\(L.getD (x.val:Int).toNat default).dirty=x_1.1.dirty/\(L.getD (x.val:Int).toNat default).first=x_1.1.first/\True)/\left- (↑(V8 P0 L L.length x.val):Int)=x_1.2/\True)/\F1 x_1.2/\LmF x_1.1)/\(decide (rem x_1.2 (P0 x_1.1)<(0:Int))=true->(-1:Int)=rem left (T9 P0 L))/\(decide (rem x_1.2 (P0 x_1.1)<(0:Int))=false->X4 .i64 ((x.val:Int)+(1:Int))/\∃(y:{i:Nat//i<=L.length/\(↑(V8 P0 L L.length i):Int)<=left}),(((Y5 X3 L L)/\rem x_1.2 (P0 x_1.1)=left- (↑(V8 P0 L L.length y.val):Int)/\(x.val:Int)+(1:Int)=(y.val:Int)/\True)/\True)/\Lt (L.length-y.val) (L.length-x.val)))/\(decide ((x.val:Int)<(L.length:Int))=false->left- (↑(V8 P0 L L.length x.val):Int)=rem left (T9 P0 L)))) ?_
 simp only[z9,o9,tW];refine⟨by omega,λh=>(N6 (by have:=hm 0 (S7 _);omega)).symm,λh=>⟨⟨⟨0,S7 _,by omega⟩,⟨⟨(by trivial),Z2 _ _⟩,by simp only[hz],rfl,trivial⟩,trivial⟩,λx=>⟨λhc=> ?_,λhc=> ?_⟩⟩⟩
 ·have hlt:x.val<L.length:=by omega
  have hx:=x.2;have hs:=s3 P0 L L.length default hlt;have hle:=hm (x.val+1) hlt;have hbr:=hb _ hlt;refine⟨Y2 hlt,(L.getD x.val default,left- (V8 P0 L L.length x.val:Int)),⟨⟨⟨rfl,rfl,Z8,rfl,Z9⟩,Z9⟩,⟨by simp only;omega,by simp only;omega⟩,hbr⟩,λhr=> ?_,λhr=>⟨by omega,⟨x.val+1,hlt,?_⟩,⟨⟨⟨(by trivial),Z2 _ _⟩,?_,by simp only;omega,trivial⟩,trivial⟩,V4.ext_lt hlt⟩⟩
  ·simp only at hr;by_cases hq:(P0 (L.getD x.val default):Int)<=left- (V8 P0 L L.length x.val:Int)
   ·rw[I7 hq] at hr;omega
   ·exact(N6 (by omega)).symm
  ·simp only at hr;by_cases hq:(P0 (L.getD x.val default):Int)<=left- (V8 P0 L L.length x.val:Int)
   ·omega
   ·rw[N6 (by omega)] at hr
    omega
  ·simp only at hr ⊢;by_cases hq:(P0 (L.getD x.val default):Int)<=left- (V8 P0 L L.length x.val:Int)
   ·rw[I7 hq];omega
   ·rw[N6 (by omega)] at hr
    omega
 ·have hx:=x.2;have he:x.val=L.length:=by omega
  rw[he] at hx ⊢;exact(I7 hx.2).symm
def a0k:Rl:=⟨List Frm,λL=>[wL L,wL L],λ_=>.bool true,λL=>L.length<=1048576/\∀i,i<L.length->SmF (L.getD i default)⟩
def b21:Con:=.rel a0k
def b1x(L:List Frm):Nat->Ann
 |0=>.one {i:Nat//i<=L.length} (λx=>⟨[(0,wL L),(1,wL L),(5,.int .i64 x.1)],[]⟩) (λx=>L.length-x.1) [] [] (λ_=>Z0)
 |_=>.none
theorem a8R:GK 95 b21:=gk Tryz.func95<|by
 rintro(L:List Frm) ⟨hL,hb⟩;refine S6 (gC b0o gN) Tryz.func95 (b1x L) (α:=(((L.length:Int) !=(L.length:Int))=true->false=true)/\(((L.length:Int) !=(L.length:Int))=false->(∃(x:{i:Nat//i<=L.length}),((Y5 X3 L L)/\(Y5 X3 L L)/\(0:Int)=(x.val:Int)/\True)/\True)/\∀(x:{i:Nat//i<=L.length}),(decide ((x.val:Int)<(L.length:Int))=true->W4 (x.val:Int) L.length/\W4 (x.val:Int) L.length/\∃(x_1:a5q.ι),((((L.getD (x.val:Int).toNat default).no=x_1.no/\(L.getD (x.val:Int).toNat default).pg.lsn=x_1.pg.lsn/\(Y5 Z5 (L.getD (x.val:Int).toNat default).pg.sl x_1.pg.sl)/\(L.getD (x.val:Int).toNat default).dirty=x_1.dirty/\(L.getD (x.val:Int).toNat default).first=x_1.first/\True)/\((L.getD (x.val:Int).toNat default).no=x_1.no/\(L.getD (x.val:Int).toNat default).pg.lsn=x_1.pg.lsn/\(Y5 Z5 (L.getD (x.val:Int).toNat default).pg.sl x_1.pg.sl)/\(L.getD (x.val:Int).toNat default).dirty=x_1.dirty/\(L.getD (x.val:Int).toNat default).first=x_1.first/\True)/\True)/\SmF x_1)/\(false=true->false=true)/\(false=false->X4 .i64 ((x.val:Int)+(1:Int))/\∃(y:{i:Nat//i<=L.length}),(((Y5 X3 L L)/\(Y5 X3 L L)/\(x.val:Int)+(1:Int)=(y.val:Int)/\True)/\True)/\Lt (L.length-y.val) (L.length-x.val)))/\(decide ((x.val:Int)<(L.length:Int))=false->true=true))) ⟨λh=>by simp at h,λ_=>⟨⟨⟨0,S7 _⟩,⟨⟨(by trivial),Z2 _ _⟩,⟨(by trivial),Z2 _ _⟩,Z9⟩,trivial⟩,λx=>⟨λhc=> ?_,λ_=>rfl⟩⟩⟩
 have hlt:=Y1 hc;exact⟨Y2 hlt,Y2 hlt,L.getD x.val default,⟨⟨⟨rfl,rfl,Z8,rfl,Z9⟩,⟨rfl,rfl,Z8,rfl,Z9⟩,trivial⟩,hb _ hlt⟩,λh=>h,λ_=>⟨V7 hlt (by omega),⟨x.val+1,hlt⟩,⟨⟨⟨(by trivial),Z2 _ _⟩,⟨(by trivial),Z2 _ _⟩,by simp only;omega,trivial⟩,trivial⟩,V4.ext_lt hlt⟩⟩
def y7(s:Sto):Nat:=t8 s.d+T9 Q5 s.log+T9 P0 s.fr
def LmS(s:Sto):Prop:=LmD s.d/\(rE s.log.length/\∀r ∈ s.log,a7x r)/\LmL default LmF s.fr
def mP(s:Sto):Prop:=sQ s.d/\s.log.length<=1048576/\s.fr.length<=1048576/\∀i,i<s.fr.length->SmF (s.fr.getD i default)
def a54:Rl:=⟨Sto×Int,λx=>[.agg x.1.ts,.int .i64 x.2],λx=>.int .i64 (rem x.2 (y7 x.1)),λx=>F1 x.2/\LmS x.1⟩
def b5c:Con:=.rel a54
theorem b0g:GK 32 b5c:=gk Tryz.func32<|by
 rintro⟨s,left⟩ ⟨hl,h1,h2,h3⟩;simp only at hl h1 h2 h3;have e:y7 s=t8 s.d+T9 Q5 s.log+T9 P0 s.fr:=rfl;have e1:t8 s.d<=y7 s:=by omega
 have e2:t8 s.d+T9 Q5 s.log<=y7 s:=by omega
 refine S6 (gC b0O (gC a7o (gC a8c gN))) Tryz.func32 Z0 (α:=∃(x:a4M.ι),(((k4 s.d x.1)/\left=x.2/\True)/\F1 x.2/\LmD x.1)/\(decide (rem x.2 (t8 x.1)<(0:Int))=true->(-1:Int)=rem left (y7 s))/\(decide (rem x.2 (t8 x.1)<(0:Int))=false->∃(x_1:a0K.ι),(((Y5 Y7 s.log x_1.1)/\rem x.2 (t8 x.1)=x_1.2/\True)/\F1 x_1.2/\x_1.1.length<=9223372036854775807/\∀(r:Rec),r ∈ x_1.1->a7x r)/\(decide (rem x_1.2 (T9 Q5 x_1.1)<(0:Int))=true->(-1:Int)=rem left (y7 s))/\(decide (rem x_1.2 (T9 Q5 x_1.1)<(0:Int))=false->∃(x:a0L.ι),(((Y5 X3 s.fr x.1)/\rem x_1.2 (T9 Q5 x_1.1)=x.2/\True)/\F1 x.2/\rE x.1.length/\∀(i:Nat),i<x.1.length->LmF (x.1.getD i default))/\(decide (rem x.2 (T9 P0 x.1)<(0:Int))=true->(-1:Int)=rem left (y7 s))/\(decide (rem x.2 (T9 P0 x.1)<(0:Int))=false->rem x.2 (T9 P0 x.1)=rem left (y7 s))))) ⟨(s.d,left),⟨⟨(xN _),Z9⟩,hl,h1⟩,λh=>(D3 (F3 h) e1).symm,λh=> ?_⟩
 obtain⟨q1,l1⟩:=wP (b:=T9 Q5 s.log) (yQ h) hl rfl;refine⟨(s.log,rem left (t8 s.d)),⟨⟨Z8,Z9⟩,l1,h2⟩,λg=> ?_,λg=> ?_⟩
 ·simp only at g;rw[q1] at g;exact(D3 (F3 g) e2).symm
 ·simp only at g ⊢;rw[q1] at g ⊢;obtain⟨q2,l2⟩:=wP (b:=T9 P0 s.fr) (yQ g) hl rfl;refine⟨(s.fr,rem left (t8 s.d+T9 Q5 s.log)),⟨⟨Z8,Z9⟩,l2,h3⟩,λf=> ?_,λf=> ?_⟩
  ·simp only at f;rw[q2] at f;exact(D3 (F3 f) (V2 _)).symm
  ·exact q2
def a4Z:Rl:=⟨Sto,λs=>[.agg s.ts,.agg s.ts],λ_=>.bool true,mP⟩
def b4a:Con:=.rel a4Z
theorem b4d(s:Sto)(h:
  ∃(x:a5Z.ι),(((k4 s.d x)/\(k4 s.d x)/\True)/\sQ x)/\(false=true->false=true)/\(false=false->((s.ep !=s.ep)=true->false=true)/\((s.ep !=s.ep)=false->∃(x:a0O.ι),(((s.log.length=
  List.length x/\Z6 s.log.length (Y7 s.log) (Y7 x))/\(s.log.length=List.length x/\Z6 s.log.length (Y7 s.log) (Y7 x))/\True)/\List.length x<=1048576)/\(false=true->false=true)/\(false=false->
  ((s.sure !=s.sure)=true->false=true)/\((s.sure !=s.sure)=false->∃(x:a0k.ι),(((s.fr.length=List.length x/\Z6 s.fr.length (X3 s.fr) (X3 x))/\(s.fr.length=List.length x/\Z6 s.fr.length
  (X3 s.fr) (X3 x))/\True)/\List.length x<=1048576/\∀(i:Nat),i<List.length x->SmF (List.getD x i default))/\(false=true->false=true)/\(false=false->((s.hand !=s.hand)=true->false=true)/\((s.hand
  !=s.hand)=false->true=true))))))):
  U6 Tryz.prog 44 [.agg s.ts,.agg s.ts] (.bool true):=
 S6 (gC b1p (gC a7G (gC a8R gN))) Tryz.func44 Z0 h
end Go.Proofs.YtokaojbaacnngaaGreat

