/- A part of the proof. -/
import Derived.Test.YtokaojbaacnngaaGreatE7E8
namespace Go.Proofs.YtokaojbaacnngaaGreat
set_option maxRecDepth 100000
open Go.SS

def i3(row:Nat->List T)(z:List T)(i j:Nat):List T:=if j<i then row j else z
theorem zS{row:Nat->List T}{z cs:List T}{m:Nat}(hr:∀j,(row j).length=m)(hz:z.length=m)(i:Nat)(hc:cs=row i)(j:Nat):setRow (i3 row z i) (0+(i:Int).toNat) 0 cs j=i3 row z (i+1) j:=by
 have hl:(i3 row z i j).length=m:=by unfold i3;split<;>simp only[hr,hz]
 rw[J8 (by rw[hl,hc,hr]),show 0+(i:Int).toNat=i by omega]
 by_cases hji:j=i
 ·subst hji;rw[show Nat.beq j j=true from by simp]
  show cs=i3 row z (j+1) j;unfold i3;rw[if_pos (Nat.lt_succ_self j)];exact hc
 ·rw[show Nat.beq j i=false from Bool.eq_false_iff.2 λh=>hji (H7 h)]
  show i3 row z i j=i3 row z (i+1) j;unfold i3;by_cases h2:j<i
  ·rw[if_pos h2,if_pos (by omega)]
  ·rw[if_neg h2,if_neg (by omega)]
theorem vX{row:Nat->List T}{z:List T}{n:Nat}:Z6 n (i3 row z n) row:=λi hi=>by unfold i3;rw[if_pos hi]
theorem xO{row:Nat->List T}{z:List T}{n:Nat}:Z6 n (λ_=>z) (i3 row z 0):=λi hi=>by unfold i3;rw[if_neg (by omega)]
def qO(n:Nat):Prop:=n<=9223372036854775807

def H9(s:List UInt8):Nat:=s.length
def nE:Rl:=⟨List (List UInt8)×Int,λx=>[B4 x.1,.int .i64 x.2],λx=>.int .i64 (rem x.2 (T6 H9 x.1)),λx=>E7 x.2/\qO x.1.length/\∀i,i<x.1.length->qO (x.1.getD i []).length⟩
def b1z:Con:=.rel nE
def b3E(L:List (List UInt8))(left:Int):Nat->Ann
 |0=>.one {i:Nat//i<=L.length/\(V4 H9 L L.length i:Int)<=left} (λx=>⟨[(0,B4 L),(1,.int .i64 (left-V4 H9 L L.length x.1)),(5,.int .i64 x.1)],[]⟩) (λx=>L.length-x.1) [] [] (λ_=>Z0)
 |_=>.none
theorem iM:GK 132 b1z:=gk Tryz.func132<|by
 rintro⟨L,left⟩ ⟨⟨h0,h1⟩,hn,hb⟩;have hn:L.length<=9223372036854775807:=hn;simp only at h0 h1 hb;have hm:∀i,i<=L.length->V4 H9 L L.length i<=T6 H9 L:=λi hi=>D6 _ _ _ hi
 have hz:V4 H9 L L.length 0=L.length:=rfl;refine S3 gN Tryz.func132 (b3E L left) (α:=X2 .i64 (left- (L.length:Int))/\(decide (left- (L.length:Int)<(0:Int))=true->(-1:Int)=rem left (T6 H9 L))/\(decide (left- (L.length:Int)<(0:Int))=false->(∃(x:{i:Nat//i<=L.length/\(↑(V4 H9 L L.length i):Int)<=left}),((Y6 Z5 L L)/\left- (L.length:Int)=left- (↑(V4 H9 L L.length x.val):Int)/\(0:Int)=(x.val:Int)/\True)/\True)/\∀(x:{i:Nat//i<=L.length/\(↑(V4 H9 L L.length i):Int)<=left}),(decide ((x.val:Int)<(L.length:Int))=true->W2 (x.val:Int) L.length/\X2 .i64 (left- (↑(V4 H9 L L.length x.val):Int)- (↑(L.getD (x.val:Int).toNat []).length:Int))/\(decide (left- (↑(V4 H9 L L.length x.val):Int)- (↑(L.getD (x.val:Int).toNat []).length:Int)<(0:Int))=true->(-1:Int)=rem left (T6 H9 L))/\(decide (left- (↑(V4 H9 L L.length x.val):Int)- (↑(L.getD (x.val:Int).toNat []).length:Int)<(0:Int))=false->X2 .i64 ((x.val:Int)+(1:Int))/\∃(y:{i:Nat//i<=L.length/\(↑(V4 H9 L L.length i):Int)<=left}),(((Y6 Z5 L L)/\left- (↑(V4 H9 L L.length x.val):Int)- (↑(L.getD (x.val:Int).toNat []).length:Int)=left- (↑(V4 H9 L L.length y.val):Int)/\(x.val:Int)+(1:Int)=(y.val:Int)/\True)/\True)/\Lt (L.length-y.val) (L.length-x.val)))/\(decide ((x.val:Int)<(L.length:Int))=false->left- (↑(V4 H9 L L.length x.val):Int)=rem left (T6 H9 L)))) ?_
 simp only[z6,m5,tQ];refine⟨by omega,λh=>(M6 (by have:=hm 0 (S2 _);omega)).symm,λh=>⟨⟨⟨0,S2 _,by omega⟩,⟨⟨(by trivial),Z2 _ _⟩,by simp only[hz],rfl,trivial⟩,trivial⟩,λx=>⟨λhc=> ?_,λhc=> ?_⟩⟩⟩
 ·have hlt:x.val<L.length:=by omega
  have hx:=x.2;have hs:=t4 H9 L L.length [] hlt;have hle:=hm (x.val+1) hlt;have hbr:(L.getD x.val []).length<=9223372036854775807:=hb _ hlt;unfold H9 at hs hx hle ⊢;rw[z7];refine⟨Y3 hlt,by omega,λhr=>(M6 (by unfold H9 at*;omega)).symm,λhr=>⟨by omega,⟨x.val+1,hlt,by unfold H9;omega⟩,⟨⟨⟨(by trivial),Z2 _ _⟩,by unfold H9;simp only;omega,by simp only;omega,trivial⟩,trivial⟩,V3.ext_lt hlt⟩⟩
 ·have hx:=x.2;have he:x.val=L.length:=by omega
  rw[he] at hx ⊢;exact(I1 hx.2).symm
def b21(L:List (List UInt8)):Nat->Ann
 |0=>.one {i:Nat//i<=L.length} (λx=>⟨[(0,B4 L),(3,.osl 0 0 L.length),(4,.int .i64 x.1)],[some (.arr true 0 1 L.length (i3 (Z5 L) [.str []] x.1))]⟩) (λx=>L.length-x.1) [.arr 0] [.arr 0] (λ_=>Z0)
 |_=>.none
def kR:Rl:=⟨List (List UInt8),λL=>[B4 L,B4 L],λ_=>.bool true,λL=>L.length<=1048576⟩
def b1U:Con:=.rel kR
def b19(L:List (List UInt8)):Nat->Ann
 |0=>.one {i:Nat//i<=L.length} (λx=>⟨[(0,B4 L),(1,B4 L),(5,.int .i64 x.1)],[]⟩) (λx=>L.length-x.1) [] [] (λ_=>Z0)
 |_=>.none
theorem gB:GK 167 b1U:=gk Tryz.func167<|by
 intro(L:List (List UInt8)) (hL:L.length<=1048576);refine S3 gN Tryz.func167 (b19 L) (α:=(((L.length:Int) !=(L.length:Int))=true->false=true)/\(((L.length:Int) !=(L.length:Int))=false->(∃(x:{i:Nat//i<=L.length}),((Y6 Z5 L L)/\(Y6 Z5 L L)/\(0:Int)=(x.val:Int)/\True)/\True)/\∀(x:{i:Nat//i<=L.length}),(decide ((x.val:Int)<(L.length:Int))=true->W2 (x.val:Int) L.length/\W2 (x.val:Int) L.length/\((!L.getD (x.val:Int).toNat []==L.getD (x.val:Int).toNat [])=true->false=true)/\((!L.getD (x.val:Int).toNat []==L.getD (x.val:Int).toNat [])=false->X2 .i64 ((x.val:Int)+(1:Int))/\∃(y:{i:Nat//i<=L.length}),(((Y6 Z5 L L)/\(Y6 Z5 L L)/\(x.val:Int)+(1:Int)=(y.val:Int)/\True)/\True)/\Lt (L.length-y.val) (L.length-x.val)))/\(decide ((x.val:Int)<(L.length:Int))=false->true=true))) ⟨λh=>by simp at h,λ_=>⟨⟨⟨0,S2 _⟩,⟨⟨(by trivial),Z2 _ _⟩,⟨(by trivial),Z2 _ _⟩,Z9⟩,trivial⟩,λx=>⟨λhc=> ?_,λ_=>rfl⟩⟩⟩
 have hlt:=Y1 hc;exact⟨Y3 hlt,Y3 hlt,λh=>by simp at h,λ_=>⟨V5 hlt (by omega),⟨x.val+1,hlt⟩,⟨⟨⟨(by trivial),Z2 _ _⟩,⟨(by trivial),Z2 _ _⟩,by simp only;omega,trivial⟩,trivial⟩,V3.ext_lt hlt⟩⟩
def a0z:Rl:=⟨List Int×Int,λx=>[vQ x.1,.int .i64 x.2],λx=>.int .i64 (rem x.2 x.1.length),λx=>E7 x.2/\qO x.1.length⟩
def b1D:Con:=.rel a0z
theorem a7v:GK 134 b1D:=gk Tryz.func134<|by
 rintro⟨L,left⟩ ⟨⟨h0,h1⟩,hn⟩;have hn:L.length<=9223372036854775807:=hn;simp only at h0 h1;refine S3 gN Tryz.func134 Z0 (α:=X2 .i64 (left- (L.length:Int))/\(decide (left- (L.length:Int)<(0:Int))=true->(-1:Int)=rem left L.length)/\(decide (left- (L.length:Int)<(0:Int))=false->left- (L.length:Int)=rem left L.length)) ?_
 simp only[z6,m5,tQ];exact⟨by omega,λh=>(M6 (by omega)).symm,λh=>(I1 (by omega)).symm⟩
def b0V(L:List Int):Nat->Ann
 |0=>.one {i:Nat//i<=L.length} (λx=>⟨[(0,vQ L),(3,.osl 0 0 L.length),(4,.int .i64 x.1)],[some (.arr true 0 1 L.length (i3 (Y9 L) [.int .i64 0] x.1))]⟩) (λx=>L.length-x.1) [.arr 0] [.arr 0] (λ_=>Z0)
 |_=>.none
def a1z:Rl:=⟨List Int,λL=>[vQ L,vQ L],λ_=>.bool true,λL=>L.length<=1048576⟩
def b03:Con:=.rel a1z
def b3D(L:List Int):Nat->Ann
 |0=>.one {i:Nat//i<=L.length} (λx=>⟨[(0,vQ L),(1,vQ L),(5,.int .i64 x.1)],[]⟩) (λx=>L.length-x.1) [] [] (λ_=>Z0)
 |_=>.none
theorem a81:GK 16 b03:=gk Tryz.func16<|by
 intro(L:List Int) (hL:L.length<=1048576);refine S3 gN Tryz.func16 (b3D L) (α:=(((L.length:Int) !=(L.length:Int))=true->false=true)/\(((L.length:Int) !=(L.length:Int))=false->(∃(x:{i:Nat//i<=L.length}),((Y6 Y9 L L)/\(Y6 Y9 L L)/\(0:Int)=(x.val:Int)/\True)/\True)/\∀(x:{i:Nat//i<=L.length}),(decide ((x.val:Int)<(L.length:Int))=true->W2 (x.val:Int) L.length/\W2 (x.val:Int) L.length/\((L.getD (x.val:Int).toNat (0:Int) !=L.getD (x.val:Int).toNat (0:Int))=true->false=true)/\((L.getD (x.val:Int).toNat (0:Int) !=L.getD (x.val:Int).toNat (0:Int))=false->X2 .i64 ((x.val:Int)+(1:Int))/\∃(y:{i:Nat//i<=L.length}),(((Y6 Y9 L L)/\(Y6 Y9 L L)/\(x.val:Int)+(1:Int)=(y.val:Int)/\True)/\True)/\Lt (L.length-y.val) (L.length-x.val)))/\(decide ((x.val:Int)<(L.length:Int))=false->true=true))) ⟨λh=>by simp at h,λ_=>⟨⟨⟨0,S2 _⟩,⟨⟨(by trivial),Z2 _ _⟩,⟨(by trivial),Z2 _ _⟩,Z9⟩,trivial⟩,λx=>⟨λhc=> ?_,λ_=>rfl⟩⟩⟩
 have hlt:=Y1 hc;exact⟨Y3 hlt,Y3 hlt,λh=>by simp at h,λ_=>⟨V5 hlt (by omega),⟨x.val+1,hlt⟩,⟨⟨⟨(by trivial),Z2 _ _⟩,⟨(by trivial),Z2 _ _⟩,by simp only;omega,trivial⟩,trivial⟩,V3.ext_lt hlt⟩⟩
def O6(p:Pend):Nat:=p.d.length
def LmP(p:Pend):Prop:=qO p.d.length
def SmP(_:Pend):Prop:=True
def a1t:Rl:=⟨Pend×Int,λx=>[.agg x.1.ts,.int .i64 x.2],λx=>.int .i64 (rem x.2 (O6 x.1)),λx=>E7 x.2/\LmP x.1⟩
def b2x:Con:=.rel a1t
def a1W:Rl:=⟨Pend,λr=>[.agg r.ts],λr=>.agg r.ts,SmP⟩
def b2t:Con:=.rel a1W
def a1y:Rl:=⟨Pend,λr=>[.agg r.ts,.agg r.ts],λ_=>.bool true,SmP⟩
def b2m:Con:=.rel a1y
theorem a7m:GK 198 b2x:=gk Tryz.func198<|by
 rintro⟨r,left⟩ ⟨⟨h0,h1⟩,hb⟩;have hb:r.d.length<=9223372036854775807:=hb;simp only at h0 h1;refine S3 gN Tryz.func198 Z0 (α:=X2 .i64 (left- (r.d.length:Int))/\(decide (left- (r.d.length:Int)<(0:Int))=true->(-1:Int)=rem left (O6 r))/\(decide (left- (r.d.length:Int)<(0:Int))=false->left- (r.d.length:Int)=rem left (O6 r))) ?_
 simp only[z6,m5,tQ];have e:((O6 r:Nat):Int)=r.d.length:=rfl;exact⟨by omega,λh=>(M6 (by omega)).symm,λh=>by rw[I1 (by omega)];omega⟩
theorem b3R(r:Pend)(h:
  r.at_=r.at_/\r.d=r.d/\True):
  U3 Tryz.prog 204 [.agg r.ts] (.agg r.ts):=
 S3 gN Tryz.func204 Z0 h
theorem a7M:GK 204 b2t:=gk Tryz.func204<|λr _=>b3R r ⟨rfl,Z9⟩
theorem a7l:GK 227 b2m:=gk Tryz.func227<|by
 intro r _;refine S3 gN Tryz.func227 Z0 (α:=((r.at_ !=r.at_)=true->false=true)/\((r.at_ !=r.at_)=false->((!r.d==r.d)=true->false=true)/\((!r.d==r.d)=false->true=true))) ?_
 simp
def iY:Rl:=⟨List Pend×Int,λx=>[C2 x.1,.int .i64 x.2],λx=>.int .i64 (rem x.2 (T6 O6 x.1)),λx=>E7 x.2/\qO x.1.length/\∀i,i<x.1.length->LmP (x.1.getD i default)⟩
def a8s:Con:=.rel iY
def a8e(L:List Pend)(left:Int):Nat->Ann
 |0=>.one {i:Nat//i<=L.length/\(V4 O6 L L.length i:Int)<=left} (λx=>⟨[(0,C2 L),(1,.int .i64 (left-V4 O6 L L.length x.1)),(5,.int .i64 x.1)],[]⟩) (λx=>L.length-x.1) [] [] (λ_=>Z0)
 |_=>.none
theorem a4J:GK 133 a8s:=gk Tryz.func133<|by
 rintro⟨L,left⟩ ⟨⟨h0,h1⟩,hn,hb⟩;have hn:L.length<=9223372036854775807:=hn;simp only at h0 h1 hb;have hm:∀i,i<=L.length->V4 O6 L L.length i<=T6 O6 L:=λi hi=>D6 _ _ _ hi
 have hz:V4 O6 L L.length 0=L.length:=rfl;refine S3 (gC a7m gN) Tryz.func133 (a8e L left) (α:=X2 .i64 (left- (L.length:Int))/\(decide (left- (L.length:Int)<(0:Int))=true->(-1:Int)=rem left (T6 O6 L))/\(decide (left- (L.length:Int)<(0:Int))=false->(∃(x:{i:Nat//i<=L.length/\(↑(V4 O6 L L.length i):Int)<=left}),((Y6 Z3 L L)/\left- (L.length:Int)=left- (↑(V4 O6 L L.length x.val):Int)/\(0:Int)=(x.val:Int)/\True)/\True)/\∀(x:{i:Nat//i<=L.length/\(↑(V4 O6 L L.length i):Int)<=left}),(decide ((x.val:Int)<(L.length:Int))=true->W2 (x.val:Int) L.length/\∃(x_1:a1t.ι),((((L.getD (x.val:Int).toNat default).at_=x_1.1.at_/\(L.getD (x.val:Int).toNat default).d=x_1.1.d/\True)/\left- (↑(V4 O6 L L.length x.val):Int)=x_1.2/\True)/\E7 x_1.2/\LmP x_1.1)/\(decide (rem x_1.2 (O6 x_1.1)<(0:Int))=true->(-1:Int)=rem left (T6 O6 L))/\(decide (rem x_1.2 (O6 x_1.1)<(0:Int))=false->X2 .i64 ((x.val:Int)+(1:Int))/\∃(y:{i:Nat//i<=L.length/\(↑(V4 O6 L L.length i):Int)<=left}),(((Y6 Z3 L L)/\rem x_1.2 (O6 x_1.1)=left- (↑(V4 O6 L L.length y.val):Int)/\(x.val:Int)+(1:Int)=(y.val:Int)/\True)/\True)/\Lt (L.length-y.val) (L.length-x.val)))/\(decide ((x.val:Int)<(L.length:Int))=false->left- (↑(V4 O6 L L.length x.val):Int)=rem left (T6 O6 L)))) ?_
 simp only[z6,m5,tQ];refine⟨by omega,λh=>(M6 (by have:=hm 0 (S2 _);omega)).symm,λh=>⟨⟨⟨0,S2 _,by omega⟩,⟨⟨(by trivial),Z2 _ _⟩,by simp only[hz],rfl,trivial⟩,trivial⟩,λx=>⟨λhc=> ?_,λhc=> ?_⟩⟩⟩
 ·have hlt:x.val<L.length:=by omega
  have hx:=x.2;have hs:=t4 O6 L L.length default hlt;have hle:=hm (x.val+1) hlt;have hbr:=hb _ hlt;refine⟨Y3 hlt,(L.getD x.val default,left- (V4 O6 L L.length x.val:Int)),⟨⟨⟨rfl,Z9⟩,Z9⟩,⟨by simp only;omega,by simp only;omega⟩,hbr⟩,λhr=> ?_,λhr=>⟨by omega,⟨x.val+1,hlt,?_⟩,⟨⟨⟨(by trivial),Z2 _ _⟩,?_,by simp only;omega,trivial⟩,trivial⟩,V3.ext_lt hlt⟩⟩
  ·simp only at hr;by_cases hq:(O6 (L.getD x.val default):Int)<=left- (V4 O6 L L.length x.val:Int)
   ·rw[I1 hq] at hr;omega
   ·exact(M6 (by omega)).symm
  ·simp only at hr;by_cases hq:(O6 (L.getD x.val default):Int)<=left- (V4 O6 L L.length x.val:Int)
   ·omega
   ·rw[M6 (by omega)] at hr
    omega
  ·simp only at hr ⊢;by_cases hq:(O6 (L.getD x.val default):Int)<=left- (V4 O6 L L.length x.val:Int)
   ·rw[I1 hq];omega
   ·rw[M6 (by omega)] at hr
    omega
 ·have hx:=x.2;have he:x.val=L.length:=by omega
  rw[he] at hx ⊢;exact(I1 hx.2).symm
def a7U(L:List Pend):Nat->Ann
 |0=>.one {i:Nat//i<=L.length} (λx=>⟨[(0,C2 L),(3,.osl 0 0 L.length),(4,.int .i64 x.1)],[some (.arr true 0 2 L.length (i3 (Z3 L) [.int .i64 0,.str []] x.1))]⟩) (λx=>L.length-x.1) [.arr 0] [.arr 0] (λ_=>Z0)
 |_=>.none
def iZ:Rl:=⟨List Pend,λL=>[C2 L,C2 L],λ_=>.bool true,λL=>L.length<=1048576/\∀i,i<L.length->SmP (L.getD i default)⟩
def a66:Con:=.rel iZ
def a78(L:List Pend):Nat->Ann
 |0=>.one {i:Nat//i<=L.length} (λx=>⟨[(0,C2 L),(1,C2 L),(5,.int .i64 x.1)],[]⟩) (λx=>L.length-x.1) [] [] (λ_=>Z0)
 |_=>.none
theorem a3k:GK 168 a66:=gk Tryz.func168<|by
 rintro(L:List Pend) ⟨hL,hb⟩;refine S3 (gC a7l gN) Tryz.func168 (a78 L) (α:=(((L.length:Int) !=(L.length:Int))=true->false=true)/\(((L.length:Int) !=(L.length:Int))=false->(∃(x:{i:Nat//i<=L.length}),((Y6 Z3 L L)/\(Y6 Z3 L L)/\(0:Int)=(x.val:Int)/\True)/\True)/\∀(x:{i:Nat//i<=L.length}),(decide ((x.val:Int)<(L.length:Int))=true->W2 (x.val:Int) L.length/\W2 (x.val:Int) L.length/\∃(x_1:a1y.ι),((((L.getD (x.val:Int).toNat default).at_=x_1.at_/\(L.getD (x.val:Int).toNat default).d=x_1.d/\True)/\((L.getD (x.val:Int).toNat default).at_=x_1.at_/\(L.getD (x.val:Int).toNat default).d=x_1.d/\True)/\True)/\SmP x_1)/\(false=true->false=true)/\(false=false->X2 .i64 ((x.val:Int)+(1:Int))/\∃(y:{i:Nat//i<=L.length}),(((Y6 Z3 L L)/\(Y6 Z3 L L)/\(x.val:Int)+(1:Int)=(y.val:Int)/\True)/\True)/\Lt (L.length-y.val) (L.length-x.val)))/\(decide ((x.val:Int)<(L.length:Int))=false->true=true))) ⟨λh=>by simp at h,λ_=>⟨⟨⟨0,S2 _⟩,⟨⟨(by trivial),Z2 _ _⟩,⟨(by trivial),Z2 _ _⟩,Z9⟩,trivial⟩,λx=>⟨λhc=> ?_,λ_=>rfl⟩⟩⟩
 have hlt:=Y1 hc;exact⟨Y3 hlt,Y3 hlt,L.getD x.val default,⟨⟨⟨rfl,Z9⟩,⟨rfl,Z9⟩,trivial⟩,hb _ hlt⟩,λh=>h,λ_=>⟨V5 hlt (by omega),⟨x.val+1,hlt⟩,⟨⟨⟨(by trivial),Z2 _ _⟩,⟨(by trivial),Z2 _ _⟩,by simp only;omega,trivial⟩,trivial⟩,V3.ext_lt hlt⟩⟩
end Go.Proofs.YtokaojbaacnngaaGreat

namespace Go.Proofs.YtokaojbaacnngaaGreat
set_option maxRecDepth 100000
open Go.SS

theorem C5{left:Int}{a b:Nat}(h:rem left a<0)(hab:a<=b):rem left b= -1:=by
 refine M6 ?_
 by_cases hq:(a:Int)<=left
 ·rw[I1 hq] at h;omega
 ·omega
theorem wN{left:Int}{a b c:Nat}(h:¬rem left a<0)(hl:E7 left)(hc:c=a+b):rem (rem left a) b=rem left c/\E7 (rem left a):=by
 by_cases hq:(a:Int)<=left
 ·rw[I1 hq] at h ⊢;obtain⟨h0,h1⟩:=hl;refine⟨?_,by constructor<;>omega⟩
  by_cases hr:(c:Int)<=left
  ·rw[I1 hr,I1 (by omega)]
   omega
  ·rw[M6 (by omega),M6 (by omega)]
 ·rw[M6 (by omega)] at h
  omega
def s6(d:Dsk):Nat:=T6 H9 d.sec+T6 O6 d.cache+d.keep.length
def LmL{α:Type}(d:α)(f:α->Prop)(L:List α):Prop:=qO L.length/\∀i,i<L.length->f (L.getD i d)
def LmD(d:Dsk):Prop:=LmL [] (λs=>qO s.length) d.sec/\LmL default LmP d.cache/\qO d.keep.length
def sA(d:Dsk):Prop:=d.sec.length<=1048576/\d.cache.length<=1048576/\d.keep.length<=1048576
def a6l:Rl:=⟨Dsk×Int,λx=>[.agg x.1.ts,.int .i64 x.2],λx=>.int .i64 (rem x.2 (s6 x.1)),λx=>E7 x.2/\LmD x.1⟩
def b5f:Con:=.rel a6l
theorem a93:GK 67 b5f:=gk Tryz.func67<|by
 rintro⟨d,left⟩ ⟨hl,h1,h2,h3⟩;simp only at hl h1 h2 h3;have e:s6 d=T6 H9 d.sec+T6 O6 d.cache+d.keep.length:=rfl;have e1:T6 H9 d.sec<=s6 d:=by omega
 have e2:T6 H9 d.sec+T6 O6 d.cache<=s6 d:=by omega
 refine S3 (gC iM (gC a4J (gC a7v gN))) Tryz.func67 Z0 (α:=∃(x:nE.ι),(((Y6 Z5 d.sec x.1)/\left=x.2/\True)/\E7 x.2/\qO x.1.length/\∀(i:Nat),i<x.1.length->qO (x.1.getD i []).length)/\(decide (rem x.2 (T6 H9 x.1)<(0:Int))=true->(-1:Int)=rem left (s6 d))/\(decide (rem x.2 (T6 H9 x.1)<(0:Int))=false->∃(x_1:iY.ι),(((Y6 Z3 d.cache x_1.1)/\rem x.2 (T6 H9 x.1)=x_1.2/\True)/\E7 x_1.2/\qO x_1.1.length/\∀(i:Nat),i<x_1.1.length->LmP (x_1.1.getD i default))/\(decide (rem x_1.2 (T6 O6 x_1.1)<(0:Int))=true->(-1:Int)=rem left (s6 d))/\(decide (rem x_1.2 (T6 O6 x_1.1)<(0:Int))=false->∃(x:a0z.ι),(((Y6 Y9 d.keep x.1)/\rem x_1.2 (T6 O6 x_1.1)=x.2/\True)/\E7 x.2/\qO x.1.length)/\(decide (rem x.2 x.1.length<(0:Int))=true->(-1:Int)=rem left (s6 d))/\(decide (rem x.2 x.1.length<(0:Int))=false->rem x.2 x.1.length=rem left (s6 d))))) ⟨(d.sec,left),⟨⟨Z8,Z9⟩,hl,h1⟩,λh=>(C5 (E9 h) e1).symm,λh=> ?_⟩
 obtain⟨q1,l1⟩:=wN (b:=T6 O6 d.cache) (yG h) hl rfl;refine⟨(d.cache,rem left (T6 H9 d.sec)),⟨⟨Z8,Z9⟩,l1,h2⟩,λg=> ?_,λg=> ?_⟩
 ·simp only at g;rw[q1] at g;exact(C5 (E9 g) e2).symm
 ·simp only at g ⊢;rw[q1] at g ⊢;obtain⟨q2,l2⟩:=wN (b:=d.keep.length) (yG g) hl rfl;refine⟨(d.keep,rem left (T6 H9 d.sec+T6 O6 d.cache)),⟨⟨Z8,Z9⟩,l2,h3⟩,λf=> ?_,λf=> ?_⟩
  ·simp only at f;rw[q2] at f;exact(C5 (E9 f) (V1 _)).symm
  ·exact q2
def a5H:Rl:=⟨Dsk,λd=>[.agg d.ts,.agg d.ts],λ_=>.bool true,sA⟩
def b4l:Con:=.rel a5H
theorem b3x:GK 93 b4l:=gk Tryz.func93<|by
 rintro(d:Dsk) ⟨h1,h2,h3⟩;exact S3 (gC gB (gC a3k (gC a81 gN))) Tryz.func93 Z0 (α:=∃(x:kR.ι),(((d.sec.length=List.length x/\Z6 d.sec.length (Z5 d.sec) (Z5 x))/\(d.sec.length=List.length x/\Z6 d.sec.length (Z5 d.sec) (Z5 x))/\True)/\List.length x<=1048576)/\(false=true->false=true)/\(false=false->∃(x:iZ.ι),(((d.cache.length=List.length x/\Z6 d.cache.length (Z3 d.cache) (Z3 x))/\(d.cache.length=List.length x/\Z6 d.cache.length (Z3 d.cache) (Z3 x))/\True)/\List.length x<=1048576/\∀(i:Nat),i<List.length x->SmP (List.getD x i default))/\(false=true->false=true)/\(false=false->((!d.armed==d.armed)=true->false=true)/\((!d.armed==d.armed)=false->∃(x:a1z.ι),(((d.keep.length=List.length x/\Z6 d.keep.length (Y9 d.keep) (Y9 x))/\(d.keep.length=List.length x/\Z6 d.keep.length (Y9 d.keep) (Y9 x))/\True)/\List.length x<=1048576)/\(false=true->false=true)/\(false=false->true=true))))) ⟨d.sec,⟨⟨Z8,X8⟩,h1⟩,λh=>h,λ_=>⟨d.cache,⟨⟨Z8,X8⟩,h2,λ_ _=>trivial⟩,λh=>h,λ_=>⟨λh=>by simp at h,λ_=>⟨d.keep,⟨⟨Z8,X8⟩,h3⟩,λh=>h,λ_=>rfl⟩⟩⟩⟩
def kO(p:Pg):Nat:=T6 H9 p.sl
def LmG(p:Pg):Prop:=LmL [] (λs=>qO s.length) p.sl
def SmG(p:Pg):Prop:=p.sl.length<=1048576
def b02:Rl:=⟨Pg×Int,λx=>[.agg x.1.ts,.int .i64 x.2],λx=>.int .i64 (rem x.2 (kO x.1)),λx=>E7 x.2/\LmG x.1⟩
def b8s:Con:=.rel b02
theorem b58:GK 199 b8s:=gk Tryz.func199<|by
 rintro⟨p,left⟩ ⟨hl,h1⟩;exact S3 (gC iM gN) Tryz.func199 Z0 (α:=∃(x:nE.ι),(((Y6 Z5 p.sl x.1)/\left=x.2/\True)/\E7 x.2/\qO x.1.length/\∀(i:Nat),i<x.1.length->qO (x.1.getD i []).length)/\(decide (rem x.2 (T6 H9 x.1)<(0:Int))=true->(-1:Int)=rem left (kO p))/\(decide (rem x.2 (T6 H9 x.1)<(0:Int))=false->rem x.2 (T6 H9 x.1)=rem left (kO p))) ⟨(p.sl,left),⟨⟨Z8,Z9⟩,hl,h1⟩,λh=>(C5 (E9 h) (V1 _)).symm,λ_=>rfl⟩
def b39:Rl:=⟨Pg,λp=>[.agg p.ts,.agg p.ts],λ_=>.bool true,SmG⟩
def b9F:Con:=.rel b39
theorem b8t(p:Pg)(h:
  ((p.lsn !=p.lsn)=true->false=true)/\((p.lsn !=p.lsn)=false->∃(x:kR.ι),(((p.sl.length=List.length x/\Z6 p.sl.length (Z5 p.sl) (Z5 x))/\(p.sl.length=List.length x/\Z6 p.sl.length (Z5
  p.sl) (Z5 x))/\True)/\List.length x<=1048576)/\(false=true->false=true)/\(false=false->true=true))):
  U3 Tryz.prog 228 [.agg p.ts,.agg p.ts] (.bool true):=
 S3 (gC gB gN) Tryz.func228 Z0 h
theorem b4S:GK 228 b9F:=gk Tryz.func228<|λ(p:Pg) h1=>b8t p ⟨λh=>by simp at h,λ_=>⟨p.sl,⟨⟨Z8,X8⟩,h1⟩,λh=>h,λ_=>rfl⟩⟩
def O4(f:Frm):Nat:=kO f.pg
def LmF(f:Frm):Prop:=LmG f.pg
def SmF(f:Frm):Prop:=SmG f.pg
def a5h:Rl:=⟨Frm×Int,λx=>[.agg x.1.ts,.int .i64 x.2],λx=>.int .i64 (rem x.2 (O4 x.1)),λx=>E7 x.2/\LmF x.1⟩
def b5g:Con:=.rel a5h
theorem b4c:GK 136 b5g:=gk Tryz.func136<|by
 rintro⟨f,left⟩ ⟨hl,h1⟩;exact S3 (gC b58 gN) Tryz.func136 Z0 (α:=∃(x:b02.ι),(((f.pg.lsn=x.1.lsn/\(Y6 Z5 f.pg.sl x.1.sl)/\True)/\left=x.2/\True)/\E7 x.2/\LmG x.1)/\(decide (rem x.2 (kO x.1)<(0:Int))=true->(-1:Int)=rem left (O4 f))/\(decide (rem x.2 (kO x.1)<(0:Int))=false->rem x.2 (kO x.1)=rem left (O4 f))) ⟨(f.pg,left),⟨⟨⟨rfl,X8⟩,Z9⟩,hl,h1⟩,λh=>(C5 (E9 h) (V1 _)).symm,λ_=>rfl⟩
def a6L:Rl:=⟨Frm,λf=>[.agg f.ts,.agg f.ts],λ_=>.bool true,SmF⟩
def b6N:Con:=.rel a6L
theorem b6u(f:Frm)(h:
  ((f.no !=f.no)=true->false=true)/\((f.no !=f.no)=false->∃(x:b39.ι),(((f.pg.lsn=x.lsn/\(Y6 Z5 f.pg.sl x.sl)/\True)/\(f.pg.lsn=x.lsn/\(Y6 Z5 f.pg.sl x.sl)/\True)/\True)/\SmG x)/\(false=true
  ->false=true)/\(false=false->((!f.dirty==f.dirty)=true->false=true)/\((!f.dirty==f.dirty)=false->((f.first !=f.first)=true->false=true)/\((f.first !=f.first)=false->true=true))))):
  U3 Tryz.prog 170 [.agg f.ts,.agg f.ts] (.bool true):=
 S3 (gC b4S gN) Tryz.func170 Z0 h
theorem b3F:GK 170 b6N:=gk Tryz.func170<|λ(f:Frm) h1=>b6u f ⟨λh=>by simp at h,λ_=>⟨f.pg,⟨⟨⟨rfl,X8⟩,⟨rfl,X8⟩,trivial⟩,h1⟩,λh=>h,λ_=>⟨λh=>by simp at h,λ_=>⟨λh=>by simp at h,λ_=>rfl⟩⟩⟩⟩
end Go.Proofs.YtokaojbaacnngaaGreat

namespace Go.Proofs.YtokaojbaacnngaaGreat
set_option maxRecDepth 100000
open Go.SS

def a1O:Rl:=⟨List Frm×Int,λx=>[wZ x.1,.int .i64 x.2],λx=>.int .i64 (rem x.2 (T6 O4 x.1)),λx=>E7 x.2/\qO x.1.length/\∀i,i<x.1.length->LmF (x.1.getD i default)⟩
def b34:Con:=.rel a1O
def b18(L:List Frm)(left:Int):Nat->Ann
 |0=>.one {i:Nat//i<=L.length/\(V4 O4 L L.length i:Int)<=left} (λx=>⟨[(0,wZ L),(1,.int .i64 (left-V4 O4 L L.length x.1)),(5,.int .i64 x.1)],[]⟩) (λx=>L.length-x.1) [] [] (λ_=>Z0)
 |_=>.none
theorem a9b:GK 69 b34:=gk Tryz.func69<|by
 rintro⟨L,left⟩ ⟨⟨h0,h1⟩,hn,hb⟩;have hn:L.length<=9223372036854775807:=hn;simp only at h0 h1 hb;have hm:∀i,i<=L.length->V4 O4 L L.length i<=T6 O4 L:=λi hi=>D6 _ _ _ hi
 have hz:V4 O4 L L.length 0=L.length:=rfl;refine S3 (gC b4c gN) Tryz.func69 (b18 L left) (α:=X2 .i64 (left- (L.length:Int))/\(decide (left- (L.length:Int)<(0:Int))=true->(-1:Int)=rem left (T6 O4 L))/\(decide (left- (L.length:Int)<(0:Int))=false->(∃(x:{i:Nat//i<=L.length/\(↑(V4 O4 L L.length i):Int)<=left}),((Y6 X1 L L)/\left- (L.length:Int)=left- (↑(V4 O4 L L.length x.val):Int)/\(0:Int)=(x.val:Int)/\True)/\True)/\∀(x:{i:Nat//i<=L.length/\(↑(V4 O4 L L.length i):Int)<=left}),(decide ((x.val:Int)<(L.length:Int))=true->W2 (x.val:Int) L.length/\∃(x_1:a5h.ι),((((L.getD (x.val:Int).toNat default).no=x_1.1.no/\(L.getD (x.val:Int).toNat default).pg.lsn=x_1.1.pg.lsn/\(Y6 Z5 (L.getD (x.val:Int).toNat default).pg.sl x_1.1.pg.sl)/\(L.getD (x.val:Int).toNat default).dirty=x_1.1.dirty/\(L.getD (x.val:Int).toNat default).first=x_1.1.first/\True)/\left- (↑(V4 O4 L L.length x.val):Int)=x_1.2/\True)/\E7 x_1.2/\LmF x_1.1)/\(decide (rem x_1.2 (O4 x_1.1)<(0:Int))=true->(-1:Int)=rem left (T6 O4 L))/\(decide (rem x_1.2 (O4 x_1.1)<(0:Int))=false->X2 .i64 ((x.val:Int)+(1:Int))/\∃(y:{i:Nat//i<=L.length/\(↑(V4 O4 L L.length i):Int)<=left}),(((Y6 X1 L L)/\rem x_1.2 (O4 x_1.1)=left- (↑(V4 O4 L L.length y.val):Int)/\(x.val:Int)+(1:Int)=(y.val:Int)/\True)/\True)/\Lt (L.length-y.val) (L.length-x.val)))/\(decide ((x.val:Int)<(L.length:Int))=false->left- (↑(V4 O4 L L.length x.val):Int)=rem left (T6 O4 L)))) ?_
 simp only[z6,m5,tQ];refine⟨by omega,λh=>(M6 (by have:=hm 0 (S2 _);omega)).symm,λh=>⟨⟨⟨0,S2 _,by omega⟩,⟨⟨(by trivial),Z2 _ _⟩,by simp only[hz],rfl,trivial⟩,trivial⟩,λx=>⟨λhc=> ?_,λhc=> ?_⟩⟩⟩
 ·have hlt:x.val<L.length:=by omega
  have hx:=x.2;have hs:=t4 O4 L L.length default hlt;have hle:=hm (x.val+1) hlt;have hbr:=hb _ hlt;refine⟨Y3 hlt,(L.getD x.val default,left- (V4 O4 L L.length x.val:Int)),⟨⟨⟨rfl,rfl,Z8,rfl,Z9⟩,Z9⟩,⟨by simp only;omega,by simp only;omega⟩,hbr⟩,λhr=> ?_,λhr=>⟨by omega,⟨x.val+1,hlt,?_⟩,⟨⟨⟨(by trivial),Z2 _ _⟩,?_,by simp only;omega,trivial⟩,trivial⟩,V3.ext_lt hlt⟩⟩
  ·simp only at hr;by_cases hq:(O4 (L.getD x.val default):Int)<=left- (V4 O4 L L.length x.val:Int)
   ·rw[I1 hq] at hr;omega
   ·exact(M6 (by omega)).symm
  ·simp only at hr;by_cases hq:(O4 (L.getD x.val default):Int)<=left- (V4 O4 L L.length x.val:Int)
   ·omega
   ·rw[M6 (by omega)] at hr
    omega
  ·simp only at hr ⊢;by_cases hq:(O4 (L.getD x.val default):Int)<=left- (V4 O4 L L.length x.val:Int)
   ·rw[I1 hq];omega
   ·rw[M6 (by omega)] at hr
    omega
 ·have hx:=x.2;have he:x.val=L.length:=by omega
  rw[he] at hx ⊢;exact(I1 hx.2).symm
def aO:Rl:=⟨List Frm,λL=>[wZ L,wZ L],λ_=>.bool true,λL=>L.length<=1048576/\∀i,i<L.length->SmF (L.getD i default)⟩
def b2g:Con:=.rel aO
def b2I(L:List Frm):Nat->Ann
 |0=>.one {i:Nat//i<=L.length} (λx=>⟨[(0,wZ L),(1,wZ L),(5,.int .i64 x.1)],[]⟩) (λx=>L.length-x.1) [] [] (λ_=>Z0)
 |_=>.none
theorem a80:GK 95 b2g:=gk Tryz.func95<|by
 rintro(L:List Frm) ⟨hL,hb⟩;refine S3 (gC b3F gN) Tryz.func95 (b2I L) (α:=(((L.length:Int) !=(L.length:Int))=true->false=true)/\(((L.length:Int) !=(L.length:Int))=false->(∃(x:{i:Nat//i<=L.length}),((Y6 X1 L L)/\(Y6 X1 L L)/\(0:Int)=(x.val:Int)/\True)/\True)/\∀(x:{i:Nat//i<=L.length}),(decide ((x.val:Int)<(L.length:Int))=true->W2 (x.val:Int) L.length/\W2 (x.val:Int) L.length/\∃(x_1:a6L.ι),((((L.getD (x.val:Int).toNat default).no=x_1.no/\(L.getD (x.val:Int).toNat default).pg.lsn=x_1.pg.lsn/\(Y6 Z5 (L.getD (x.val:Int).toNat default).pg.sl x_1.pg.sl)/\(L.getD (x.val:Int).toNat default).dirty=x_1.dirty/\(L.getD (x.val:Int).toNat default).first=x_1.first/\True)/\((L.getD (x.val:Int).toNat default).no=x_1.no/\(L.getD (x.val:Int).toNat default).pg.lsn=x_1.pg.lsn/\(Y6 Z5 (L.getD (x.val:Int).toNat default).pg.sl x_1.pg.sl)/\(L.getD (x.val:Int).toNat default).dirty=x_1.dirty/\(L.getD (x.val:Int).toNat default).first=x_1.first/\True)/\True)/\SmF x_1)/\(false=true->false=true)/\(false=false->X2 .i64 ((x.val:Int)+(1:Int))/\∃(y:{i:Nat//i<=L.length}),(((Y6 X1 L L)/\(Y6 X1 L L)/\(x.val:Int)+(1:Int)=(y.val:Int)/\True)/\True)/\Lt (L.length-y.val) (L.length-x.val)))/\(decide ((x.val:Int)<(L.length:Int))=false->true=true))) ⟨λh=>by simp at h,λ_=>⟨⟨⟨0,S2 _⟩,⟨⟨(by trivial),Z2 _ _⟩,⟨(by trivial),Z2 _ _⟩,Z9⟩,trivial⟩,λx=>⟨λhc=> ?_,λ_=>rfl⟩⟩⟩
 have hlt:=Y1 hc;exact⟨Y3 hlt,Y3 hlt,L.getD x.val default,⟨⟨⟨rfl,rfl,Z8,rfl,Z9⟩,⟨rfl,rfl,Z8,rfl,Z9⟩,trivial⟩,hb _ hlt⟩,λh=>h,λ_=>⟨V5 hlt (by omega),⟨x.val+1,hlt⟩,⟨⟨⟨(by trivial),Z2 _ _⟩,⟨(by trivial),Z2 _ _⟩,by simp only;omega,trivial⟩,trivial⟩,V3.ext_lt hlt⟩⟩
def w7(s:Sto):Nat:=s6 s.d+T6 Q0 s.log+T6 O4 s.fr
def LmS(s:Sto):Prop:=LmD s.d/\(qO s.log.length/\∀r ∈ s.log,a8B r)/\LmL default LmF s.fr
def kN(s:Sto):Prop:=sA s.d/\s.log.length<=1048576/\s.fr.length<=1048576/\∀i,i<s.fr.length->SmF (s.fr.getD i default)
def a5W:Rl:=⟨Sto×Int,λx=>[.agg x.1.ts,.int .i64 x.2],λx=>.int .i64 (rem x.2 (w7 x.1)),λx=>E7 x.2/\LmS x.1⟩
def b6k:Con:=.rel a5W
theorem b3o:GK 32 b6k:=gk Tryz.func32<|by
 rintro⟨s,left⟩ ⟨hl,h1,h2,h3⟩;simp only at hl h1 h2 h3;have e:w7 s=s6 s.d+T6 Q0 s.log+T6 O4 s.fr:=rfl;have e1:s6 s.d<=w7 s:=by omega
 have e2:s6 s.d+T6 Q0 s.log<=w7 s:=by omega
 refine S3 (gC a93 (gC a7J (gC a9b gN))) Tryz.func32 Z0 (α:=∃(x:a6l.ι),(((g8 s.d x.1)/\left=x.2/\True)/\E7 x.2/\LmD x.1)/\(decide (rem x.2 (s6 x.1)<(0:Int))=true->(-1:Int)=rem left (w7 s))/\(decide (rem x.2 (s6 x.1)<(0:Int))=false->∃(x_1:a0S.ι),(((Y6 Y7 s.log x_1.1)/\rem x.2 (s6 x.1)=x_1.2/\True)/\E7 x_1.2/\x_1.1.length<=9223372036854775807/\∀(r:Rec),r ∈ x_1.1->a8B r)/\(decide (rem x_1.2 (T6 Q0 x_1.1)<(0:Int))=true->(-1:Int)=rem left (w7 s))/\(decide (rem x_1.2 (T6 Q0 x_1.1)<(0:Int))=false->∃(x:a1O.ι),(((Y6 X1 s.fr x.1)/\rem x_1.2 (T6 Q0 x_1.1)=x.2/\True)/\E7 x.2/\qO x.1.length/\∀(i:Nat),i<x.1.length->LmF (x.1.getD i default))/\(decide (rem x.2 (T6 O4 x.1)<(0:Int))=true->(-1:Int)=rem left (w7 s))/\(decide (rem x.2 (T6 O4 x.1)<(0:Int))=false->rem x.2 (T6 O4 x.1)=rem left (w7 s))))) ⟨(s.d,left),⟨⟨(xF _),Z9⟩,hl,h1⟩,λh=>(C5 (E9 h) e1).symm,λh=> ?_⟩
 obtain⟨q1,l1⟩:=wN (b:=T6 Q0 s.log) (yG h) hl rfl;refine⟨(s.log,rem left (s6 s.d)),⟨⟨Z8,Z9⟩,l1,h2⟩,λg=> ?_,λg=> ?_⟩
 ·simp only at g;rw[q1] at g;exact(C5 (E9 g) e2).symm
 ·simp only at g ⊢;rw[q1] at g ⊢;obtain⟨q2,l2⟩:=wN (b:=T6 O4 s.fr) (yG g) hl rfl;refine⟨(s.fr,rem left (s6 s.d+T6 Q0 s.log)),⟨⟨Z8,Z9⟩,l2,h3⟩,λf=> ?_,λf=> ?_⟩
  ·simp only at f;rw[q2] at f;exact(C5 (E9 f) (V1 _)).symm
  ·exact q2
def a6r:Rl:=⟨Sto,λs=>[.agg s.ts,.agg s.ts],λ_=>.bool true,kN⟩
def b6T:Con:=.rel a6r
theorem b4V(s:Sto)(h:
  ∃(x:a5H.ι),(((g8 s.d x)/\(g8 s.d x)/\True)/\sA x)/\(false=true->false=true)/\(false=false->((s.ep !=s.ep)=true->false=true)/\((s.ep !=s.ep)=false->∃(x:aY.ι),(((s.log.length=
  List.length x/\Z6 s.log.length (Y7 s.log) (Y7 x))/\(s.log.length=List.length x/\Z6 s.log.length (Y7 s.log) (Y7 x))/\True)/\List.length x<=1048576)/\(false=true->false=true)/\(false=false->
  ((s.sure !=s.sure)=true->false=true)/\((s.sure !=s.sure)=false->∃(x:aO.ι),(((s.fr.length=List.length x/\Z6 s.fr.length (X1 s.fr) (X1 x))/\(s.fr.length=List.length x/\Z6 s.fr.length
  (X1 s.fr) (X1 x))/\True)/\List.length x<=1048576/\∀(i:Nat),i<List.length x->SmF (List.getD x i default))/\(false=true->false=true)/\(false=false->((s.hand !=s.hand)=true->false=true)/\((s.hand
  !=s.hand)=false->true=true))))))):
  U3 Tryz.prog 44 [.agg s.ts,.agg s.ts] (.bool true):=
 S3 (gC b3x (gC a8Y (gC a80 gN))) Tryz.func44 Z0 h
end Go.Proofs.YtokaojbaacnngaaGreat

