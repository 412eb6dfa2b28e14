/- A part of the proof. -/
import Derived.Test.YtokaojbaacnngaaGreatD5D6
namespace Go.Proofs.YtokaojbaacnngaaGreat
set_option maxRecDepth 100000
open Go.SS

def rem(left:Int)(n:Nat):Int:=if 0<=left-n then left-n else-1
def E7(n:Int):Prop:=0<=n/\n<=1048576
def Q0(r:Rec):Nat:=r.b.length+r.a.length
def a8B(r:Rec):Prop:=r.b.length<=9223372036854775807/\r.a.length<=9223372036854775807
def a5l:Rl:=⟨Rec×Int,λx=>[.agg x.1.ts,.int .i64 x.2],λx=>.int .i64 (rem x.2 (Q0 x.1)),λx=>E7 x.2/\a8B x.1⟩
def b4M:Con:=.rel a5l
theorem M6{left:Int}{n:Nat}(h:left<n):rem left n= -1:=by unfold rem;rw[if_neg (by omega)]
theorem I1{left:Int}{n:Nat}(h:(n:Int)<=left):rem left n=left-n:=by unfold rem;rw[if_pos (by omega)]
theorem b2O:GK 135 b4M:=gk Tryz.func135<|by
 rintro⟨r,left⟩ ⟨⟨h0,h1⟩,hb,ha⟩;simp only at h0 h1 hb ha;refine S3 gN Tryz.func135 Z0 (α:=X2 .i64 (left- (r.b.length:Int))/\(decide (left- (r.b.length:Int)<(0:Int))=true->(-1:Int)=rem left (Q0 r))/\(decide (left- (r.b.length:Int)<(0:Int))=false->X2 .i64 (left- (r.b.length:Int)- (r.a.length:Int))/\(decide (left- (r.b.length:Int)- (r.a.length:Int)<(0:Int))=true->(-1:Int)=rem left (Q0 r))/\(decide (left- (r.b.length:Int)- (r.a.length:Int)<(0:Int))=false->left- (r.b.length:Int)- (r.a.length:Int)=rem left (Q0 r)))) ?_
 simp only[z6,m5,tQ];have e:((Q0 r:Nat):Int)=r.b.length+r.a.length:=by unfold Q0;omega
 refine⟨by omega,λh=>(M6 (by omega)).symm,λh=>⟨by omega,λh'=>(M6 (by omega)).symm,λh'=> ?_⟩⟩
 rw[I1 (by omega)]
 omega
def V4{α:Type}(f:α->Nat)(L:List α)(n:Nat):Nat->Nat
 |0=>n
 |i+1=>V4 f L n i+(L[i]?.map f).getD 0
def T6{α:Type}(f:α->Nat)(L:List α):Nat:=V4 f L L.length L.length
def a0S:Rl:=⟨List Rec×Int,λx=>[l9 x.1,.int .i64 x.2],λx=>.int .i64 (rem x.2 (T6 Q0 x.1)),λx=>E7 x.2/\x.1.length<=9223372036854775807/\∀r ∈ x.1,a8B r⟩
def b3J:Con:=.rel a0S
def b0W(L:List Rec)(left:Int):Nat->Ann
 |0=>.one {i:Nat//i<=L.length/\(V4 Q0 L L.length i:Int)<=left} (λx=>⟨[(0,l9 L),(1,.int .i64 (left-V4 Q0 L L.length x.1)),(5,.int .i64 x.1)],[]⟩) (λx=>L.length-x.1) [] [] (λ_=>Z0)
 |_=>.none
theorem t4{α:Type}(f:α->Nat)(L:List α)(n:Nat){i:Nat}(d:α)(h:i<L.length):V4 f L n (i+1)=V4 f L n i+f (L.getD i d):=by
 simp[V4,N9,L4 h]
theorem D6{α:Type}(f:α->Nat)(L:List α)(n:Nat):∀{i j:Nat},i<=j->V4 f L n i<=V4 f L n j:=by
 intro i j h;induction h with
 |refl=>exact V1 _
 |step _ ih=>simp only[V4];omega
theorem a7J:GK 68 b3J:=gk Tryz.func68<|by
 rintro⟨L,left⟩ ⟨⟨h0,h1⟩,hn,hb⟩;simp only at h0 h1 hb hn;have r0:∀(n:Nat) (row:Nat->List T),Z6 n row row:=λn row i hi=>rfl
 have hm:∀i,i<=L.length->V4 Q0 L L.length i<=T6 Q0 L:=λi hi=>D6 _ _ _ hi
 have hz:V4 Q0 L L.length 0=L.length:=rfl;refine S3 (gC b2O gN) Tryz.func68 (b0W L left) (α:=X2 .i64 (left- (L.length:Int))/\(decide (left- (L.length:Int)<(0:Int))=true->(-1:Int)=rem left (T6 Q0 L))/\(decide (left- (L.length:Int)<(0:Int))=false->(∃(x:{i:Nat//i<=L.length/\(↑(V4 Q0 L L.length i):Int)<=left}),((Y6 Y7 L L)/\left- (L.length:Int)=left- (↑(V4 Q0 L L.length x.val):Int)/\(0:Int)=(x.val:Int)/\True)/\True)/\∀(x:{i:Nat//i<=L.length/\(↑(V4 Q0 L L.length i):Int)<=left}),(decide ((x.val:Int)<(L.length:Int))=true->W2 (x.val:Int) L.length/\∃(x_1:a5l.ι),((((L.getD (x.val:Int).toNat default).e=x_1.1.e/\(L.getD (x.val:Int).toNat default).l=x_1.1.l/\(L.getD (x.val:Int).toNat default).t=x_1.1.t/\(L.getD (x.val:Int).toNat default).k=x_1.1.k/\(L.getD (x.val:Int).toNat default).p=x_1.1.p/\(L.getD (x.val:Int).toNat default).n=x_1.1.n/\(L.getD (x.val:Int).toNat default).g=x_1.1.g/\(L.getD (x.val:Int).toNat default).s=x_1.1.s/\(L.getD (x.val:Int).toNat default).b=x_1.1.b/\(L.getD (x.val:Int).toNat default).a=x_1.1.a/\True)/\left- (↑(V4 Q0 L L.length x.val):Int)=x_1.2/\True)/\E7 x_1.2/\a8B x_1.1)/\(decide (rem x_1.2 (Q0 x_1.1)<(0:Int))=true->(-1:Int)=rem left (T6 Q0 L))/\(decide (rem x_1.2 (Q0 x_1.1)<(0:Int))=false->X2 .i64 ((x.val:Int)+(1:Int))/\∃(y:{i:Nat//i<=L.length/\(↑(V4 Q0 L L.length i):Int)<=left}),(((Y6 Y7 L L)/\rem x_1.2 (Q0 x_1.1)=left- (↑(V4 Q0 L L.length y.val):Int)/\(x.val:Int)+(1:Int)=(y.val:Int)/\True)/\True)/\Lt (L.length-y.val) (L.length-x.val)))/\(decide ((x.val:Int)<(L.length:Int))=false->left- (↑(V4 Q0 L L.length x.val):Int)=rem left (T6 Q0 L)))) ?_
 simp only[z6,m5,tQ];refine⟨by omega,λh=>(M6 (by have:=hm 0 (S2 _);omega)).symm,λh=>⟨⟨⟨0,S2 _,by omega⟩,⟨⟨(by trivial),r0 _ _⟩,by simp only[hz],rfl,trivial⟩,trivial⟩,λx=>⟨λhc=> ?_,λhc=> ?_⟩⟩⟩
 ·have hlt:x.val<L.length:=by omega
  have hx:=x.2;have hs:=t4 Q0 L L.length default hlt;have hle:=hm (x.val+1) hlt;have hbr:=hb _ (mK hlt);refine⟨Y3 hlt,⟨L.getD x.val default,left- (V4 Q0 L L.length x.val:Int)⟩,⟨⟨⟨rfl,rfl,rfl,rfl,rfl,rfl,rfl,rfl,rfl,Z9⟩,Z9⟩,⟨by simp only;omega,by simp only;omega⟩,hbr⟩,λhr=> ?_,λhr=>⟨by omega,⟨x.val+1,hlt,?_⟩,⟨⟨⟨(by trivial),r0 _ _⟩,?_,by simp only;omega,trivial⟩,trivial⟩,V3.ext_lt hlt⟩⟩
  ·simp only at hr;by_cases hq:(Q0 (L.getD x.val default):Int)<=left- (V4 Q0 L L.length x.val:Int)
   ·rw[I1 hq] at hr;omega
   ·exact(M6 (by omega)).symm
  ·simp only at hr;by_cases hq:(Q0 (L.getD x.val default):Int)<=left- (V4 Q0 L L.length x.val:Int)
   ·omega
   ·rw[M6 (by omega)] at hr
    omega
  ·simp only at hr ⊢;by_cases hq:(Q0 (L.getD x.val default):Int)<=left- (V4 Q0 L L.length x.val:Int)
   ·rw[I1 hq];omega
   ·rw[M6 (by omega)] at hr
    omega
 ·have hx:=x.2;have he:x.val=L.length:=by omega
  rw[he] at hx ⊢;exact(I1 hx.2).symm
def a5j:Rl:=⟨Rec,λr=>[.agg r.ts],λr=>.agg r.ts,λ_=>True⟩
def b4E:Con:=.rel a5j
theorem b5R(r:Rec)(h:
  r.e=r.e/\r.l=r.l/\r.t=r.t/\r.k=r.k/\r.p=r.p/\r.n=r.n/\r.g=r.g/\r.s=r.s/\r.b=r.b/\r.a=r.a/\True):
  U3 Tryz.prog 147 [.agg r.ts] (.agg r.ts):=
 S3 gN Tryz.func147 Z0 h
theorem b4e:GK 147 b4E:=gk Tryz.func147<|λr _=>b5R r ⟨rfl,rfl,rfl,rfl,rfl,rfl,rfl,rfl,rfl,Z9⟩
def L1{α:Type}(d z:α)(L:List α)(i j:Nat):α:=if j<i then L.getD j d else z
def P5:Rec:=⟨0,0,0,0,0,0,0,0,[],[]⟩
def b32(L:List Rec):Nat->Ann
 |0=>.one {i:Nat//i<=L.length} (λx=>⟨[(0,l9 L),(3,.osl 0 0 L.length),(4,.int .i64 x.1)],[some (.arr true 0 10 L.length λj=>(L1 default P5 L x.1 j).ts)]⟩) (λx=>L.length-x.1) [.arr 0] [.arr 0] (λ_=>Z0)
 |_=>.none
theorem J8{row:Nat->List T}{i k:Nat}{cs:List T}(h:cs.length=(row k).length):setRow row i 0 cs k=match Nat.beq k i with|true=>cs|false=>row k:=by
 rw[v8 (by omega)]
 cases Nat.beq k i
 ·rfl
 ·simp[h]
theorem a64{α:Type}{d z:α}{L:List α}{i j:Nat}:L1 d z L (i+1) j=if j=i then L.getD j d else L1 d z L i j:=by
 unfold L1;by_cases h:j=i
 ·subst h;simp
 ·by_cases h2:j<i
  ·rw[if_pos (by omega),if_neg h,if_pos h2]
  ·rw[if_neg (by omega),if_neg h,if_neg h2]
theorem b7e{α:Type}(ts:α->List T)(m:Nat)(hm:∀a,(ts a).length=m)(d z:α)(L:List α)(i j:Nat):
  setRow (λj=>ts (L1 d z L i j)) (0+(i:Int).toNat) 0 (ts (L.getD i d)) j=ts (L1 d z L (i+1) j):=by
 rw[J8 (by rw[hm,hm]),a64,show 0+(i:Int).toNat=i by omega]
 by_cases hji:j=i
 ·subst hji;rw[if_pos rfl,show Nat.beq j j=true from by simp]
 ·rw[if_neg hji,show Nat.beq j i=false from Bool.eq_false_iff.2 λh=>hji (H7 h)]
def a5y:Rl:=⟨Rec,λr=>[.agg r.ts,.agg r.ts],λ_=>.bool true,λ_=>True⟩
def b5L:Con:=.rel a5y
theorem b12:GK 169 b5L:=gk Tryz.func169<|by
 intro r _;refine S3 gN Tryz.func169 Z0 (α:=((r.e !=r.e)=true->false=true)/\((r.e !=r.e)=false->((r.l !=r.l)=true->false=true)/\((r.l !=r.l)=false->((r.t !=r.t)=true->false=true)/\((r.t !=r.t)=false->((r.k !=r.k)=true->false=true)/\((r.k !=r.k)=false->((r.p !=r.p)=true->false=true)/\((r.p !=r.p)=false->((r.n !=r.n)=true->false=true)/\((r.n !=r.n)=false->((r.g !=r.g)=true->false=true)/\((r.g !=r.g)=false->((r.s !=r.s)=true->false=true)/\((r.s !=r.s)=false->((!r.b==r.b)=true->false=true)/\((!r.b==r.b)=false->((!r.a==r.a)=true->false=true)/\((!r.a==r.a)=false->true=true))))))))))) ?_
 simp
def aY:Rl:=⟨List Rec,λL=>[l9 L,l9 L],λ_=>.bool true,λL=>L.length<=1048576⟩
def b0z:Con:=.rel aY
def a90(L:List Rec):Nat->Ann
 |0=>.one {i:Nat//i<=L.length} (λx=>⟨[(0,l9 L),(1,l9 L),(5,.int .i64 x.1)],[]⟩) (λx=>L.length-x.1) [] [] (λ_=>Z0)
 |_=>.none
theorem a8Y:GK 94 b0z:=gk Tryz.func94<|by
 intro L hL;have hL:L.length<=1048576:=hL;have r0:∀(n:Nat) (row:Nat->List T),Z6 n row row:=λn row i hi=>rfl
 refine S3 (gC b12 gN) Tryz.func94 (a90 L) (α:=(((L.length:Int) !=(L.length:Int))=true->false=true)/\(((L.length:Int) !=(L.length:Int))=false->(∃(x:{i:Nat//i<=L.length}),((Y6 Y7 L L)/\(Y6 Y7 L L)/\(0:Int)=(x.val:Int)/\True)/\True)/\∀(x:{i:Nat//i<=L.length}),(decide ((x.val:Int)<(L.length:Int))=true->W2 (x.val:Int) L.length/\W2 (x.val:Int) L.length/\∃(x_1:a5y.ι),((((L.getD (x.val:Int).toNat default).e=x_1.e/\(L.getD (x.val:Int).toNat default).l=x_1.l/\(L.getD (x.val:Int).toNat default).t=x_1.t/\(L.getD (x.val:Int).toNat default).k=x_1.k/\(L.getD (x.val:Int).toNat default).p=x_1.p/\(L.getD (x.val:Int).toNat default).n=x_1.n/\(L.getD (x.val:Int).toNat default).g=x_1.g/\(L.getD (x.val:Int).toNat default).s=x_1.s/\(L.getD (x.val:Int).toNat default).b=x_1.b/\(L.getD (x.val:Int).toNat default).a=x_1.a/\True)/\((L.getD (x.val:Int).toNat default).e=x_1.e/\(L.getD (x.val:Int).toNat default).l=x_1.l/\(L.getD (x.val:Int).toNat default).t=x_1.t/\(L.getD (x.val:Int).toNat default).k=x_1.k/\(L.getD (x.val:Int).toNat default).p=x_1.p/\(L.getD (x.val:Int).toNat default).n=x_1.n/\(L.getD (x.val:Int).toNat default).g=x_1.g/\(L.getD (x.val:Int).toNat default).s=x_1.s/\(L.getD (x.val:Int).toNat default).b=x_1.b/\(L.getD (x.val:Int).toNat default).a=x_1.a/\True)/\True)/\True)/\(false=true->false=true)/\(false=false->X2 .i64 ((x.val:Int)+(1:Int))/\∃(y:{i:Nat//i<=L.length}),(((Y6 Y7 L L)/\(Y6 Y7 L L)/\(x.val:Int)+(1:Int)=(y.val:Int)/\True)/\True)/\Lt (L.length-y.val) (L.length-x.val)))/\(decide ((x.val:Int)<(L.length:Int))=false->true=true))) ⟨λh=>by simp at h,λ_=>⟨⟨⟨0,S2 _⟩,⟨⟨(by trivial),r0 _ _⟩,⟨(by trivial),r0 _ _⟩,Z9⟩,trivial⟩,λx=>⟨λhc=> ?_,λ_=>rfl⟩⟩⟩
 have hlt:=Y1 hc;exact⟨Y3 hlt,Y3 hlt,L.getD x.val default,⟨⟨⟨rfl,rfl,rfl,rfl,rfl,rfl,rfl,rfl,rfl,Z9⟩,⟨rfl,rfl,rfl,rfl,rfl,rfl,rfl,rfl,rfl,Z9⟩,trivial⟩,trivial⟩,λh=>h,λ_=>⟨V5 hlt (by omega),⟨x.val+1,hlt⟩,⟨⟨⟨(by trivial),r0 _ _⟩,⟨(by trivial),r0 _ _⟩,by simp only;omega,trivial⟩,trivial⟩,V3.ext_lt hlt⟩⟩
end Go.Proofs.YtokaojbaacnngaaGreat

