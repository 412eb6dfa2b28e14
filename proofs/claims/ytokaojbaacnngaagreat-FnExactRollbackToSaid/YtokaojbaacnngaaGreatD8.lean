/- A part of the proof. -/
import Derived.Test.YtokaojbaacnngaaGreatD5D6
namespace Go.Proofs.YtokaojbaacnngaaGreat
set_option maxRecDepth 100000
open Go.SS

def rem(left:Int)(n:Nat):Int:=if 0<=left-n then left-n else-1
def F1(n:Int):Prop:=0<=n/\n<=1048576
def Q5(r:Rec):Nat:=r.b.length+r.a.length
def a7x(r:Rec):Prop:=r.b.length<=9223372036854775807/\r.a.length<=9223372036854775807
def a5r:Rl:=⟨Rec×Int,λx=>[.agg x.1.ts,.int .i64 x.2],λx=>.int .i64 (rem x.2 (Q5 x.1)),λx=>F1 x.2/\a7x x.1⟩
def b3v:Con:=.rel a5r
theorem N6{left:Int}{n:Nat}(h:left<n):rem left n= -1:=by unfold rem;rw[if_neg (by omega)]
theorem I7{left:Int}{n:Nat}(h:(n:Int)<=left):rem left n=left-n:=by unfold rem;rw[if_pos (by omega)]
theorem b0T:GK 135 b3v:=gk Tryz.func135<|by
 rintro⟨r,left⟩ ⟨⟨h0,h1⟩,hb,ha⟩;simp only at h0 h1 hb ha;refine S6 gN Tryz.func135 Z0 (α:=X4 .i64 (left- (r.b.length:Int))/\(decide (left- (r.b.length:Int)<(0:Int))=true->(-1:Int)=rem left (Q5 r))/\(decide (left- (r.b.length:Int)<(0:Int))=false->X4 .i64 (left- (r.b.length:Int)- (r.a.length:Int))/\(decide (left- (r.b.length:Int)- (r.a.length:Int)<(0:Int))=true->(-1:Int)=rem left (Q5 r))/\(decide (left- (r.b.length:Int)- (r.a.length:Int)<(0:Int))=false->left- (r.b.length:Int)- (r.a.length:Int)=rem left (Q5 r)))) ?_
 simp only[z9,o9,tW];have e:((Q5 r:Nat):Int)=r.b.length+r.a.length:=by unfold Q5;omega
 refine⟨by omega,λh=>(N6 (by omega)).symm,λh=>⟨by omega,λh'=>(N6 (by omega)).symm,λh'=> ?_⟩⟩
 rw[I7 (by omega)]
 omega
def V8{α:Type}(f:α->Nat)(L:List α)(n:Nat):Nat->Nat
 |0=>n
 |i+1=>V8 f L n i+(L[i]?.map f).getD 0
def T9{α:Type}(f:α->Nat)(L:List α):Nat:=V8 f L L.length L.length
def a0K:Rl:=⟨List Rec×Int,λx=>[o5 x.1,.int .i64 x.2],λx=>.int .i64 (rem x.2 (T9 Q5 x.1)),λx=>F1 x.2/\x.1.length<=9223372036854775807/\∀r ∈ x.1,a7x r⟩
def b1O:Con:=.rel a0K
def b1S(L:List Rec)(left:Int):Nat->Ann
 |0=>.one {i:Nat//i<=L.length/\(V8 Q5 L L.length i:Int)<=left} (λx=>⟨[(0,o5 L),(1,.int .i64 (left-V8 Q5 L L.length x.1)),(5,.int .i64 x.1)],[]⟩) (λx=>L.length-x.1) [] [] (λ_=>Z0)
 |_=>.none
theorem s3{α:Type}(f:α->Nat)(L:List α)(n:Nat){i:Nat}(d:α)(h:i<L.length):V8 f L n (i+1)=V8 f L n i+f (L.getD i d):=by
 simp[V8,L5,L4 h]
theorem E9{α:Type}(f:α->Nat)(L:List α)(n:Nat):∀{i j:Nat},i<=j->V8 f L n i<=V8 f L n j:=by
 intro i j h;induction h with
 |refl=>exact V2 _
 |step _ ih=>simp only[V8];omega
theorem a7o:GK 68 b1O:=gk Tryz.func68<|by
 rintro⟨L,left⟩ ⟨⟨h0,h1⟩,hn,hb⟩;simp only at h0 h1 hb hn;have r0:∀(n:Nat) (row:Nat->List T),Z6 n row row:=λn row i hi=>rfl
 have hm:∀i,i<=L.length->V8 Q5 L L.length i<=T9 Q5 L:=λi hi=>E9 _ _ _ hi
 have hz:V8 Q5 L L.length 0=L.length:=rfl;refine S6 (gC b0T gN) Tryz.func68 (b1S L left) (α:=X4 .i64 (left- (L.length:Int))/\(decide (left- (L.length:Int)<(0:Int))=true->(-1:Int)=rem left (T9 Q5 L))/\(decide (left- (L.length:Int)<(0:Int))=false->(∃(x:{i:Nat//i<=L.length/\(↑(V8 Q5 L L.length i):Int)<=left}),((Y5 Y7 L L)/\left- (L.length:Int)=left- (↑(V8 Q5 L L.length x.val):Int)/\(0:Int)=(x.val:Int)/\True)/\True)/\∀(x:{i:Nat//i<=L.length/\(↑(V8 Q5 L L.length i):Int)<=left}),(decide ((x.val:Int)<(L.length:Int))=true->W4 (x.val:Int) L.length/\∃(x_1:a5r.ι),((((L.getD (x.val:Int).toNat default).e=x_1.1.e/\(L.getD (x.val:Int).toNat default).l=x_1.1.l/\(L.getD (x.val:Int).toNat default).t=x_1.1.t/\(L.getD (x.val:Int).toNat default).k=x_1.1.k/\(L.getD (x.val:Int).toNat default).p=x_1.1.p/\(L.getD (x.val:Int).toNat default).n=x_1.1.n/\(L.getD (x.val:Int).toNat default).g=x_1.1.g/\(L.getD (x.val:Int).toNat default).s=x_1.1.s/\(L.getD (x.val:Int).toNat default).b=x_1.1.b/\(L.getD (x.val:Int).toNat default).a=x_1.1.a/\True)/\left- (↑(V8 Q5 L L.length x.val):Int)=x_1.2/\True)/\F1 x_1.2/\a7x x_1.1)/\(decide (rem x_1.2 (Q5 x_1.1)<(0:Int))=true->(-1:Int)=rem left (T9 Q5 L))/\(decide (rem x_1.2 (Q5 x_1.1)<(0:Int))=false->X4 .i64 ((x.val:Int)+(1:Int))/\∃(y:{i:Nat//i<=L.length/\(↑(V8 Q5 L L.length i):Int)<=left}),(((Y5 Y7 L L)/\rem x_1.2 (Q5 x_1.1)=left- (↑(V8 Q5 L L.length y.val):Int)/\(x.val:Int)+(1:Int)=(y.val:Int)/\True)/\True)/\Lt (L.length-y.val) (L.length-x.val)))/\(decide ((x.val:Int)<(L.length:Int))=false->left- (↑(V8 Q5 L L.length x.val):Int)=rem left (T9 Q5 L)))) ?_
 simp only[z9,o9,tW];refine⟨by omega,λh=>(N6 (by have:=hm 0 (S7 _);omega)).symm,λh=>⟨⟨⟨0,S7 _,by omega⟩,⟨⟨(by trivial),r0 _ _⟩,by simp only[hz],rfl,trivial⟩,trivial⟩,λx=>⟨λhc=> ?_,λhc=> ?_⟩⟩⟩
 ·have hlt:x.val<L.length:=by omega
  have hx:=x.2;have hs:=s3 Q5 L L.length default hlt;have hle:=hm (x.val+1) hlt;have hbr:=hb _ (lE hlt);refine⟨Y2 hlt,⟨L.getD x.val default,left- (V8 Q5 L L.length x.val:Int)⟩,⟨⟨⟨rfl,rfl,rfl,rfl,rfl,rfl,rfl,rfl,rfl,Z9⟩,Z9⟩,⟨by simp only;omega,by simp only;omega⟩,hbr⟩,λhr=> ?_,λhr=>⟨by omega,⟨x.val+1,hlt,?_⟩,⟨⟨⟨(by trivial),r0 _ _⟩,?_,by simp only;omega,trivial⟩,trivial⟩,V4.ext_lt hlt⟩⟩
  ·simp only at hr;by_cases hq:(Q5 (L.getD x.val default):Int)<=left- (V8 Q5 L L.length x.val:Int)
   ·rw[I7 hq] at hr;omega
   ·exact(N6 (by omega)).symm
  ·simp only at hr;by_cases hq:(Q5 (L.getD x.val default):Int)<=left- (V8 Q5 L L.length x.val:Int)
   ·omega
   ·rw[N6 (by omega)] at hr
    omega
  ·simp only at hr ⊢;by_cases hq:(Q5 (L.getD x.val default):Int)<=left- (V8 Q5 L L.length x.val:Int)
   ·rw[I7 hq];omega
   ·rw[N6 (by omega)] at hr
    omega
 ·have hx:=x.2;have he:x.val=L.length:=by omega
  rw[he] at hx ⊢;exact(I7 hx.2).symm
def a4z:Rl:=⟨Rec,λr=>[.agg r.ts],λr=>.agg r.ts,λ_=>True⟩
def b3m:Con:=.rel a4z
theorem b5L(r:Rec)(h:
  r.e=r.e/\r.l=r.l/\r.t=r.t/\r.k=r.k/\r.p=r.p/\r.n=r.n/\r.g=r.g/\r.s=r.s/\r.b=r.b/\r.a=r.a/\True):
  U6 Tryz.prog 147 [.agg r.ts] (.agg r.ts):=
 S6 gN Tryz.func147 Z0 h
theorem b1X:GK 147 b3m:=gk Tryz.func147<|λr _=>b5L r ⟨rfl,rfl,rfl,rfl,rfl,rfl,rfl,rfl,rfl,Z9⟩
def L6{α:Type}(d z:α)(L:List α)(i j:Nat):α:=if j<i then L.getD j d else z
def Q1:Rec:=⟨0,0,0,0,0,0,0,0,[],[]⟩
def a9B(L:List Rec):Nat->Ann
 |0=>.one {i:Nat//i<=L.length} (λx=>⟨[(0,o5 L),(3,.osl 0 0 L.length),(4,.int .i64 x.1)],[some (.arr true 0 10 L.length λj=>(L6 default Q1 L x.1 j).ts)]⟩) (λx=>L.length-x.1) [.arr 0] [.arr 0] (λ_=>Z0)
 |_=>.none
theorem I2{row:Nat->List T}{i k:Nat}{cs:List T}(h:cs.length=(row k).length):setRow row i 0 cs k=match Nat.beq k i with|true=>cs|false=>row k:=by
 rw[y3 (by omega)]
 cases Nat.beq k i
 ·rfl
 ·simp[h]
theorem a6u{α:Type}{d z:α}{L:List α}{i j:Nat}:L6 d z L (i+1) j=if j=i then L.getD j d else L6 d z L i j:=by
 unfold L6;by_cases h:j=i
 ·subst h;simp
 ·by_cases h2:j<i
  ·rw[if_pos (by omega),if_neg h,if_pos h2]
  ·rw[if_neg (by omega),if_neg h,if_neg h2]
theorem b3o{α:Type}(ts:α->List T)(m:Nat)(hm:∀a,(ts a).length=m)(d z:α)(L:List α)(i j:Nat):
  setRow (λj=>ts (L6 d z L i j)) (0+(i:Int).toNat) 0 (ts (L.getD i d)) j=ts (L6 d z L (i+1) j):=by
 rw[I2 (by rw[hm,hm]),a6u,show 0+(i:Int).toNat=i by omega]
 by_cases hji:j=i
 ·subst hji;rw[if_pos rfl,show Nat.beq j j=true from by simp]
 ·rw[if_neg hji,show Nat.beq j i=false from Bool.eq_false_iff.2 λh=>hji (H9 h)]
def a4O:Rl:=⟨Rec,λr=>[.agg r.ts,.agg r.ts],λ_=>.bool true,λ_=>True⟩
def b3w:Con:=.rel a4O
theorem b1g:GK 169 b3w:=gk Tryz.func169<|by
 intro r _;refine S6 gN Tryz.func169 Z0 (α:=((r.e !=r.e)=true->false=true)/\((r.e !=r.e)=false->((r.l !=r.l)=true->false=true)/\((r.l !=r.l)=false->((r.t !=r.t)=true->false=true)/\((r.t !=r.t)=false->((r.k !=r.k)=true->false=true)/\((r.k !=r.k)=false->((r.p !=r.p)=true->false=true)/\((r.p !=r.p)=false->((r.n !=r.n)=true->false=true)/\((r.n !=r.n)=false->((r.g !=r.g)=true->false=true)/\((r.g !=r.g)=false->((r.s !=r.s)=true->false=true)/\((r.s !=r.s)=false->((!r.b==r.b)=true->false=true)/\((!r.b==r.b)=false->((!r.a==r.a)=true->false=true)/\((!r.a==r.a)=false->true=true))))))))))) ?_
 simp
def a0O:Rl:=⟨List Rec,λL=>[o5 L,o5 L],λ_=>.bool true,λL=>L.length<=1048576⟩
def b1R:Con:=.rel a0O
def b2k(L:List Rec):Nat->Ann
 |0=>.one {i:Nat//i<=L.length} (λx=>⟨[(0,o5 L),(1,o5 L),(5,.int .i64 x.1)],[]⟩) (λx=>L.length-x.1) [] [] (λ_=>Z0)
 |_=>.none
theorem a7G:GK 94 b1R:=gk Tryz.func94<|by
 intro L hL;have hL:L.length<=1048576:=hL;have r0:∀(n:Nat) (row:Nat->List T),Z6 n row row:=λn row i hi=>rfl
 refine S6 (gC b1g gN) Tryz.func94 (b2k L) (α:=(((L.length:Int) !=(L.length:Int))=true->false=true)/\(((L.length:Int) !=(L.length:Int))=false->(∃(x:{i:Nat//i<=L.length}),((Y5 Y7 L L)/\(Y5 Y7 L L)/\(0:Int)=(x.val:Int)/\True)/\True)/\∀(x:{i:Nat//i<=L.length}),(decide ((x.val:Int)<(L.length:Int))=true->W4 (x.val:Int) L.length/\W4 (x.val:Int) L.length/\∃(x_1:a4O.ι),((((L.getD (x.val:Int).toNat default).e=x_1.e/\(L.getD (x.val:Int).toNat default).l=x_1.l/\(L.getD (x.val:Int).toNat default).t=x_1.t/\(L.getD (x.val:Int).toNat default).k=x_1.k/\(L.getD (x.val:Int).toNat default).p=x_1.p/\(L.getD (x.val:Int).toNat default).n=x_1.n/\(L.getD (x.val:Int).toNat default).g=x_1.g/\(L.getD (x.val:Int).toNat default).s=x_1.s/\(L.getD (x.val:Int).toNat default).b=x_1.b/\(L.getD (x.val:Int).toNat default).a=x_1.a/\True)/\((L.getD (x.val:Int).toNat default).e=x_1.e/\(L.getD (x.val:Int).toNat default).l=x_1.l/\(L.getD (x.val:Int).toNat default).t=x_1.t/\(L.getD (x.val:Int).toNat default).k=x_1.k/\(L.getD (x.val:Int).toNat default).p=x_1.p/\(L.getD (x.val:Int).toNat default).n=x_1.n/\(L.getD (x.val:Int).toNat default).g=x_1.g/\(L.getD (x.val:Int).toNat default).s=x_1.s/\(L.getD (x.val:Int).toNat default).b=x_1.b/\(L.getD (x.val:Int).toNat default).a=x_1.a/\True)/\True)/\True)/\(false=true->false=true)/\(false=false->X4 .i64 ((x.val:Int)+(1:Int))/\∃(y:{i:Nat//i<=L.length}),(((Y5 Y7 L L)/\(Y5 Y7 L L)/\(x.val:Int)+(1:Int)=(y.val:Int)/\True)/\True)/\Lt (L.length-y.val) (L.length-x.val)))/\(decide ((x.val:Int)<(L.length:Int))=false->true=true))) ⟨λh=>by simp at h,λ_=>⟨⟨⟨0,S7 _⟩,⟨⟨(by trivial),r0 _ _⟩,⟨(by trivial),r0 _ _⟩,Z9⟩,trivial⟩,λx=>⟨λhc=> ?_,λ_=>rfl⟩⟩⟩
 have hlt:=Y1 hc;exact⟨Y2 hlt,Y2 hlt,L.getD x.val default,⟨⟨⟨rfl,rfl,rfl,rfl,rfl,rfl,rfl,rfl,rfl,Z9⟩,⟨rfl,rfl,rfl,rfl,rfl,rfl,rfl,rfl,rfl,Z9⟩,trivial⟩,trivial⟩,λh=>h,λ_=>⟨V7 hlt (by omega),⟨x.val+1,hlt⟩,⟨⟨⟨(by trivial),r0 _ _⟩,⟨(by trivial),r0 _ _⟩,by simp only;omega,trivial⟩,trivial⟩,V4.ext_lt hlt⟩⟩
end Go.Proofs.YtokaojbaacnngaaGreat

