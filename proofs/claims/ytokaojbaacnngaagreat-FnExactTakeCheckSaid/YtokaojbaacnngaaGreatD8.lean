/- A part of the proof. -/
import Derived.Test.YtokaojbaacnngaaGreatD5D6
namespace Go.Proofs.YtokaojbaacnngaaGreat
set_option maxRecDepth 100000
open Go.SS

def rem(left:Int)(n:Nat):Int:=if 0<=left-n then left-n else-1
def G6(n:Int):Prop:=0<=n/\n<=1048576
def S2(r:Rec):Nat:=r.b.length+r.a.length
def b2x(r:Rec):Prop:=r.b.length<=9223372036854775807/\r.a.length<=9223372036854775807
def a9G:Rl:=⟨Rec×Int,fun x=>[.agg x.1.ts,.int .i64 x.2],fun x=>.int .i64 (rem x.2 (S2 x.1)),fun x=>G6 x.2/\b2x x.1⟩
def c0M:Con:=.rel a9G
noncomputable def c1p:Code:=Tryz.f135.body.getD .skip
theorem a6w:Z7 Tryz.prog 135:=⟨_,Tryz.func135,by kernel_rfl,by kernel_rfl⟩
theorem c0F(r:Rec)(left:Int)(h:
  X8 .i64 (left- (r.b.length:Int))/\(decide (left- (r.b.length:Int)<(0:Int))=true->(-1:Int)=rem left (S2 r))/\(decide (left- (r.b.length:Int)<(0:Int))=false->X8 .i64 (left- (r.b.length:Int)-
  (r.a.length:Int))/\(decide (left- (r.b.length:Int)- (r.a.length:Int)<(0:Int))=true->(-1:Int)=rem left (S2 r))/\(decide (left- (r.b.length:Int)- (r.a.length:Int)<(0:Int))=false->left- (r.b.length:Int)-
  (r.a.length:Int)=rem left (S2 r)))):
  Z2 Tryz.prog 135 [.agg r.ts,.int .i64 left] (.int .i64 (rem left (S2 r))):=
 T4 (code:=c1p) gN Tryz.func135 (by kernel_rfl) (by kernel_rfl) Z0 h (by kernel_rfl)
theorem O8{left:Int}{n:Nat}(h:left<n):rem left n= -1:=by unfold rem;rw[if_neg (by omega)]
theorem K9{left:Int}{n:Nat}(h:(n:Int)<=left):rem left n=left-n:=by unfold rem;rw[if_pos (by omega)]
theorem b5R:Z1 Tryz.prog 135 c0M:=by
 rintro⟨r,left⟩ ⟨⟨h0,h1⟩,hb,ha⟩;simp only at h0 h1 hb ha;refine c0F r left ?_
 simp only[B3,t9,tV];have e:((S2 r:Nat):Int)=r.b.length+r.a.length:=by unfold S2;omega
 refine⟨by omega,fun h=>(O8 (by omega)).symm,fun h=>⟨by omega,fun h'=>(O8 (by omega)).symm,fun h'=> ?_⟩⟩
 rw[K9 (by omega)]
 omega
def W5{α:Type}(f:α->Nat)(L:List α)(n:Nat):Nat->Nat
 |0=>n
 |i+1=>W5 f L n i+(L[i]?.map f).getD 0
def V2{α:Type}(f:α->Nat)(L:List α):Nat:=W5 f L L.length L.length
def a0Q:Rl:=⟨List Rec×Int,fun x=>[F3 x.1,.int .i64 x.2],fun x=>.int .i64 (rem x.2 (V2 S2 x.1)),fun x=>G6 x.2/\x.1.length<=9223372036854775807/\∀r ∈ x.1,b2x r⟩
def b8B:Con:=.rel a0Q
def b7m(L:List Rec)(left:Int):Nat->Ann
 |0=>.one {i:Nat//i<=L.length/\(W5 S2 L L.length i:Int)<=left} (fun x=>⟨[(0,F3 L),(1,.int .i64 (left-W5 S2 L L.length x.1)),(5,.int .i64 x.1)],[]⟩) (fun x=>L.length-x.1) [] [] (fun _=>Z0)
 |_=>.none
noncomputable def b98:Code:=Tryz.f68.body.getD .skip
theorem a1K:Z7 Tryz.prog 68:=⟨_,Tryz.func68,by kernel_rfl,by kernel_rfl⟩
theorem b7x(L:List Rec)(left:Int)(h:
  X8 .i64 (left- (L.length:Int))/\(decide (left- (L.length:Int)<(0:Int))=true->(-1:Int)=rem left (V2 S2 L))/\(decide (left- (L.length:Int)<(0:Int))=false->(∃(x:{i:Nat//i<=L.length/\(↑(W5
  S2 L L.length i):Int)<=left}),((Y4 Y5 L L)/\left- (L.length:Int)=left- (↑(W5 S2 L L.length x.val):Int)/\(0:Int)=(x.val:Int)/\True)/\True)/\∀(x:{i:Nat//i<=L.length/\(↑(W5 S2 L
  L.length i):Int)<=left}),(decide ((x.val:Int)<(L.length:Int))=true->X0 (x.val:Int) L.length/\∃(x_1:a9G.ι),((((L.getD (x.val:Int).toNat default).e=x_1.fst.e/\(L.getD (x.val:Int).toNat default).l=x_1.fst.l/\
  (L.getD (x.val:Int).toNat default).t=x_1.fst.t/\(L.getD (x.val:Int).toNat default).k=x_1.fst.k/\(L.getD (x.val:Int).toNat default).p=x_1.fst.p/\(L.getD (x.val:Int).toNat default).n=x_1.fst.n/\(L.getD (x.val:Int).toNat
  default).g=x_1.fst.g/\(L.getD (x.val:Int).toNat default).s=x_1.fst.s/\(L.getD (x.val:Int).toNat default).b=x_1.fst.b/\(L.getD (x.val:Int).toNat default).a=x_1.fst.a/\True)/\left- (↑(W5 S2 L L.length x.val):
  Int)=x_1.snd/\True)/\G6 x_1.snd/\b2x x_1.fst)/\(decide (rem x_1.snd (S2 x_1.fst)<(0:Int))=true->(-1:Int)=rem left (V2 S2 L))/\(decide (rem x_1.snd (S2 x_1.fst)<(0:Int))=false->X8 .i64
  ((x.val:Int)+(1:Int))/\∃(y:{i:Nat//i<=L.length/\(↑(W5 S2 L L.length i):Int)<=left}),(((Y4 Y5 L L)/\rem x_1.snd (S2 x_1.fst)=left- (↑(W5 S2 L L.length y.val):Int)/\(x.val:Int)+(1:
  Int)=(y.val:Int)/\True)/\True)/\Lt (L.length-y.val) (L.length-x.val)))/\(decide ((x.val:Int)<(L.length:Int))=false->left- (↑(W5 S2 L L.length x.val):Int)=rem left (V2 S2 L)))):
  Z2 Tryz.prog 68 [F3 L,.int .i64 left] (.int .i64 (rem left (V2 S2 L))):=
 T4 (code:=b98) (gC b5R a6w gN) Tryz.func68 (by kernel_rfl) (by kernel_rfl) (b7m L left) h (by kernel_rfl)
theorem v3{α:Type}(f:α->Nat)(L:List α)(n:Nat){i:Nat}(d:α)(h:i<L.length):W5 f L n (i+1)=W5 f L n i+f (L.getD i d):=by
 simp[W5,C0,O1 h]
theorem F8{α:Type}(f:α->Nat)(L:List α)(n:Nat):∀{i j:Nat},i<=j->W5 f L n i<=W5 f L n j:=by
 intro i j h;induction h with
 |refl=>exact V5 _
 |step _ ih=>simp only[W5];omega
theorem b0Z:Z1 Tryz.prog 68 b8B:=by
 rintro⟨L,left⟩ ⟨⟨h0,h1⟩,hn,hb⟩;simp only at h0 h1 hb hn;have r0:∀(n:Nat) (row:Nat->List T),Z8 n row row:=fun n row i hi=>rfl
 have hm:∀i,i<=L.length->W5 S2 L L.length i<=V2 S2 L:=fun i hi=>F8 _ _ _ hi
 have hz:W5 S2 L L.length 0=L.length:=rfl;refine b7x L left ?_
 simp only[B3,t9,tV];refine⟨by omega,fun h=>(O8 (by have:=hm 0 (T0 _);omega)).symm,fun h=>⟨⟨⟨0,T0 _,by omega⟩,⟨⟨(by trivial),r0 _ _⟩,by simp only[hz],rfl,trivial⟩,trivial⟩,fun x=>⟨fun hc=> ?_,fun hc=> ?_⟩⟩⟩
 ·have hlt:x.val<L.length:=by omega
  have hx:=x.2;have hs:=v3 S2 L L.length default hlt;have hle:=hm (x.val+1) hlt;have hbr:=hb _ (nM hlt);refine⟨Y7 hlt,⟨L.getD x.val default,left- (W5 S2 L L.length x.val:Int)⟩,⟨⟨⟨rfl,rfl,rfl,rfl,rfl,rfl,rfl,rfl,rfl,rfl,trivial⟩,rfl,trivial⟩,⟨by simp only;omega,by simp only;omega⟩,hbr⟩,fun hr=> ?_,fun hr=>⟨by omega,⟨x.val+1,hlt,?_⟩,⟨⟨⟨(by trivial),r0 _ _⟩,?_,by simp only;omega,trivial⟩,trivial⟩,V9.ext_lt hlt⟩⟩
  ·simp only at hr;by_cases hq:(S2 (L.getD x.val default):Int)<=left- (W5 S2 L L.length x.val:Int)
   ·rw[K9 hq] at hr;omega
   ·exact(O8 (by omega)).symm
  ·simp only at hr;by_cases hq:(S2 (L.getD x.val default):Int)<=left- (W5 S2 L L.length x.val:Int)
   ·omega
   ·rw[O8 (by omega)] at hr
    omega
  ·simp only at hr ⊢;by_cases hq:(S2 (L.getD x.val default):Int)<=left- (W5 S2 L L.length x.val:Int)
   ·rw[K9 hq];omega
   ·rw[O8 (by omega)] at hr
    omega
 ·have hx:=x.2;have he:x.val=L.length:=by omega
  rw[he] at hx ⊢;exact(K9 hx.2).symm
def a9j:Rl:=⟨Rec,fun r=>[.agg r.ts],fun r=>.agg r.ts,fun _=>True⟩
def c1P:Con:=.rel a9j
noncomputable def c1V:Code:=Tryz.f147.body.getD .skip
theorem a4J:Z7 Tryz.prog 147:=⟨_,Tryz.func147,by kernel_rfl,by kernel_rfl⟩
theorem c3t(r:Rec)(h:
  r.e=r.e/\r.l=r.l/\r.t=r.t/\r.k=r.k/\r.p=r.p/\r.n=r.n/\r.g=r.g/\r.s=r.s/\r.b=r.b/\r.a=r.a/\True):
  Z2 Tryz.prog 147 [.agg r.ts] (.agg r.ts):=
 T4 (code:=c1V) gN Tryz.func147 (by kernel_rfl) (by kernel_rfl) Z0 h (by kernel_rfl)
theorem b5Y:Z1 Tryz.prog 147 c1P:=fun r _=>c3t r ⟨rfl,rfl,rfl,rfl,rfl,rfl,rfl,rfl,rfl,rfl,trivial⟩
def N6{α:Type}(d z:α)(L:List α)(i j:Nat):α:=if j<i then L.getD j d else z
def R4:Rec:=⟨0,0,0,0,0,0,0,0,[],[]⟩
def b6k(L:List Rec):Nat->Ann
 |0=>.one {i:Nat//i<=L.length} (fun x=>⟨[(0,F3 L),(3,.osl 0 0 L.length),(4,.int .i64 x.1)],[some (.arr true 0 10 L.length fun j=>(N6 default R4 L x.1 j).ts)]⟩) (fun x=>L.length-x.1) [.arr 0] [.arr 0] (fun _=>Z0)
 |_=>.none
theorem c8{row:Nat->List T}{i k:Nat}{cs:List T}(h:cs.length=(row k).length):setRow row i 0 cs k=match Nat.beq k i with|true=>cs|false=>row k:=by
 rw[A2 (by omega)]
 cases Nat.beq k i
 ·rfl
 ·simp[h]
theorem b2j{α:Type}{d z:α}{L:List α}{i j:Nat}:N6 d z L (i+1) j=if j=i then L.getD j d else N6 d z L i j:=by
 unfold N6;by_cases h:j=i
 ·subst h;simp
 ·by_cases h2:j<i
  ·rw[if_pos (by omega),if_neg h,if_pos h2]
  ·rw[if_neg (by omega),if_neg h,if_neg h2]
theorem c0Q{α:Type}(ts:α->List T)(m:Nat)(hm:∀a,(ts a).length=m)(d z:α)(L:List α)(i j:Nat):
  setRow (fun j=>ts (N6 d z L i j)) (0+(i:Int).toNat) 0 (ts (L.getD i d)) j=ts (N6 d z L (i+1) j):=by
 rw[c8 (by rw[hm,hm]),b2j,show 0+(i:Int).toNat=i by omega]
 by_cases hji:j=i
 ·subst hji;rw[if_pos rfl,show Nat.beq j j=true from by simp]
 ·rw[if_neg hji,show Nat.beq j i=false from Bool.eq_false_iff.2 fun h=>hji (K1 h)]
def a8N:Rl:=⟨Rec,fun r=>[.agg r.ts,.agg r.ts],fun _=>.bool true,fun _=>True⟩
def c2p:Con:=.rel a8N
noncomputable def c0z:Code:=Tryz.f169.body.getD .skip
theorem a50:Z7 Tryz.prog 169:=⟨_,Tryz.func169,by kernel_rfl,by kernel_rfl⟩
theorem c1I(r:Rec)(h:
  ((r.e !=r.e)=true->false=true)/\((r.e !=r.e)=false->((r.l !=r.l)=true->false=true)/\((r.l !=r.l)=false->((r.t !=r.t)=true->false=true)/\((r.t !=r.t)=false->((r.k !=r.k)=true->false=true)/\
  ((r.k !=r.k)=false->((r.p !=r.p)=true->false=true)/\((r.p !=r.p)=false->((r.n !=r.n)=true->false=true)/\((r.n !=r.n)=false->((r.g !=r.g)=true->false=true)/\((r.g !=r.g)=false->((r.s !=r.s)=
  true->false=true)/\((r.s !=r.s)=false->((!r.b==r.b)=true->false=true)/\((!r.b==r.b)=false->((!r.a==r.a)=true->false=true)/\((!r.a==r.a)=false->true=true))))))))))):
  Z2 Tryz.prog 169 [.agg r.ts,.agg r.ts] (.bool true):=
 T4 (code:=c0z) gN Tryz.func169 (by kernel_rfl) (by kernel_rfl) Z0 h (by kernel_rfl)
theorem b77:Z1 Tryz.prog 169 c2p:=by
 intro r _;refine c1I r ?_
 simp
def a1L:Rl:=⟨List Rec,fun L=>[F3 L,F3 L],fun _=>.bool true,fun L=>L.length<=1048576⟩
def b7r:Con:=.rel a1L
def b6Z(L:List Rec):Nat->Ann
 |0=>.one {i:Nat//i<=L.length} (fun x=>⟨[(0,F3 L),(1,F3 L),(5,.int .i64 x.1)],[]⟩) (fun x=>L.length-x.1) [] [] (fun _=>Z0)
 |_=>.none
noncomputable def b9y:Code:=Tryz.f94.body.getD .skip
theorem a1W:Z7 Tryz.prog 94:=⟨_,Tryz.func94,by kernel_rfl,by kernel_rfl⟩
theorem b7b(L:List Rec)(h:
  (((L.length:Int) !=(L.length:Int))=true->false=true)/\(((L.length:Int) !=(L.length:Int))=false->(∃(x:{i:Nat//i<=L.length}),((Y4 Y5 L L)/\(Y4 Y5 L L)/\(0:Int)=(x.val:Int)/\True)/\True)/\∀(x
  :{i:Nat//i<=L.length}),(decide ((x.val:Int)<(L.length:Int))=true->X0 (x.val:Int) L.length/\X0 (x.val:Int) L.length/\∃(x_1:a8N.ι),((((L.getD (x.val:Int).toNat default).e=x_1.e/\(L.getD (x.val:Int).toNat
  default).l=x_1.l/\(L.getD (x.val:Int).toNat default).t=x_1.t/\(L.getD (x.val:Int).toNat default).k=x_1.k/\(L.getD (x.val:Int).toNat default).p=x_1.p/\(L.getD (x.val:Int).toNat default).n=x_1.n/\(L.getD
  (x.val:Int).toNat default).g=x_1.g/\(L.getD (x.val:Int).toNat default).s=x_1.s/\(L.getD (x.val:Int).toNat default).b=x_1.b/\(L.getD (x.val:Int).toNat default).a=x_1.a/\True)/\((L.getD (x.val:Int).toNat default).e=
  x_1.e/\(L.getD (x.val:Int).toNat default).l=x_1.l/\(L.getD (x.val:Int).toNat default).t=x_1.t/\(L.getD (x.val:Int).toNat default).k=x_1.k/\(L.getD (x.val:Int).toNat default).p=x_1.p/\(L.getD (x.val:Int).toNat
  default).n=x_1.n/\(L.getD (x.val:Int).toNat default).g=x_1.g/\(L.getD (x.val:Int).toNat default).s=x_1.s/\(L.getD (x.val:Int).toNat default).b=x_1.b/\(L.getD (x.val:Int).toNat default).a=x_1.a/\True)/\True)/\True)
  /\(false=true->false=true)/\(false=false->X8 .i64 ((x.val:Int)+(1:Int))/\∃(y:{i:Nat//i<=L.length}),(((Y4 Y5 L L)/\(Y4 Y5 L L)/\(x.val:Int)+(1:Int)=(y.val:Int)/\True)/\True)/\Lt
  (L.length-y.val) (L.length-x.val)))/\(decide ((x.val:Int)<(L.length:Int))=false->true=true))):
  Z2 Tryz.prog 94 [F3 L,F3 L] (.bool true):=
 T4 (code:=b9y) (gC b77 a50 gN) Tryz.func94 (by kernel_rfl) (by kernel_rfl) (b6Z L) h (by kernel_rfl)
theorem b2e:Z1 Tryz.prog 94 b7r:=by
 intro L hL;have hL:L.length<=1048576:=hL;have r0:∀(n:Nat) (row:Nat->List T),Z8 n row row:=fun n row i hi=>rfl
 refine b7b L ⟨fun h=>by simp at h,fun _=>⟨⟨⟨0,T0 _⟩,⟨⟨(by trivial),r0 _ _⟩,⟨(by trivial),r0 _ _⟩,rfl,trivial⟩,trivial⟩,fun x=>⟨fun hc=> ?_,fun _=>rfl⟩⟩⟩
 have hlt:=Y9 hc;exact⟨Y7 hlt,Y7 hlt,L.getD x.val default,⟨⟨⟨rfl,rfl,rfl,rfl,rfl,rfl,rfl,rfl,rfl,rfl,trivial⟩,⟨rfl,rfl,rfl,rfl,rfl,rfl,rfl,rfl,rfl,rfl,trivial⟩,trivial⟩,trivial⟩,fun h=>h,fun _=>⟨W4 hlt (by omega),⟨x.val+1,hlt⟩,⟨⟨⟨(by trivial),r0 _ _⟩,⟨(by trivial),r0 _ _⟩,by simp only;omega,trivial⟩,trivial⟩,V9.ext_lt hlt⟩⟩
end Go.Proofs.YtokaojbaacnngaaGreat

