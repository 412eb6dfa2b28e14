/- A part of the proof. -/
import Derived.Test.YtokaojbaacnngaaGreatD5D6
namespace Go.Proofs.YtokaojbaacnngaaGreat
set_option maxRecDepth 100000
open Go.SS

def rem(left:Int)(n:Nat):Int:=if 0<=left-n then left-n else-1
def I4(n:Int):Prop:=0<=n/\n<=1048576
def S3(r:Rec):Nat:=r.b.length+r.a.length
def c2f(r:Rec):Prop:=r.b.length<=9223372036854775807/\r.a.length<=9223372036854775807
def b8r:Rl:=⟨Rec×Int,fun x=>[.agg x.1.ts,.int .i64 x.2],fun x=>.int .i64 (rem x.2 (S3 x.1)),fun x=>I4 x.2/\c2f x.1⟩
def d0c:Con:=.rel b8r
noncomputable def d2g:Code:=Tryz.f135.body.getD .skip
theorem b3m:Z8 Tryz.prog 135:=⟨_,Tryz.func135,by kernel_rfl,by kernel_rfl⟩
theorem c9G(r:Rec)(left:Int)(h:
  X6 .i64 (left- (r.b.length:Int))/\(decide (left- (r.b.length:Int)<(0:Int))=true->(-1:Int)=rem left (S3 r))/\(decide (left- (r.b.length:Int)<(0:Int))=false->X6 .i64 (left- (r.b.length:Int)-
  (r.a.length:Int))/\(decide (left- (r.b.length:Int)- (r.a.length:Int)<(0:Int))=true->(-1:Int)=rem left (S3 r))/\(decide (left- (r.b.length:Int)- (r.a.length:Int)<(0:Int))=false->left- (r.b.length:Int)-
  (r.a.length:Int)=rem left (S3 r)))):
  Z1 Tryz.prog 135 [.agg r.ts,.int .i64 left] (.int .i64 (rem left (S3 r))):=
 T7 (code:=d2g) gN Tryz.func135 (by kernel_rfl) (by kernel_rfl) Z0 h (by kernel_rfl)
theorem O9{left:Int}{n:Nat}(h:left<n):rem left n= -1:=by unfold rem;rw[if_neg (by omega)]
theorem L0{left:Int}{n:Nat}(h:(n:Int)<=left):rem left n=left-n:=by unfold rem;rw[if_pos (by omega)]
theorem c6p:Z2 Tryz.prog 135 d0c:=by
 rintro⟨r,left⟩ ⟨⟨h0,h1⟩,hb,ha⟩;simp only at h0 h1 hb ha;refine c9G r left ?_
 simp only[D3,decide_eq_true_eq,decide_eq_false_iff_not];have e:((S3 r:Nat):Int)=r.b.length+r.a.length:=by unfold S3;omega
 refine⟨by omega,fun h=>(O9 (by omega)).symm,fun h=>⟨by omega,fun h'=>(O9 (by omega)).symm,fun h'=> ?_⟩⟩
 rw[L0 (by omega)]
 omega
def W6{α:Type}(f:α->Nat)(L:List α)(n:Nat):Nat->Nat
 |0=>n
 |i+1=>W6 f L n i+(L[i]?.map f).getD 0
def V4{α:Type}(f:α->Nat)(L:List α):Nat:=W6 f L L.length L.length
def b10:Rl:=⟨List Rec×Int,fun x=>[G3 x.1,.int .i64 x.2],fun x=>.int .i64 (rem x.2 (V4 S3 x.1)),fun x=>I4 x.2/\x.1.length<=9223372036854775807/\∀r ∈ x.1,c2f r⟩
def c6Q:Con:=.rel b10
def c6S(L:List Rec)(left:Int):Nat->Ann
 |0=>.one {i:Nat//i<=L.length/\(W6 S3 L L.length i:Int)<=left} (fun x=>⟨[(0,G3 L),(1,.int .i64 (left-W6 S3 L L.length x.1)),(5,.int .i64 x.1)],[]⟩) (fun x=>L.length-x.1) [] [] (fun _=>Z0)
 |_=>.none
noncomputable def c9f:Code:=Tryz.f68.body.getD .skip
theorem b2W:Z8 Tryz.prog 68:=⟨_,Tryz.func68,by kernel_rfl,by kernel_rfl⟩
theorem c8z(L:List Rec)(left:Int)(h:
  X6 .i64 (left- (L.length:Int))/\(decide (left- (L.length:Int)<(0:Int))=true->(-1:Int)=rem left (V4 S3 L))/\(decide (left- (L.length:Int)<(0:Int))=false->(∃(x:{i:Nat//i<=L.length/\(↑(W6
  S3 L L.length i):Int)<=left}),((Y3 Y4 L L)/\left- (L.length:Int)=left- (↑(W6 S3 L L.length x.val):Int)/\(0:Int)=(x.val:Int)/\True)/\True)/\∀(x:{i:Nat//i<=L.length/\(↑(W6 S3 L
  L.length i):Int)<=left}),(decide ((x.val:Int)<(L.length:Int))=true->W7 (x.val:Int) L.length/\∃(x_1:b8r.ι),((((L.getD (x.val:Int).toNat default).e=x_1.fst.e/\(L.getD (x.val:Int).toNat default).l=x_1.fst.l/\
  (L.getD (x.val:Int).toNat default).t=x_1.fst.t/\(L.getD (x.val:Int).toNat default).k=x_1.fst.k/\(L.getD (x.val:Int).toNat default).p=x_1.fst.p/\(L.getD (x.val:Int).toNat default).n=x_1.fst.n/\(L.getD (x.val:Int).toNat
  default).g=x_1.fst.g/\(L.getD (x.val:Int).toNat default).s=x_1.fst.s/\(L.getD (x.val:Int).toNat default).b=x_1.fst.b/\(L.getD (x.val:Int).toNat default).a=x_1.fst.a/\True)/\left- (↑(W6 S3 L L.length x.val):
  Int)=x_1.snd/\True)/\I4 x_1.snd/\c2f x_1.fst)/\(decide (rem x_1.snd (S3 x_1.fst)<(0:Int))=true->(-1:Int)=rem left (V4 S3 L))/\(decide (rem x_1.snd (S3 x_1.fst)<(0:Int))=false->X6 .i64
  ((x.val:Int)+(1:Int))/\∃(y:{i:Nat//i<=L.length/\(↑(W6 S3 L L.length i):Int)<=left}),(((Y3 Y4 L L)/\rem x_1.snd (S3 x_1.fst)=left- (↑(W6 S3 L L.length y.val):Int)/\(x.val:Int)+(1:
  Int)=(y.val:Int)/\True)/\True)/\Lt (L.length-y.val) (L.length-x.val)))/\(decide ((x.val:Int)<(L.length:Int))=false->left- (↑(W6 S3 L L.length x.val):Int)=rem left (V4 S3 L)))):
  Z1 Tryz.prog 68 [G3 L,.int .i64 left] (.int .i64 (rem left (V4 S3 L))):=
 T7 (code:=c9f) (gC c6p b3m gN) Tryz.func68 (by kernel_rfl) (by kernel_rfl) (c6S L left) h (by kernel_rfl)
theorem A8{α:Type}(f:α->Nat)(L:List α)(n:Nat){i:Nat}(d:α)(h:i<L.length):W6 f L n (i+1)=W6 f L n i+f (L.getD i d):=by
 simp[W6,List.getD_eq_getElem?_getD,List.getElem?_eq_getElem h]
theorem H8{α:Type}(f:α->Nat)(L:List α)(n:Nat):∀{i j:Nat},i<=j->W6 f L n i<=W6 f L n j:=by
 intro i j h;induction h with
 |refl=>exact Nat.le_refl _
 |step _ ih=>simp only[W6];omega
theorem c2G:Z2 Tryz.prog 68 c6Q:=by
 rintro⟨L,left⟩ ⟨⟨h0,h1⟩,hn,hb⟩;simp only at h0 h1 hb hn;have r0:∀(n:Nat) (row:Nat->List T),Z7 n row row:=fun n row i hi=>rfl
 have hm:∀i,i<=L.length->W6 S3 L L.length i<=V4 S3 L:=fun i hi=>H8 _ _ _ hi
 have hz:W6 S3 L L.length 0=L.length:=rfl;refine c8z L left ?_
 simp only[D3,decide_eq_true_eq,decide_eq_false_iff_not];refine⟨by omega,fun h=>(O9 (by have:=hm 0 (Nat.zero_le _);omega)).symm,fun h=>⟨⟨⟨0,Nat.zero_le _,by omega⟩,⟨⟨(by trivial),r0 _ _⟩,by simp only[hz],rfl,trivial⟩,trivial⟩,fun x=>⟨fun hc=> ?_,fun hc=> ?_⟩⟩⟩
 ·have hlt:x.val<L.length:=by omega
  have hx:=x.2;have hs:=A8 S3 L L.length default hlt;have hle:=hm (x.val+1) hlt;have hbr:=hb _ (a48 hlt);refine⟨Y8 hlt,⟨L.getD x.val default,left- (W6 S3 L L.length x.val:Int)⟩,⟨⟨⟨rfl,rfl,rfl,rfl,rfl,rfl,rfl,rfl,rfl,rfl,trivial⟩,rfl,trivial⟩,⟨by simp only;omega,by simp only;omega⟩,hbr⟩,fun hr=> ?_,fun hr=>⟨by omega,⟨x.val+1,hlt,?_⟩,⟨⟨⟨(by trivial),r0 _ _⟩,?_,by simp only;omega,trivial⟩,trivial⟩,W5.ext_lt hlt⟩⟩
  ·simp only at hr;by_cases hq:(S3 (L.getD x.val default):Int)<=left- (W6 S3 L L.length x.val:Int)
   ·rw[L0 hq] at hr;omega
   ·exact(O9 (by omega)).symm
  ·simp only at hr;by_cases hq:(S3 (L.getD x.val default):Int)<=left- (W6 S3 L L.length x.val:Int)
   ·omega
   ·rw[O9 (by omega)] at hr
    omega
  ·simp only at hr ⊢;by_cases hq:(S3 (L.getD x.val default):Int)<=left- (W6 S3 L L.length x.val:Int)
   ·rw[L0 hq];omega
   ·rw[O9 (by omega)] at hr
    omega
 ·have hx:=x.2;have he:x.val=L.length:=by omega
  rw[he] at hx ⊢;exact(L0 hx.2).symm
def b7v:Rl:=⟨Rec,fun r=>[.agg r.ts],fun r=>.agg r.ts,fun _=>True⟩
def c9L:Con:=.rel b7v
noncomputable def d2h:Code:=Tryz.f147.body.getD .skip
theorem b6R:Z8 Tryz.prog 147:=⟨_,Tryz.func147,by kernel_rfl,by kernel_rfl⟩
theorem c9r(r:Rec)(h:
  r.e=r.e/\r.l=r.l/\r.t=r.t/\r.k=r.k/\r.p=r.p/\r.n=r.n/\r.g=r.g/\r.s=r.s/\r.b=r.b/\r.a=r.a/\True):
  Z1 Tryz.prog 147 [.agg r.ts] (.agg r.ts):=
 T7 (code:=d2h) gN Tryz.func147 (by kernel_rfl) (by kernel_rfl) Z0 h (by kernel_rfl)
theorem c5G:Z2 Tryz.prog 147 c9L:=fun r _=>c9r r ⟨rfl,rfl,rfl,rfl,rfl,rfl,rfl,rfl,rfl,rfl,trivial⟩
def N5{α:Type}(d z:α)(L:List α)(i j:Nat):α:=if j<i then L.getD j d else z
def R4:Rec:=⟨0,0,0,0,0,0,0,0,[],[]⟩
def c3Z(L:List Rec):Nat->Ann
 |0=>.one {i:Nat//i<=L.length} (fun x=>⟨[(0,G3 L),(3,.osl 0 0 L.length),(4,.int .i64 x.1)],[some (.arr true 0 10 L.length fun j=>(N5 default R4 L x.1 j).ts)]⟩) (fun x=>L.length-x.1) [.arr 0] [.arr 0] (fun _=>Z0)
 |_=>.none
theorem z9{row:Nat->List T}{i k:Nat}{cs:List T}(h:cs.length=(row k).length):setRow row i 0 cs k=match Nat.beq k i with|true=>cs|false=>row k:=by
 rw[B9 (by omega)]
 cases Nat.beq k i
 ·rfl
 ·simp[h]
theorem c1f{α:Type}{d z:α}{L:List α}{i j:Nat}:N5 d z L (i+1) j=if j=i then L.getD j d else N5 d z L i j:=by
 unfold N5;by_cases h:j=i
 ·subst h;simp
 ·by_cases h2:j<i
  ·rw[if_pos (by omega),if_neg h,if_pos h2]
  ·rw[if_neg (by omega),if_neg h,if_neg h2]
theorem c9T{α:Type}(ts:α->List T)(m:Nat)(hm:∀a,(ts a).length=m)(d z:α)(L:List α)(i j:Nat):
  setRow (fun j=>ts (N5 d z L i j)) (0+(i:Int).toNat) 0 (ts (L.getD i d)) j=ts (N5 d z L (i+1) j):=by
 rw[z9 (by rw[hm,hm]),c1f,show 0+(i:Int).toNat=i by omega]
 by_cases hji:j=i
 ·subst hji;rw[if_pos rfl,show Nat.beq j j=true from by simp]
 ·rw[if_neg hji,show Nat.beq j i=false from Bool.eq_false_iff.2 fun h=>hji (Nat.eq_of_beq_eq_true h)]
def b8k:Rl:=⟨Rec,fun r=>[.agg r.ts,.agg r.ts],fun _=>.bool true,fun _=>True⟩
def d0h:Con:=.rel b8k
noncomputable def d0o:Code:=Tryz.f169.body.getD .skip
theorem b5I:Z8 Tryz.prog 169:=⟨_,Tryz.func169,by kernel_rfl,by kernel_rfl⟩
theorem d2t(r:Rec)(h:
  ((r.e !=r.e)=true->false=true)/\((r.e !=r.e)=false->((r.l !=r.l)=true->false=true)/\((r.l !=r.l)=false->((r.t !=r.t)=true->false=true)/\((r.t !=r.t)=false->((r.k !=r.k)=true->false=true)/\
  ((r.k !=r.k)=false->((r.p !=r.p)=true->false=true)/\((r.p !=r.p)=false->((r.n !=r.n)=true->false=true)/\((r.n !=r.n)=false->((r.g !=r.g)=true->false=true)/\((r.g !=r.g)=false->((r.s !=r.s)=
  true->false=true)/\((r.s !=r.s)=false->((!r.b==r.b)=true->false=true)/\((!r.b==r.b)=false->((!r.a==r.a)=true->false=true)/\((!r.a==r.a)=false->true=true))))))))))):
  Z1 Tryz.prog 169 [.agg r.ts,.agg r.ts] (.bool true):=
 T7 (code:=d0o) gN Tryz.func169 (by kernel_rfl) (by kernel_rfl) Z0 h (by kernel_rfl)
theorem c38:Z2 Tryz.prog 169 d0h:=by
 intro r _;refine d2t r ?_
 simp
def b1U:Rl:=⟨List Rec,fun L=>[G3 L,G3 L],fun _=>.bool true,fun L=>L.length<=1048576⟩
def c3M:Con:=.rel b1U
def c6X(L:List Rec):Nat->Ann
 |0=>.one {i:Nat//i<=L.length} (fun x=>⟨[(0,G3 L),(1,G3 L),(5,.int .i64 x.1)],[]⟩) (fun x=>L.length-x.1) [] [] (fun _=>Z0)
 |_=>.none
noncomputable def c33:Code:=Tryz.f94.body.getD .skip
theorem b2s:Z8 Tryz.prog 94:=⟨_,Tryz.func94,by kernel_rfl,by kernel_rfl⟩
theorem c7J(L:List Rec)(h:
  (((L.length:Int) !=(L.length:Int))=true->false=true)/\(((L.length:Int) !=(L.length:Int))=false->(∃(x:{i:Nat//i<=L.length}),((Y3 Y4 L L)/\(Y3 Y4 L L)/\(0:Int)=(x.val:Int)/\True)/\True)/\∀(x
  :{i:Nat//i<=L.length}),(decide ((x.val:Int)<(L.length:Int))=true->W7 (x.val:Int) L.length/\W7 (x.val:Int) L.length/\∃(x_1:b8k.ι),((((L.getD (x.val:Int).toNat default).e=x_1.e/\(L.getD (x.val:Int).toNat
  default).l=x_1.l/\(L.getD (x.val:Int).toNat default).t=x_1.t/\(L.getD (x.val:Int).toNat default).k=x_1.k/\(L.getD (x.val:Int).toNat default).p=x_1.p/\(L.getD (x.val:Int).toNat default).n=x_1.n/\(L.getD
  (x.val:Int).toNat default).g=x_1.g/\(L.getD (x.val:Int).toNat default).s=x_1.s/\(L.getD (x.val:Int).toNat default).b=x_1.b/\(L.getD (x.val:Int).toNat default).a=x_1.a/\True)/\((L.getD (x.val:Int).toNat default).e=
  x_1.e/\(L.getD (x.val:Int).toNat default).l=x_1.l/\(L.getD (x.val:Int).toNat default).t=x_1.t/\(L.getD (x.val:Int).toNat default).k=x_1.k/\(L.getD (x.val:Int).toNat default).p=x_1.p/\(L.getD (x.val:Int).toNat
  default).n=x_1.n/\(L.getD (x.val:Int).toNat default).g=x_1.g/\(L.getD (x.val:Int).toNat default).s=x_1.s/\(L.getD (x.val:Int).toNat default).b=x_1.b/\(L.getD (x.val:Int).toNat default).a=x_1.a/\True)/\True)/\True)
  /\(false=true->false=true)/\(false=false->X6 .i64 ((x.val:Int)+(1:Int))/\∃(y:{i:Nat//i<=L.length}),(((Y3 Y4 L L)/\(Y3 Y4 L L)/\(x.val:Int)+(1:Int)=(y.val:Int)/\True)/\True)/\Lt
  (L.length-y.val) (L.length-x.val)))/\(decide ((x.val:Int)<(L.length:Int))=false->true=true))):
  Z1 Tryz.prog 94 [G3 L,G3 L] (.bool true):=
 T7 (code:=c33) (gC c38 b5I gN) Tryz.func94 (by kernel_rfl) (by kernel_rfl) (c6X L) h (by kernel_rfl)
theorem c28:Z2 Tryz.prog 94 c3M:=by
 intro L hL;have hL:L.length<=1048576:=hL;have r0:∀(n:Nat) (row:Nat->List T),Z7 n row row:=fun n row i hi=>rfl
 refine c7J L ⟨fun h=>by simp at h,fun _=>⟨⟨⟨0,Nat.zero_le _⟩,⟨⟨(by trivial),r0 _ _⟩,⟨(by trivial),r0 _ _⟩,rfl,trivial⟩,trivial⟩,fun x=>⟨fun hc=> ?_,fun _=>rfl⟩⟩⟩
 have hlt:=Y6 hc;exact⟨Y8 hlt,Y8 hlt,L.getD x.val default,⟨⟨⟨rfl,rfl,rfl,rfl,rfl,rfl,rfl,rfl,rfl,rfl,trivial⟩,⟨rfl,rfl,rfl,rfl,rfl,rfl,rfl,rfl,rfl,rfl,trivial⟩,trivial⟩,trivial⟩,fun h=>h,fun _=>⟨W8 hlt (by omega),⟨x.val+1,hlt⟩,⟨⟨⟨(by trivial),r0 _ _⟩,⟨(by trivial),r0 _ _⟩,by simp only;omega,trivial⟩,trivial⟩,W5.ext_lt hlt⟩⟩
end Go.Proofs.YtokaojbaacnngaaGreat

