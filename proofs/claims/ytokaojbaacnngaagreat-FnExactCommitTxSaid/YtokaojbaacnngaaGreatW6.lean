/- A part of the proof. -/
import Derived.Test.YtokaojbaacnngaaGreatW4
import Derived.Test.YtokaojbaacnngaaGreatF0F1F2
namespace Go.Proofs.YtokaojbaacnngaaGreat
set_option maxRecDepth 100000
open Go.SS

theorem c7h:Z2 Tryz.prog 44 d12:=by
 rintro(s:Sto) ⟨h1,h2,h3,h4⟩;exact d2l s ⟨s.d,⟨⟨(eqD _),(eqD _),trivial⟩,h1⟩,fun h=>h,fun _=>⟨fun h=>by simp at h,fun _=>⟨s.log,⟨⟨⟨rfl,Z9 _ _⟩,⟨rfl,Z9 _ _⟩,trivial⟩,h2⟩,fun h=>h,fun _=>⟨fun h=>by simp at h,fun _=>⟨s.fr,⟨⟨⟨rfl,Z9 _ _⟩,⟨rfl,Z9 _ _⟩,trivial⟩,h3,h4⟩,fun h=>h,fun _=>⟨fun h=>by simp at h,fun _=>rfl⟩⟩⟩⟩⟩⟩
theorem a0U{α:Type}(f:α->Nat)(L:List α):L.length<=V4 f L:=by
 have:=H8 f L L.length (Nat.zero_le L.length);have hz:W6 f L L.length 0=L.length:=rfl;unfold V4;omega
theorem b2V{α:Type}(f:α->Nat)(L:List α)(d:α){i:Nat}(hi:i<L.length):f (L.getD i d)+L.length<=V4 f L:=by
 have h1:=H8 f L L.length (show i+1<=L.length from hi)
 have h2:=A8 f L L.length d hi;have h3:=H8 f L L.length (Nat.zero_le i);have hz:W6 f L L.length 0=L.length:=rfl;unfold V4;omega
theorem d1G{left:Int}{n:Nat}(h:¬rem left n<0):(n:Int)<=left:=by
 by_cases hq:(n:Int)<=left
 ·exact hq
 ·rw[O9 (by omega)] at h
  omega
theorem c24{s:Sto}(h:D1 s<=1048576):SmS s/\c3D s:=by
 have e:D1 s=V4 L7 s.d.sec+V4 R3 s.d.cache+s.d.keep.length+V4 S3 s.log+V4 R1 s.fr:=rfl;have a1:=a0U L7 s.d.sec;have a2:=a0U R3 s.d.cache;have a3:=a0U S3 s.log;have a4:=a0U R1 s.fr;have f1:∀i,i<s.fr.length->(s.fr.getD i default).pg.sl.length<=1048576:=fun i hi=>by
  have h1:=b2V R1 s.fr default hi;have h2:=a0U L7 (s.fr.getD i default).pg.sl;have h3:R1 (s.fr.getD i default)=V4 L7 (s.fr.getD i default).pg.sl:=rfl;omega
 have l1:∀r ∈ s.log,r.a.length<=1048576:=fun r hr=>by
  obtain⟨i,hi,rfl⟩:=List.mem_iff_getElem.1 hr;have h1:=b2V S3 s.log default hi;rw[List.getD_eq_getElem?_getD,List.getElem?_eq_getElem hi,Option.getD_some] at h1
  have h3:S3 s.log[i]=s.log[i].b.length+s.log[i].a.length:=rfl;omega
 refine⟨⟨⟨by omega,by omega,by omega⟩,by omega,by omega,f1⟩,⟨by unfold N8;omega,by unfold N8;omega,by unfold N8;omega⟩,⟨by omega,fun r hr=>by have:=l1 r hr;omega⟩,⟨by unfold N8;omega,fun i hi=> ?_⟩,fun r hr=> ?_⟩
 ·have:=f1 i hi;show(s.fr.getD i default).pg.sl.length<1000000000000;omega
 ·have:=l1 r hr;show r.a.length<1000000000000;omega

def b2J:Rl:=⟨List Txn×Int,fun x=>[v8 x.1,.int .i64 x.2],fun x=>.int .i64 (rem x.2 x.1.length),fun x=>I4 x.2/\Lim x.1.length⟩
def c7n:Con:=.rel b2J
noncomputable def c7y:Code:=Tryz.f33.body.getD .skip
theorem b21:Z8 Tryz.prog 33:=⟨_,Tryz.func33,by kernel_rfl,by kernel_rfl⟩
theorem c6v(L:List Txn)(left:Int)(h:
  X6 .i64 (left- (L.length:Int))/\(decide (left- (L.length:Int)<(0:Int))=true->(-1:Int)=rem left L.length)/\(decide (left- (L.length:Int)<(0:Int))=false->left- (L.length:Int)=rem left L.length)):
  Z1 Tryz.prog 33 [v8 L,.int .i64 left] (.int .i64 (rem left L.length)):=
 T7 (code:=c7y) gN Tryz.func33 (by kernel_rfl) (by kernel_rfl) Z0 h (by kernel_rfl)
theorem b9O:Z2 Tryz.prog 33 c7n:=by
 rintro⟨L,left⟩ ⟨⟨h0,h1⟩,hn⟩;have hn:L.length<=9223372036854775807:=hn;simp only at h0 h1;refine c6v L left ?_
 simp only[D3,decide_eq_true_eq,decide_eq_false_iff_not];exact⟨by omega,fun h=>(O9 (by omega)).symm,fun h=>(L0 (by omega)).symm⟩
def b8I:Rl:=⟨Txn,fun r=>[.agg r.ts],fun r=>.agg r.ts,fun _=>True⟩
def c90:Con:=.rel b8I
noncomputable def c9P:Code:=Tryz.f84.body.getD .skip
theorem b30:Z8 Tryz.prog 84:=⟨_,Tryz.func84,by kernel_rfl,by kernel_rfl⟩
theorem c9E(r:Txn)(h:
  r.id=r.id/\r.last=r.last/\True):
  Z1 Tryz.prog 84 [.agg r.ts] (.agg r.ts):=
 T7 (code:=c9P) gN Tryz.func84 (by kernel_rfl) (by kernel_rfl) Z0 h (by kernel_rfl)
theorem c51:Z2 Tryz.prog 84 c90:=fun r _=>c9E r ⟨rfl,rfl,trivial⟩
def b75:Rl:=⟨Txn,fun r=>[.agg r.ts,.agg r.ts],fun _=>.bool true,fun _=>True⟩
def d1o:Con:=.rel b75
noncomputable def d01:Code:=Tryz.f96.body.getD .skip
theorem b4G:Z8 Tryz.prog 96:=⟨_,Tryz.func96,by kernel_rfl,by kernel_rfl⟩
theorem d27(r:Txn)(h:
  ((r.id !=r.id)=true->false=true)/\((r.id !=r.id)=false->((r.last !=r.last)=true->false=true)/\((r.last !=r.last)=false->true=true))):
  Z1 Tryz.prog 96 [.agg r.ts,.agg r.ts] (.bool true):=
 T7 (code:=d01) gN Tryz.func96 (by kernel_rfl) (by kernel_rfl) Z0 h (by kernel_rfl)
theorem c8e:Z2 Tryz.prog 96 d1o:=by
 intro r _;refine d27 r ?_
 simp
def c7K(L:List Txn):Nat->Ann
 |0=>.one {i:Nat//i<=L.length} (fun x=>⟨[(0,v8 L),(3,.osl 0 0 L.length),(4,.int .i64 x.1)],[some (.arr true 0 2 L.length (u5 (X9 L) [.int .i64 0,.int .i64 0] x.1))]⟩) (fun x=>L.length-x.1) [.arr 0] [.arr 0] (fun _=>Z0)
 |_=>.none
def b0t:Rl:=⟨List Txn,fun L=>[v8 L,v8 L],fun _=>.bool true,fun L=>L.length<=1048576⟩
def c5a:Con:=.rel b0t
def c6u(L:List Txn):Nat->Ann
 |0=>.one {i:Nat//i<=L.length} (fun x=>⟨[(0,v8 L),(1,v8 L),(5,.int .i64 x.1)],[]⟩) (fun x=>L.length-x.1) [] [] (fun _=>Z0)
 |_=>.none
noncomputable def c5c:Code:=Tryz.f45.body.getD .skip
theorem b2C:Z8 Tryz.prog 45:=⟨_,Tryz.func45,by kernel_rfl,by kernel_rfl⟩
theorem c82(L:List Txn)(h:
  (((L.length:Int) !=(L.length:Int))=true->false=true)/\(((L.length:Int) !=(L.length:Int))=false->(∃(x:{i:Nat//i<=L.length}),((Y3 X9 L L)/\(Y3 X9 L L)/\(0:Int)=(x.val:Int)/\True)/\True)/\∀(x
  :{i:Nat//i<=L.length}),(decide ((x.val:Int)<(L.length:Int))=true->W7 (x.val:Int) L.length/\W7 (x.val:Int) L.length/\∃(x_1:b75.ι),((((L.getD (x.val:Int).toNat default).id=x_1.id/\(L.getD
  (x.val:Int).toNat default).last=x_1.last/\True)/\((L.getD (x.val:Int).toNat default).id=x_1.id/\(L.getD (x.val:Int).toNat default).last=x_1.last/\True)/\True)/\True)/\(false=true->false=true)/\(false=false->
  X6 .i64 ((x.val:Int)+(1:Int))/\∃(y:{i:Nat//i<=L.length}),(((Y3 X9 L L)/\(Y3 X9 L L)/\(x.val:Int)+(1:Int)=(y.val:Int)/\True)/\True)/\Lt (L.length-y.val) (L.length-x.val)))/\(decide
  ((x.val:Int)<(L.length:Int))=false->true=true))):
  Z1 Tryz.prog 45 [v8 L,v8 L] (.bool true):=
 T7 (code:=c5c) (gC c8e b4G gN) Tryz.func45 (by kernel_rfl) (by kernel_rfl) (c6u L) h (by kernel_rfl)
theorem c18:Z2 Tryz.prog 45 c5a:=by
 intro(L:List Txn) (hL:L.length<=1048576);refine c82 L ⟨fun h=>by simp at h,fun _=>⟨⟨⟨0,Nat.zero_le _⟩,⟨⟨(by trivial),Z9 _ _⟩,⟨(by trivial),Z9 _ _⟩,rfl,trivial⟩,trivial⟩,fun x=>⟨fun hc=> ?_,fun _=>rfl⟩⟩⟩
 have hlt:=Y6 hc;exact⟨Y8 hlt,Y8 hlt,L.getD x.val default,⟨⟨⟨rfl,rfl,trivial⟩,⟨rfl,rfl,trivial⟩,trivial⟩,trivial⟩,fun h=>h,fun _=>⟨W8 hlt (by omega),⟨x.val+1,hlt⟩,⟨⟨⟨(by trivial),Z9 _ _⟩,⟨(by trivial),Z9 _ _⟩,by simp only;omega,trivial⟩,trivial⟩,W5.ext_lt hlt⟩⟩
def b0i:Rl:=⟨List Lck×Int,fun x=>[D4 x.1,.int .i64 x.2],fun x=>.int .i64 (rem x.2 x.1.length),fun x=>I4 x.2/\Lim x.1.length⟩
def c4s:Con:=.rel b0i
noncomputable def c4u:Code:=Tryz.f70.body.getD .skip
theorem a9U:Z8 Tryz.prog 70:=⟨_,Tryz.func70,by kernel_rfl,by kernel_rfl⟩
theorem c7k(L:List Lck)(left:Int)(h:
  X6 .i64 (left- (L.length:Int))/\(decide (left- (L.length:Int)<(0:Int))=true->(-1:Int)=rem left L.length)/\(decide (left- (L.length:Int)<(0:Int))=false->left- (L.length:Int)=rem left L.length)):
  Z1 Tryz.prog 70 [D4 L,.int .i64 left] (.int .i64 (rem left L.length)):=
 T7 (code:=c4u) gN Tryz.func70 (by kernel_rfl) (by kernel_rfl) Z0 h (by kernel_rfl)
theorem c03:Z2 Tryz.prog 70 c4s:=by
 rintro⟨L,left⟩ ⟨⟨h0,h1⟩,hn⟩;have hn:L.length<=9223372036854775807:=hn;simp only at h0 h1;refine c7k L left ?_
 simp only[D3,decide_eq_true_eq,decide_eq_false_iff_not];exact⟨by omega,fun h=>(O9 (by omega)).symm,fun h=>(L0 (by omega)).symm⟩
def b8A:Rl:=⟨Lck,fun r=>[.agg r.ts],fun r=>.agg r.ts,fun _=>True⟩
def d0a:Con:=.rel b8A
noncomputable def d0s:Code:=Tryz.f149.body.getD .skip
theorem b6J:Z8 Tryz.prog 149:=⟨_,Tryz.func149,by kernel_rfl,by kernel_rfl⟩
theorem d1S(r:Lck)(h:
  r.tx=r.tx/\r.ta=r.ta/\r.row=r.row/\r.mo=r.mo/\True):
  Z1 Tryz.prog 149 [.agg r.ts] (.agg r.ts):=
 T7 (code:=d0s) gN Tryz.func149 (by kernel_rfl) (by kernel_rfl) Z0 h (by kernel_rfl)
theorem c6P:Z2 Tryz.prog 149 d0a:=fun r _=>d1S r ⟨rfl,rfl,rfl,rfl,trivial⟩
def b7Z:Rl:=⟨Lck,fun r=>[.agg r.ts,.agg r.ts],fun _=>.bool true,fun _=>True⟩
def d1D:Con:=.rel b7Z
noncomputable def d0x:Code:=Tryz.f171.body.getD .skip
theorem b6S:Z8 Tryz.prog 171:=⟨_,Tryz.func171,by kernel_rfl,by kernel_rfl⟩
theorem c9Z(r:Lck)(h:
  ((r.tx !=r.tx)=true->false=true)/\((r.tx !=r.tx)=false->((r.ta !=r.ta)=true->false=true)/\((r.ta !=r.ta)=false->((r.row !=r.row)=true->false=true)/\((r.row !=r.row)=false->((r.mo !=r.mo)=true->
  false=true)/\((r.mo !=r.mo)=false->true=true))))):
  Z1 Tryz.prog 171 [.agg r.ts,.agg r.ts] (.bool true):=
 T7 (code:=d0x) gN Tryz.func171 (by kernel_rfl) (by kernel_rfl) Z0 h (by kernel_rfl)
theorem c8Z:Z2 Tryz.prog 171 d1D:=by
 intro r _;refine c9Z r ?_
 simp
def c5h(L:List Lck):Nat->Ann
 |0=>.one {i:Nat//i<=L.length} (fun x=>⟨[(0,D4 L),(3,.osl 0 0 L.length),(4,.int .i64 x.1)],[some (.arr true 0 4 L.length (u5 (Y9 L) [.int .i64 0,.int .i64 0,.int .i64 0,.int .i64 0] x.1))]⟩) (fun x=>L.length-x.1) [.arr 0] [.arr 0] (fun _=>Z0)
 |_=>.none
def b1N:Rl:=⟨List Lck,fun L=>[D4 L,D4 L],fun _=>.bool true,fun L=>L.length<=1048576⟩
def c70:Con:=.rel b1N
def c42(L:List Lck):Nat->Ann
 |0=>.one {i:Nat//i<=L.length} (fun x=>⟨[(0,D4 L),(1,D4 L),(5,.int .i64 x.1)],[]⟩) (fun x=>L.length-x.1) [] [] (fun _=>Z0)
 |_=>.none
noncomputable def c5T:Code:=Tryz.f97.body.getD .skip
theorem b1X:Z8 Tryz.prog 97:=⟨_,Tryz.func97,by kernel_rfl,by kernel_rfl⟩
theorem c8T(L:List Lck)(h:
  (((L.length:Int) !=(L.length:Int))=true->false=true)/\(((L.length:Int) !=(L.length:Int))=false->(∃(x:{i:Nat//i<=L.length}),((Y3 Y9 L L)/\(Y3 Y9 L L)/\(0:Int)=(x.val:Int)/\True)/\True)/\∀(x
  :{i:Nat//i<=L.length}),(decide ((x.val:Int)<(L.length:Int))=true->W7 (x.val:Int) L.length/\W7 (x.val:Int) L.length/\∃(x_1:b7Z.ι),((((L.getD (x.val:Int).toNat default).tx=x_1.tx/\(L.getD
  (x.val:Int).toNat default).ta=x_1.ta/\(L.getD (x.val:Int).toNat default).row=x_1.row/\(L.getD (x.val:Int).toNat default).mo=x_1.mo/\True)/\((L.getD (x.val:Int).toNat default).tx=x_1.tx/\(L.getD (x.val:Int).toNat
  default).ta=x_1.ta/\(L.getD (x.val:Int).toNat default).row=x_1.row/\(L.getD (x.val:Int).toNat default).mo=x_1.mo/\True)/\True)/\True)/\(false=true->false=true)/\(false=false->X6 .i64 ((x.val:Int)+(1:Int))
  /\∃(y:{i:Nat//i<=L.length}),(((Y3 Y9 L L)/\(Y3 Y9 L L)/\(x.val:Int)+(1:Int)=(y.val:Int)/\True)/\True)/\Lt (L.length-y.val) (L.length-x.val)))/\(decide ((x.val:Int)<(L.length:Int))=false->
  true=true))):
  Z1 Tryz.prog 97 [D4 L,D4 L] (.bool true):=
 T7 (code:=c5T) (gC c8Z b6S gN) Tryz.func97 (by kernel_rfl) (by kernel_rfl) (c42 L) h (by kernel_rfl)
theorem b92:Z2 Tryz.prog 97 c70:=by
 intro(L:List Lck) (hL:L.length<=1048576);refine c8T L ⟨fun h=>by simp at h,fun _=>⟨⟨⟨0,Nat.zero_le _⟩,⟨⟨(by trivial),Z9 _ _⟩,⟨(by trivial),Z9 _ _⟩,rfl,trivial⟩,trivial⟩,fun x=>⟨fun hc=> ?_,fun _=>rfl⟩⟩⟩
 have hlt:=Y6 hc;exact⟨Y8 hlt,Y8 hlt,L.getD x.val default,⟨⟨⟨rfl,rfl,rfl,rfl,trivial⟩,⟨rfl,rfl,rfl,rfl,trivial⟩,trivial⟩,trivial⟩,fun h=>h,fun _=>⟨W8 hlt (by omega),⟨x.val+1,hlt⟩,⟨⟨⟨(by trivial),Z9 _ _⟩,⟨(by trivial),Z9 _ _⟩,by simp only;omega,trivial⟩,trivial⟩,W5.ext_lt hlt⟩⟩
def b70:Rl:=⟨List Wt×Int,fun x=>[wtS x.1,.int .i64 x.2],fun x=>.int .i64 (rem x.2 x.1.length),fun x=>I4 x.2/\Lim x.1.length⟩
def d0y:Con:=.rel b70
noncomputable def d0K:Code:=Tryz.f71.body.getD .skip
theorem b4i:Z8 Tryz.prog 71:=⟨_,Tryz.func71,by kernel_rfl,by kernel_rfl⟩
theorem d25(L:List Wt)(left:Int)(h:
  X6 .i64 (left- (L.length:Int))/\(decide (left- (L.length:Int)<(0:Int))=true->(-1:Int)=rem left L.length)/\(decide (left- (L.length:Int)<(0:Int))=false->left- (L.length:Int)=rem left L.length)):
  Z1 Tryz.prog 71 [wtS L,.int .i64 left] (.int .i64 (rem left L.length)):=
 T7 (code:=d0K) gN Tryz.func71 (by kernel_rfl) (by kernel_rfl) Z0 h (by kernel_rfl)
theorem c71:Z2 Tryz.prog 71 d0y:=by
 rintro⟨L,left⟩ ⟨⟨h0,h1⟩,hn⟩;have hn:L.length<=9223372036854775807:=hn;simp only at h0 h1;refine d25 L left ?_
 simp only[D3,decide_eq_true_eq,decide_eq_false_iff_not];exact⟨by omega,fun h=>(O9 (by omega)).symm,fun h=>(L0 (by omega)).symm⟩
def c4v:Rl:=⟨Wt,fun r=>[.agg r.ts],fun r=>.agg r.ts,fun _=>True⟩
def d6b:Con:=.rel c4v
noncomputable def d5s:Code:=Tryz.f150.body.getD .skip
theorem c12:Z8 Tryz.prog 150:=⟨_,Tryz.func150,by kernel_rfl,by kernel_rfl⟩
theorem d5J(r:Wt)(h:
  r.tx=r.tx/\r.fo=r.fo/\True):
  Z1 Tryz.prog 150 [.agg r.ts] (.agg r.ts):=
 T7 (code:=d5s) gN Tryz.func150 (by kernel_rfl) (by kernel_rfl) Z0 h (by kernel_rfl)
theorem d1I:Z2 Tryz.prog 150 d6b:=fun r _=>d5J r ⟨rfl,rfl,trivial⟩
def c4F:Rl:=⟨Wt,fun r=>[.agg r.ts,.agg r.ts],fun _=>.bool true,fun _=>True⟩
def d6a:Con:=.rel c4F
noncomputable def d4m:Code:=Tryz.f172.body.getD .skip
theorem c2x:Z8 Tryz.prog 172:=⟨_,Tryz.func172,by kernel_rfl,by kernel_rfl⟩
theorem d45(r:Wt)(h:
  ((r.tx !=r.tx)=true->false=true)/\((r.tx !=r.tx)=false->((r.fo !=r.fo)=true->false=true)/\((r.fo !=r.fo)=false->true=true))):
  Z1 Tryz.prog 172 [.agg r.ts,.agg r.ts] (.bool true):=
 T7 (code:=d4m) gN Tryz.func172 (by kernel_rfl) (by kernel_rfl) Z0 h (by kernel_rfl)
theorem d1x:Z2 Tryz.prog 172 d6a:=by
 intro r _;refine d45 r ?_
 simp
def c9v(L:List Wt):Nat->Ann
 |0=>.one {i:Nat//i<=L.length} (fun x=>⟨[(0,wtS L),(3,.osl 0 0 L.length),(4,.int .i64 x.1)],[some (.arr true 0 2 L.length (u5 (Y1 L) [.int .i64 0,.int .i64 0] x.1))]⟩) (fun x=>L.length-x.1) [.arr 0] [.arr 0] (fun _=>Z0)
 |_=>.none
def b8m:Rl:=⟨List Wt,fun L=>[wtS L,wtS L],fun _=>.bool true,fun L=>L.length<=1048576⟩
def d2F:Con:=.rel b8m
def d3e(L:List Wt):Nat->Ann
 |0=>.one {i:Nat//i<=L.length} (fun x=>⟨[(0,wtS L),(1,wtS L),(5,.int .i64 x.1)],[]⟩) (fun x=>L.length-x.1) [] [] (fun _=>Z0)
 |_=>.none
noncomputable def d2m:Code:=Tryz.f98.body.getD .skip
theorem b4l:Z8 Tryz.prog 98:=⟨_,Tryz.func98,by kernel_rfl,by kernel_rfl⟩
theorem c9O(L:List Wt)(h:
  (((L.length:Int) !=(L.length:Int))=true->false=true)/\(((L.length:Int) !=(L.length:Int))=false->(∃(x:{i:Nat//i<=L.length}),((Y3 Y1 L L)/\(Y3 Y1 L L)/\(0:Int)=(x.val:Int)/\True)/\True)/\∀(x:
  {i:Nat//i<=L.length}),(decide ((x.val:Int)<(L.length:Int))=true->W7 (x.val:Int) L.length/\W7 (x.val:Int) L.length/\∃(x_1:c4F.ι),((((L.getD (x.val:Int).toNat default).tx=x_1.tx/\(L.getD (x.val:Int).toNat
  default).fo=x_1.fo/\True)/\((L.getD (x.val:Int).toNat default).tx=x_1.tx/\(L.getD (x.val:Int).toNat default).fo=x_1.fo/\True)/\True)/\True)/\(false=true->false=true)/\(false=false->X6 .i64 ((x.val:Int)+(1
  :Int))/\∃(y:{i:Nat//i<=L.length}),(((Y3 Y1 L L)/\(Y3 Y1 L L)/\(x.val:Int)+(1:Int)=(y.val:Int)/\True)/\True)/\Lt (L.length-y.val) (L.length-x.val)))/\(decide ((x.val:Int)<(L.length:Int))=
  false->true=true))):
  Z1 Tryz.prog 98 [wtS L,wtS L] (.bool true):=
 T7 (code:=d2m) (gC d1x c2x gN) Tryz.func98 (by kernel_rfl) (by kernel_rfl) (d3e L) h (by kernel_rfl)
theorem c3J:Z2 Tryz.prog 98 d2F:=by
 intro(L:List Wt) (hL:L.length<=1048576);refine c9O L ⟨fun h=>by simp at h,fun _=>⟨⟨⟨0,Nat.zero_le _⟩,⟨⟨(by trivial),Z9 _ _⟩,⟨(by trivial),Z9 _ _⟩,rfl,trivial⟩,trivial⟩,fun x=>⟨fun hc=> ?_,fun _=>rfl⟩⟩⟩
 have hlt:=Y6 hc;exact⟨Y8 hlt,Y8 hlt,L.getD x.val default,⟨⟨⟨rfl,rfl,trivial⟩,⟨rfl,rfl,trivial⟩,trivial⟩,trivial⟩,fun h=>h,fun _=>⟨W8 hlt (by omega),⟨x.val+1,hlt⟩,⟨⟨⟨(by trivial),Z9 _ _⟩,⟨(by trivial),Z9 _ _⟩,by simp only;omega,trivial⟩,trivial⟩,W5.ext_lt hlt⟩⟩
def I9(s:Lks):Nat:=s.held.length+s.waits.length
def b8F(s:Lks):Prop:=Lim s.held.length/\Lim s.waits.length
def a1q(s:Lks):Prop:=s.held.length<=1048576/\s.waits.length<=1048576
def c9R:Con:=.rel ⟨Lks×Int,fun x=>[.agg x.1.ts,.int .i64 x.2],fun x=>.int .i64 (rem x.2 (I9 x.1)),fun x=>I4 x.2/\b8F x.1⟩
noncomputable def d2o:Code:=Tryz.f34.body.getD .skip
theorem b4h:Z8 Tryz.prog 34:=⟨_,Tryz.func34,by kernel_rfl,by kernel_rfl⟩
theorem d0e(s:Lks)(left:Int)(h:
  ∃(x:b0i.ι),(((Y3 Y9 s.held x.fst)/\left=x.snd/\True)/\I4 x.snd/\Lim x.fst.length)/\(decide (rem x.snd x.fst.length<(0:Int))=true->(-1:Int)=rem left (I9 s))/\(decide (rem x.snd x.fst.length<
  (0:Int))=false->∃(x_1:b70.ι),(((Y3 Y1 s.waits x_1.fst)/\rem x.snd x.fst.length=x_1.snd/\True)/\I4 x_1.snd/\Lim x_1.fst.length)/\(decide (rem x_1.snd x_1.fst.length<(0:Int))=true->(-1:Int)=rem
  left (I9 s))/\(decide (rem x_1.snd x_1.fst.length<(0:Int))=false->rem x_1.snd x_1.fst.length=rem left (I9 s)))):
  Z1 Tryz.prog 34 [.agg s.ts,.int .i64 left] (.int .i64 (rem left (I9 s))):=
 T7 (code:=d2o) (gC c03 a9U (gC c71 b4i gN)) Tryz.func34 (by kernel_rfl) (by kernel_rfl) Z0 h (by kernel_rfl)
theorem c7Z:Z2 Tryz.prog 34 c9R:=by
 rintro⟨s,left⟩ ⟨hl,h0,h1⟩;simp only at hl h0 h1;have e:I9 s=s.held.length+s.waits.length:=rfl;refine d0e s left ⟨(s.held,left),⟨⟨⟨rfl,Z9 _ _⟩,rfl,trivial⟩,hl,h0⟩,fun h=>(G5 (of_decide_eq_true h) (by(try dsimp only);omega)).symm,fun h=> ?_⟩
 obtain⟨q1,l1⟩:=a0p (b:=s.waits.length) (of_decide_eq_false h) hl rfl;refine⟨(s.waits,rem left (s.held.length)),⟨⟨⟨rfl,Z9 _ _⟩,rfl,trivial⟩,l1,h1⟩,fun g=> ?_,fun g=> ?_⟩
 ·simp only at g;rw[q1] at g;exact(G5 (of_decide_eq_true g) (by(try dsimp only);omega)).symm
 exact q1
def d1T:Con:=.rel ⟨Lks,fun s=>[.agg s.ts,.agg s.ts],fun _=>.bool true,a1q⟩
noncomputable def c9Q:Code:=Tryz.f46.body.getD .skip
theorem b3U:Z8 Tryz.prog 46:=⟨_,Tryz.func46,by kernel_rfl,by kernel_rfl⟩
theorem c9n(s:Lks)(h:
  ∃(x:b1N.ι),(((s.held.length=List.length x/\Z7 s.held.length (Y9 s.held) (Y9 x))/\(s.held.length=List.length x/\Z7 s.held.length (Y9 s.held) (Y9 x))/\True)/\List.length x<=1048576)/\
  (false=true->false=true)/\(false=false->∃(x:b8m.ι),(((s.waits.length=List.length x/\Z7 s.waits.length (Y1 s.waits) (Y1 x))/\(s.waits.length=List.length x/\Z7 s.waits.length (Y1 s.waits)
  (Y1 x))/\True)/\List.length x<=1048576)/\(false=true->false=true)/\(false=false->true=true))):
  Z1 Tryz.prog 46 [.agg s.ts,.agg s.ts] (.bool true):=
 T7 (code:=c9Q) (gC b92 b1X (gC c3J b4l gN)) Tryz.func46 (by kernel_rfl) (by kernel_rfl) Z0 h (by kernel_rfl)
theorem c7c:Z2 Tryz.prog 46 d1T:=by
 rintro(s:Lks) ⟨h0,h1⟩;exact c9n s ⟨s.held,⟨⟨⟨rfl,Z9 _ _⟩,⟨rfl,Z9 _ _⟩,trivial⟩,h0⟩,fun h=>h,fun _=>⟨s.waits,⟨⟨⟨rfl,Z9 _ _⟩,⟨rfl,Z9 _ _⟩,trivial⟩,h1⟩,fun h=>h,fun _=>rfl⟩⟩
def D6(s:Eng):Nat:=D1 s.s+s.txs.length+I9 s.lk
def b8H(s:Eng):Prop:=LmS s.s/\Lim s.txs.length/\b8F s.lk
def L9(s:Eng):Prop:=SmS s.s/\s.txs.length<=1048576/\a1q s.lk
def d2K:Con:=.rel ⟨Eng×Int,fun x=>[.agg x.1.ts,.int .i64 x.2],fun x=>.int .i64 (rem x.2 (D6 x.1)),fun x=>I4 x.2/\b8H x.1⟩
noncomputable def d1J:Code:=Tryz.f10.body.getD .skip
theorem b5n:Z8 Tryz.prog 10:=⟨_,Tryz.func10,by kernel_rfl,by kernel_rfl⟩
theorem d3b(s:Eng)(left:Int)(h:
  ∃(x:b79.ι),(((EqS s.s x.fst)/\left=x.snd/\True)/\I4 x.snd/\LmS x.fst)/\(decide (rem x.snd (D1 x.fst)<(0:Int))=true->(-1:Int)=rem left (D6 s))/\(decide (rem x.snd (D1 x.fst)<(0:Int))=
  false->∃(x_1:b2J.ι),(((Y3 X9 s.txs x_1.fst)/\rem x.snd (D1 x.fst)=x_1.snd/\True)/\I4 x_1.snd/\Lim x_1.fst.length)/\(decide (rem x_1.snd x_1.fst.length<(0:Int))=true->(-1:Int)=rem left (D6
  s))/\(decide (rem x_1.snd x_1.fst.length<(0:Int))=false->∃(x:(Lks×Int)),((((Y3 Y9 s.lk.held x.fst.held)/\(Y3 Y1 s.lk.waits x.fst.waits)/\True)/\rem x_1.snd x_1.fst.length=x.snd/\True)/\I4 x.snd/\
  b8F x.fst)/\(decide (rem x.snd (I9 x.fst)<(0:Int))=true->(-1:Int)=rem left (D6 s))/\(decide (rem x.snd (I9 x.fst)<(0:Int))=false->rem x.snd (I9 x.fst)=rem left (D6 s))))):
  Z1 Tryz.prog 10 [.agg s.ts,.int .i64 left] (.int .i64 (rem left (D6 s))):=
 T7 (code:=d1J) (gC c65 b4v (gC b9O b21 (gC c7Z b4h gN))) Tryz.func10 (by kernel_rfl) (by kernel_rfl) Z0 h (by kernel_rfl)
theorem c75:Z2 Tryz.prog 10 d2K:=by
 rintro⟨s,left⟩ ⟨hl,h0,h1,h2⟩;simp only at hl h0 h1 h2;have e:D6 s=D1 s.s+s.txs.length+I9 s.lk:=rfl;refine d3b s left ⟨(s.s,left),⟨⟨(eqS _),rfl,trivial⟩,hl,h0⟩,fun h=>(G5 (of_decide_eq_true h) (by(try dsimp only);omega)).symm,fun h=> ?_⟩
 obtain⟨q1,l1⟩:=a0p (b:=s.txs.length) (of_decide_eq_false h) hl rfl;refine⟨(s.txs,rem left (D1 s.s)),⟨⟨⟨rfl,Z9 _ _⟩,rfl,trivial⟩,l1,h1⟩,fun g=> ?_,fun g=> ?_⟩
 ·simp only at g;rw[q1] at g;exact(G5 (of_decide_eq_true g) (by(try dsimp only);omega)).symm
 simp only at g ⊢;rw[q1] at g ⊢;obtain⟨q2,l2⟩:=a0p (b:=I9 s.lk) (of_decide_eq_false g) hl rfl;refine⟨(s.lk,rem left (D1 s.s+s.txs.length)),⟨⟨⟨⟨rfl,Z9 _ _⟩,⟨rfl,Z9 _ _⟩,trivial⟩,rfl,trivial⟩,l2,h2⟩,fun g=> ?_,fun g=> ?_⟩
 ·simp only at g;rw[q2] at g;exact(G5 (of_decide_eq_true g) (by(try dsimp only);omega)).symm
 exact q2
def c9M:Con:=.rel ⟨Eng,fun s=>[.agg s.ts,.agg s.ts],fun _=>.bool true,L9⟩
noncomputable def d2e:Code:=Tryz.f15.body.getD .skip
theorem b7a:Z8 Tryz.prog 15:=⟨_,Tryz.func15,by kernel_rfl,by kernel_rfl⟩
theorem d0Z(s:Eng)(h:
  ∃(x:b8C.ι),(((EqS s.s x)/\(EqS s.s x)/\True)/\SmS x)/\(false=true->false=true)/\(false=false->((!s.up==s.up)=true->false=true)/\((!s.up==s.up)=false->∃(x:b0t.ι),(((s.txs.length=
  List.length x/\Z7 s.txs.length (X9 s.txs) (X9 x))/\(s.txs.length=List.length x/\Z7 s.txs.length (X9 s.txs) (X9 x))/\True)/\List.length x<=1048576)/\(false=true->false=true)/\(false=false->
  ∃(x:Lks),((((Y3 Y9 s.lk.held x.held)/\(Y3 Y1 s.lk.waits x.waits)/\True)/\((Y3 Y9 s.lk.held x.held)/\(Y3 Y1 s.lk.waits x.waits)/\True)/\True)/\a1q x)/\(false=true->false=true)/\(false=false->
  ((s.next !=s.next)=true->false=true)/\((s.next !=s.next)=false->true=true)))))):
  Z1 Tryz.prog 15 [.agg s.ts,.agg s.ts] (.bool true):=
 T7 (code:=d2e) (gC c7h b6p (gC c18 b2C (gC c7c b3U gN))) Tryz.func15 (by kernel_rfl) (by kernel_rfl) Z0 h (by kernel_rfl)
theorem c7o:Z2 Tryz.prog 15 c9M:=by
 rintro(s:Eng) ⟨h0,h1,h2⟩;exact d0Z s ⟨s.s,⟨⟨(eqS _),(eqS _),trivial⟩,h0⟩,fun h=>h,fun _=>⟨fun h=>by simp at h,fun _=>⟨s.txs,⟨⟨⟨rfl,Z9 _ _⟩,⟨rfl,Z9 _ _⟩,trivial⟩,h1⟩,fun h=>h,fun _=>⟨s.lk,⟨⟨⟨⟨rfl,Z9 _ _⟩,⟨rfl,Z9 _ _⟩,trivial⟩,⟨⟨rfl,Z9 _ _⟩,⟨rfl,Z9 _ _⟩,trivial⟩,trivial⟩,h2⟩,fun h=>h,fun _=>⟨fun h=>by simp at h,fun _=>rfl⟩⟩⟩⟩⟩
end Go.Proofs.YtokaojbaacnngaaGreat

