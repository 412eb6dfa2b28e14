/- A part of the proof. -/
import Derived.Test.YtokaojbaacnngaaGreatW4
import Derived.Test.YtokaojbaacnngaaGreatF0F1F2
namespace Go.Proofs.YtokaojbaacnngaaGreat
set_option maxRecDepth 100000
open Go.SS

theorem b5y:Z1 Tryz.prog 44 c3T:=by
 rintro(s:Sto) ⟨h1,h2,h3,h4⟩;exact c29 s ⟨s.d,⟨⟨(xL _),(xL _),trivial⟩,h1⟩,fun h=>h,fun _=>⟨fun h=>by simp at h,fun _=>⟨s.log,⟨⟨⟨rfl,Z9 _ _⟩,⟨rfl,Z9 _ _⟩,trivial⟩,h2⟩,fun h=>h,fun _=>⟨fun h=>by simp at h,fun _=>⟨s.fr,⟨⟨⟨rfl,Z9 _ _⟩,⟨rfl,Z9 _ _⟩,trivial⟩,h3,h4⟩,fun h=>h,fun _=>⟨fun h=>by simp at h,fun _=>rfl⟩⟩⟩⟩⟩⟩
theorem xA{α:Type}(f:α->Nat)(L:List α):L.length<=V2 f L:=by
 have:=F8 f L L.length (T0 L.length);have hz:W5 f L L.length 0=L.length:=rfl;unfold V2;omega
theorem a0G{α:Type}(f:α->Nat)(L:List α)(d:α){i:Nat}(hi:i<L.length):f (L.getD i d)+L.length<=V2 f L:=by
 have h1:=F8 f L L.length (show i+1<=L.length from hi)
 have h2:=v3 f L L.length d hi;have h3:=F8 f L L.length (T0 i);have hz:W5 f L L.length 0=L.length:=rfl;unfold V2;omega
theorem c2l{left:Int}{n:Nat}(h:¬rem left n<0):(n:Int)<=left:=by
 by_cases hq:(n:Int)<=left
 ·exact hq
 ·rw[O8 (by omega)] at h
  omega
theorem b1D{s:Sto}(h:B8 s<=1048576):SmS s/\b9e s:=by
 have e:B8 s=V2 L4 s.d.sec+V2 R3 s.d.cache+s.d.keep.length+V2 S2 s.log+V2 R1 s.fr:=rfl;have a1:=xA L4 s.d.sec;have a2:=xA R3 s.d.cache;have a3:=xA S2 s.log;have a4:=xA R1 s.fr;have f1:∀i,i<s.fr.length->(s.fr.getD i default).pg.sl.length<=1048576:=fun i hi=>by
  have h1:=a0G R1 s.fr default hi;have h2:=xA L4 (s.fr.getD i default).pg.sl;have h3:R1 (s.fr.getD i default)=V2 L4 (s.fr.getD i default).pg.sl:=rfl;omega
 have l1:∀r ∈ s.log,r.a.length<=1048576:=fun r hr=>by
  obtain⟨i,hi,rfl⟩:=List.mem_iff_getElem.1 hr;have h1:=a0G S2 s.log default hi;rw[C0,O1 hi,Option.getD_some] at h1
  have h3:S2 s.log[i]=s.log[i].b.length+s.log[i].a.length:=rfl;omega
 refine⟨⟨⟨by omega,by omega,by omega⟩,by omega,by omega,f1⟩,⟨by unfold K6;omega,by unfold K6;omega,by unfold K6;omega⟩,⟨by omega,fun r hr=>by have:=l1 r hr;omega⟩,⟨by unfold K6;omega,fun i hi=> ?_⟩,fun r hr=> ?_⟩
 ·have:=f1 i hi;show(s.fr.getD i default).pg.sl.length<1000000000000;omega
 ·have:=l1 r hr;show r.a.length<1000000000000;omega

def a27:Rl:=⟨List Txn×Int,fun x=>[B4 x.1,.int .i64 x.2],fun x=>.int .i64 (rem x.2 x.1.length),fun x=>G6 x.2/\rT x.1.length⟩
def b5n:Con:=.rel a27
noncomputable def b9j:Code:=Tryz.f33.body.getD .skip
theorem a2l:Z7 Tryz.prog 33:=⟨_,Tryz.func33,by kernel_rfl,by kernel_rfl⟩
theorem b8u(L:List Txn)(left:Int)(h:
  X8 .i64 (left- (L.length:Int))/\(decide (left- (L.length:Int)<(0:Int))=true->(-1:Int)=rem left L.length)/\(decide (left- (L.length:Int)<(0:Int))=false->left- (L.length:Int)=rem left L.length)):
  Z2 Tryz.prog 33 [B4 L,.int .i64 left] (.int .i64 (rem left L.length)):=
 T4 (code:=b9j) gN Tryz.func33 (by kernel_rfl) (by kernel_rfl) Z0 h (by kernel_rfl)
theorem b3C:Z1 Tryz.prog 33 b5n:=by
 rintro⟨L,left⟩ ⟨⟨h0,h1⟩,hn⟩;have hn:L.length<=9223372036854775807:=hn;simp only at h0 h1;refine b8u L left ?_
 simp only[B3,t9,tV];exact⟨by omega,fun h=>(O8 (by omega)).symm,fun h=>(K9 (by omega)).symm⟩
def a8U:Rl:=⟨Txn,fun r=>[.agg r.ts],fun r=>.agg r.ts,fun _=>True⟩
def c3D:Con:=.rel a8U
noncomputable def c3N:Code:=Tryz.f84.body.getD .skip
theorem a7E:Z7 Tryz.prog 84:=⟨_,Tryz.func84,by kernel_rfl,by kernel_rfl⟩
theorem c3z(r:Txn)(h:
  r.id=r.id/\r.last=r.last/\True):
  Z2 Tryz.prog 84 [.agg r.ts] (.agg r.ts):=
 T4 (code:=c3N) gN Tryz.func84 (by kernel_rfl) (by kernel_rfl) Z0 h (by kernel_rfl)
theorem b5v:Z1 Tryz.prog 84 c3D:=fun r _=>c3z r ⟨rfl,rfl,trivial⟩
def a9c:Rl:=⟨Txn,fun r=>[.agg r.ts,.agg r.ts],fun _=>.bool true,fun _=>True⟩
def c17:Con:=.rel a9c
noncomputable def c3e:Code:=Tryz.f96.body.getD .skip
theorem a8v:Z7 Tryz.prog 96:=⟨_,Tryz.func96,by kernel_rfl,by kernel_rfl⟩
theorem c04(r:Txn)(h:
  ((r.id !=r.id)=true->false=true)/\((r.id !=r.id)=false->((r.last !=r.last)=true->false=true)/\((r.last !=r.last)=false->true=true))):
  Z2 Tryz.prog 96 [.agg r.ts,.agg r.ts] (.bool true):=
 T4 (code:=c3e) gN Tryz.func96 (by kernel_rfl) (by kernel_rfl) Z0 h (by kernel_rfl)
theorem b8R:Z1 Tryz.prog 96 c17:=by
 intro r _;refine c04 r ?_
 simp
def b8v(L:List Txn):Nat->Ann
 |0=>.one {i:Nat//i<=L.length} (fun x=>⟨[(0,B4 L),(3,.osl 0 0 L.length),(4,.int .i64 x.1)],[some (.arr true 0 2 L.length (o7 (Y0 L) [.int .i64 0,.int .i64 0] x.1))]⟩) (fun x=>L.length-x.1) [.arr 0] [.arr 0] (fun _=>Z0)
 |_=>.none
def a1x:Rl:=⟨List Txn,fun L=>[B4 L,B4 L],fun _=>.bool true,fun L=>L.length<=1048576⟩
def b7R:Con:=.rel a1x
def b97(L:List Txn):Nat->Ann
 |0=>.one {i:Nat//i<=L.length} (fun x=>⟨[(0,B4 L),(1,B4 L),(5,.int .i64 x.1)],[]⟩) (fun x=>L.length-x.1) [] [] (fun _=>Z0)
 |_=>.none
noncomputable def b5s:Code:=Tryz.f45.body.getD .skip
theorem a1z:Z7 Tryz.prog 45:=⟨_,Tryz.func45,by kernel_rfl,by kernel_rfl⟩
theorem b6w(L:List Txn)(h:
  (((L.length:Int) !=(L.length:Int))=true->false=true)/\(((L.length:Int) !=(L.length:Int))=false->(∃(x:{i:Nat//i<=L.length}),((Y4 Y0 L L)/\(Y4 Y0 L L)/\(0:Int)=(x.val:Int)/\True)/\True)/\∀(x
  :{i:Nat//i<=L.length}),(decide ((x.val:Int)<(L.length:Int))=true->X0 (x.val:Int) L.length/\X0 (x.val:Int) L.length/\∃(x_1:a9c.ι),((((L.getD (x.val:Int).toNat default).id=x_1.id/\(L.getD
  (x.val:Int).toNat default).last=x_1.last/\True)/\((L.getD (x.val:Int).toNat default).id=x_1.id/\(L.getD (x.val:Int).toNat default).last=x_1.last/\True)/\True)/\True)/\(false=true->false=true)/\(false=false->
  X8 .i64 ((x.val:Int)+(1:Int))/\∃(y:{i:Nat//i<=L.length}),(((Y4 Y0 L L)/\(Y4 Y0 L L)/\(x.val:Int)+(1:Int)=(y.val:Int)/\True)/\True)/\Lt (L.length-y.val) (L.length-x.val)))/\(decide
  ((x.val:Int)<(L.length:Int))=false->true=true))):
  Z2 Tryz.prog 45 [B4 L,B4 L] (.bool true):=
 T4 (code:=b5s) (gC b8R a8v gN) Tryz.func45 (by kernel_rfl) (by kernel_rfl) (b97 L) h (by kernel_rfl)
theorem b1L:Z1 Tryz.prog 45 b7R:=by
 intro(L:List Txn) (hL:L.length<=1048576);refine b6w L ⟨fun h=>by simp at h,fun _=>⟨⟨⟨0,T0 _⟩,⟨⟨(by trivial),Z9 _ _⟩,⟨(by trivial),Z9 _ _⟩,rfl,trivial⟩,trivial⟩,fun x=>⟨fun hc=> ?_,fun _=>rfl⟩⟩⟩
 have hlt:=Y9 hc;exact⟨Y7 hlt,Y7 hlt,L.getD x.val default,⟨⟨⟨rfl,rfl,trivial⟩,⟨rfl,rfl,trivial⟩,trivial⟩,trivial⟩,fun h=>h,fun _=>⟨W4 hlt (by omega),⟨x.val+1,hlt⟩,⟨⟨⟨(by trivial),Z9 _ _⟩,⟨(by trivial),Z9 _ _⟩,by simp only;omega,trivial⟩,trivial⟩,V9.ext_lt hlt⟩⟩
def a1S:Rl:=⟨List Lck×Int,fun x=>[w7 x.1,.int .i64 x.2],fun x=>.int .i64 (rem x.2 x.1.length),fun x=>G6 x.2/\rT x.1.length⟩
def b43:Con:=.rel a1S
noncomputable def b7B:Code:=Tryz.f70.body.getD .skip
theorem a3a:Z7 Tryz.prog 70:=⟨_,Tryz.func70,by kernel_rfl,by kernel_rfl⟩
theorem c0n(L:List Lck)(left:Int)(h:
  X8 .i64 (left- (L.length:Int))/\(decide (left- (L.length:Int)<(0:Int))=true->(-1:Int)=rem left L.length)/\(decide (left- (L.length:Int)<(0:Int))=false->left- (L.length:Int)=rem left L.length)):
  Z2 Tryz.prog 70 [w7 L,.int .i64 left] (.int .i64 (rem left L.length)):=
 T4 (code:=b7B) gN Tryz.func70 (by kernel_rfl) (by kernel_rfl) Z0 h (by kernel_rfl)
theorem b0H:Z1 Tryz.prog 70 b43:=by
 rintro⟨L,left⟩ ⟨⟨h0,h1⟩,hn⟩;have hn:L.length<=9223372036854775807:=hn;simp only at h0 h1;refine c0n L left ?_
 simp only[B3,t9,tV];exact⟨by omega,fun h=>(O8 (by omega)).symm,fun h=>(K9 (by omega)).symm⟩
def a9Q:Rl:=⟨Lck,fun r=>[.agg r.ts],fun r=>.agg r.ts,fun _=>True⟩
def c0U:Con:=.rel a9Q
noncomputable def c0G:Code:=Tryz.f149.body.getD .skip
theorem a7A:Z7 Tryz.prog 149:=⟨_,Tryz.func149,by kernel_rfl,by kernel_rfl⟩
theorem c0L(r:Lck)(h:
  r.tx=r.tx/\r.ta=r.ta/\r.row=r.row/\r.mo=r.mo/\True):
  Z2 Tryz.prog 149 [.agg r.ts] (.agg r.ts):=
 T4 (code:=c0G) gN Tryz.func149 (by kernel_rfl) (by kernel_rfl) Z0 h (by kernel_rfl)
theorem c0a:Z1 Tryz.prog 149 c0U:=fun r _=>c0L r ⟨rfl,rfl,rfl,rfl,trivial⟩
def a8K:Rl:=⟨Lck,fun r=>[.agg r.ts,.agg r.ts],fun _=>.bool true,fun _=>True⟩
def c32:Con:=.rel a8K
noncomputable def c37:Code:=Tryz.f171.body.getD .skip
theorem a8z:Z7 Tryz.prog 171:=⟨_,Tryz.func171,by kernel_rfl,by kernel_rfl⟩
theorem c4m(r:Lck)(h:
  ((r.tx !=r.tx)=true->false=true)/\((r.tx !=r.tx)=false->((r.ta !=r.ta)=true->false=true)/\((r.ta !=r.ta)=false->((r.row !=r.row)=true->false=true)/\((r.row !=r.row)=false->((r.mo !=r.mo)=true->
  false=true)/\((r.mo !=r.mo)=false->true=true))))):
  Z2 Tryz.prog 171 [.agg r.ts,.agg r.ts] (.bool true):=
 T4 (code:=c37) gN Tryz.func171 (by kernel_rfl) (by kernel_rfl) Z0 h (by kernel_rfl)
theorem b7j:Z1 Tryz.prog 171 c32:=by
 intro r _;refine c4m r ?_
 simp
def b82(L:List Lck):Nat->Ann
 |0=>.one {i:Nat//i<=L.length} (fun x=>⟨[(0,w7 L),(3,.osl 0 0 L.length),(4,.int .i64 x.1)],[some (.arr true 0 4 L.length (o7 (Y2 L) [.int .i64 0,.int .i64 0,.int .i64 0,.int .i64 0] x.1))]⟩) (fun x=>L.length-x.1) [.arr 0] [.arr 0] (fun _=>Z0)
 |_=>.none
def a2x:Rl:=⟨List Lck,fun L=>[w7 L,w7 L],fun _=>.bool true,fun L=>L.length<=1048576⟩
def b7s:Con:=.rel a2x
def b8z(L:List Lck):Nat->Ann
 |0=>.one {i:Nat//i<=L.length} (fun x=>⟨[(0,w7 L),(1,w7 L),(5,.int .i64 x.1)],[]⟩) (fun x=>L.length-x.1) [] [] (fun _=>Z0)
 |_=>.none
noncomputable def b44:Code:=Tryz.f97.body.getD .skip
theorem a2a:Z7 Tryz.prog 97:=⟨_,Tryz.func97,by kernel_rfl,by kernel_rfl⟩
theorem b4M(L:List Lck)(h:
  (((L.length:Int) !=(L.length:Int))=true->false=true)/\(((L.length:Int) !=(L.length:Int))=false->(∃(x:{i:Nat//i<=L.length}),((Y4 Y2 L L)/\(Y4 Y2 L L)/\(0:Int)=(x.val:Int)/\True)/\True)/\∀(x
  :{i:Nat//i<=L.length}),(decide ((x.val:Int)<(L.length:Int))=true->X0 (x.val:Int) L.length/\X0 (x.val:Int) L.length/\∃(x_1:a8K.ι),((((L.getD (x.val:Int).toNat default).tx=x_1.tx/\(L.getD
  (x.val:Int).toNat default).ta=x_1.ta/\(L.getD (x.val:Int).toNat default).row=x_1.row/\(L.getD (x.val:Int).toNat default).mo=x_1.mo/\True)/\((L.getD (x.val:Int).toNat default).tx=x_1.tx/\(L.getD (x.val:Int).toNat
  default).ta=x_1.ta/\(L.getD (x.val:Int).toNat default).row=x_1.row/\(L.getD (x.val:Int).toNat default).mo=x_1.mo/\True)/\True)/\True)/\(false=true->false=true)/\(false=false->X8 .i64 ((x.val:Int)+(1:Int))
  /\∃(y:{i:Nat//i<=L.length}),(((Y4 Y2 L L)/\(Y4 Y2 L L)/\(x.val:Int)+(1:Int)=(y.val:Int)/\True)/\True)/\Lt (L.length-y.val) (L.length-x.val)))/\(decide ((x.val:Int)<(L.length:Int))=false->
  true=true))):
  Z2 Tryz.prog 97 [w7 L,w7 L] (.bool true):=
 T4 (code:=b44) (gC b7j a8z gN) Tryz.func97 (by kernel_rfl) (by kernel_rfl) (b8z L) h (by kernel_rfl)
theorem b1z:Z1 Tryz.prog 97 b7s:=by
 intro(L:List Lck) (hL:L.length<=1048576);refine b4M L ⟨fun h=>by simp at h,fun _=>⟨⟨⟨0,T0 _⟩,⟨⟨(by trivial),Z9 _ _⟩,⟨(by trivial),Z9 _ _⟩,rfl,trivial⟩,trivial⟩,fun x=>⟨fun hc=> ?_,fun _=>rfl⟩⟩⟩
 have hlt:=Y9 hc;exact⟨Y7 hlt,Y7 hlt,L.getD x.val default,⟨⟨⟨rfl,rfl,rfl,rfl,trivial⟩,⟨rfl,rfl,rfl,rfl,trivial⟩,trivial⟩,trivial⟩,fun h=>h,fun _=>⟨W4 hlt (by omega),⟨x.val+1,hlt⟩,⟨⟨⟨(by trivial),Z9 _ _⟩,⟨(by trivial),Z9 _ _⟩,by simp only;omega,trivial⟩,trivial⟩,V9.ext_lt hlt⟩⟩
def a9z:Rl:=⟨List Wt×Int,fun x=>[tT x.1,.int .i64 x.2],fun x=>.int .i64 (rem x.2 x.1.length),fun x=>G6 x.2/\rT x.1.length⟩
def c0A:Con:=.rel a9z
noncomputable def c1K:Code:=Tryz.f71.body.getD .skip
theorem a6G:Z7 Tryz.prog 71:=⟨_,Tryz.func71,by kernel_rfl,by kernel_rfl⟩
theorem c1y(L:List Wt)(left:Int)(h:
  X8 .i64 (left- (L.length:Int))/\(decide (left- (L.length:Int)<(0:Int))=true->(-1:Int)=rem left L.length)/\(decide (left- (L.length:Int)<(0:Int))=false->left- (L.length:Int)=rem left L.length)):
  Z2 Tryz.prog 71 [tT L,.int .i64 left] (.int .i64 (rem left L.length)):=
 T4 (code:=c1K) gN Tryz.func71 (by kernel_rfl) (by kernel_rfl) Z0 h (by kernel_rfl)
theorem c0c:Z1 Tryz.prog 71 c0A:=by
 rintro⟨L,left⟩ ⟨⟨h0,h1⟩,hn⟩;have hn:L.length<=9223372036854775807:=hn;simp only at h0 h1;refine c1y L left ?_
 simp only[B3,t9,tV];exact⟨by omega,fun h=>(O8 (by omega)).symm,fun h=>(K9 (by omega)).symm⟩
def b7c:Rl:=⟨Wt,fun r=>[.agg r.ts],fun r=>.agg r.ts,fun _=>True⟩
def c6f:Con:=.rel b7c
noncomputable def c6M:Code:=Tryz.f150.body.getD .skip
theorem b4x:Z7 Tryz.prog 150:=⟨_,Tryz.func150,by kernel_rfl,by kernel_rfl⟩
theorem c5D(r:Wt)(h:
  r.tx=r.tx/\r.fo=r.fo/\True):
  Z2 Tryz.prog 150 [.agg r.ts] (.agg r.ts):=
 T4 (code:=c6M) gN Tryz.func150 (by kernel_rfl) (by kernel_rfl) Z0 h (by kernel_rfl)
theorem c4j:Z1 Tryz.prog 150 c6f:=fun r _=>c5D r ⟨rfl,rfl,trivial⟩
def b72:Rl:=⟨Wt,fun r=>[.agg r.ts,.agg r.ts],fun _=>.bool true,fun _=>True⟩
def c6W:Con:=.rel b72
noncomputable def c5A:Code:=Tryz.f172.body.getD .skip
theorem b28:Z7 Tryz.prog 172:=⟨_,Tryz.func172,by kernel_rfl,by kernel_rfl⟩
theorem c6Q(r:Wt)(h:
  ((r.tx !=r.tx)=true->false=true)/\((r.tx !=r.tx)=false->((r.fo !=r.fo)=true->false=true)/\((r.fo !=r.fo)=false->true=true))):
  Z2 Tryz.prog 172 [.agg r.ts,.agg r.ts] (.bool true):=
 T4 (code:=c5A) gN Tryz.func172 (by kernel_rfl) (by kernel_rfl) Z0 h (by kernel_rfl)
theorem c3R:Z1 Tryz.prog 172 c6W:=by
 intro r _;refine c6Q r ?_
 simp
def c3k(L:List Wt):Nat->Ann
 |0=>.one {i:Nat//i<=L.length} (fun x=>⟨[(0,tT L),(3,.osl 0 0 L.length),(4,.int .i64 x.1)],[some (.arr true 0 2 L.length (o7 (X3 L) [.int .i64 0,.int .i64 0] x.1))]⟩) (fun x=>L.length-x.1) [.arr 0] [.arr 0] (fun _=>Z0)
 |_=>.none
def a9d:Rl:=⟨List Wt,fun L=>[tT L,tT L],fun _=>.bool true,fun L=>L.length<=1048576⟩
def c0K:Con:=.rel a9d
def c1A(L:List Wt):Nat->Ann
 |0=>.one {i:Nat//i<=L.length} (fun x=>⟨[(0,tT L),(1,tT L),(5,.int .i64 x.1)],[]⟩) (fun x=>L.length-x.1) [] [] (fun _=>Z0)
 |_=>.none
noncomputable def c4l:Code:=Tryz.f98.body.getD .skip
theorem a61:Z7 Tryz.prog 98:=⟨_,Tryz.func98,by kernel_rfl,by kernel_rfl⟩
theorem c2i(L:List Wt)(h:
  (((L.length:Int) !=(L.length:Int))=true->false=true)/\(((L.length:Int) !=(L.length:Int))=false->(∃(x:{i:Nat//i<=L.length}),((Y4 X3 L L)/\(Y4 X3 L L)/\(0:Int)=(x.val:Int)/\True)/\True)/\∀(x:
  {i:Nat//i<=L.length}),(decide ((x.val:Int)<(L.length:Int))=true->X0 (x.val:Int) L.length/\X0 (x.val:Int) L.length/\∃(x_1:b72.ι),((((L.getD (x.val:Int).toNat default).tx=x_1.tx/\(L.getD (x.val:Int).toNat
  default).fo=x_1.fo/\True)/\((L.getD (x.val:Int).toNat default).tx=x_1.tx/\(L.getD (x.val:Int).toNat default).fo=x_1.fo/\True)/\True)/\True)/\(false=true->false=true)/\(false=false->X8 .i64 ((x.val:Int)+(1
  :Int))/\∃(y:{i:Nat//i<=L.length}),(((Y4 X3 L L)/\(Y4 X3 L L)/\(x.val:Int)+(1:Int)=(y.val:Int)/\True)/\True)/\Lt (L.length-y.val) (L.length-x.val)))/\(decide ((x.val:Int)<(L.length:Int))=
  false->true=true))):
  Z2 Tryz.prog 98 [tT L,tT L] (.bool true):=
 T4 (code:=c4l) (gC c3R b28 gN) Tryz.func98 (by kernel_rfl) (by kernel_rfl) (c1A L) h (by kernel_rfl)
theorem b5r:Z1 Tryz.prog 98 c0K:=by
 intro(L:List Wt) (hL:L.length<=1048576);refine c2i L ⟨fun h=>by simp at h,fun _=>⟨⟨⟨0,T0 _⟩,⟨⟨(by trivial),Z9 _ _⟩,⟨(by trivial),Z9 _ _⟩,rfl,trivial⟩,trivial⟩,fun x=>⟨fun hc=> ?_,fun _=>rfl⟩⟩⟩
 have hlt:=Y9 hc;exact⟨Y7 hlt,Y7 hlt,L.getD x.val default,⟨⟨⟨rfl,rfl,trivial⟩,⟨rfl,rfl,trivial⟩,trivial⟩,trivial⟩,fun h=>h,fun _=>⟨W4 hlt (by omega),⟨x.val+1,hlt⟩,⟨⟨⟨(by trivial),Z9 _ _⟩,⟨(by trivial),Z9 _ _⟩,by simp only;omega,trivial⟩,trivial⟩,V9.ext_lt hlt⟩⟩
def H4(s:Lks):Nat:=s.held.length+s.waits.length
def a9Y(s:Lks):Prop:=rT s.held.length/\rT s.waits.length
def vE(s:Lks):Prop:=s.held.length<=1048576/\s.waits.length<=1048576
def c1N:Con:=.rel ⟨Lks×Int,fun x=>[.agg x.1.ts,.int .i64 x.2],fun x=>.int .i64 (rem x.2 (H4 x.1)),fun x=>G6 x.2/\a9Y x.1⟩
noncomputable def c1L:Code:=Tryz.f34.body.getD .skip
theorem a6D:Z7 Tryz.prog 34:=⟨_,Tryz.func34,by kernel_rfl,by kernel_rfl⟩
theorem c2k(s:Lks)(left:Int)(h:
  ∃(x:a1S.ι),(((Y4 Y2 s.held x.fst)/\left=x.snd/\True)/\G6 x.snd/\rT x.fst.length)/\(decide (rem x.snd x.fst.length<(0:Int))=true->(-1:Int)=rem left (H4 s))/\(decide (rem x.snd x.fst.length<
  (0:Int))=false->∃(x_1:a9z.ι),(((Y4 X3 s.waits x_1.fst)/\rem x.snd x.fst.length=x_1.snd/\True)/\G6 x_1.snd/\rT x_1.fst.length)/\(decide (rem x_1.snd x_1.fst.length<(0:Int))=true->(-1:Int)=rem
  left (H4 s))/\(decide (rem x_1.snd x_1.fst.length<(0:Int))=false->rem x_1.snd x_1.fst.length=rem left (H4 s)))):
  Z2 Tryz.prog 34 [.agg s.ts,.int .i64 left] (.int .i64 (rem left (H4 s))):=
 T4 (code:=c1L) (gC b0H a3a (gC c0c a6G gN)) Tryz.func34 (by kernel_rfl) (by kernel_rfl) Z0 h (by kernel_rfl)
theorem b6R:Z1 Tryz.prog 34 c1N:=by
 rintro⟨s,left⟩ ⟨hl,h0,h1⟩;simp only at hl h0 h1;have e:H4 s=s.held.length+s.waits.length:=rfl;refine c2k s left ⟨(s.held,left),⟨⟨⟨rfl,Z9 _ _⟩,rfl,trivial⟩,hl,h0⟩,fun h=>(F2 (D8 h) (by(try dsimp only);omega)).symm,fun h=> ?_⟩
 obtain⟨q1,l1⟩:=xW (b:=s.waits.length) (yQ h) hl rfl;refine⟨(s.waits,rem left (s.held.length)),⟨⟨⟨rfl,Z9 _ _⟩,rfl,trivial⟩,l1,h1⟩,fun g=> ?_,fun g=> ?_⟩
 ·simp only at g;rw[q1] at g;exact(F2 (D8 g) (by(try dsimp only);omega)).symm
 exact q1
def c2z:Con:=.rel ⟨Lks,fun s=>[.agg s.ts,.agg s.ts],fun _=>.bool true,vE⟩
noncomputable def c2P:Code:=Tryz.f46.body.getD .skip
theorem a4v:Z7 Tryz.prog 46:=⟨_,Tryz.func46,by kernel_rfl,by kernel_rfl⟩
theorem c3i(s:Lks)(h:
  ∃(x:a2x.ι),(((s.held.length=List.length x/\Z8 s.held.length (Y2 s.held) (Y2 x))/\(s.held.length=List.length x/\Z8 s.held.length (Y2 s.held) (Y2 x))/\True)/\List.length x<=1048576)/\
  (false=true->false=true)/\(false=false->∃(x:a9d.ι),(((s.waits.length=List.length x/\Z8 s.waits.length (X3 s.waits) (X3 x))/\(s.waits.length=List.length x/\Z8 s.waits.length (X3 s.waits)
  (X3 x))/\True)/\List.length x<=1048576)/\(false=true->false=true)/\(false=false->true=true))):
  Z2 Tryz.prog 46 [.agg s.ts,.agg s.ts] (.bool true):=
 T4 (code:=c2P) (gC b1z a2a (gC b5r a61 gN)) Tryz.func46 (by kernel_rfl) (by kernel_rfl) Z0 h (by kernel_rfl)
theorem b5V:Z1 Tryz.prog 46 c2z:=by
 rintro(s:Lks) ⟨h0,h1⟩;exact c3i s ⟨s.held,⟨⟨⟨rfl,Z9 _ _⟩,⟨rfl,Z9 _ _⟩,trivial⟩,h0⟩,fun h=>h,fun _=>⟨s.waits,⟨⟨⟨rfl,Z9 _ _⟩,⟨rfl,Z9 _ _⟩,trivial⟩,h1⟩,fun h=>h,fun _=>rfl⟩⟩
def B6(s:Eng):Nat:=B8 s.s+s.txs.length+H4 s.lk
def a9l(s:Eng):Prop:=LmS s.s/\rT s.txs.length/\a9Y s.lk
def L5(s:Eng):Prop:=SmS s.s/\s.txs.length<=1048576/\vE s.lk
def c4g:Con:=.rel ⟨Eng×Int,fun x=>[.agg x.1.ts,.int .i64 x.2],fun x=>.int .i64 (rem x.2 (B6 x.1)),fun x=>G6 x.2/\a9l x.1⟩
noncomputable def c1a:Code:=Tryz.f10.body.getD .skip
theorem a7a:Z7 Tryz.prog 10:=⟨_,Tryz.func10,by kernel_rfl,by kernel_rfl⟩
theorem c0V(s:Eng)(left:Int)(h:
  ∃(x:a8X.ι),(((xM s.s x.fst)/\left=x.snd/\True)/\G6 x.snd/\LmS x.fst)/\(decide (rem x.snd (B8 x.fst)<(0:Int))=true->(-1:Int)=rem left (B6 s))/\(decide (rem x.snd (B8 x.fst)<(0:Int))=
  false->∃(x_1:a27.ι),(((Y4 Y0 s.txs x_1.fst)/\rem x.snd (B8 x.fst)=x_1.snd/\True)/\G6 x_1.snd/\rT x_1.fst.length)/\(decide (rem x_1.snd x_1.fst.length<(0:Int))=true->(-1:Int)=rem left (B6
  s))/\(decide (rem x_1.snd x_1.fst.length<(0:Int))=false->∃(x:(Lks×Int)),((((Y4 Y2 s.lk.held x.fst.held)/\(Y4 X3 s.lk.waits x.fst.waits)/\True)/\rem x_1.snd x_1.fst.length=x.snd/\True)/\G6 x.snd/\
  a9Y x.fst)/\(decide (rem x.snd (H4 x.fst)<(0:Int))=true->(-1:Int)=rem left (B6 s))/\(decide (rem x.snd (H4 x.fst)<(0:Int))=false->rem x.snd (H4 x.fst)=rem left (B6 s))))):
  Z2 Tryz.prog 10 [.agg s.ts,.int .i64 left] (.int .i64 (rem left (B6 s))):=
 T4 (code:=c1a) (gC b9g a4E (gC b3C a2l (gC b6R a6D gN))) Tryz.func10 (by kernel_rfl) (by kernel_rfl) Z0 h (by kernel_rfl)
theorem b8b:Z1 Tryz.prog 10 c4g:=by
 rintro⟨s,left⟩ ⟨hl,h0,h1,h2⟩;simp only at hl h0 h1 h2;have e:B6 s=B8 s.s+s.txs.length+H4 s.lk:=rfl;refine c0V s left ⟨(s.s,left),⟨⟨(wS _),rfl,trivial⟩,hl,h0⟩,fun h=>(F2 (D8 h) (by(try dsimp only);omega)).symm,fun h=> ?_⟩
 obtain⟨q1,l1⟩:=xW (b:=s.txs.length) (yQ h) hl rfl;refine⟨(s.txs,rem left (B8 s.s)),⟨⟨⟨rfl,Z9 _ _⟩,rfl,trivial⟩,l1,h1⟩,fun g=> ?_,fun g=> ?_⟩
 ·simp only at g;rw[q1] at g;exact(F2 (D8 g) (by(try dsimp only);omega)).symm
 simp only at g ⊢;rw[q1] at g ⊢;obtain⟨q2,l2⟩:=xW (b:=H4 s.lk) (yQ g) hl rfl;refine⟨(s.lk,rem left (B8 s.s+s.txs.length)),⟨⟨⟨⟨rfl,Z9 _ _⟩,⟨rfl,Z9 _ _⟩,trivial⟩,rfl,trivial⟩,l2,h2⟩,fun g=> ?_,fun g=> ?_⟩
 ·simp only at g;rw[q2] at g;exact(F2 (D8 g) (by(try dsimp only);omega)).symm
 exact q2
def c0P:Con:=.rel ⟨Eng,fun s=>[.agg s.ts,.agg s.ts],fun _=>.bool true,L5⟩
noncomputable def c1D:Code:=Tryz.f15.body.getD .skip
theorem a6x:Z7 Tryz.prog 15:=⟨_,Tryz.func15,by kernel_rfl,by kernel_rfl⟩
theorem c2Y(s:Eng)(h:
  ∃(x:a84.ι),(((xM s.s x)/\(xM s.s x)/\True)/\SmS x)/\(false=true->false=true)/\(false=false->((!s.up==s.up)=true->false=true)/\((!s.up==s.up)=false->∃(x:a1x.ι),(((s.txs.length=
  List.length x/\Z8 s.txs.length (Y0 s.txs) (Y0 x))/\(s.txs.length=List.length x/\Z8 s.txs.length (Y0 s.txs) (Y0 x))/\True)/\List.length x<=1048576)/\(false=true->false=true)/\(false=false->
  ∃(x:Lks),((((Y4 Y2 s.lk.held x.held)/\(Y4 X3 s.lk.waits x.waits)/\True)/\((Y4 Y2 s.lk.held x.held)/\(Y4 X3 s.lk.waits x.waits)/\True)/\True)/\vE x)/\(false=true->false=true)/\(false=false->
  ((s.next !=s.next)=true->false=true)/\((s.next !=s.next)=false->true=true)))))):
  Z2 Tryz.prog 15 [.agg s.ts,.agg s.ts] (.bool true):=
 T4 (code:=c1D) (gC b5y a51 (gC b1L a1z (gC b5V a4v gN))) Tryz.func15 (by kernel_rfl) (by kernel_rfl) Z0 h (by kernel_rfl)
theorem b5L:Z1 Tryz.prog 15 c0P:=by
 rintro(s:Eng) ⟨h0,h1,h2⟩;exact c2Y s ⟨s.s,⟨⟨(wS _),(wS _),trivial⟩,h0⟩,fun h=>h,fun _=>⟨fun h=>by simp at h,fun _=>⟨s.txs,⟨⟨⟨rfl,Z9 _ _⟩,⟨rfl,Z9 _ _⟩,trivial⟩,h1⟩,fun h=>h,fun _=>⟨s.lk,⟨⟨⟨⟨rfl,Z9 _ _⟩,⟨rfl,Z9 _ _⟩,trivial⟩,⟨⟨rfl,Z9 _ _⟩,⟨rfl,Z9 _ _⟩,trivial⟩,trivial⟩,h2⟩,fun h=>h,fun _=>⟨fun h=>by simp at h,fun _=>rfl⟩⟩⟩⟩⟩
end Go.Proofs.YtokaojbaacnngaaGreat

