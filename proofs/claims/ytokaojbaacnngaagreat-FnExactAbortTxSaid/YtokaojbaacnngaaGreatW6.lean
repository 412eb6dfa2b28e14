/- A part of the proof. -/
import Derived.Test.YtokaojbaacnngaaGreatW4
import Derived.Test.YtokaojbaacnngaaGreatF0F1F2
namespace Go.Proofs.YtokaojbaacnngaaGreat
set_option maxRecDepth 100000
open Go.SS

theorem b0b:GK 44 b6T:=gk Tryz.func44<|by
 rintro(s:Sto) ⟨h1,h2,h3,h4⟩;exact b4V s ⟨s.d,⟨⟨(xF _),(xF _),trivial⟩,h1⟩,λh=>h,λ_=>⟨λh=>by simp at h,λ_=>⟨s.log,⟨⟨Z8,X8⟩,h2⟩,λh=>h,λ_=>⟨λh=>by simp at h,λ_=>⟨s.fr,⟨⟨Z8,X8⟩,h3,h4⟩,λh=>h,λ_=>⟨λh=>by simp at h,λ_=>rfl⟩⟩⟩⟩⟩⟩
theorem vG{α:Type}(f:α->Nat)(L:List α):L.length<=T6 f L:=by
 have:=D6 f L L.length (S2 L.length);have hz:V4 f L L.length 0=L.length:=rfl;unfold T6;omega
theorem a1g{α:Type}(f:α->Nat)(L:List α)(d:α){i:Nat}(hi:i<L.length):f (L.getD i d)+L.length<=T6 f L:=by
 have h1:=D6 f L L.length (show i+1<=L.length from hi)
 have h2:=t4 f L L.length d hi;have h3:=D6 f L L.length (S2 i);have hz:V4 f L L.length 0=L.length:=rfl;unfold T6;omega
theorem b4y{left:Int}{n:Nat}(h:¬rem left n<0):(n:Int)<=left:=by
 by_cases hq:(n:Int)<=left
 ·exact hq
 ·rw[M6 (by omega)] at h
  omega
theorem a8V{s:Sto}(h:w7 s<=1048576):kN s/\b2B s:=by
 have e:w7 s=T6 H9 s.d.sec+T6 O6 s.d.cache+s.d.keep.length+T6 Q0 s.log+T6 O4 s.fr:=rfl;have a1:=vG H9 s.d.sec;have a2:=vG O6 s.d.cache;have a3:=vG Q0 s.log;have a4:=vG O4 s.fr;have f1:∀i,i<s.fr.length->(s.fr.getD i default).pg.sl.length<=1048576:=λi hi=>by
  have h1:=a1g O4 s.fr default hi;have h2:=vG H9 (s.fr.getD i default).pg.sl;have h3:O4 (s.fr.getD i default)=T6 H9 (s.fr.getD i default).pg.sl:=rfl;omega
 have l1:∀r ∈ s.log,r.a.length<=1048576:=λr hr=>by
  obtain⟨i,hi,rfl⟩:=List.mem_iff_getElem.1 hr;have h1:=a1g Q0 s.log default hi;rw[N9,L4 hi,Option.getD_some] at h1
  have h3:Q0 s.log[i]=s.log[i].b.length+s.log[i].a.length:=rfl;omega
 refine⟨⟨⟨by omega,by omega,by omega⟩,by omega,by omega,f1⟩,⟨by unfold N3;omega,by unfold N3;omega,by unfold N3;omega⟩,⟨by omega,λr hr=>by have:=l1 r hr;omega⟩,⟨by unfold N3;omega,λi hi=> ?_⟩,λr hr=> ?_⟩
 ·have:=f1 i hi;show(s.fr.getD i default).pg.sl.length<1000000000000;omega
 ·have:=l1 r hr;show r.a.length<1000000000000;omega

def a1d:Rl:=⟨List Txn×Int,λx=>[vP x.1,.int .i64 x.2],λx=>.int .i64 (rem x.2 x.1.length),λx=>E7 x.2/\qO x.1.length⟩
def b2d:Con:=.rel a1d
theorem a8Q:GK 33 b2d:=gk Tryz.func33<|by
 rintro⟨L,left⟩ ⟨⟨h0,h1⟩,hn⟩;have hn:L.length<=9223372036854775807:=hn;simp only at h0 h1;refine S3 gN Tryz.func33 Z0 (α:=X2 .i64 (left- (L.length:Int))/\(decide (left- (L.length:Int)<(0:Int))=true->(-1:Int)=rem left L.length)/\(decide (left- (L.length:Int)<(0:Int))=false->left- (L.length:Int)=rem left L.length)) ?_
 simp only[z6,m5,tQ];exact⟨by omega,λh=>(M6 (by omega)).symm,λh=>(I1 (by omega)).symm⟩
def a5f:Rl:=⟨Txn,λr=>[.agg r.ts],λr=>.agg r.ts,λ_=>True⟩
def b4O:Con:=.rel a5f
theorem b6r(r:Txn)(h:
  r.id=r.id/\r.last=r.last/\True):
  U3 Tryz.prog 84 [.agg r.ts] (.agg r.ts):=
 S3 gN Tryz.func84 Z0 h
theorem b1F:GK 84 b4O:=gk Tryz.func84<|λr _=>b6r r ⟨rfl,Z9⟩
def a6D:Rl:=⟨Txn,λr=>[.agg r.ts,.agg r.ts],λ_=>.bool true,λ_=>True⟩
def b6V:Con:=.rel a6D
theorem b3w:GK 96 b6V:=gk Tryz.func96<|by
 intro r _;refine S3 gN Tryz.func96 Z0 (α:=((r.id !=r.id)=true->false=true)/\((r.id !=r.id)=false->((r.last !=r.last)=true->false=true)/\((r.last !=r.last)=false->true=true))) ?_
 simp
def b1r(L:List Txn):Nat->Ann
 |0=>.one {i:Nat//i<=L.length} (λx=>⟨[(0,vP L),(3,.osl 0 0 L.length),(4,.int .i64 x.1)],[some (.arr true 0 2 L.length (i3 (X5 L) [.int .i64 0,.int .i64 0] x.1))]⟩) (λx=>L.length-x.1) [.arr 0] [.arr 0] (λ_=>Z0)
 |_=>.none
def a1D:Rl:=⟨List Txn,λL=>[vP L,vP L],λ_=>.bool true,λL=>L.length<=1048576⟩
def b3V:Con:=.rel a1D
def b3d(L:List Txn):Nat->Ann
 |0=>.one {i:Nat//i<=L.length} (λx=>⟨[(0,vP L),(1,vP L),(5,.int .i64 x.1)],[]⟩) (λx=>L.length-x.1) [] [] (λ_=>Z0)
 |_=>.none
theorem a9i:GK 45 b3V:=gk Tryz.func45<|by
 intro(L:List Txn) (hL:L.length<=1048576);refine S3 (gC b3w gN) Tryz.func45 (b3d L) (α:=(((L.length:Int) !=(L.length:Int))=true->false=true)/\(((L.length:Int) !=(L.length:Int))=false->(∃(x:{i:Nat//i<=L.length}),((Y6 X5 L L)/\(Y6 X5 L L)/\(0:Int)=(x.val:Int)/\True)/\True)/\∀(x:{i:Nat//i<=L.length}),(decide ((x.val:Int)<(L.length:Int))=true->W2 (x.val:Int) L.length/\W2 (x.val:Int) L.length/\∃(x_1:a6D.ι),((((L.getD (x.val:Int).toNat default).id=x_1.id/\(L.getD (x.val:Int).toNat default).last=x_1.last/\True)/\((L.getD (x.val:Int).toNat default).id=x_1.id/\(L.getD (x.val:Int).toNat default).last=x_1.last/\True)/\True)/\True)/\(false=true->false=true)/\(false=false->X2 .i64 ((x.val:Int)+(1:Int))/\∃(y:{i:Nat//i<=L.length}),(((Y6 X5 L L)/\(Y6 X5 L L)/\(x.val:Int)+(1:Int)=(y.val:Int)/\True)/\True)/\Lt (L.length-y.val) (L.length-x.val)))/\(decide ((x.val:Int)<(L.length:Int))=false->true=true))) ⟨λh=>by simp at h,λ_=>⟨⟨⟨0,S2 _⟩,⟨⟨(by trivial),Z2 _ _⟩,⟨(by trivial),Z2 _ _⟩,Z9⟩,trivial⟩,λx=>⟨λhc=> ?_,λ_=>rfl⟩⟩⟩
 have hlt:=Y1 hc;exact⟨Y3 hlt,Y3 hlt,L.getD x.val default,⟨⟨⟨rfl,Z9⟩,⟨rfl,Z9⟩,trivial⟩,trivial⟩,λh=>h,λ_=>⟨V5 hlt (by omega),⟨x.val+1,hlt⟩,⟨⟨⟨(by trivial),Z2 _ _⟩,⟨(by trivial),Z2 _ _⟩,by simp only;omega,trivial⟩,trivial⟩,V3.ext_lt hlt⟩⟩
def aA:Rl:=⟨List Lck×Int,λx=>[zJ x.1,.int .i64 x.2],λx=>.int .i64 (rem x.2 x.1.length),λx=>E7 x.2/\qO x.1.length⟩
def b0d:Con:=.rel aA
theorem a7q:GK 70 b0d:=gk Tryz.func70<|by
 rintro⟨L,left⟩ ⟨⟨h0,h1⟩,hn⟩;have hn:L.length<=9223372036854775807:=hn;simp only at h0 h1;refine S3 gN Tryz.func70 Z0 (α:=X2 .i64 (left- (L.length:Int))/\(decide (left- (L.length:Int)<(0:Int))=true->(-1:Int)=rem left L.length)/\(decide (left- (L.length:Int)<(0:Int))=false->left- (L.length:Int)=rem left L.length)) ?_
 simp only[z6,m5,tQ];exact⟨by omega,λh=>(M6 (by omega)).symm,λh=>(I1 (by omega)).symm⟩
def a5d:Rl:=⟨Lck,λr=>[.agg r.ts],λr=>.agg r.ts,λ_=>True⟩
def b46:Con:=.rel a5d
theorem b4z(r:Lck)(h:
  r.tx=r.tx/\r.ta=r.ta/\r.row=r.row/\r.mo=r.mo/\True):
  U3 Tryz.prog 149 [.agg r.ts] (.agg r.ts):=
 S3 gN Tryz.func149 Z0 h
theorem b2E:GK 149 b46:=gk Tryz.func149<|λr _=>b4z r ⟨rfl,rfl,rfl,Z9⟩
def a50:Rl:=⟨Lck,λr=>[.agg r.ts,.agg r.ts],λ_=>.bool true,λ_=>True⟩
def b5O:Con:=.rel a50
theorem b1m:GK 171 b5O:=gk Tryz.func171<|by
 intro r _;refine S3 gN Tryz.func171 Z0 (α:=((r.tx !=r.tx)=true->false=true)/\((r.tx !=r.tx)=false->((r.ta !=r.ta)=true->false=true)/\((r.ta !=r.ta)=false->((r.row !=r.row)=true->false=true)/\((r.row !=r.row)=false->((r.mo !=r.mo)=true->false=true)/\((r.mo !=r.mo)=false->true=true))))) ?_
 simp
def b3Y(L:List Lck):Nat->Ann
 |0=>.one {i:Nat//i<=L.length} (λx=>⟨[(0,zJ L),(3,.osl 0 0 L.length),(4,.int .i64 x.1)],[some (.arr true 0 4 L.length (i3 (Y5 L) [.int .i64 0,.int .i64 0,.int .i64 0,.int .i64 0] x.1))]⟩) (λx=>L.length-x.1) [.arr 0] [.arr 0] (λ_=>Z0)
 |_=>.none
def a0D:Rl:=⟨List Lck,λL=>[zJ L,zJ L],λ_=>.bool true,λL=>L.length<=1048576⟩
def b2T:Con:=.rel a0D
def b2H(L:List Lck):Nat->Ann
 |0=>.one {i:Nat//i<=L.length} (λx=>⟨[(0,zJ L),(1,zJ L),(5,.int .i64 x.1)],[]⟩) (λx=>L.length-x.1) [] [] (λ_=>Z0)
 |_=>.none
theorem a9l:GK 97 b2T:=gk Tryz.func97<|by
 intro(L:List Lck) (hL:L.length<=1048576);refine S3 (gC b1m gN) Tryz.func97 (b2H L) (α:=(((L.length:Int) !=(L.length:Int))=true->false=true)/\(((L.length:Int) !=(L.length:Int))=false->(∃(x:{i:Nat//i<=L.length}),((Y6 Y5 L L)/\(Y6 Y5 L L)/\(0:Int)=(x.val:Int)/\True)/\True)/\∀(x:{i:Nat//i<=L.length}),(decide ((x.val:Int)<(L.length:Int))=true->W2 (x.val:Int) L.length/\W2 (x.val:Int) L.length/\∃(x_1:a50.ι),((((L.getD (x.val:Int).toNat default).tx=x_1.tx/\(L.getD (x.val:Int).toNat default).ta=x_1.ta/\(L.getD (x.val:Int).toNat default).row=x_1.row/\(L.getD (x.val:Int).toNat default).mo=x_1.mo/\True)/\((L.getD (x.val:Int).toNat default).tx=x_1.tx/\(L.getD (x.val:Int).toNat default).ta=x_1.ta/\(L.getD (x.val:Int).toNat default).row=x_1.row/\(L.getD (x.val:Int).toNat default).mo=x_1.mo/\True)/\True)/\True)/\(false=true->false=true)/\(false=false->X2 .i64 ((x.val:Int)+(1:Int))/\∃(y:{i:Nat//i<=L.length}),(((Y6 Y5 L L)/\(Y6 Y5 L L)/\(x.val:Int)+(1:Int)=(y.val:Int)/\True)/\True)/\Lt (L.length-y.val) (L.length-x.val)))/\(decide ((x.val:Int)<(L.length:Int))=false->true=true))) ⟨λh=>by simp at h,λ_=>⟨⟨⟨0,S2 _⟩,⟨⟨(by trivial),Z2 _ _⟩,⟨(by trivial),Z2 _ _⟩,Z9⟩,trivial⟩,λx=>⟨λhc=> ?_,λ_=>rfl⟩⟩⟩
 have hlt:=Y1 hc;exact⟨Y3 hlt,Y3 hlt,L.getD x.val default,⟨⟨⟨rfl,rfl,rfl,Z9⟩,⟨rfl,rfl,rfl,Z9⟩,trivial⟩,trivial⟩,λh=>h,λ_=>⟨V5 hlt (by omega),⟨x.val+1,hlt⟩,⟨⟨⟨(by trivial),Z2 _ _⟩,⟨(by trivial),Z2 _ _⟩,by simp only;omega,trivial⟩,trivial⟩,V3.ext_lt hlt⟩⟩
def a5n:Rl:=⟨List Wt×Int,λx=>[oP x.1,.int .i64 x.2],λx=>.int .i64 (rem x.2 x.1.length),λx=>E7 x.2/\qO x.1.length⟩
def b66:Con:=.rel a5n
theorem b1M:GK 71 b66:=gk Tryz.func71<|by
 rintro⟨L,left⟩ ⟨⟨h0,h1⟩,hn⟩;have hn:L.length<=9223372036854775807:=hn;simp only at h0 h1;refine S3 gN Tryz.func71 Z0 (α:=X2 .i64 (left- (L.length:Int))/\(decide (left- (L.length:Int)<(0:Int))=true->(-1:Int)=rem left L.length)/\(decide (left- (L.length:Int)<(0:Int))=false->left- (L.length:Int)=rem left L.length)) ?_
 simp only[z6,m5,tQ];exact⟨by omega,λh=>(M6 (by omega)).symm,λh=>(I1 (by omega)).symm⟩
def b0e:Rl:=⟨Wt,λr=>[.agg r.ts],λr=>.agg r.ts,λ_=>True⟩
def b9p:Con:=.rel b0e
theorem b8x(r:Wt)(h:
  r.tx=r.tx/\r.fo=r.fo/\True):
  U3 Tryz.prog 150 [.agg r.ts] (.agg r.ts):=
 S3 gN Tryz.func150 Z0 h
theorem b6s:GK 150 b9p:=gk Tryz.func150<|λr _=>b8x r ⟨rfl,Z9⟩
def b1x:Rl:=⟨Wt,λr=>[.agg r.ts,.agg r.ts],λ_=>.bool true,λ_=>True⟩
def b9H:Con:=.rel b1x
theorem b4H:GK 172 b9H:=gk Tryz.func172<|by
 intro r _;refine S3 gN Tryz.func172 Z0 (α:=((r.tx !=r.tx)=true->false=true)/\((r.tx !=r.tx)=false->((r.fo !=r.fo)=true->false=true)/\((r.fo !=r.fo)=false->true=true))) ?_
 simp
def b4u(L:List Wt):Nat->Ann
 |0=>.one {i:Nat//i<=L.length} (λx=>⟨[(0,oP L),(3,.osl 0 0 L.length),(4,.int .i64 x.1)],[some (.arr true 0 2 L.length (i3 (X6 L) [.int .i64 0,.int .i64 0] x.1))]⟩) (λx=>L.length-x.1) [.arr 0] [.arr 0] (λ_=>Z0)
 |_=>.none
def a5Q:Rl:=⟨List Wt,λL=>[oP L,oP L],λ_=>.bool true,λL=>L.length<=1048576⟩
def b68:Con:=.rel a5Q
def b7a(L:List Wt):Nat->Ann
 |0=>.one {i:Nat//i<=L.length} (λx=>⟨[(0,oP L),(1,oP L),(5,.int .i64 x.1)],[]⟩) (λx=>L.length-x.1) [] [] (λ_=>Z0)
 |_=>.none
theorem b14:GK 98 b68:=gk Tryz.func98<|by
 intro(L:List Wt) (hL:L.length<=1048576);refine S3 (gC b4H gN) Tryz.func98 (b7a L) (α:=(((L.length:Int) !=(L.length:Int))=true->false=true)/\(((L.length:Int) !=(L.length:Int))=false->(∃(x:{i:Nat//i<=L.length}),((Y6 X6 L L)/\(Y6 X6 L L)/\(0:Int)=(x.val:Int)/\True)/\True)/\∀(x:{i:Nat//i<=L.length}),(decide ((x.val:Int)<(L.length:Int))=true->W2 (x.val:Int) L.length/\W2 (x.val:Int) L.length/\∃(x_1:b1x.ι),((((L.getD (x.val:Int).toNat default).tx=x_1.tx/\(L.getD (x.val:Int).toNat default).fo=x_1.fo/\True)/\((L.getD (x.val:Int).toNat default).tx=x_1.tx/\(L.getD (x.val:Int).toNat default).fo=x_1.fo/\True)/\True)/\True)/\(false=true->false=true)/\(false=false->X2 .i64 ((x.val:Int)+(1:Int))/\∃(y:{i:Nat//i<=L.length}),(((Y6 X6 L L)/\(Y6 X6 L L)/\(x.val:Int)+(1:Int)=(y.val:Int)/\True)/\True)/\Lt (L.length-y.val) (L.length-x.val)))/\(decide ((x.val:Int)<(L.length:Int))=false->true=true))) ⟨λh=>by simp at h,λ_=>⟨⟨⟨0,S2 _⟩,⟨⟨(by trivial),Z2 _ _⟩,⟨(by trivial),Z2 _ _⟩,Z9⟩,trivial⟩,λx=>⟨λhc=> ?_,λ_=>rfl⟩⟩⟩
 have hlt:=Y1 hc;exact⟨Y3 hlt,Y3 hlt,L.getD x.val default,⟨⟨⟨rfl,Z9⟩,⟨rfl,Z9⟩,trivial⟩,trivial⟩,λh=>h,λ_=>⟨V5 hlt (by omega),⟨x.val+1,hlt⟩,⟨⟨⟨(by trivial),Z2 _ _⟩,⟨(by trivial),Z2 _ _⟩,by simp only;omega,trivial⟩,trivial⟩,V3.ext_lt hlt⟩⟩
def C6(s:Lks):Nat:=s.held.length+s.waits.length
def a5M(s:Lks):Prop:=qO s.held.length/\qO s.waits.length
def tL(s:Lks):Prop:=s.held.length<=1048576/\s.waits.length<=1048576
def b6W:Con:=.rel ⟨Lks×Int,λx=>[.agg x.1.ts,.int .i64 x.2],λx=>.int .i64 (rem x.2 (C6 x.1)),λx=>E7 x.2/\a5M x.1⟩
theorem b2v:GK 34 b6W:=gk Tryz.func34<|by
 rintro⟨s,left⟩ ⟨hl,h0,h1⟩;simp only at hl h0 h1;have e:C6 s=s.held.length+s.waits.length:=rfl;refine S3 (gC a7q (gC b1M gN)) Tryz.func34 Z0 (α:=∃(x:aA.ι),(((Y6 Y5 s.held x.1)/\left=x.2/\True)/\E7 x.2/\qO x.1.length)/\(decide (rem x.2 x.1.length<(0:Int))=true->(-1:Int)=rem left (C6 s))/\(decide (rem x.2 x.1.length<(0:Int))=false->∃(x_1:a5n.ι),(((Y6 X6 s.waits x_1.1)/\rem x.2 x.1.length=x_1.2/\True)/\E7 x_1.2/\qO x_1.1.length)/\(decide (rem x_1.2 x_1.1.length<(0:Int))=true->(-1:Int)=rem left (C6 s))/\(decide (rem x_1.2 x_1.1.length<(0:Int))=false->rem x_1.2 x_1.1.length=rem left (C6 s)))) ⟨(s.held,left),⟨⟨Z8,Z9⟩,hl,h0⟩,λh=>(C5 (E9 h) (by(try dsimp only);omega)).symm,λh=> ?_⟩
 obtain⟨q1,l1⟩:=wN (b:=s.waits.length) (yG h) hl rfl;refine⟨(s.waits,rem left (s.held.length)),⟨⟨Z8,Z9⟩,l1,h1⟩,λg=> ?_,λg=> ?_⟩
 ·simp only at g;rw[q1] at g;exact(C5 (E9 g) (by(try dsimp only);omega)).symm
 exact q1
def b5H:Con:=.rel ⟨Lks,λs=>[.agg s.ts,.agg s.ts],λ_=>.bool true,tL⟩
theorem b0s:GK 46 b5H:=gk Tryz.func46<|by
 rintro(s:Lks) ⟨h0,h1⟩;exact S3 (gC a9l (gC b14 gN)) Tryz.func46 Z0 (α:=∃(x:a0D.ι),(((s.held.length=List.length x/\Z6 s.held.length (Y5 s.held) (Y5 x))/\(s.held.length=List.length x/\Z6 s.held.length (Y5 s.held) (Y5 x))/\True)/\List.length x<=1048576)/\(false=true->false=true)/\(false=false->∃(x:a5Q.ι),(((s.waits.length=List.length x/\Z6 s.waits.length (X6 s.waits) (X6 x))/\(s.waits.length=List.length x/\Z6 s.waits.length (X6 s.waits) (X6 x))/\True)/\List.length x<=1048576)/\(false=true->false=true)/\(false=false->true=true))) ⟨s.held,⟨⟨Z8,X8⟩,h0⟩,λh=>h,λ_=>⟨s.waits,⟨⟨Z8,X8⟩,h1⟩,λh=>h,λ_=>rfl⟩⟩
def u4(s:Eng):Nat:=w7 s.s+s.txs.length+C6 s.lk
def a6o(s:Eng):Prop:=LmS s.s/\qO s.txs.length/\a5M s.lk
def M8(s:Eng):Prop:=kN s.s/\s.txs.length<=1048576/\tL s.lk
def b60:Con:=.rel ⟨Eng×Int,λx=>[.agg x.1.ts,.int .i64 x.2],λx=>.int .i64 (rem x.2 (u4 x.1)),λx=>E7 x.2/\a6o x.1⟩
theorem b1Q:GK 10 b60:=gk Tryz.func10<|by
 rintro⟨s,left⟩ ⟨hl,h0,h1,h2⟩;simp only at hl h0 h1 h2;have e:u4 s=w7 s.s+s.txs.length+C6 s.lk:=rfl;refine S3 (gC b3o (gC a8Q (gC b2v gN))) Tryz.func10 Z0 (α:=∃(x:a5W.ι),(((yI s.s x.1)/\left=x.2/\True)/\E7 x.2/\LmS x.1)/\(decide (rem x.2 (w7 x.1)<(0:Int))=true->(-1:Int)=rem left (u4 s))/\(decide (rem x.2 (w7 x.1)<(0:Int))=false->∃(x_1:a1d.ι),(((Y6 X5 s.txs x_1.1)/\rem x.2 (w7 x.1)=x_1.2/\True)/\E7 x_1.2/\qO x_1.1.length)/\(decide (rem x_1.2 x_1.1.length<(0:Int))=true->(-1:Int)=rem left (u4 s))/\(decide (rem x_1.2 x_1.1.length<(0:Int))=false->∃(x:(Lks×Int)),((((Y6 Y5 s.lk.held x.1.held)/\(Y6 X6 s.lk.waits x.1.waits)/\True)/\rem x_1.2 x_1.1.length=x.2/\True)/\E7 x.2/\a5M x.1)/\(decide (rem x.2 (C6 x.1)<(0:Int))=true->(-1:Int)=rem left (u4 s))/\(decide (rem x.2 (C6 x.1)<(0:Int))=false->rem x.2 (C6 x.1)=rem left (u4 s))))) ⟨(s.s,left),⟨⟨(yH _),Z9⟩,hl,h0⟩,λh=>(C5 (E9 h) (by(try dsimp only);omega)).symm,λh=> ?_⟩
 obtain⟨q1,l1⟩:=wN (b:=s.txs.length) (yG h) hl rfl;refine⟨(s.txs,rem left (w7 s.s)),⟨⟨Z8,Z9⟩,l1,h1⟩,λg=> ?_,λg=> ?_⟩
 ·simp only at g;rw[q1] at g;exact(C5 (E9 g) (by(try dsimp only);omega)).symm
 simp only at g ⊢;rw[q1] at g ⊢;obtain⟨q2,l2⟩:=wN (b:=C6 s.lk) (yG g) hl rfl;refine⟨(s.lk,rem left (w7 s.s+s.txs.length)),⟨⟨⟨Z8,X8⟩,Z9⟩,l2,h2⟩,λg=> ?_,λg=> ?_⟩
 ·simp only at g;rw[q2] at g;exact(C5 (E9 g) (by(try dsimp only);omega)).symm
 exact q2
def b4p:Con:=.rel ⟨Eng,λs=>[.agg s.ts,.agg s.ts],λ_=>.bool true,M8⟩
theorem b1Y:GK 15 b4p:=gk Tryz.func15<|by
 rintro(s:Eng) ⟨h0,h1,h2⟩;exact S3 (gC b0b (gC a9i (gC b0s gN))) Tryz.func15 Z0 (α:=∃(x:a6r.ι),(((yI s.s x)/\(yI s.s x)/\True)/\kN x)/\(false=true->false=true)/\(false=false->((!s.up==s.up)=true->false=true)/\((!s.up==s.up)=false->∃(x:a1D.ι),(((s.txs.length=List.length x/\Z6 s.txs.length (X5 s.txs) (X5 x))/\(s.txs.length=List.length x/\Z6 s.txs.length (X5 s.txs) (X5 x))/\True)/\List.length x<=1048576)/\(false=true->false=true)/\(false=false->∃(x:Lks),((((Y6 Y5 s.lk.held x.held)/\(Y6 X6 s.lk.waits x.waits)/\True)/\((Y6 Y5 s.lk.held x.held)/\(Y6 X6 s.lk.waits x.waits)/\True)/\True)/\tL x)/\(false=true->false=true)/\(false=false->((s.next !=s.next)=true->false=true)/\((s.next !=s.next)=false->true=true)))))) ⟨s.s,⟨⟨(yH _),(yH _),trivial⟩,h0⟩,λh=>h,λ_=>⟨λh=>by simp at h,λ_=>⟨s.txs,⟨⟨Z8,X8⟩,h1⟩,λh=>h,λ_=>⟨s.lk,⟨⟨⟨Z8,X8⟩,⟨Z8,X8⟩,trivial⟩,h2⟩,λh=>h,λ_=>⟨λh=>by simp at h,λ_=>rfl⟩⟩⟩⟩⟩
end Go.Proofs.YtokaojbaacnngaaGreat

