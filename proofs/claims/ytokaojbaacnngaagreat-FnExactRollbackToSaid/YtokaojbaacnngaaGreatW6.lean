/- A part of the proof. -/
import Derived.Test.YtokaojbaacnngaaGreatW4
import Derived.Test.YtokaojbaacnngaaGreatF0F1F2
namespace Go.Proofs.YtokaojbaacnngaaGreat
set_option maxRecDepth 100000
open Go.SS

theorem b0h:GK 44 b4a:=gk Tryz.func44<|by
 rintro(s:Sto) ⟨h1,h2,h3,h4⟩;exact b4d s ⟨s.d,⟨⟨(xN _),(xN _),trivial⟩,h1⟩,λh=>h,λ_=>⟨λh=>by simp at h,λ_=>⟨s.log,⟨⟨Z8,X8⟩,h2⟩,λh=>h,λ_=>⟨λh=>by simp at h,λ_=>⟨s.fr,⟨⟨Z8,X8⟩,h3,h4⟩,λh=>h,λ_=>⟨λh=>by simp at h,λ_=>rfl⟩⟩⟩⟩⟩⟩
theorem vX{α:Type}(f:α->Nat)(L:List α):L.length<=T9 f L:=by
 have:=E9 f L L.length (S7 L.length);have hz:V8 f L L.length 0=L.length:=rfl;unfold T9;omega
theorem bX{α:Type}(f:α->Nat)(L:List α)(d:α){i:Nat}(hi:i<L.length):f (L.getD i d)+L.length<=T9 f L:=by
 have h1:=E9 f L L.length (show i+1<=L.length from hi)
 have h2:=s3 f L L.length d hi;have h3:=E9 f L L.length (S7 i);have hz:V8 f L L.length 0=L.length:=rfl;unfold T9;omega
theorem b3r{left:Int}{n:Nat}(h:¬rem left n<0):(n:Int)<=left:=by
 by_cases hq:(n:Int)<=left
 ·exact hq
 ·rw[N6 (by omega)] at h
  omega
theorem a8O{s:Sto}(h:y7 s<=1048576):mP s/\a9H s:=by
 have e:y7 s=T9 I6 s.d.sec+T9 P3 s.d.cache+s.d.keep.length+T9 Q5 s.log+T9 P0 s.fr:=rfl;have a1:=vX I6 s.d.sec;have a2:=vX P3 s.d.cache;have a3:=vX Q5 s.log;have a4:=vX P0 s.fr;have f1:∀i,i<s.fr.length->(s.fr.getD i default).pg.sl.length<=1048576:=λi hi=>by
  have h1:=bX P0 s.fr default hi;have h2:=vX I6 (s.fr.getD i default).pg.sl;have h3:P0 (s.fr.getD i default)=T9 I6 (s.fr.getD i default).pg.sl:=rfl;omega
 have l1:∀r ∈ s.log,r.a.length<=1048576:=λr hr=>by
  obtain⟨i,hi,rfl⟩:=List.mem_iff_getElem.1 hr;have h1:=bX Q5 s.log default hi;rw[L5,L4 hi,Option.getD_some] at h1
  have h3:Q5 s.log[i]=s.log[i].b.length+s.log[i].a.length:=rfl;omega
 refine⟨⟨⟨by omega,by omega,by omega⟩,by omega,by omega,f1⟩,⟨by unfold M7;omega,by unfold M7;omega,by unfold M7;omega⟩,⟨by omega,λr hr=>by have:=l1 r hr;omega⟩,⟨by unfold M7;omega,λi hi=> ?_⟩,λr hr=> ?_⟩
 ·have:=f1 i hi;show(s.fr.getD i default).pg.sl.length<1000000000000;omega
 ·have:=l1 r hr;show r.a.length<1000000000000;omega

def a0A:Rl:=⟨List Txn×Int,λx=>[wF x.1,.int .i64 x.2],λx=>.int .i64 (rem x.2 x.1.length),λx=>F1 x.2/\rE x.1.length⟩
def a9x:Con:=.rel a0A
theorem a8u:GK 33 a9x:=gk Tryz.func33<|by
 rintro⟨L,left⟩ ⟨⟨h0,h1⟩,hn⟩;have hn:L.length<=9223372036854775807:=hn;simp only at h0 h1;refine S6 gN Tryz.func33 Z0 (α:=X4 .i64 (left- (L.length:Int))/\(decide (left- (L.length:Int)<(0:Int))=true->(-1:Int)=rem left L.length)/\(decide (left- (L.length:Int)<(0:Int))=false->left- (L.length:Int)=rem left L.length)) ?_
 simp only[z9,o9,tW];exact⟨by omega,λh=>(N6 (by omega)).symm,λh=>(I7 (by omega)).symm⟩
def a4G:Rl:=⟨Txn,λr=>[.agg r.ts],λr=>.agg r.ts,λ_=>True⟩
def b3U:Con:=.rel a4G
theorem b5Q(r:Txn)(h:
  r.id=r.id/\r.last=r.last/\True):
  U6 Tryz.prog 84 [.agg r.ts] (.agg r.ts):=
 S6 gN Tryz.func84 Z0 h
theorem b1m:GK 84 b3U:=gk Tryz.func84<|λr _=>b5Q r ⟨rfl,Z9⟩
def a51:Rl:=⟨Txn,λr=>[.agg r.ts,.agg r.ts],λ_=>.bool true,λ_=>True⟩
def b4H:Con:=.rel a51
theorem b02:GK 96 b4H:=gk Tryz.func96<|by
 intro r _;refine S6 gN Tryz.func96 Z0 (α:=((r.id !=r.id)=true->false=true)/\((r.id !=r.id)=false->((r.last !=r.last)=true->false=true)/\((r.last !=r.last)=false->true=true))) ?_
 simp
def b1H(L:List Txn):Nat->Ann
 |0=>.one {i:Nat//i<=L.length} (λx=>⟨[(0,wF L),(3,.osl 0 0 L.length),(4,.int .i64 x.1)],[some (.arr true 0 2 L.length (i9 (X0 L) [.int .i64 0,.int .i64 0] x.1))]⟩) (λx=>L.length-x.1) [.arr 0] [.arr 0] (λ_=>Z0)
 |_=>.none
def aY:Rl:=⟨List Txn,λL=>[wF L,wF L],λ_=>.bool true,λL=>L.length<=1048576⟩
def b2h:Con:=.rel aY
def b2u(L:List Txn):Nat->Ann
 |0=>.one {i:Nat//i<=L.length} (λx=>⟨[(0,wF L),(1,wF L),(5,.int .i64 x.1)],[]⟩) (λx=>L.length-x.1) [] [] (λ_=>Z0)
 |_=>.none
theorem a8r:GK 45 b2h:=gk Tryz.func45<|by
 intro(L:List Txn) (hL:L.length<=1048576);refine S6 (gC b02 gN) Tryz.func45 (b2u L) (α:=(((L.length:Int) !=(L.length:Int))=true->false=true)/\(((L.length:Int) !=(L.length:Int))=false->(∃(x:{i:Nat//i<=L.length}),((Y5 X0 L L)/\(Y5 X0 L L)/\(0:Int)=(x.val:Int)/\True)/\True)/\∀(x:{i:Nat//i<=L.length}),(decide ((x.val:Int)<(L.length:Int))=true->W4 (x.val:Int) L.length/\W4 (x.val:Int) L.length/\∃(x_1:a51.ι),((((L.getD (x.val:Int).toNat default).id=x_1.id/\(L.getD (x.val:Int).toNat default).last=x_1.last/\True)/\((L.getD (x.val:Int).toNat default).id=x_1.id/\(L.getD (x.val:Int).toNat default).last=x_1.last/\True)/\True)/\True)/\(false=true->false=true)/\(false=false->X4 .i64 ((x.val:Int)+(1:Int))/\∃(y:{i:Nat//i<=L.length}),(((Y5 X0 L L)/\(Y5 X0 L L)/\(x.val:Int)+(1:Int)=(y.val:Int)/\True)/\True)/\Lt (L.length-y.val) (L.length-x.val)))/\(decide ((x.val:Int)<(L.length:Int))=false->true=true))) ⟨λh=>by simp at h,λ_=>⟨⟨⟨0,S7 _⟩,⟨⟨(by trivial),Z2 _ _⟩,⟨(by trivial),Z2 _ _⟩,Z9⟩,trivial⟩,λx=>⟨λhc=> ?_,λ_=>rfl⟩⟩⟩
 have hlt:=Y1 hc;exact⟨Y2 hlt,Y2 hlt,L.getD x.val default,⟨⟨⟨rfl,Z9⟩,⟨rfl,Z9⟩,trivial⟩,trivial⟩,λh=>h,λ_=>⟨V7 hlt (by omega),⟨x.val+1,hlt⟩,⟨⟨⟨(by trivial),Z2 _ _⟩,⟨(by trivial),Z2 _ _⟩,by simp only;omega,trivial⟩,trivial⟩,V4.ext_lt hlt⟩⟩
def bG:Rl:=⟨List Lck×Int,λx=>[yG x.1,.int .i64 x.2],λx=>.int .i64 (rem x.2 x.1.length),λx=>F1 x.2/\rE x.1.length⟩
def b3h:Con:=.rel bG
theorem a8K:GK 70 b3h:=gk Tryz.func70<|by
 rintro⟨L,left⟩ ⟨⟨h0,h1⟩,hn⟩;have hn:L.length<=9223372036854775807:=hn;simp only at h0 h1;refine S6 gN Tryz.func70 Z0 (α:=X4 .i64 (left- (L.length:Int))/\(decide (left- (L.length:Int)<(0:Int))=true->(-1:Int)=rem left L.length)/\(decide (left- (L.length:Int)<(0:Int))=false->left- (L.length:Int)=rem left L.length)) ?_
 simp only[z9,o9,tW];exact⟨by omega,λh=>(N6 (by omega)).symm,λh=>(I7 (by omega)).symm⟩
def a5m:Rl:=⟨Lck,λr=>[.agg r.ts],λr=>.agg r.ts,λ_=>True⟩
def b5w:Con:=.rel a5m
theorem b4F(r:Lck)(h:
  r.tx=r.tx/\r.ta=r.ta/\r.row=r.row/\r.mo=r.mo/\True):
  U6 Tryz.prog 149 [.agg r.ts] (.agg r.ts):=
 S6 gN Tryz.func149 Z0 h
theorem a9T:GK 149 b5w:=gk Tryz.func149<|λr _=>b4F r ⟨rfl,rfl,rfl,Z9⟩
def a5k:Rl:=⟨Lck,λr=>[.agg r.ts,.agg r.ts],λ_=>.bool true,λ_=>True⟩
def b3P:Con:=.rel a5k
theorem b22:GK 171 b3P:=gk Tryz.func171<|by
 intro r _;refine S6 gN Tryz.func171 Z0 (α:=((r.tx !=r.tx)=true->false=true)/\((r.tx !=r.tx)=false->((r.ta !=r.ta)=true->false=true)/\((r.ta !=r.ta)=false->((r.row !=r.row)=true->false=true)/\((r.row !=r.row)=false->((r.mo !=r.mo)=true->false=true)/\((r.mo !=r.mo)=false->true=true))))) ?_
 simp
def a9h(L:List Lck):Nat->Ann
 |0=>.one {i:Nat//i<=L.length} (λx=>⟨[(0,yG L),(3,.osl 0 0 L.length),(4,.int .i64 x.1)],[some (.arr true 0 4 L.length (i9 (X7 L) [.int .i64 0,.int .i64 0,.int .i64 0,.int .i64 0] x.1))]⟩) (λx=>L.length-x.1) [.arr 0] [.arr 0] (λ_=>Z0)
 |_=>.none
def bJ:Rl:=⟨List Lck,λL=>[yG L,yG L],λ_=>.bool true,λL=>L.length<=1048576⟩
def b03:Con:=.rel bJ
def b2U(L:List Lck):Nat->Ann
 |0=>.one {i:Nat//i<=L.length} (λx=>⟨[(0,yG L),(1,yG L),(5,.int .i64 x.1)],[]⟩) (λx=>L.length-x.1) [] [] (λ_=>Z0)
 |_=>.none
theorem a8p:GK 97 b03:=gk Tryz.func97<|by
 intro(L:List Lck) (hL:L.length<=1048576);refine S6 (gC b22 gN) Tryz.func97 (b2U L) (α:=(((L.length:Int) !=(L.length:Int))=true->false=true)/\(((L.length:Int) !=(L.length:Int))=false->(∃(x:{i:Nat//i<=L.length}),((Y5 X7 L L)/\(Y5 X7 L L)/\(0:Int)=(x.val:Int)/\True)/\True)/\∀(x:{i:Nat//i<=L.length}),(decide ((x.val:Int)<(L.length:Int))=true->W4 (x.val:Int) L.length/\W4 (x.val:Int) L.length/\∃(x_1:a5k.ι),((((L.getD (x.val:Int).toNat default).tx=x_1.tx/\(L.getD (x.val:Int).toNat default).ta=x_1.ta/\(L.getD (x.val:Int).toNat default).row=x_1.row/\(L.getD (x.val:Int).toNat default).mo=x_1.mo/\True)/\((L.getD (x.val:Int).toNat default).tx=x_1.tx/\(L.getD (x.val:Int).toNat default).ta=x_1.ta/\(L.getD (x.val:Int).toNat default).row=x_1.row/\(L.getD (x.val:Int).toNat default).mo=x_1.mo/\True)/\True)/\True)/\(false=true->false=true)/\(false=false->X4 .i64 ((x.val:Int)+(1:Int))/\∃(y:{i:Nat//i<=L.length}),(((Y5 X7 L L)/\(Y5 X7 L L)/\(x.val:Int)+(1:Int)=(y.val:Int)/\True)/\True)/\Lt (L.length-y.val) (L.length-x.val)))/\(decide ((x.val:Int)<(L.length:Int))=false->true=true))) ⟨λh=>by simp at h,λ_=>⟨⟨⟨0,S7 _⟩,⟨⟨(by trivial),Z2 _ _⟩,⟨(by trivial),Z2 _ _⟩,Z9⟩,trivial⟩,λx=>⟨λhc=> ?_,λ_=>rfl⟩⟩⟩
 have hlt:=Y1 hc;exact⟨Y2 hlt,Y2 hlt,L.getD x.val default,⟨⟨⟨rfl,rfl,rfl,Z9⟩,⟨rfl,rfl,rfl,Z9⟩,trivial⟩,trivial⟩,λh=>h,λ_=>⟨V7 hlt (by omega),⟨x.val+1,hlt⟩,⟨⟨⟨(by trivial),Z2 _ _⟩,⟨(by trivial),Z2 _ _⟩,by simp only;omega,trivial⟩,trivial⟩,V4.ext_lt hlt⟩⟩
def a5o:Rl:=⟨List Wt×Int,λx=>[mU x.1,.int .i64 x.2],λx=>.int .i64 (rem x.2 x.1.length),λx=>F1 x.2/\rE x.1.length⟩
def b5M:Con:=.rel a5o
theorem b1B:GK 71 b5M:=gk Tryz.func71<|by
 rintro⟨L,left⟩ ⟨⟨h0,h1⟩,hn⟩;have hn:L.length<=9223372036854775807:=hn;simp only at h0 h1;refine S6 gN Tryz.func71 Z0 (α:=X4 .i64 (left- (L.length:Int))/\(decide (left- (L.length:Int)<(0:Int))=true->(-1:Int)=rem left L.length)/\(decide (left- (L.length:Int)<(0:Int))=false->left- (L.length:Int)=rem left L.length)) ?_
 simp only[z9,o9,tW];exact⟨by omega,λh=>(N6 (by omega)).symm,λh=>(I7 (by omega)).symm⟩
def b20:Rl:=⟨Wt,λr=>[.agg r.ts],λr=>.agg r.ts,λ_=>True⟩
def b76:Con:=.rel b20
theorem b8q(r:Wt)(h:
  r.tx=r.tx/\r.fo=r.fo/\True):
  U6 Tryz.prog 150 [.agg r.ts] (.agg r.ts):=
 S6 gN Tryz.func150 Z0 h
theorem b3u:GK 150 b76:=gk Tryz.func150<|λr _=>b8q r ⟨rfl,Z9⟩
def b0K:Rl:=⟨Wt,λr=>[.agg r.ts,.agg r.ts],λ_=>.bool true,λ_=>True⟩
def b69:Con:=.rel b0K
theorem b50:GK 172 b69:=gk Tryz.func172<|by
 intro r _;refine S6 gN Tryz.func172 Z0 (α:=((r.tx !=r.tx)=true->false=true)/\((r.tx !=r.tx)=false->((r.fo !=r.fo)=true->false=true)/\((r.fo !=r.fo)=false->true=true))) ?_
 simp
def b5p(L:List Wt):Nat->Ann
 |0=>.one {i:Nat//i<=L.length} (λx=>⟨[(0,mU L),(3,.osl 0 0 L.length),(4,.int .i64 x.1)],[some (.arr true 0 2 L.length (i9 (W8 L) [.int .i64 0,.int .i64 0] x.1))]⟩) (λx=>L.length-x.1) [.arr 0] [.arr 0] (λ_=>Z0)
 |_=>.none
def a5J:Rl:=⟨List Wt,λL=>[mU L,mU L],λ_=>.bool true,λL=>L.length<=1048576⟩
def b5T:Con:=.rel a5J
def b43(L:List Wt):Nat->Ann
 |0=>.one {i:Nat//i<=L.length} (λx=>⟨[(0,mU L),(1,mU L),(5,.int .i64 x.1)],[]⟩) (λx=>L.length-x.1) [] [] (λ_=>Z0)
 |_=>.none
theorem b2s:GK 98 b5T:=gk Tryz.func98<|by
 intro(L:List Wt) (hL:L.length<=1048576);refine S6 (gC b50 gN) Tryz.func98 (b43 L) (α:=(((L.length:Int) !=(L.length:Int))=true->false=true)/\(((L.length:Int) !=(L.length:Int))=false->(∃(x:{i:Nat//i<=L.length}),((Y5 W8 L L)/\(Y5 W8 L L)/\(0:Int)=(x.val:Int)/\True)/\True)/\∀(x:{i:Nat//i<=L.length}),(decide ((x.val:Int)<(L.length:Int))=true->W4 (x.val:Int) L.length/\W4 (x.val:Int) L.length/\∃(x_1:b0K.ι),((((L.getD (x.val:Int).toNat default).tx=x_1.tx/\(L.getD (x.val:Int).toNat default).fo=x_1.fo/\True)/\((L.getD (x.val:Int).toNat default).tx=x_1.tx/\(L.getD (x.val:Int).toNat default).fo=x_1.fo/\True)/\True)/\True)/\(false=true->false=true)/\(false=false->X4 .i64 ((x.val:Int)+(1:Int))/\∃(y:{i:Nat//i<=L.length}),(((Y5 W8 L L)/\(Y5 W8 L L)/\(x.val:Int)+(1:Int)=(y.val:Int)/\True)/\True)/\Lt (L.length-y.val) (L.length-x.val)))/\(decide ((x.val:Int)<(L.length:Int))=false->true=true))) ⟨λh=>by simp at h,λ_=>⟨⟨⟨0,S7 _⟩,⟨⟨(by trivial),Z2 _ _⟩,⟨(by trivial),Z2 _ _⟩,Z9⟩,trivial⟩,λx=>⟨λhc=> ?_,λ_=>rfl⟩⟩⟩
 have hlt:=Y1 hc;exact⟨Y2 hlt,Y2 hlt,L.getD x.val default,⟨⟨⟨rfl,Z9⟩,⟨rfl,Z9⟩,trivial⟩,trivial⟩,λh=>h,λ_=>⟨V7 hlt (by omega),⟨x.val+1,hlt⟩,⟨⟨⟨(by trivial),Z2 _ _⟩,⟨(by trivial),Z2 _ _⟩,by simp only;omega,trivial⟩,trivial⟩,V4.ext_lt hlt⟩⟩
def D7(s:Lks):Nat:=s.held.length+s.waits.length
def a4S(s:Lks):Prop:=rE s.held.length/\rE s.waits.length
def uD(s:Lks):Prop:=s.held.length<=1048576/\s.waits.length<=1048576
def b3R:Con:=.rel ⟨Lks×Int,λx=>[.agg x.1.ts,.int .i64 x.2],λx=>.int .i64 (rem x.2 (D7 x.1)),λx=>F1 x.2/\a4S x.1⟩
theorem b0A:GK 34 b3R:=gk Tryz.func34<|by
 rintro⟨s,left⟩ ⟨hl,h0,h1⟩;simp only at hl h0 h1;have e:D7 s=s.held.length+s.waits.length:=rfl;refine S6 (gC a8K (gC b1B gN)) Tryz.func34 Z0 (α:=∃(x:bG.ι),(((Y5 X7 s.held x.1)/\left=x.2/\True)/\F1 x.2/\rE x.1.length)/\(decide (rem x.2 x.1.length<(0:Int))=true->(-1:Int)=rem left (D7 s))/\(decide (rem x.2 x.1.length<(0:Int))=false->∃(x_1:a5o.ι),(((Y5 W8 s.waits x_1.1)/\rem x.2 x.1.length=x_1.2/\True)/\F1 x_1.2/\rE x_1.1.length)/\(decide (rem x_1.2 x_1.1.length<(0:Int))=true->(-1:Int)=rem left (D7 s))/\(decide (rem x_1.2 x_1.1.length<(0:Int))=false->rem x_1.2 x_1.1.length=rem left (D7 s)))) ⟨(s.held,left),⟨⟨Z8,Z9⟩,hl,h0⟩,λh=>(D3 (F3 h) (by(try dsimp only);omega)).symm,λh=> ?_⟩
 obtain⟨q1,l1⟩:=wP (b:=s.waits.length) (yQ h) hl rfl;refine⟨(s.waits,rem left (s.held.length)),⟨⟨Z8,Z9⟩,l1,h1⟩,λg=> ?_,λg=> ?_⟩
 ·simp only at g;rw[q1] at g;exact(D3 (F3 g) (by(try dsimp only);omega)).symm
 exact q1
def b5Y:Con:=.rel ⟨Lks,λs=>[.agg s.ts,.agg s.ts],λ_=>.bool true,uD⟩
theorem b1U:GK 46 b5Y:=gk Tryz.func46<|by
 rintro(s:Lks) ⟨h0,h1⟩;exact S6 (gC a8p (gC b2s gN)) Tryz.func46 Z0 (α:=∃(x:bJ.ι),(((s.held.length=List.length x/\Z6 s.held.length (X7 s.held) (X7 x))/\(s.held.length=List.length x/\Z6 s.held.length (X7 s.held) (X7 x))/\True)/\List.length x<=1048576)/\(false=true->false=true)/\(false=false->∃(x:a5J.ι),(((s.waits.length=List.length x/\Z6 s.waits.length (W8 s.waits) (W8 x))/\(s.waits.length=List.length x/\Z6 s.waits.length (W8 s.waits) (W8 x))/\True)/\List.length x<=1048576)/\(false=true->false=true)/\(false=false->true=true))) ⟨s.held,⟨⟨Z8,X8⟩,h0⟩,λh=>h,λ_=>⟨s.waits,⟨⟨Z8,X8⟩,h1⟩,λh=>h,λ_=>rfl⟩⟩
def u7(s:Eng):Nat:=y7 s.s+s.txs.length+D7 s.lk
def a4P(s:Eng):Prop:=LmS s.s/\rE s.txs.length/\a4S s.lk
def N8(s:Eng):Prop:=mP s.s/\s.txs.length<=1048576/\uD s.lk
def b35:Con:=.rel ⟨Eng×Int,λx=>[.agg x.1.ts,.int .i64 x.2],λx=>.int .i64 (rem x.2 (u7 x.1)),λx=>F1 x.2/\a4P x.1⟩
theorem b0d:GK 10 b35:=gk Tryz.func10<|by
 rintro⟨s,left⟩ ⟨hl,h0,h1,h2⟩;simp only at hl h0 h1 h2;have e:u7 s=y7 s.s+s.txs.length+D7 s.lk:=rfl;refine S6 (gC b0g (gC a8u (gC b0A gN))) Tryz.func10 Z0 (α:=∃(x:a54.ι),(((yR s.s x.1)/\left=x.2/\True)/\F1 x.2/\LmS x.1)/\(decide (rem x.2 (y7 x.1)<(0:Int))=true->(-1:Int)=rem left (u7 s))/\(decide (rem x.2 (y7 x.1)<(0:Int))=false->∃(x_1:a0A.ι),(((Y5 X0 s.txs x_1.1)/\rem x.2 (y7 x.1)=x_1.2/\True)/\F1 x_1.2/\rE x_1.1.length)/\(decide (rem x_1.2 x_1.1.length<(0:Int))=true->(-1:Int)=rem left (u7 s))/\(decide (rem x_1.2 x_1.1.length<(0:Int))=false->∃(x:(Lks×Int)),((((Y5 X7 s.lk.held x.1.held)/\(Y5 W8 s.lk.waits x.1.waits)/\True)/\rem x_1.2 x_1.1.length=x.2/\True)/\F1 x.2/\a4S x.1)/\(decide (rem x.2 (D7 x.1)<(0:Int))=true->(-1:Int)=rem left (u7 s))/\(decide (rem x.2 (D7 x.1)<(0:Int))=false->rem x.2 (D7 x.1)=rem left (u7 s))))) ⟨(s.s,left),⟨⟨(yP _),Z9⟩,hl,h0⟩,λh=>(D3 (F3 h) (by(try dsimp only);omega)).symm,λh=> ?_⟩
 obtain⟨q1,l1⟩:=wP (b:=s.txs.length) (yQ h) hl rfl;refine⟨(s.txs,rem left (y7 s.s)),⟨⟨Z8,Z9⟩,l1,h1⟩,λg=> ?_,λg=> ?_⟩
 ·simp only at g;rw[q1] at g;exact(D3 (F3 g) (by(try dsimp only);omega)).symm
 simp only at g ⊢;rw[q1] at g ⊢;obtain⟨q2,l2⟩:=wP (b:=D7 s.lk) (yQ g) hl rfl;refine⟨(s.lk,rem left (y7 s.s+s.txs.length)),⟨⟨⟨Z8,X8⟩,Z9⟩,l2,h2⟩,λg=> ?_,λg=> ?_⟩
 ·simp only at g;rw[q2] at g;exact(D3 (F3 g) (by(try dsimp only);omega)).symm
 exact q2
def b4p:Con:=.rel ⟨Eng,λs=>[.agg s.ts,.agg s.ts],λ_=>.bool true,N8⟩
theorem a9I:GK 15 b4p:=gk Tryz.func15<|by
 rintro(s:Eng) ⟨h0,h1,h2⟩;exact S6 (gC b0h (gC a8r (gC b1U gN))) Tryz.func15 Z0 (α:=∃(x:a4Z.ι),(((yR s.s x)/\(yR s.s x)/\True)/\mP x)/\(false=true->false=true)/\(false=false->((!s.up==s.up)=true->false=true)/\((!s.up==s.up)=false->∃(x:aY.ι),(((s.txs.length=List.length x/\Z6 s.txs.length (X0 s.txs) (X0 x))/\(s.txs.length=List.length x/\Z6 s.txs.length (X0 s.txs) (X0 x))/\True)/\List.length x<=1048576)/\(false=true->false=true)/\(false=false->∃(x:Lks),((((Y5 X7 s.lk.held x.held)/\(Y5 W8 s.lk.waits x.waits)/\True)/\((Y5 X7 s.lk.held x.held)/\(Y5 W8 s.lk.waits x.waits)/\True)/\True)/\uD x)/\(false=true->false=true)/\(false=false->((s.next !=s.next)=true->false=true)/\((s.next !=s.next)=false->true=true)))))) ⟨s.s,⟨⟨(yP _),(yP _),trivial⟩,h0⟩,λh=>h,λ_=>⟨λh=>by simp at h,λ_=>⟨s.txs,⟨⟨Z8,X8⟩,h1⟩,λh=>h,λ_=>⟨s.lk,⟨⟨⟨Z8,X8⟩,⟨Z8,X8⟩,trivial⟩,h2⟩,λh=>h,λ_=>⟨λh=>by simp at h,λ_=>rfl⟩⟩⟩⟩⟩
end Go.Proofs.YtokaojbaacnngaaGreat

