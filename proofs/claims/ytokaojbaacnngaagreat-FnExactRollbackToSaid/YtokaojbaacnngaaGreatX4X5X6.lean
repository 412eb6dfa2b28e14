/- A part of the proof. -/
import Derived.Test.YtokaojbaacnngaaGreatX1X2X3
namespace Go.Proofs.YtokaojbaacnngaaGreat
set_option maxRecDepth 100000
open Go.SS

def a9e:Con:=.rmk ⟨List (List UInt8),λL=>[C0 L],λ_=>[],λL=>.osl 0 0 L.length,λL=>[G0 L],λL=>L.length<=1048576⟩
theorem jK:GK 145 a9e:=gk Tryz.func145<|by
 intro(L:List (List UInt8)) (hL:L.length<=1048576);refine⟨C4 gN Tryz.func145 (a9z L) [[.arr 0]] (α:=(Nn (L.length:Int)/\oH (L.length:Int) (L.length:Int)/\I5 16 (L.length:Int).toNat 140737488355328/\Lt (L.length:Int).toNat 9223372036854775808)/\(∃(x:{i:Nat//i<=L.length}),((Y5 Z5 L L)/\(0=0/\(L.length:Int).toNat=L.length)/\(0:Int)=(x.val:Int)/\True)/\((L.length:Int).toNat=L.length/\Z6 (L.length:Int).toNat (λ(x:Nat)=>[T.str []]) (i9 (Z5 L) [T.str []] x.val))/\True)/\∀(x:{i:Nat//i<=L.length}),(decide ((x.val:Int)<(L.length:Int))=true->W4 (x.val:Int) L.length/\W4 (x.val:Int) L.length/\Lt (0+(x.val:Int).toNat) L.length/\X4 .i64 ((x.val:Int)+(1:Int))/\∃(y:{i:Nat//i<=L.length}),(((Y5 Z5 L L)/\(0=0/\L.length=L.length)/\(x.val:Int)+(1:Int)=(y.val:Int)/\True)/\(L.length=L.length/\Z6 L.length (setRow (i9 (Z5 L) [T.str []] x.val) (0+(x.val:Int).toNat) 0 [T.str (L.getD (x.val:Int).toNat [])]) (i9 (Z5 L) [T.str []] y.val))/\True)/\Lt (L.length-y.val) (L.length-x.val))/\(decide ((x.val:Int)<(L.length:Int))=false->((0=0/\L.length=L.length)/\True)/\(L.length=L.length/\Z6 L.length (i9 (Z5 L) [T.str []] x.val) (Z5 L))/\True)) ⟨⟨by unfold Nn;omega,by unfold oH;omega,by unfold I5;omega,by unfold Lt;omega⟩,⟨⟨0,S7 _⟩,⟨⟨(by trivial),Z2 _ _⟩,⟨(by trivial),by omega⟩,Z9⟩,⟨by omega,xZ⟩,trivial⟩,λx=>⟨λhc=> ?_,λhc=> ?_⟩⟩,rfl,G2 L⟩
 ·have hlt:=Y1 hc;refine⟨Y2 hlt,Y2 hlt,by unfold Lt;omega,V7 hlt (by omega),⟨x.val+1,hlt⟩,⟨⟨⟨(by trivial),Z2 _ _⟩,⟨(by trivial),(by trivial)⟩,by simp only;omega,trivial⟩,⟨(by trivial),λj hj=> ?_⟩,trivial⟩,V4.ext_lt hlt⟩
  exact c9 (m:=1) (λ_=>rfl) rfl x.val rfl j
 ·have hx:x.val=L.length:=by have:=x.2;have:=X9 hc;omega
  rw[hx];exact⟨T2,⟨rfl,λi hi=>wJ (n:=L.length) i (by omega)⟩,trivial⟩
def b25:Con:=.rmk ⟨List Int,λL=>[wE L],λ_=>[],λL=>.osl 0 0 L.length,λL=>[A5 L],λL=>L.length<=1048576⟩
theorem a69:GK 13 b25:=gk Tryz.func13<|by
 intro(L:List Int) (hL:L.length<=1048576);refine⟨C4 gN Tryz.func13 (a85 L) [[.arr 0]] (α:=(Nn (L.length:Int)/\oH (L.length:Int) (L.length:Int)/\I5 8 (L.length:Int).toNat 140737488355328/\Lt (L.length:Int).toNat 9223372036854775808)/\(∃(x:{i:Nat//i<=L.length}),((Y5 Y9 L L)/\(0=0/\(L.length:Int).toNat=L.length)/\(0:Int)=(x.val:Int)/\True)/\((L.length:Int).toNat=L.length/\Z6 (L.length:Int).toNat (λ(x:Nat)=>[T.int .i64 (0:Int)]) (i9 (Y9 L) [T.int .i64 (0:Int)] x.val))/\True)/\∀(x:{i:Nat//i<=L.length}),(decide ((x.val:Int)<(L.length:Int))=true->W4 (x.val:Int) L.length/\W4 (x.val:Int) L.length/\Lt (0+(x.val:Int).toNat) L.length/\X4 .i64 ((x.val:Int)+(1:Int))/\∃(y:{i:Nat//i<=L.length}),(((Y5 Y9 L L)/\(0=0/\L.length=L.length)/\(x.val:Int)+(1:Int)=(y.val:Int)/\True)/\(L.length=L.length/\Z6 L.length (setRow (i9 (Y9 L) [T.int .i64 (0:Int)] x.val) (0+(x.val:Int).toNat) 0 [T.int .i64 (L.getD (x.val:Int).toNat (0:Int))]) (i9 (Y9 L) [T.int .i64 (0:Int)] y.val))/\True)/\Lt (L.length-y.val) (L.length-x.val))/\(decide ((x.val:Int)<(L.length:Int))=false->((0=0/\L.length=L.length)/\True)/\(L.length=L.length/\Z6 L.length (i9 (Y9 L) [T.int .i64 (0:Int)] x.val) (Y9 L))/\True)) ⟨⟨by unfold Nn;omega,by unfold oH;omega,by unfold I5;omega,by unfold Lt;omega⟩,⟨⟨0,S7 _⟩,⟨⟨(by trivial),Z2 _ _⟩,⟨(by trivial),by omega⟩,Z9⟩,⟨by omega,xZ⟩,trivial⟩,λx=>⟨λhc=> ?_,λhc=> ?_⟩⟩,rfl,qR L⟩
 ·have hlt:=Y1 hc;refine⟨Y2 hlt,Y2 hlt,by unfold Lt;omega,V7 hlt (by omega),⟨x.val+1,hlt⟩,⟨⟨⟨(by trivial),Z2 _ _⟩,⟨(by trivial),(by trivial)⟩,by simp only;omega,trivial⟩,⟨(by trivial),λj hj=> ?_⟩,trivial⟩,V4.ext_lt hlt⟩
  exact c9 (m:=1) (λ_=>rfl) rfl x.val rfl j
 ·have hx:x.val=L.length:=by have:=x.2;have:=X9 hc;omega
  rw[hx];exact⟨T2,⟨rfl,λi hi=>wJ (n:=L.length) i (by omega)⟩,trivial⟩
def a6R:Con:=.rmk ⟨List Pend,λL=>[C8 L],λ_=>[],λL=>.osl 0 0 L.length,λL=>[I8 L],λL=>L.length<=1048576⟩
theorem a33:GK 146 a6R:=gk Tryz.func146<|by
 intro(L:List Pend) (hL:L.length<=1048576);refine⟨C4 (gC a6a gN) Tryz.func146 (a7M L) [[.arr 0]] (α:=(Nn (L.length:Int)/\oH (L.length:Int) (L.length:Int)/\I5 24 (L.length:Int).toNat 140737488355328/\Lt (L.length:Int).toNat 9223372036854775808)/\(∃(x:{i:Nat//i<=L.length}),((Y5 Z3 L L)/\(0=0/\(L.length:Int).toNat=L.length)/\(0:Int)=(x.val:Int)/\True)/\((L.length:Int).toNat=L.length/\Z6 (L.length:Int).toNat (λ(x:Nat)=>[T.int .i64 (0:Int),T.str []]) (i9 (Z3 L) [T.int .i64 (0:Int),T.str []] x.val))/\True)/\∀(x:{i:Nat//i<=L.length}),(decide ((x.val:Int)<(L.length:Int))=true->W4 (x.val:Int) L.length/\∃(x_1:a0j.ι),((((L.getD (x.val:Int).toNat default).at_=x_1.at_/\(L.getD (x.val:Int).toNat default).d=x_1.d/\True)/\True)/\SmP x_1)/\W4 (x.val:Int) L.length/\Lt (0+(x.val:Int).toNat) L.length/\X4 .i64 ((x.val:Int)+(1:Int))/\∃(y:{i:Nat//i<=L.length}),(((Y5 Z3 L L)/\(0=0/\L.length=L.length)/\(x.val:Int)+(1:Int)=(y.val:Int)/\True)/\(L.length=L.length/\Z6 L.length (setRow (i9 (Z3 L) [T.int .i64 (0:Int),T.str []] x.val) (0+(x.val:Int).toNat) 0 [T.int .i64 x_1.at_,T.str x_1.d]) (i9 (Z3 L) [T.int .i64 (0:Int),T.str []] y.val))/\True)/\Lt (L.length-y.val) (L.length-x.val))/\(decide ((x.val:Int)<(L.length:Int))=false->((0=0/\L.length=L.length)/\True)/\(L.length=L.length/\Z6 L.length (i9 (Z3 L) [T.int .i64 (0:Int),T.str []] x.val) (Z3 L))/\True)) ⟨⟨by unfold Nn;omega,by unfold oH;omega,by unfold I5;omega,by unfold Lt;omega⟩,⟨⟨0,S7 _⟩,⟨⟨(by trivial),Z2 _ _⟩,⟨(by trivial),by omega⟩,Z9⟩,⟨by omega,xZ⟩,trivial⟩,λx=>⟨λhc=> ?_,λhc=> ?_⟩⟩,rfl,tK L⟩
 ·have hlt:=Y1 hc;refine⟨Y2 hlt,L.getD x.val default,⟨⟨⟨rfl,Z9⟩,trivial⟩,trivial⟩,Y2 hlt,by unfold Lt;omega,V7 hlt (by omega),⟨x.val+1,hlt⟩,⟨⟨⟨(by trivial),Z2 _ _⟩,⟨(by trivial),(by trivial)⟩,by simp only;omega,trivial⟩,⟨(by trivial),λj hj=> ?_⟩,trivial⟩,V4.ext_lt hlt⟩
  exact c9 (m:=2) (λ_=>rfl) rfl x.val rfl j
 ·have hx:x.val=L.length:=by have:=x.2;have:=X9 hc;omega
  rw[hx];exact⟨T2,⟨rfl,λi hi=>wJ (n:=L.length) i (by omega)⟩,trivial⟩
def b0D:Con:=.rmk ⟨List Rec,λL=>[o5 L],λ_=>[],λL=>.osl 0 0 L.length,λL=>[v6 L],λL=>L.length<=1048576⟩
theorem a8w:GK 82 b0D:=gk Tryz.func82<|by
 intro(L:List Rec) (hL:L.length<=1048576);refine⟨C4 (gC b1X gN) Tryz.func82 (a9B L) [[.arr 0]] (α:=(Nn (L.length:Int)/\oH (L.length:Int) (L.length:Int)/\I5 96 (L.length:Int).toNat 140737488355328/\Lt (L.length:Int).toNat 9223372036854775808)/\(∃(x:{i:Nat//i<=L.length}),((Y5 Y7 L L)/\(0=0/\(L.length:Int).toNat=L.length)/\(0:Int)=(x.val:Int)/\True)/\((L.length:Int).toNat=L.length/\Z6 (L.length:Int).toNat (λ(x:Nat)=>[T.int .i64 (0:Int),T.int .i64 (0:Int),T.int .i64 (0:Int),T.int .i64 (0:Int),T.int .i64 (0:Int),T.int .i64 (0:Int),T.int .i64 (0:Int),T.int .i64 (0:Int),T.str [],T.str []]) λ(j:Nat)=>[T.int .i64 (L6 default Q1 L x.val j).e,T.int .i64 (L6 default Q1 L x.val j).l,T.int .i64 (L6 default Q1 L x.val j).t,T.int .i64 (L6 default Q1 L x.val j).k,T.int .i64 (L6 default Q1 L x.val j).p,T.int .i64 (L6 default Q1 L x.val j).n,T.int .i64 (L6 default Q1 L x.val j).g,T.int .i64 (L6 default Q1 L x.val j).s,T.str (L6 default Q1 L x.val j).b,T.str (L6 default Q1 L x.val j).a])/\True)/\∀(x:{i:Nat//i<=L.length}),(decide ((x.val:Int)<(L.length:Int))=true->W4 (x.val:Int) L.length/\∃(x_1:a4z.ι),(((EqR (L.getD (x.val:Int).toNat default) x_1)/\True)/\True)/\W4 (x.val:Int) L.length/\Lt (0+(x.val:Int).toNat) L.length/\X4 .i64 ((x.val:Int)+(1:Int))/\∃(y:{i:Nat//i<=L.length}),(((Y5 Y7 L L)/\(0=0/\L.length=L.length)/\(x.val:Int)+(1:Int)=(y.val:Int)/\True)/\(L.length=L.length/\Z6 L.length (setRow (λ(j:Nat)=>[T.int .i64 (L6 default Q1 L x.val j).e,T.int .i64 (L6 default Q1 L x.val j).l,T.int .i64 (L6 default Q1 L x.val j).t,T.int .i64 (L6 default Q1 L x.val j).k,T.int .i64 (L6 default Q1 L x.val j).p,T.int .i64 (L6 default Q1 L x.val j).n,T.int .i64 (L6 default Q1 L x.val j).g,T.int .i64 (L6 default Q1 L x.val j).s,T.str (L6 default Q1 L x.val j).b,T.str (L6 default Q1 L x.val j).a]) (0+(x.val:Int).toNat) 0 [T.int .i64 x_1.e,T.int .i64 x_1.l,T.int .i64 x_1.t,T.int .i64 x_1.k,T.int .i64 x_1.p,T.int .i64 x_1.n,T.int .i64 x_1.g,T.int .i64 x_1.s,T.str x_1.b,T.str x_1.a]) λ(j:Nat)=>[T.int .i64 (L6 default Q1 L y.val j).e,T.int .i64 (L6 default Q1 L y.val j).l,T.int .i64 (L6 default Q1 L y.val j).t,T.int .i64 (L6 default Q1 L y.val j).k,T.int .i64 (L6 default Q1 L y.val j).p,T.int .i64 (L6 default Q1 L y.val j).n,T.int .i64 (L6 default Q1 L y.val j).g,T.int .i64 (L6 default Q1 L y.val j).s,T.str (L6 default Q1 L y.val j).b,T.str (L6 default Q1 L y.val j).a])/\True)/\Lt (L.length-y.val) (L.length-x.val))/\(decide ((x.val:Int)<(L.length:Int))=false->((0=0/\L.length=L.length)/\True)/\(L.length=L.length/\Z6 L.length (λ(j:Nat)=>[T.int .i64 (L6 default Q1 L x.val j).e,T.int .i64 (L6 default Q1 L x.val j).l,T.int .i64 (L6 default Q1 L x.val j).t,T.int .i64 (L6 default Q1 L x.val j).k,T.int .i64 (L6 default Q1 L x.val j).p,T.int .i64 (L6 default Q1 L x.val j).n,T.int .i64 (L6 default Q1 L x.val j).g,T.int .i64 (L6 default Q1 L x.val j).s,T.str (L6 default Q1 L x.val j).b,T.str (L6 default Q1 L x.val j).a]) (Y7 L))/\True)) ⟨⟨by unfold Nn;omega,by unfold oH;omega,by unfold I5;omega,by unfold Lt;omega⟩,⟨⟨0,S7 _⟩,⟨⟨(by trivial),Z2 _ _⟩,⟨(by trivial),by omega⟩,Z9⟩,⟨by omega,λj hj=>rfl⟩,trivial⟩,λx=>⟨λhc=> ?_,λhc=> ?_⟩⟩,rfl,uN L⟩
 ·have hlt:=Y1 hc;refine⟨Y2 hlt,L.getD x.val default,⟨⟨⟨rfl,rfl,rfl,rfl,rfl,rfl,rfl,rfl,rfl,Z9⟩,trivial⟩,trivial⟩,Y2 hlt,by unfold Lt;omega,V7 hlt (by omega),⟨x.val+1,hlt⟩,⟨⟨⟨(by trivial),Z2 _ _⟩,⟨(by trivial),(by trivial)⟩,by simp only;omega,trivial⟩,⟨(by trivial),λj hj=> ?_⟩,trivial⟩,V4.ext_lt hlt⟩
  exact b3o Rec.ts 10 (λ_=>rfl) default Q1 L x.val j
 ·have hx:x.val=L.length:=by have:=x.2;have:=X9 hc;omega
  refine⟨T2,⟨rfl,λj hj=> ?_⟩,trivial⟩
  have:L6 default Q1 L x.val j=L.getD j default:=by unfold L6;rw[if_pos (by omega)]
  exact congrArg Rec.ts this
def b4X:Con:=.rmk ⟨Dsk,λd=>[.agg d.ts],λ_=>[],λd=>.agg (d.tm 0),λd=>d.hp,sQ⟩
theorem b2A:GK 81 b4X:=gk Tryz.func81<|by
 rintro(d:Dsk) ⟨h1,h2,h3⟩;exact⟨C4 (gC jK (gC a33 (gC a69 gN))) Tryz.func81 Z0 [[.arr 3,.arr 4,.arr 5]] (α:=∃(x:(List (List UInt8))),(((d.sec.length=List.length x/\Z6 d.sec.length (Z5 d.sec) (Z5 x))/\True)/\List.length x<=1048576)/\∃(x_1:(List Pend)),(((d.cache.length=List.length x_1/\Z6 d.cache.length (Z3 d.cache) (Z3 x_1))/\True)/\List.length x_1<=1048576)/\∃(x_2:(List Int)),(((d.keep.length=List.length x_2/\Z6 d.keep.length (Y9 d.keep) (Y9 x_2))/\True)/\List.length x_2<=1048576)/\(((0=0/\List.length x=d.sec.length)/\(0=0/\List.length x_1=d.cache.length)/\d.armed=d.armed/\(0=0/\List.length x_2=d.keep.length)/\True)/\True)/\(List.length x=d.sec.length/\Z6 (List.length x) (Z5 x) (Z5 d.sec))/\(List.length x_1=d.cache.length/\Z6 (List.length x_1) (Z3 x_1) (Z3 d.cache))/\(List.length x_2=d.keep.length/\Z6 (List.length x_2) (Y9 x_2) (Y9 d.keep))/\True) ⟨d.sec,⟨X8,h1⟩,d.cache,⟨X8,h2⟩,d.keep,⟨X8,h3⟩,⟨⟨Z7,Z7,rfl,T2⟩,trivial⟩,Z8,Z8,X8⟩,rfl,uT d⟩
def b6Q:Con:=.rmk ⟨Pg,λp=>[.agg p.ts],λ_=>[],λp=>.agg (p.tm 0),λp=>[G0 p.sl],SmG⟩
theorem b4j:GK 205 b6Q:=gk Tryz.func205<|by
 intro(p:Pg) h1;exact⟨C4 (gC jK gN) Tryz.func205 Z0 [[.arr 3]] (α:=∃(x:(List (List UInt8))),(((p.sl.length=List.length x/\Z6 p.sl.length (Z5 p.sl) (Z5 x))/\True)/\List.length x<=1048576)/\((p.lsn=p.lsn/\(0=0/\List.length x=p.sl.length)/\True)/\True)/\(List.length x=p.sl.length/\Z6 (List.length x) (Z5 x) (Z5 p.sl))/\True) ⟨p.sl,⟨X8,h1⟩,⟨⟨rfl,T2⟩,trivial⟩,X8⟩,rfl,G2 p.sl⟩
def Frm.tm(f:Frm)(b:Nat):List T:=[.int .i64 f.no,.int .i64 f.pg.lsn,.osl b 0 f.pg.sl.length,.bool f.dirty,.int .i64 f.first]
def b3F:Con:=.rmk ⟨Frm,λf=>[.agg f.ts],λ_=>[],λf=>.agg (f.tm 0),λf=>[G0 f.pg.sl],SmF⟩
theorem b2e:GK 148 b3F:=gk Tryz.func148<|by
 intro(f:Frm) h1;exact⟨C4 (gC b4j gN) Tryz.func148 Z0 [[.arr 3]] (α:=∃(x:Pg),(((f.pg.lsn=x.lsn/\(Y5 Z5 f.pg.sl x.sl)/\True)/\True)/\SmG x)/\((f.no=f.no/\x.lsn=f.pg.lsn/\(0=0/\x.sl.length=f.pg.sl.length)/\f.dirty=f.dirty/\f.first=f.first/\True)/\True)/\(Y5 Z5 x.sl f.pg.sl)/\True) ⟨f.pg,⟨⟨⟨rfl,X8⟩,trivial⟩,h1⟩,⟨⟨rfl,rfl,Z7,rfl,Z9⟩,trivial⟩,X8⟩,rfl,G2 f.pg.sl⟩
def b9U:List T:=[.int .i64 0,.int .i64 0,.v (.slice none 0 0),.bool false,.int .i64 0]
def b1c:Con:=.rmk ⟨List Frm,λL=>[wL L],λ_=>[],λL=>.osl 0 0 L.length,λL=>[zS L.length L L.length],λL=>L.length<=1048576/\∀i,i<L.length->SmF (L.getD i default)⟩
def b0p(L:List Frm):Nat->Ann
 |0=>.one {i:Nat//i<=L.length} (λx=>⟨[(0,wL L),(3,.osl 0 0 L.length),(4,.int .i64 x.1)],[some (.fam x.1 0 5 L.length (i9 (Y8 L) b9U x.1))]⟩) (λx=>L.length-x.1) [.fam 0,.arr 0] [.arr 0] (λ_=>Z0)
 |_=>.none
theorem a8I:GK 83 b1c:=gk Tryz.func83<|by
 rintro(L:List Frm) ⟨hL,hb⟩;refine⟨C4 (gC b2e gN) Tryz.func83 (b0p L) [[.arr 0]] (α:=(Nn (L.length:Int)/\oH (L.length:Int) (L.length:Int)/\I5 56 (L.length:Int).toNat 140737488355328/\Lt (L.length:Int).toNat 9223372036854775808)/\(∃(x:{i:Nat//i<=L.length}),((Y5 X3 L L)/\(0=0/\(L.length:Int).toNat=L.length)/\(0:Int)=(x.val:Int)/\True)/\(0=x.val/\(L.length:Int).toNat=L.length/\U9 (L.length:Int).toNat (λ(x:Nat)=>[T.int .i64 (0:Int),T.int .i64 (0:Int),T.v (Value.slice none 0 0),T.bool false,T.int .i64 (0:Int)]) (i9 (Y8 L) [T.int .i64 (0:Int),T.int .i64 (0:Int),T.v (Value.slice none 0 0),T.bool false,T.int .i64 (0:Int)] x.val))/\True)/\∀(x:{i:Nat//i<=L.length}),(decide ((x.val:Int)<(L.length:Int))=true->W4 (x.val:Int) L.length/\∃(x_1:Frm),((((L.getD (x.val:Int).toNat default).no=x_1.no/\(L.getD (x.val:Int).toNat default).pg.lsn=x_1.pg.lsn/\(Y5 Z5 (L.getD (x.val:Int).toNat default).pg.sl x_1.pg.sl)/\(L.getD (x.val:Int).toNat default).dirty=x_1.dirty/\(L.getD (x.val:Int).toNat default).first=x_1.first/\True)/\True)/\SmF x_1)/\W4 (x.val:Int) L.length/\(0+(x.val:Int).toNat<L.length/\Le x_1.pg.sl.length x_1.pg.sl.length)/\X4 .i64 ((x.val:Int)+(1:Int))/\∃(y:{i:Nat//i<=L.length}),(((Y5 X3 L L)/\(0=0/\L.length=L.length)/\(x.val:Int)+(1:Int)=(y.val:Int)/\True)/\(x.val+1=y.val/\L.length=L.length/\U9 L.length (setRow (i9 (Y8 L) [T.int .i64 (0:Int),T.int .i64 (0:Int),T.v (Value.slice none 0 0),T.bool false,T.int .i64 (0:Int)] x.val) (0+(x.val:Int).toNat) 0 [T.int .i64 x_1.no,T.int .i64 x_1.pg.lsn,T.own 0 1 x_1.pg.sl.length (Z5 x_1.pg.sl),T.bool x_1.dirty,T.int .i64 x_1.first]) (i9 (Y8 L) [T.int .i64 (0:Int),T.int .i64 (0:Int),T.v (Value.slice none 0 0),T.bool false,T.int .i64 (0:Int)] y.val))/\True)/\Lt (L.length-y.val) (L.length-x.val))/\(decide ((x.val:Int)<(L.length:Int))=false->((0=0/\L.length=L.length)/\True)/\(x.val=L.length/\L.length=L.length/\U9 L.length (i9 (Y8 L) [T.int .i64 (0:Int),T.int .i64 (0:Int),T.v (Value.slice none 0 0),T.bool false,T.int .i64 (0:Int)] x.val) (Y8 L))/\True)) ⟨⟨by unfold Nn;omega,by unfold oH;omega,by unfold I5;omega,by unfold Lt;omega⟩,⟨⟨0,S7 _⟩,⟨Z8,⟨rfl,by omega⟩,Z9⟩,⟨rfl,by omega,xC λi _=>rfl⟩,trivial⟩,λx=>⟨λhc=> ?_,λhc=> ?_⟩⟩,rfl,iJ _ _ _⟩
 ·have hlt:=Y1 hc;exact⟨Y2 hlt,L.getD x.val default,⟨⟨⟨rfl,rfl,Z8,rfl,Z9⟩,trivial⟩,hb _ hlt⟩,Y2 hlt,⟨by omega,V2 _⟩,V7 hlt (by omega),⟨x.val+1,hlt⟩,⟨⟨Z8,Z7,by dsimp only;omega,trivial⟩,⟨rfl,rfl,xC λj _=>c9 (m:=5) (λ_=>rfl) rfl x.val rfl j⟩,trivial⟩,V4.ext_lt hlt⟩
 ·have hx:x.val=L.length:=by have:=x.2;have:=X9 hc;omega
  rw[hx];exact⟨T2,⟨rfl,rfl,xC λi hi=>wJ (n:=L.length) i hi⟩,trivial⟩
def b5m:Con:=.rmk ⟨Sto,λs=>[.agg s.ts],λ_=>[],λs=>.agg (s.tm 0),λs=>s.hp s.fr.length,mP⟩
theorem a9M:GK 38 b5m:=gk Tryz.func38<|by
 rintro(s:Sto) ⟨h1,h2,h3,h4⟩;exact⟨C4 (gC b2A (gC a8w (gC a8I gN))) Tryz.func38 Z0 [[.arr 3,.arr 4,.arr 5,.arr 6,.arr 7]] (α:=∃(x:Dsk),(((k4 s.d x)/\True)/\sQ x)/\∃(x_1:(List Rec)),(((s.log.length=List.length x_1/\Z6 s.log.length (Y7 s.log) (Y7 x_1))/\True)/\List.length x_1<=1048576)/\∃(x_2:(List Frm)),(((s.fr.length=List.length x_2/\Z6 s.fr.length (X3 s.fr) (X3 x_2))/\True)/\List.length x_2<=1048576/\∀(i:Nat),i<List.length x_2->SmF (List.getD x_2 i default))/\(((0=0/\x.sec.length=s.d.sec.length)/\(0=0/\x.cache.length=s.d.cache.length)/\x.armed=s.d.armed/\(0=0/\x.keep.length=s.d.keep.length)/\s.ep=s.ep/\(0=0/\List.length x_1=s.log.length)/\s.sure=s.sure/\(0=0/\List.length x_2=s.fr.length)/\s.hand=s.hand/\True)/\True)/\(Y5 Z5 x.sec s.d.sec)/\(Y5 Z3 x.cache s.d.cache)/\(Y5 Y9 x.keep s.d.keep)/\(List.length x_1=s.log.length/\Z6 (List.length x_1) (Y7 x_1) (Y7 s.log))/\(List.length x_2=s.fr.length/\List.length x_2=s.fr.length/\U9 (List.length x_2) (Y8 x_2) (Y8 s.fr))/\True) ⟨s.d,⟨⟨xN _,trivial⟩,h1⟩,s.log,⟨X8,h2⟩,s.fr,⟨X8,h3,h4⟩,⟨⟨Z7,Z7,rfl,Z7,rfl,Z7,rfl,Z7,Z9⟩,trivial⟩,Z8,Z8,Z8,Z8,S2,trivial⟩,rfl,vB s _⟩
end Go.Proofs.YtokaojbaacnngaaGreat

namespace Go.Proofs.YtokaojbaacnngaaGreat
set_option maxRecDepth 100000
open Go.SS

def dig(k:Nat):UInt8:=P6 (IntKind.u8.wrap (48+(k:Int).tmod 10))
def dgs(k:Nat)(acc:List UInt8):List UInt8:=if h:k=0 then acc else dgs (k/10) (dig k::acc)
termination_by k
decreasing_by omega
theorem b4r{k:Nat}(acc:List UInt8)(h:k≠0):dgs k acc=dgs (k/10) (dig k::acc):=by
 rw[dgs];simp[h]
theorem a9j(acc:List UInt8):dgs 0 acc=acc:=by
 rw[dgs];simp
def pC(k:Nat):List UInt8:=P6 109::dgs k []
def KB(n:Nat):Prop:=1<=n/\n<=10000000000000
def a1T:Con:=.rel ⟨Nat,λk=>[.int .i64 k],λk=>.str (pC k),KB⟩
def b3x(k:Nat):Type:={p:Nat×List UInt8//dgs p.1 p.2=dgs k []/\p.2.length+p.1<=k}
def a3u(k:Nat):Nat->Ann
 |0=>.one (b3x k) (λx=>⟨[(0,.int .i64 x.1.1),(3,.str x.1.2)],[]⟩) (λx=>x.1.1) [] [] (λ_=>Z0)
 |_=>.none
theorem A9:GK 175 a1T:=gk Tryz.func175<|by
 rintro(k:Nat) ⟨h1,h2⟩;have hz:Nz 10:=by unfold Nz;omega
 refine S6 gN Tryz.func175 (a3u k) (α:=(decide ((k:Int)<=(0:Int))=true->[(109:UInt8),(48:UInt8)]=pC k)/\(decide ((k:Int)<=(0:Int))=false->(∃(x:b3x k),((k:Int)=(x.val.1:Int)/\[]=x.val.2/\True)/\True)/\∀(x:b3x k),(decide ((x.val.1:Int)>(0:Int))=true->Nz (10:Int)/\X4 .i64 ((48:Int)+(x.val.1:Int).tmod (10:Int))/\X4 IntKind.u8 (IntKind.u8.wrap ((48:Int)+(x.val.1:Int).tmod (10:Int)))/\Le 1 1/\Lt (1+x.val.2.length) 9223372036854775808/\(Nz (10:Int)/\X4 .i64 ((x.val.1:Int).tdiv (10:Int)))/\∃(y:b3x k),(((x.val.1:Int).tdiv (10:Int)=(y.val.1:Int)/\List.take 1 (List.drop 0 (List.map P6 [IntKind.u8.wrap ((48:Int)+(x.val.1:Int).tmod (10:Int))]))++x.val.2=y.val.2/\True)/\True)/\Lt y.val.1 x.val.1)/\(decide ((x.val.1:Int)>(0:Int))=false->Lt (1+x.val.2.length) 9223372036854775808/\[(109:UInt8)]++x.val.2=pC k))) ⟨λh=>absurd (F3 h) (by omega),λ_=>⟨⟨⟨(k,[]),rfl,by simp⟩,⟨rfl,rfl,trivial⟩,trivial⟩,λx=> ?_⟩⟩
 obtain⟨⟨q,acc⟩,hd,hl⟩:=x;dsimp only at hd hl ⊢;have t1:(q:Int).tmod 10=((q % 10:Nat):Int):=by rw[Int.tmod_eq_emod_of_nonneg (by omega)];omega
 have t2:(q:Int).tdiv 10=((q/10:Nat):Int):=by rw[Int.tdiv_eq_ediv_of_nonneg (by omega)];omega
 refine⟨λhc=> ?_,λhc=> ?_⟩
 ·have hq:0<q:=by have:=F3 hc;omega
  refine⟨hz,Z4 (by rw[t1];omega),Q6 _,V2 _,by unfold Lt;omega,⟨hz,Z4 (by rw[t2];omega)⟩,⟨(q/10,dig q::acc),by rw[←hd];exact(b4r acc (by omega)).symm,by simp only[List.length_cons];omega⟩,⟨⟨t2,rfl,trivial⟩,trivial⟩,show q/10<q by omega⟩
 ·have hq:q=0:=by have:=yQ hc;omega
  subst hq;rw[a9j] at hd;refine⟨by unfold Lt;omega,?_⟩
  rw[hd];rfl
def v4(new old:Nat->List T)(x j:Nat):List T:=if j<x then new j else old j
theorem e9{new old:Nat->List T}{n:Nat}:Z6 n old (v4 new old 0):=λi _=>by unfold v4;rw[if_neg (F2 _)]
theorem xF{new old:Nat->List T}{n:Nat}:Z6 n (v4 new old n) new:=λi hi=>by unfold v4;rw[if_pos hi]
theorem aZ{new old:Nat->List T}{x:Nat}{f:Nat->List T}(h1:∀j,j≠x->f j=v4 new old x j)(h2:f x=new x)(j:Nat):f j=v4 new old (x+1) j:=by
 by_cases hj:j=x
 ·rw[hj,h2];unfold v4;rw[if_pos (Nat.lt_succ_self _)]
 ·rw[h1 j hj];unfold v4;by_cases h:j<x
  ·rw[if_pos h,if_pos (by omega)]
  ·rw[if_neg h,if_neg (by omega)]
theorem a6N{a b:Nat}(h:a≠b):Nat.beq a b=false:=by
 cases hb:Nat.beq a b with
 |false=>rfl
 |true=>exact absurd (H9 hb) h
theorem pD{a b:Nat}(h:a=b):Nat.beq a b=true:=by subst h;exact Nat.beq_refl a
theorem a41{new old:Nat->List T}{cs:List T}{m:Nat}(hn:∀j,(new j).length=m)(ho:∀j,(old j).length=m)(x:Nat)(hc:cs=new x)(j:Nat):setRow (v4 new old x) (0+(x:Int).toNat) 0 cs j=v4 new old (x+1) j:=by
 have hl:∀j,(v4 new old x j).length=m:=λj=>by unfold v4;split<;>simp only[hn,ho]
 refine aZ (f:=setRow (v4 new old x) (0+(x:Int).toNat) 0 cs) (λi hi=> ?_) ?_ j
 ·rw[I2 (by rw[hl,hc,hn]),show Nat.beq i (0+(x:Int).toNat)=false from a6N (by omega)]
 ·rw[I2 (by rw[hl,hc,hn]),show Nat.beq x (0+(x:Int).toNat)=true from pD (by omega),hc]
def o8(n k:Nat):List (List UInt8):=(List.range n).map λi=>pC (k+i)
def zV(n k:Nat):List Pend:=(List.range n).map λi=>⟨((k+2*i:Nat):Int),pC (k+2*i+1)⟩
def zF(n k:Nat):List Int:=(List.range n).map λi=>((k+i:Nat):Int)
def b7Q(k:Nat):Rec:=⟨(k:Int),(k:Int)+1,(k:Int)+1+1,(k:Int)+1+1+1,(k:Int)+1+1+1+1,(k:Int)+1+1+1+1+1,(k:Int)+1+1+1+1+1+1,(k:Int)+1+1+1+1+1+1+1,pC (k+8),pC (k+9)⟩
def C2(n k:Nat):List Rec:=(List.range n).map λi=>b7Q (k+10*i)
theorem y8{α:Type}(f:Nat->α){n i:Nat}(h:i<n)(d:α):((List.range n).map f).getD i d=f i:=by
 rw[L5,sH,List.getElem?_range h]
 rfl
theorem Q8{α:Type}(f:Nat->α)(n:Nat):((List.range n).map f).length=n:=by simp
def sP(n k m:Nat):Prop:=n<=1048576/\1<=k/\k+m*n<=10000000000000
def a23:Con:=.reff ⟨List (List UInt8)×Nat,λx=>[.osl 0 0 x.1.length,.int .i64 x.2],λx=>[G0 x.1],λx=>.int .i64 (x.2+x.1.length:Nat),λx=>[G0 (o8 x.1.length x.2)],λx=>sP x.1.length x.2 1⟩
def a3w(L:List (List UInt8))(k:Nat):Nat->Ann
 |0=>.one {i:Nat//i<=L.length} (λx=>⟨[(0,.osl 0 0 L.length),(1,.int .i64 (k+x.1:Nat)),(5,.int .i64 x.1)],[some (.arr true 0 1 L.length (v4 (Z5 (o8 L.length k)) (Z5 L) x.1))]⟩) (λx=>L.length-x.1) [.arr 0] [.arr 0] (λ_=>Z0)
 |_=>.none
theorem pL:GK 173 a23:=gk Tryz.func173<|by
 rintro⟨L,k⟩ ⟨h1,h2,h3⟩;dsimp only at h1 h2 h3;refine C4 (gC A9 gN) Tryz.func173 (a3w L k) [[.arr 0]] (α:=(∃(x:{i:Nat//i<=L.length}),((0=0/\L.length=L.length)/\(k:Int)=(↑(k+x.val):Int)/\(0:Int)=(x.val:Int)/\True)/\(L.length=L.length/\Z6 L.length (Z5 L) (v4 (Z5 (o8 L.length k)) (Z5 L) x.val))/\True)/\∀(x:{i:Nat//i<=L.length}),(decide ((x.val:Int)<(L.length:Int))=true->∃(x_1:Nat),(((↑(k+x.val):Int)=(x_1:Int)/\True)/\KB x_1)/\W4 (x.val:Int) L.length/\Lt (0+(x.val:Int).toNat) L.length/\X4 .i64 ((↑(k+x.val):Int)+(1:Int))/\X4 .i64 ((x.val:Int)+(1:Int))/\∃(y:{i:Nat//i<=L.length}),(((0=0/\L.length=L.length)/\(↑(k+x.val):Int)+(1:Int)=(↑(k+y.val):Int)/\(x.val:Int)+(1:Int)=(y.val:Int)/\True)/\(L.length=L.length/\Z6 L.length (setRow (v4 (Z5 (o8 L.length k)) (Z5 L) x.val) (0+(x.val:Int).toNat) 0 [T.str (pC x_1)]) (v4 (Z5 (o8 L.length k)) (Z5 L) y.val))/\True)/\Lt (L.length-y.val) (L.length-x.val))/\(decide ((x.val:Int)<(L.length:Int))=false->((↑(k+x.val):Int)=(↑(k+L.length):Int)/\True)/\(L.length=(o8 L.length k).length/\Z6 L.length (v4 (Z5 (o8 L.length k)) (Z5 L) x.val) (Z5 (o8 L.length k)))/\True)) ⟨⟨⟨0,S7 _⟩,⟨Z7,rfl,Z9⟩,⟨rfl,e9⟩,trivial⟩,λx=>⟨λhc=> ?_,λhc=> ?_⟩⟩
 ·have hlt:=Y1 hc;refine⟨k+x.val,⟨Z9,by omega,by omega⟩,Y2 hlt,by unfold Lt;omega,Z4 (by omega),Z4 (by omega),⟨x.val+1,hlt⟩,⟨⟨Z7,by dsimp only;omega,by dsimp only;omega,trivial⟩,⟨rfl,λj _=> ?_⟩,trivial⟩,V4.ext_lt hlt⟩
  exact a41 (m:=1) (λ_=>rfl) (λ_=>rfl) x.val (show[T.str (pC (k+x.val))]=Z5 (o8 L.length k) x.val by unfold Z5 o8;rw[y8 _ hlt]) j
 ·have hx:x.val=L.length:=by have:=x.2;have:=X9 hc;omega
  rw[hx];exact⟨Z9,⟨(Q8 _ _).symm,xF⟩,trivial⟩
def a1Y:Con:=.rel ⟨Nat×Nat,λx=>[C0 (o8 x.1 x.2),.int .i64 x.2],λx=>.int .i64 (x.2+x.1:Nat),λx=>sP x.1 x.2 1⟩
def a2I(n k:Nat):Nat->Ann
 |0=>.one {i:Nat//i<=n} (λx=>⟨[(0,C0 (o8 n k)),(1,.int .i64 (k+x.1:Nat)),(5,.int .i64 x.1)],[]⟩) (λx=>n-x.1) [] [] (λ_=>Z0)
 |_=>.none
theorem pX:GK 176 a1Y:=gk Tryz.func176<|by
 rintro⟨n,k⟩ ⟨h1,h2,h3⟩;dsimp only at h1 h2 h3;have hn:(o8 n k).length=n:=Q8 _ _;refine S6 (gC A9 gN) Tryz.func176 (a2I n k) (α:=(∃(x:{i:Nat//i<=n}),((Y5 Z5 (o8 n k) (o8 n k))/\(k:Int)=(↑(k+x.val):Int)/\(0:Int)=(x.val:Int)/\True)/\True)/\∀(x:{i:Nat//i<=n}),(decide ((x.val:Int)<(↑(o8 n k).length:Int))=true->W4 (x.val:Int) (o8 n k).length/\∃(x_1:Nat),(((↑(k+x.val):Int)=(x_1:Int)/\True)/\KB x_1)/\((!(o8 n k).getD (x.val:Int).toNat []==pC x_1)=true->(-1:Int)=(↑(k+n):Int))/\((!(o8 n k).getD (x.val:Int).toNat []==pC x_1)=false->X4 .i64 ((↑(k+x.val):Int)+(1:Int))/\X4 .i64 ((x.val:Int)+(1:Int))/\∃(y:{i:Nat//i<=n}),(((Y5 Z5 (o8 n k) (o8 n k))/\(↑(k+x.val):Int)+(1:Int)=(↑(k+y.val):Int)/\(x.val:Int)+(1:Int)=(y.val:Int)/\True)/\True)/\Lt (n-y.val) (n-x.val)))/\(decide ((x.val:Int)<(↑(o8 n k).length:Int))=false->(↑(k+x.val):Int)=(↑(k+n):Int))) ⟨⟨⟨0,S7 _⟩,⟨Z8,rfl,Z9⟩,trivial⟩,λx=>⟨λhc=> ?_,λhc=> ?_⟩⟩
 ·have hlt:=Y1 hc;have hlt':x.val<n:=by omega
  have e:(o8 n k).getD (x.val:Int).toNat []=pC (k+x.val):=by rw[u9];exact y8 _ hlt' _
  exact⟨Y2 hlt,k+x.val,⟨Z9,by omega,by omega⟩,λh=>by rw[e] at h;simp at h,λ_=>⟨Z4 (by omega),Z4 (by omega),⟨x.val+1,hlt'⟩,⟨⟨Z8,by dsimp only;omega,by dsimp only;omega,trivial⟩,trivial⟩,V4.ext_lt hlt'⟩⟩
 ·have hx:x.val=n:=by have:=x.2;have:=X9 hc;omega
  rw[hx]
end Go.Proofs.YtokaojbaacnngaaGreat

namespace Go.Proofs.YtokaojbaacnngaaGreat
set_option maxRecDepth 100000
open Go.SS

def pY(row:Nat->List T)(i:Nat):List (Nat×T)->Nat->List T
 | []=>row
 |(j,t)::r=>pY (setRow row i j [t]) i r
theorem P4{row:Nat->List T}{i j k:Nat}{cs:List T}(h:j+cs.length<=(row k).length)(hk:k≠i):setRow row i j cs k=row k:=by
 rw[y3 h,a6N hk]
theorem tP{row:Nat->List T}{i j:Nat}{t:T}(h:j<(row i).length):setRow row i j [t] i=(row i).set j t:=by
 rw[y3 (by simp;omega),pD rfl]
 rw[List.set_eq_take_append_cons_drop,if_pos h];simp
theorem lT{i k:Nat}(hk:k≠i):∀{l:List (Nat×T)} {row:Nat->List T},(∀p ∈ l,p.1<(row k).length)->pY row i l k=row k
 | [],row,_=>rfl
 |(j,t)::r,row,h=>by
  have h1:setRow row i j [t] k=row k:=P4 (by have:=h (j,t) (by simp);simp only[List.length_singleton];omega) hk
  show pY (setRow row i j [t]) i r k=row k;rw[lT hk (λp hp=>by rw[h1];exact h p (by simp[hp])),h1]
theorem mC{i:Nat}:∀{l:List (Nat×T)} {row:Nat->List T},(∀p ∈ l,p.1<(row i).length)->pY row i l i=l.foldl (λc p=>c.set p.1 p.2) (row i)
 | [],row,_=>rfl
 |(j,t)::r,row,h=>by
  have h1:setRow row i j [t] i=(row i).set j t:=tP (h (j,t) (by simp))
  show pY (setRow row i j [t]) i r i=r.foldl (λc p=>c.set p.1 p.2) ((row i).set j t)
  rw[mC (λp hp=>by rw[h1,l9];exact h p (by simp[hp])),h1]
theorem yH{new old:Nat->List T}{m:Nat}(hn:∀j,(new j).length=m)(ho:∀j,(old j).length=m)(x:Nat)(l:List (Nat×T))(hl:∀p ∈ l,p.1<m)(hc:l.foldl (λc p=>c.set p.1 p.2) (old x)=new x)(j:Nat):pY (v4 new old x) (0+(x:Int).toNat) l j=v4 new old (x+1) j:=by
 have hw:∀j,(v4 new old x j).length=m:=λj=>by unfold v4;split<;>simp only[hn,ho]
 have hx:0+(x:Int).toNat=x:=by omega
 rw[hx];refine aZ (f:=pY (v4 new old x) x l) (λi hi=> ?_) ?_ j
 ·exact lT hi λp hp=>by rw[hw];exact hl p hp
 ·rw[mC λp hp=>by rw[hw];exact hl p hp,show v4 new old x x=old x by unfold v4;rw[if_neg (Nat.lt_irrefl x)],hc]
def a1x:Con:=.reff ⟨List Int×Nat,λx=>[.osl 0 0 x.1.length,.int .i64 x.2],λx=>[A5 x.1],λx=>.int .i64 (x.2+x.1.length:Nat),λx=>[A5 (zF x.1.length x.2)],λx=>sP x.1.length x.2 1⟩
def a35(L:List Int)(k:Nat):Nat->Ann
 |0=>.one {i:Nat//i<=L.length} (λx=>⟨[(0,.osl 0 0 L.length),(1,.int .i64 (k+x.1:Nat)),(5,.int .i64 x.1)],[some (.arr true 0 1 L.length (v4 (Y9 (zF L.length k)) (Y9 L) x.1))]⟩) (λx=>L.length-x.1) [.arr 0] [.arr 0] (λ_=>Z0)
 |_=>.none
theorem bZ:GK 18 a1x:=gk Tryz.func18<|by
 rintro⟨L,k⟩ ⟨h1,h2,h3⟩;dsimp only at h1 h2 h3;refine C4 gN Tryz.func18 (a35 L k) [[.arr 0]] (α:=(∃(x:{i:Nat//i<=L.length}),((0=0/\L.length=L.length)/\(k:Int)=(↑(k+x.val):Int)/\(0:Int)=(x.val:Int)/\True)/\(L.length=L.length/\Z6 L.length (Y9 L) (v4 (Y9 (zF L.length k)) (Y9 L) x.val))/\True)/\∀(x:{i:Nat//i<=L.length}),(decide ((x.val:Int)<(L.length:Int))=true->W4 (x.val:Int) L.length/\Lt (0+(x.val:Int).toNat) L.length/\X4 .i64 ((↑(k+x.val):Int)+(1:Int))/\X4 .i64 ((x.val:Int)+(1:Int))/\∃(y:{i:Nat//i<=L.length}),(((0=0/\L.length=L.length)/\(↑(k+x.val):Int)+(1:Int)=(↑(k+y.val):Int)/\(x.val:Int)+(1:Int)=(y.val:Int)/\True)/\(L.length=L.length/\Z6 L.length (setRow (v4 (Y9 (zF L.length k)) (Y9 L) x.val) (0+(x.val:Int).toNat) 0 [T.int .i64 (↑(k+x.val):Int)]) (v4 (Y9 (zF L.length k)) (Y9 L) y.val))/\True)/\Lt (L.length-y.val) (L.length-x.val))/\(decide ((x.val:Int)<(L.length:Int))=false->((↑(k+x.val):Int)=(↑(k+L.length):Int)/\True)/\(L.length=(zF L.length k).length/\Z6 L.length (v4 (Y9 (zF L.length k)) (Y9 L) x.val) (Y9 (zF L.length k)))/\True)) ⟨⟨⟨0,S7 _⟩,⟨Z7,rfl,Z9⟩,⟨rfl,e9⟩,trivial⟩,λx=>⟨λhc=> ?_,λhc=> ?_⟩⟩
 ·have hlt:=Y1 hc;refine⟨Y2 hlt,by unfold Lt;omega,Z4 (by omega),Z4 (by omega),⟨x.val+1,hlt⟩,⟨⟨Z7,by dsimp only;omega,by dsimp only;omega,trivial⟩,⟨rfl,λj _=> ?_⟩,trivial⟩,V4.ext_lt hlt⟩
  exact a41 (m:=1) (λ_=>rfl) (λ_=>rfl) x.val (show[T.int .i64 ((k+x.val:Nat):Int)]=Y9 (zF L.length k) x.val by unfold Y9 zF;rw[y8 _ hlt]) j
 ·have hx:x.val=L.length:=by have:=x.2;have:=X9 hc;omega
  rw[hx];exact⟨Z9,⟨(Q8 _ _).symm,xF⟩,trivial⟩
def a3D:Con:=.rel ⟨Nat×Nat,λx=>[wE (zF x.1 x.2),.int .i64 x.2],λx=>.int .i64 (x.2+x.1:Nat),λx=>sP x.1 x.2 1⟩
def a1L(n k:Nat):Nat->Ann
 |0=>.one {i:Nat//i<=n} (λx=>⟨[(0,wE (zF n k)),(1,.int .i64 (k+x.1:Nat)),(5,.int .i64 x.1)],[]⟩) (λx=>n-x.1) [] [] (λ_=>Z0)
 |_=>.none
theorem a1q:GK 178 a3D:=gk Tryz.func178<|by
 rintro⟨n,k⟩ ⟨h1,h2,h3⟩;dsimp only at h1 h2 h3;have hn:(zF n k).length=n:=Q8 _ _;refine S6 gN Tryz.func178 (a1L n k) (α:=(∃(x:{i:Nat//i<=n}),((Y5 Y9 (zF n k) (zF n k))/\(k:Int)=(↑(k+x.val):Int)/\(0:Int)=(x.val:Int)/\True)/\True)/\∀(x:{i:Nat//i<=n}),(decide ((x.val:Int)<(↑(zF n k).length:Int))=true->W4 (x.val:Int) (zF n k).length/\(((zF n k).getD (x.val:Int).toNat (0:Int) !=(↑(k+x.val):Int))=true->(-1:Int)=(↑(k+n):Int))/\(((zF n k).getD (x.val:Int).toNat (0:Int) !=(↑(k+x.val):Int))=false->X4 .i64 ((↑(k+x.val):Int)+(1:Int))/\X4 .i64 ((x.val:Int)+(1:Int))/\∃(y:{i:Nat//i<=n}),(((Y5 Y9 (zF n k) (zF n k))/\(↑(k+x.val):Int)+(1:Int)=(↑(k+y.val):Int)/\(x.val:Int)+(1:Int)=(y.val:Int)/\True)/\True)/\Lt (n-y.val) (n-x.val)))/\(decide ((x.val:Int)<(↑(zF n k).length:Int))=false->(↑(k+x.val):Int)=(↑(k+n):Int))) ⟨⟨⟨0,S7 _⟩,⟨Z8,rfl,Z9⟩,trivial⟩,λx=>⟨λhc=> ?_,λhc=> ?_⟩⟩
 ·have hlt:=Y1 hc;have hlt':x.val<n:=by omega
  have e:(zF n k).getD (x.val:Int).toNat 0=((k+x.val:Nat):Int):=by rw[u9];exact y8 _ hlt' _
  exact⟨Y2 hlt,λh=>by rw[e] at h;simp at h,λ_=>⟨Z4 (by omega),Z4 (by omega),⟨x.val+1,hlt'⟩,⟨⟨Z8,by dsimp only;omega,by dsimp only;omega,trivial⟩,trivial⟩,V4.ext_lt hlt'⟩⟩
 ·have hx:x.val=n:=by have:=x.2;have:=X9 hc;omega
  rw[hx]
def aQ:Con:=.reff ⟨List Pend×Nat,λx=>[.osl 0 0 x.1.length,.int .i64 x.2],λx=>[I8 x.1],λx=>.int .i64 (x.2+2*x.1.length:Nat),λx=>[I8 (zV x.1.length x.2)],λx=>sP x.1.length x.2 2⟩
def aN(L:List Pend)(k:Nat):Nat->Ann
 |0=>.one {i:Nat//i<=L.length} (λx=>⟨[(0,.osl 0 0 L.length),(1,.int .i64 (k+2*x.1:Nat)),(5,.int .i64 x.1)],[some (.arr true 0 2 L.length (v4 (Z3 (zV L.length k)) (Z3 L) x.1))]⟩) (λx=>L.length-x.1) [.arr 0] [.arr 0] (λ_=>Z0)
 |_=>.none
theorem fM:GK 174 aQ:=gk Tryz.func174<|by
 rintro⟨L,k⟩ ⟨h1,h2,h3⟩;dsimp only at h1 h2 h3;refine C4 (gC A9 gN) Tryz.func174 (aN L k) [[.arr 0]] (α:=(∃(x:{i:Nat//i<=L.length}),((0=0/\L.length=L.length)/\(k:Int)=(↑(k+2*x.val):Int)/\(0:Int)=(x.val:Int)/\True)/\(L.length=L.length/\Z6 L.length (Z3 L) (v4 (Z3 (zV L.length k)) (Z3 L) x.val))/\True)/\∀(x:{i:Nat//i<=L.length}),(decide ((x.val:Int)<(L.length:Int))=true->W4 (x.val:Int) L.length/\Lt (0+(x.val:Int).toNat) L.length/\X4 .i64 ((↑(k+2*x.val):Int)+(1:Int))/\∃(x_1:Nat),(((↑(k+2*x.val):Int)+(1:Int)=(x_1:Int)/\True)/\KB x_1)/\W4 (x.val:Int) L.length/\Lt (0+(x.val:Int).toNat) L.length/\X4 .i64 ((↑(k+2*x.val):Int)+(1:Int)+(1:Int))/\X4 .i64 ((x.val:Int)+(1:Int))/\∃(y:{i:Nat//i<=L.length}),(((0=0/\L.length=L.length)/\(↑(k+2*x.val):Int)+(1:Int)+(1:Int)=(↑(k+2*y.val):Int)/\(x.val:Int)+(1:Int)=(y.val:Int)/\True)/\(L.length=L.length/\Z6 L.length (setRow (setRow (v4 (Z3 (zV L.length k)) (Z3 L) x.val) (0+(x.val:Int).toNat) 0 [T.int .i64 (↑(k+2*x.val):Int)]) (0+(x.val:Int).toNat) 1 [T.str (pC x_1)]) (v4 (Z3 (zV L.length k)) (Z3 L) y.val))/\True)/\Lt (L.length-y.val) (L.length-x.val))/\(decide ((x.val:Int)<(L.length:Int))=false->((↑(k+2*x.val):Int)=(↑(k+2*L.length):Int)/\True)/\(L.length=(zV L.length k).length/\Z6 L.length (v4 (Z3 (zV L.length k)) (Z3 L) x.val) (Z3 (zV L.length k)))/\True)) ⟨⟨⟨0,S7 _⟩,⟨Z7,rfl,Z9⟩,⟨rfl,e9⟩,trivial⟩,λx=>⟨λhc=> ?_,λhc=> ?_⟩⟩
 ·have hlt:=Y1 hc;have ib:=Y2 hlt;have lt:Lt (0+(x.val:Int).toNat) L.length:=by unfold Lt;omega
  refine⟨ib,lt,Z4 (by omega),k+2*x.val+1,⟨⟨by omega,trivial⟩,by omega,by omega⟩,ib,lt,Z4 (by omega),Z4 (by omega),⟨x.val+1,hlt⟩,⟨⟨Z7,by dsimp only;omega,by dsimp only;omega,trivial⟩,⟨rfl,λj _=> ?_⟩,trivial⟩,V4.ext_lt hlt⟩
  exact yH (m:=2) (λ_=>rfl) (λ_=>rfl) x.val [(0,.int .i64 (k+2*x.val:Nat)),(1,.str (pC (k+2*x.val+1)))] (by simp) (by unfold Z3 zV;rw[y8 _ hlt];rfl) j
 ·have hx:x.val=L.length:=by have:=x.2;have:=X9 hc;omega
  rw[hx];exact⟨Z9,⟨(Q8 _ _).symm,xF⟩,trivial⟩
def aJ:Con:=.rel ⟨Nat×Nat,λx=>[C8 (zV x.1 x.2),.int .i64 x.2],λx=>.int .i64 (x.2+2*x.1:Nat),λx=>sP x.1 x.2 2⟩
def cF(n k:Nat):Nat->Ann
 |0=>.one {i:Nat//i<=n} (λx=>⟨[(0,C8 (zV n k)),(1,.int .i64 (k+2*x.1:Nat)),(5,.int .i64 x.1)],[]⟩) (λx=>n-x.1) [] [] (λ_=>Z0)
 |_=>.none
theorem eH:GK 177 aJ:=gk Tryz.func177<|by
 rintro⟨n,k⟩ ⟨h1,h2,h3⟩;dsimp only at h1 h2 h3;have hn:(zV n k).length=n:=Q8 _ _;refine S6 (gC A9 gN) Tryz.func177 (cF n k) (α:=(∃(x:{i:Nat//i<=n}),((Y5 Z3 (zV n k) (zV n k))/\(k:Int)=(↑(k+2*x.val):Int)/\(0:Int)=(x.val:Int)/\True)/\True)/\∀(x:{i:Nat//i<=n}),(decide ((x.val:Int)<(↑(zV n k).length:Int))=true->W4 (x.val:Int) (zV n k).length/\((((zV n k).getD (x.val:Int).toNat default).at_ !=(↑(k+2*x.val):Int))=true->(-1:Int)=(↑(k+2*n):Int))/\((((zV n k).getD (x.val:Int).toNat default).at_ !=(↑(k+2*x.val):Int))=false->X4 .i64 ((↑(k+2*x.val):Int)+(1:Int))/\W4 (x.val:Int) (zV n k).length/\∃(x_1:Nat),(((↑(k+2*x.val):Int)+(1:Int)=(x_1:Int)/\True)/\KB x_1)/\((!((zV n k).getD (x.val:Int).toNat default).d==pC x_1)=true->(-1:Int)=(↑(k+2*n):Int))/\((!((zV n k).getD (x.val:Int).toNat default).d==pC x_1)=false->X4 .i64 ((↑(k+2*x.val):Int)+(1:Int)+(1:Int))/\X4 .i64 ((x.val:Int)+(1:Int))/\∃(y:{i:Nat//i<=n}),(((Y5 Z3 (zV n k) (zV n k))/\(↑(k+2*x.val):Int)+(1:Int)+(1:Int)=(↑(k+2*y.val):Int)/\(x.val:Int)+(1:Int)=(y.val:Int)/\True)/\True)/\Lt (n-y.val) (n-x.val))))/\(decide ((x.val:Int)<(↑(zV n k).length:Int))=false->(↑(k+2*x.val):Int)=(↑(k+2*n):Int))) ⟨⟨⟨0,S7 _⟩,⟨Z8,rfl,Z9⟩,trivial⟩,λx=>⟨λhc=> ?_,λhc=> ?_⟩⟩
 ·have hlt:=Y1 hc;have hlt':x.val<n:=by omega
  have e:(zV n k).getD (x.val:Int).toNat default=⟨((k+2*x.val:Nat):Int),pC (k+2*x.val+1)⟩:=by rw[u9];exact y8 _ hlt' _
  rw[e];have ib:=Y2 hlt;exact⟨ib,λh=>by simp at h,λ_=>⟨Z4 (by omega),ib,k+2*x.val+1,⟨⟨by omega,trivial⟩,by omega,by omega⟩,λh=>by simp at h,λ_=>⟨Z4 (by omega),Z4 (by omega),⟨x.val+1,hlt'⟩,⟨⟨Z8,by dsimp only;omega,by dsimp only;omega,trivial⟩,trivial⟩,V4.ext_lt hlt'⟩⟩⟩
 ·have hx:x.val=n:=by have:=x.2;have:=X9 hc;omega
  rw[hx]
def a1U:Con:=.reff ⟨List Rec×Nat,λx=>[.osl 0 0 x.1.length,.int .i64 x.2],λx=>[v6 x.1],λx=>.int .i64 (x.2+10*x.1.length:Nat),λx=>[v6 (C2 x.1.length x.2)],λx=>sP x.1.length x.2 10⟩
def a2E(L:List Rec)(k:Nat):Nat->Ann
 |0=>.one {i:Nat//i<=L.length} (λx=>⟨[(0,.osl 0 0 L.length),(1,.int .i64 (k+10*x.1:Nat)),(5,.int .i64 x.1)],[some (.arr true 0 10 L.length (v4 (Y7 (C2 L.length k)) (Y7 L) x.1))]⟩) (λx=>L.length-x.1) [.arr 0] [.arr 0] (λ_=>Z0)
 |_=>.none
theorem a0e:GK 100 a1U:=gk Tryz.func100<|by
 rintro⟨L,k⟩ ⟨h1,h2,h3⟩;dsimp only at h1 h2 h3;refine C4 (gC A9 gN) Tryz.func100 (a2E L k) [[.arr 0]] (α:=(∃(x:{i:Nat//i<=L.length}),((0=0/\L.length=L.length)/\(k:Int)=(↑(k+10*x.val):Int)/\(0:Int)=(x.val:Int)/\True)/\(L.length=L.length/\Z6 L.length (Y7 L) (v4 (Y7 (C2 L.length k)) (Y7 L) x.val))/\True)/\∀(x:{i:Nat//i<=L.length}),(decide ((x.val:Int)<(L.length:Int))=true->W4 (x.val:Int) L.length/\Lt (0+(x.val:Int).toNat) L.length/\X4 .i64 ((↑(k+10*x.val):Int)+(1:Int))/\W4 (x.val:Int) L.length/\Lt (0+(x.val:Int).toNat) L.length/\X4 .i64 ((↑(k+10*x.val):Int)+(1:Int)+(1:Int))/\W4 (x.val:Int) L.length/\Lt (0+(x.val:Int).toNat) L.length/\X4 .i64 ((↑(k+10*x.val):Int)+(1:Int)+(1:Int)+(1:Int))/\W4 (x.val:Int) L.length/\Lt (0+(x.val:Int).toNat) L.length/\X4 .i64 ((↑(k+10*x.val):Int)+(1:Int)+(1:Int)+(1:Int)+(1:Int))/\W4 (x.val:Int) L.length/\Lt (0+(x.val:Int).toNat) L.length/\X4 .i64 ((↑(k+10*x.val):Int)+(1:Int)+(1:Int)+(1:Int)+(1:Int)+(1:Int))/\W4 (x.val:Int) L.length/\Lt (0+(x.val:Int).toNat) L.length/\X4 .i64 ((↑(k+10*x.val):Int)+(1:Int)+(1:Int)+(1:Int)+(1:Int)+(1:Int)+(1:Int))/\W4 (x.val:Int) L.length/\Lt (0+(x.val:Int).toNat) L.length/\X4 .i64 ((↑(k+10*x.val):Int)+(1:Int)+(1:Int)+(1:Int)+(1:Int)+(1:Int)+(1:Int)+(1:Int))/\W4 (x.val:Int) L.length/\Lt (0+(x.val:Int).toNat) L.length/\X4 .i64 ((↑(k+10*x.val):Int)+(1:Int)+(1:Int)+(1:Int)+(1:Int)+(1:Int)+(1:Int)+(1:Int)+(1:Int))/\∃(x_1:Nat),(((↑(k+10*x.val):Int)+(1:Int)+(1:Int)+(1:Int)+(1:Int)+(1:Int)+(1:Int)+(1:Int)+(1:Int)=(x_1:Int)/\True)/\KB x_1)/\W4 (x.val:Int) L.length/\Lt (0+(x.val:Int).toNat) L.length/\X4 .i64 ((↑(k+10*x.val):Int)+(1:Int)+(1:Int)+(1:Int)+(1:Int)+(1:Int)+(1:Int)+(1:Int)+(1:Int)+(1:Int))/\∃(x_2:Nat),(((↑(k+10*x.val):Int)+(1:Int)+(1:Int)+(1:Int)+(1:Int)+(1:Int)+(1:Int)+(1:Int)+(1:Int)+(1:Int)=(x_2:Int)/\True)/\KB x_2)/\W4 (x.val:Int) L.length/\Lt (0+(x.val:Int).toNat) L.length/\X4 .i64 ((↑(k+10*x.val):Int)+(1:Int)+(1:Int)+(1:Int)+(1:Int)+(1:Int)+(1:Int)+(1:Int)+(1:Int)+(1:Int)+(1:Int))/\X4 .i64 ((x.val:Int)+(1:Int))/\∃(y:{i:Nat//i<=L.length}),(((0=0/\L.length=L.length)/\(↑(k+10*x.val):Int)+(1:Int)+(1:Int)+(1:Int)+(1:Int)+(1:Int)+(1:Int)+(1:Int)+(1:Int)+(1:Int)+(1:Int)=(↑(k+10*y.val):Int)/\(x.val:Int)+(1:Int)=(y.val:Int)/\True)/\(L.length=L.length/\Z6 L.length (setRow (setRow (setRow (setRow (setRow (setRow (setRow (setRow (setRow (setRow (v4 (Y7 (C2 L.length k)) (Y7 L) x.val) (0+(x.val:Int).toNat) 0 [T.int .i64 (↑(k+10*x.val):Int)]) (0+(x.val:Int).toNat) 1 [T.int .i64 ((↑(k+10*x.val):Int)+(1:Int))]) (0+(x.val:Int).toNat) 2 [T.int .i64 ((↑(k+10*x.val):Int)+(1:Int)+(1:Int))]) (0+(x.val:Int).toNat) 3 [T.int .i64 ((↑(k+10*x.val):Int)+(1:Int)+(1:Int)+(1:Int))]) (0+(x.val:Int).toNat) 4 [T.int .i64 ((↑(k+10*x.val):Int)+(1:Int)+(1:Int)+(1:Int)+(1:Int))]) (0+(x.val:Int).toNat) 5 [T.int .i64 ((↑(k+10*x.val):Int)+(1:Int)+(1:Int)+(1:Int)+(1:Int)+(1:Int))]) (0+(x.val:Int).toNat) 6 [T.int .i64 ((↑(k+10*x.val):Int)+(1:Int)+(1:Int)+(1:Int)+(1:Int)+(1:Int)+(1:Int))]) (0+(x.val:Int).toNat) 7 [T.int .i64 ((↑(k+10*x.val):Int)+(1:Int)+(1:Int)+(1:Int)+(1:Int)+(1:Int)+(1:Int)+(1:Int))]) (0+(x.val:Int).toNat) 8 [T.str (pC x_1)]) (0+(x.val:Int).toNat) 9 [T.str (pC x_2)]) (v4 (Y7 (C2 L.length k)) (Y7 L) y.val))/\True)/\Lt (L.length-y.val) (L.length-x.val))/\(decide ((x.val:Int)<(L.length:Int))=false->((↑(k+10*x.val):Int)=(↑(k+10*L.length):Int)/\True)/\(L.length=(C2 L.length k).length/\Z6 L.length (v4 (Y7 (C2 L.length k)) (Y7 L) x.val) (Y7 (C2 L.length k)))/\True)) ⟨⟨⟨0,S7 _⟩,⟨Z7,rfl,Z9⟩,⟨rfl,e9⟩,trivial⟩,λx=>⟨λhc=> ?_,λhc=> ?_⟩⟩
 ·have hlt:=Y1 hc;have ib:=Y2 hlt;have lt:Lt (0+(x.val:Int).toNat) L.length:=by unfold Lt;omega
  refine⟨ib,lt,Z4 (by omega),ib,lt,Z4 (by omega),ib,lt,Z4 (by omega),ib,lt,Z4 (by omega),ib,lt,Z4 (by omega),ib,lt,Z4 (by omega),ib,lt,Z4 (by omega),ib,lt,Z4 (by omega),k+10*x.val+8,⟨⟨by omega,trivial⟩,by omega,by omega⟩,ib,lt,Z4 (by omega),k+10*x.val+9,⟨⟨by omega,trivial⟩,by omega,by omega⟩,ib,lt,Z4 (by omega),Z4 (by omega),⟨x.val+1,hlt⟩,⟨⟨Z7,by dsimp only;omega,by dsimp only;omega,trivial⟩,⟨rfl,λj _=> ?_⟩,trivial⟩,V4.ext_lt hlt⟩
  exact yH (m:=10) (λ_=>rfl) (λ_=>rfl) x.val [(0,.int .i64 (((k+10*x.val:Nat):Int))),(1,.int .i64 (((k+10*x.val:Nat):Int)+1)),(2,.int .i64 (((k+10*x.val:Nat):Int)+1+1)),(3,.int .i64 (((k+10*x.val:Nat):Int)+1+1+1)),(4,.int .i64 (((k+10*x.val:Nat):Int)+1+1+1+1)),(5,.int .i64 (((k+10*x.val:Nat):Int)+1+1+1+1+1)),(6,.int .i64 (((k+10*x.val:Nat):Int)+1+1+1+1+1+1)),(7,.int .i64 (((k+10*x.val:Nat):Int)+1+1+1+1+1+1+1)),(8,.str (pC (k+10*x.val+8))),(9,.str (pC (k+10*x.val+9)))] (by simp) (by unfold Y7 C2;rw[y8 _ hlt];rfl) j
 ·have hx:x.val=L.length:=by have:=x.2;have:=X9 hc;omega
  rw[hx];exact⟨Z9,⟨(Q8 _ _).symm,xF⟩,trivial⟩
def a2W:Con:=.rel ⟨Nat×Nat,λx=>[o5 (C2 x.1 x.2),.int .i64 x.2],λx=>.int .i64 (x.2+10*x.1:Nat),λx=>sP x.1 x.2 10⟩
def a4t(n k:Nat):Nat->Ann
 |0=>.one {i:Nat//i<=n} (λx=>⟨[(0,o5 (C2 n k)),(1,.int .i64 (k+10*x.1:Nat)),(5,.int .i64 x.1)],[]⟩) (λx=>n-x.1) [] [] (λ_=>Z0)
 |_=>.none
theorem aH:GK 105 a2W:=gk Tryz.func105<|by
 rintro⟨n,k⟩ ⟨h1,h2,h3⟩;dsimp only at h1 h2 h3;have hn:(C2 n k).length=n:=Q8 _ _;refine S6 (gC A9 gN) Tryz.func105 (a4t n k) (α:=(∃(x:{i:Nat//i<=n}),((Y5 Y7 (C2 n k) (C2 n k))/\(k:Int)=(↑(k+10*x.val):Int)/\(0:Int)=(x.val:Int)/\True)/\True)/\∀(x:{i:Nat//i<=n}),(decide ((x.val:Int)<(↑(C2 n k).length:Int))=true->W4 (x.val:Int) (C2 n k).length/\((((C2 n k).getD (x.val:Int).toNat default).e !=(↑(k+10*x.val):Int))=true->(-1:Int)=(↑(k+10*n):Int))/\((((C2 n k).getD (x.val:Int).toNat default).e !=(↑(k+10*x.val):Int))=false->X4 .i64 ((↑(k+10*x.val):Int)+(1:Int))/\W4 (x.val:Int) (C2 n k).length/\((((C2 n k).getD (x.val:Int).toNat default).l !=(↑(k+10*x.val):Int)+(1:Int))=true->(-1:Int)=(↑(k+10*n):Int))/\((((C2 n k).getD (x.val:Int).toNat default).l !=(↑(k+10*x.val):Int)+(1:Int))=false->X4 .i64 ((↑(k+10*x.val):Int)+(1:Int)+(1:Int))/\W4 (x.val:Int) (C2 n k).length/\((((C2 n k).getD (x.val:Int).toNat default).t !=(↑(k+10*x.val):Int)+(1:Int)+(1:Int))=true->(-1:Int)=(↑(k+10*n):Int))/\((((C2 n k).getD (x.val:Int).toNat default).t !=(↑(k+10*x.val):Int)+(1:Int)+(1:Int))=false->X4 .i64 ((↑(k+10*x.val):Int)+(1:Int)+(1:Int)+(1:Int))/\W4 (x.val:Int) (C2 n k).length/\((((C2 n k).getD (x.val:Int).toNat default).k !=(↑(k+10*x.val):Int)+(1:Int)+(1:Int)+(1:Int))=true->(-1:Int)=(↑(k+10*n):Int))/\((((C2 n k).getD (x.val:Int).toNat default).k !=(↑(k+10*x.val):Int)+(1:Int)+(1:Int)+(1:Int))=false->X4 .i64 ((↑(k+10*x.val):Int)+(1:Int)+(1:Int)+(1:Int)+(1:Int))/\W4 (x.val:Int) (C2 n k).length/\((((C2 n k).getD (x.val:Int).toNat default).p !=(↑(k+10*x.val):Int)+(1:Int)+(1:Int)+(1:Int)+(1:Int))=true->(-1:Int)=(↑(k+10*n):Int))/\((((C2 n k).getD (x.val:Int).toNat default).p !=(↑(k+10*x.val):Int)+(1:Int)+(1:Int)+(1:Int)+(1:Int))=false->X4 .i64 ((↑(k+10*x.val):Int)+(1:Int)+(1:Int)+(1:Int)+(1:Int)+(1:Int))/\W4 (x.val:Int) (C2 n k).length/\((((C2 n k).getD (x.val:Int).toNat default).n !=(↑(k+10*x.val):Int)+(1:Int)+(1:Int)+(1:Int)+(1:Int)+(1:Int))=true->(-1:Int)=(↑(k+10*n):Int))/\((((C2 n k).getD (x.val:Int).toNat default).n !=(↑(k+10*x.val):Int)+(1:Int)+(1:Int)+(1:Int)+(1:Int)+(1:Int))=false->X4 .i64 ((↑(k+10*x.val):Int)+(1:Int)+(1:Int)+(1:Int)+(1:Int)+(1:Int)+(1:Int))/\W4 (x.val:Int) (C2 n k).length/\((((C2 n k).getD (x.val:Int).toNat default).g !=(↑(k+10*x.val):Int)+(1:Int)+(1:Int)+(1:Int)+(1:Int)+(1:Int)+(1:Int))=true->(-1:Int)=(↑(k+10*n):Int))/\((((C2 n k).getD (x.val:Int).toNat default).g !=(↑(k+10*x.val):Int)+(1:Int)+(1:Int)+(1:Int)+(1:Int)+(1:Int)+(1:Int))=false->X4 .i64 ((↑(k+10*x.val):Int)+(1:Int)+(1:Int)+(1:Int)+(1:Int)+(1:Int)+(1:Int)+(1:Int))/\W4 (x.val:Int) (C2 n k).length/\((((C2 n k).getD (x.val:Int).toNat default).s !=(↑(k+10*x.val):Int)+(1:Int)+(1:Int)+(1:Int)+(1:Int)+(1:Int)+(1:Int)+(1:Int))=true->(-1:Int)=(↑(k+10*n):Int))/\((((C2 n k).getD (x.val:Int).toNat default).s !=(↑(k+10*x.val):Int)+(1:Int)+(1:Int)+(1:Int)+(1:Int)+(1:Int)+(1:Int)+(1:Int))=false->X4 .i64 ((↑(k+10*x.val):Int)+(1:Int)+(1:Int)+(1:Int)+(1:Int)+(1:Int)+(1:Int)+(1:Int)+(1:Int))/\W4 (x.val:Int) (C2 n k).length/\∃(x_1:Nat),(((↑(k+10*x.val):Int)+(1:Int)+(1:Int)+(1:Int)+(1:Int)+(1:Int)+(1:Int)+(1:Int)+(1:Int)=(x_1:Int)/\True)/\KB x_1)/\((!((C2 n k).getD (x.val:Int).toNat default).b==pC x_1)=true->(-1:Int)=(↑(k+10*n):Int))/\((!((C2 n k).getD (x.val:Int).toNat default).b==pC x_1)=false->X4 .i64 ((↑(k+10*x.val):Int)+(1:Int)+(1:Int)+(1:Int)+(1:Int)+(1:Int)+(1:Int)+(1:Int)+(1:Int)+(1:Int))/\W4 (x.val:Int) (C2 n k).length/\∃(x_2:Nat),(((↑(k+10*x.val):Int)+(1:Int)+(1:Int)+(1:Int)+(1:Int)+(1:Int)+(1:Int)+(1:Int)+(1:Int)+(1:Int)=(x_2:Int)/\True)/\KB x_2)/\((!((C2 n k).getD (x.val:Int).toNat default).a==pC x_2)=true->(-1:Int)=(↑(k+10*n):Int))/\((!((C2 n k).getD (x.val:Int).toNat default).a==pC x_2)=false->X4 .i64 ((↑(k+10*x.val):Int)+(1:Int)+(1:Int)+(1:Int)+(1:Int)+(1:Int)+(1:Int)+(1:Int)+(1:Int)+(1:Int)+(1:Int))/\X4 .i64 ((x.val:Int)+(1:Int))/\∃(y:{i:Nat//i<=n}),(((Y5 Y7 (C2 n k) (C2 n k))/\(↑(k+10*x.val):Int)+(1:Int)+(1:Int)+(1:Int)+(1:Int)+(1:Int)+(1:Int)+(1:Int)+(1:Int)+(1:Int)+(1:Int)=(↑(k+10*y.val):Int)/\(x.val:Int)+(1:Int)=(y.val:Int)/\True)/\True)/\Lt (n-y.val) (n-x.val))))))))))))/\(decide ((x.val:Int)<(↑(C2 n k).length:Int))=false->(↑(k+10*x.val):Int)=(↑(k+10*n):Int))) ⟨⟨⟨0,S7 _⟩,⟨Z8,rfl,Z9⟩,trivial⟩,λx=>⟨λhc=> ?_,λhc=> ?_⟩⟩
 ·have hlt:=Y1 hc;have hlt':x.val<n:=by omega
  have e:(C2 n k).getD (x.val:Int).toNat default=b7Q (k+10*x.val):=by rw[u9];exact y8 _ hlt' _
  rw[e];have ib:=Y2 hlt;unfold b7Q;exact⟨ib,λh=>by simp at h,λ_=>⟨Z4 (by omega),ib,λh=>by simp at h,λ_=>⟨Z4 (by omega),ib,λh=>by simp at h,λ_=>⟨Z4 (by omega),ib,λh=>by simp at h,λ_=>⟨Z4 (by omega),ib,λh=>by simp at h,λ_=>⟨Z4 (by omega),ib,λh=>by simp at h,λ_=>⟨Z4 (by omega),ib,λh=>by simp at h,λ_=>⟨Z4 (by omega),ib,λh=>by simp at h,λ_=>⟨Z4 (by omega),ib,k+10*x.val+8,⟨⟨by omega,trivial⟩,by omega,by omega⟩,λh=>by simp at h,λ_=>⟨Z4 (by omega),ib,k+10*x.val+9,⟨⟨by omega,trivial⟩,by omega,by omega⟩,λh=>by simp at h,λ_=>⟨Z4 (by omega),Z4 (by omega),⟨x.val+1,hlt'⟩,⟨⟨Z8,by dsimp only;omega,by dsimp only;omega,trivial⟩,trivial⟩,V4.ext_lt hlt'⟩⟩⟩⟩⟩⟩⟩⟩⟩⟩⟩
 ·have hx:x.val=n:=by have:=x.2;have:=X9 hc;omega
  rw[hx]
end Go.Proofs.YtokaojbaacnngaaGreat

