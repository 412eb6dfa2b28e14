/- A part of the proof. -/
import Derived.Test.YtokaojbaacnngaaGreatRows
import Derived.Test.YtokaojbaacnngaaGreatSS19
namespace Go.Proofs.YtokaojbaacnngaaGreat
set_option maxRecDepth 100000
open Go.SS

def Z0:Nat->Ann:=λ_=>.none

theorem b0t:Tryz.prog.follows .mixedOrders=true:=by kernel_rfl
theorem leB{a b:Nat}(h:Nat.ble a b=true):a<=b:=m5 h
theorem b7I:F6 Tryz.prog []:=λ_ h=>by cases h
theorem b2C:∀x ∈ ([]:I4),R4 Tryz.prog x.1:=λ_ h=>by cases h
theorem b52{f:FuncId}{c:Con}{G:I4}(h:bT Tryz.prog f c)(k:F6 Tryz.prog G):F6 Tryz.prog ((f,c)::G):=λx hx=>by
 rcases vN.1 hx with rfl|hx
 ·exact h
 ·exact k x hx
theorem a7F{f:FuncId}{c:Con}{G:I4}(h:R4 Tryz.prog f)(k:∀x ∈ G,R4 Tryz.prog x.1):∀x ∈ (f,c)::G,R4 Tryz.prog x.1:=λx hx=>by
 rcases vN.1 hx with rfl|hx
 ·exact h
 ·exact k x hx
def GG(G:I4):Prop:=F6 Tryz.prog G/\∀x ∈ G,R4 Tryz.prog x.1
theorem gN:GG []:=⟨b7I,b2C⟩
def GK(f:FuncId)(c:Con):Prop:=bT Tryz.prog f c/\R4 Tryz.prog f
theorem gk{f:FuncId}{c:Con}{fn:Func}(h:Tryz.prog.funcs[f]? =some fn)(k:bT Tryz.prog f c)(a:(fn.name== "runtime.NumGoroutine")=false:=by kernel_rfl)(b:fn.body.isNone=false:=by kernel_rfl):GK f c:=⟨k,fn,h,a,b⟩
theorem gC{f:FuncId}{c:Con}{G:I4}(h:GK f c)(r:GG G):GG ((f,c)::G):=⟨b52 h.1 r.1,a7F h.2 r.2⟩
theorem S6{G:I4}{f:FuncId}{fn:Func}{args:List T}{res:T}(g:GG G)(hf:Tryz.prog.funcs[f]? =some fn)(A:Nat->Ann){α:Prop}(h:α)(hb:fn.body=some (fn.body.getD .skip):=by kernel_rfl)(hn:Nat.ble args.length fn.ntmps=true:=by kernel_rfl)(e:α=b9o Tryz.prog G fn.ntmps fn.results.toList (fn.body.getD .skip) args res A:=by kernel_rfl):U6 Tryz.prog f args res:=
 b9J b0t g.1 g.2 hf hb (leB hn) A (Eq.mp e h)
theorem Z7{q r:Sort _}{a:q}{b:r}:a=a/\b=b:=⟨rfl,rfl⟩
theorem Z8{q:Sort _}{a:q}{n:Nat}{r:Nat->List T}:a=a/\Z6 n r r:=⟨rfl,λ_ _=>rfl⟩
theorem v5:True/\True:=⟨trivial,trivial⟩
theorem X8{q0:Sort _}{a0:q0}{a1:Nat}{a2:Nat->List T}:(a0=a0/\Z6 a1 a2 a2)/\True:=⟨Z8,trivial⟩
theorem T2{q0:Sort _}{a0:q0}{q1:Sort _}{a1:q1}:(a0=a0/\a1=a1)/\True:=⟨Z7,trivial⟩
theorem Z9{q0:Sort _}{a0:q0}:a0=a0/\True:=⟨rfl,trivial⟩
theorem C4{G:I4}{f:FuncId}{fn:Func}{args:List T}{H Hres:Y3}{res:T}(g:GG G)(hf:Tryz.prog.funcs[f]? =some fn)(A:Nat->Ann)(lk:List (List Lk)){α:Prop}(h:α)(hb:fn.body=some (fn.body.getD .skip):=by kernel_rfl)(hn:Nat.ble args.length fn.ntmps=true:=by kernel_rfl)(e:α=b6s Tryz.prog G fn.ntmps fn.results.toList (fn.body.getD .skip) args H res Hres A lk:=by kernel_rfl):B1 Tryz.prog f args H res Hres:=
 b8d b0t g.1 g.2 hf hb (leB hn) A lk (Eq.mp e h)
theorem vcE{G:I4}{f:FuncId}{fn:Func}{args:List T}{H Hres:Y3}{bs:List Bool}{res:T}(g:GG G)(hf:Tryz.prog.funcs[f]? =some fn)(A:Nat->Ann){α:Prop}(h:α)(hb:fn.body=some (fn.body.getD .skip):=by kernel_rfl)(hn:Nat.ble args.length fn.ntmps=true:=by kernel_rfl)(e:α=b6B Tryz.prog G fn.ntmps fn.results.toList (fn.body.getD .skip) args H bs res Hres A:=by kernel_rfl)(hl:H.length=bs.length:=by rfl):B1 Tryz.prog f args H res Hres:=
 b7p b0t g.1 g.2 hf hb (leB hn) hl A (Eq.mp e h)
abbrev Y5{α:Type}(row:List α->Nat->List T)(A B:List α):Prop:=A.length=B.length/\Z6 A.length (row A) (row B)
theorem Z4{n:Int}(h: -9223372036854775808<=n/\n<=9223372036854775807):X4 .i64 n:=by
 unfold X4;simp only[IntKind.min,IntKind.max,IntKind.bits,IntKind.signed];simp;omega
theorem z9(n:Int):X4 .i64 n↔(-9223372036854775808<=n/\n<=9223372036854775807):=by
 unfold X4;simp only[IntKind.min,IntKind.max,IntKind.bits,IntKind.signed];simp
theorem qE(x:UInt8):IntKind.i64.wrap (x.toNat:Int)=x.toNat:=by
 have:=x.toNat_lt;rw[IntKind.wrap_i64];omega
def s9(n:Int):Prop:= -1000000000000000<=n/\n<=1000000000000000

def W2(n lo hi:Int):Bool:=decide (lo<=n)&&decide (n<=hi)
def vL:List T->Option (T×Option Prop)
 | [.int .i64 n,.int .i64 lo,.int .i64 hi]=>some (.bool (W2 n lo hi),none)
 |_=>none
def a6M:Con:=.pure vL
theorem a6w(n lo hi:Int)(h:
  (decide (lo<=n)&&decide (n<=hi))=W2 n lo hi):
  U6 Tryz.prog 122 [.int .i64 n,.int .i64 lo,.int .i64 hi] (.bool (W2 n lo hi)):=
 S6 gN Tryz.func122 Z0 h
theorem O5:GK 122 a6M:=gk Tryz.func122<|by
 intro args res p h hp;unfold vL at h;split at h
 ·simp only[X1,U4] at h;obtain⟨rfl,rfl⟩:=h;exact a6w _ _ _ rfl
 ·cases h
def b5y:Con:=.pure vL
theorem b5x(n lo hi:Int)(h:
  (decide (lo<=n)&&decide (n<=hi))=W2 n lo hi):
  U6 Tryz.prog 74 [.int .i64 n,.int .i64 lo,.int .i64 hi] (.bool (W2 n lo hi)):=
 S6 gN Tryz.func74 Z0 h
theorem z8:GK 74 b5y:=gk Tryz.func74<|by
 intro args res p h hp;unfold vL at h;split at h
 ·simp only[X1,U4] at h;obtain⟨rfl,rfl⟩:=h;exact b5x _ _ _ rfl
 ·cases h
def iC:List T->Option (T×Option Prop)
 | [.int .i64 n,.int .i64 m]=>some (.bool (decide (0<=n)&&decide (n<m)),some (s9 m))
 |_=>none
def a7h:Con:=.pure iC
theorem a68(n m:Int)(h:
  X4 .i64 (m- (1:Int))/\W2 n (0:Int) (m- (1:Int))=(decide ((0:Int)<=n)&&decide (n<m))):
  U6 Tryz.prog 155 [.int .i64 n,.int .i64 m] (.bool (decide (0<=n)&&decide (n<m))):=
 S6 (gC O5 gN) Tryz.func155 Z0 h
theorem wM:GK 155 a7h:=gk Tryz.func155<|by
 intro args res p h hp;unfold iC at h;split at h
 ·simp only[X1,U4] at h;obtain⟨rfl,rfl⟩:=h;have hp:s9 _:=hp;unfold s9 at hp;refine a68 _ _ ⟨Z4 (by omega),?_⟩
  unfold W2;congr 1
  exact decide_eq_decide.2 (by omega)
 ·cases h
end Go.Proofs.YtokaojbaacnngaaGreat

namespace Go.Proofs.YtokaojbaacnngaaGreat
set_option maxRecDepth 100000
open Go.SS

def big(l:List UInt8)(n:Int):Bool:=decide (n>(l.length:Int))
def S4(l:List UInt8)(n:Int):List UInt8:=if big l n then List.replicate n.toNat 0 else l.take n.toNat
def O3(l:List UInt8)(n:Int):List UInt8:=if big l n then l else l.drop n.toNat
def rdr(l:List UInt8)(fl:Bool):Option Ob:=some (.arr true 1000000 2 1 λ_=>[.bys l,.bool fl])
def wZ(n:Int):Prop:=0<=n/\n<140737488355328
theorem oS{ty:TypeId}{row:Nat->List T}{l:List UInt8}{fl:Bool}(h:row 0=[.bys l,.bool fl]):b3y [some (.arr true ty 2 1 row)] [rdr l fl]:=
 ⟨.rows _ _ _ _ _ _ _ λi hi=>by(obtain rfl:i=0:=by omega);exact h,trivial⟩
def b07:List T->Y3->Option (T×Y3×Option Prop)
 | [.ref 0 0 0,.int .i64 n],[some (.arr true _ 2 1 row)]=>match row 0 with
  | [.bys l,.bool fl]=>some (.bys (S4 l n),[rdr (O3 l n) (fl||big l n)],some (wZ n))
  |_=>none
 |_,_=>none
def b8A:Con:=.eff b07
theorem rX:GK 256 b8A:=gk Tryz.func256<|by
 intro args H res H' p h hp;unfold b07 at h;split at h
 ·rename_i n ty row;split at h
  ·rename_i l fl hrow;simp only[X1,U4] at h;obtain⟨rfl,rfl,rfl⟩:=h;obtain⟨h0,h1⟩:wZ n:=hp;refine uY (oS hrow) ?_
   refine vcE gN Tryz.func256 Z0 (bs:=[true]) (α:=(decide (n>(l.length:Int))=true->(Nn n/\oH n n/\I5 1 n.toNat 140737488355328/\Lt n.toNat 9223372036854775808)/\Le (0+n.toNat) (List.replicate n.toNat (0:UInt8)).length/\List.take n.toNat (List.drop 0 (List.replicate n.toNat (0:UInt8)))=S4 l n/\(1=1/\1=1/\l=O3 l n/\true=(fl||big l n)/\True)/\True)/\(decide (n>(l.length:Int))=false->InC n l.length/\InC n l.length/\List.take n.toNat l=S4 l n/\(1=1/\1=1/\List.drop n.toNat l=O3 l n/\fl=(fl||big l n)/\True)/\True)) ⟨λhb=> ?_,λhb=> ?_⟩
   ·have hbig:big l n=true:=hb;refine⟨⟨h0,Int.le_refl _,by unfold I5;omega,by unfold Lt;omega⟩,by unfold Le;simp,?_,⟨rfl,rfl,?_,?_,trivial⟩,trivial⟩
    ·simp[S4,hbig]
    ·simp[O3,hbig]
    ·simp[hbig]
   ·have hbig:big l n=false:=hb;have hle:n<=l.length:=by simpa[big] using hbig
    refine⟨⟨h0,hle⟩,⟨h0,hle⟩,?_,⟨rfl,rfl,?_,?_,trivial⟩,trivial⟩
    ·simp[S4,hbig]
    ·simp[O3,hbig]
    ·simp[hbig]
  ·cases h
 ·cases h

def numR(l:List UInt8):Int:=(l.getD 0 0).toNat
def b6x:List T->Y3->Option (T×Y3×Option Prop)
 | [.ref 0 0 0],[some (.arr true _ 2 1 row)]=>match row 0 with
  | [.bys l,.bool fl]=>some (.int .i64 (numR l),[rdr (l.drop 1) (fl||l.isEmpty)],none)
  |_=>none
 |_,_=>none
def b9e:Con:=.eff b6x
theorem dZ:GK 268 b9e:=gk Tryz.func268<|by
 intro args H res H' p h hp;unfold b6x at h;split at h
 ·rename_i ty row;split at h
  ·rename_i l fl hrow;simp only[X1,U4] at h;obtain⟨rfl,rfl,rfl⟩:=h;refine uY (oS hrow) ?_
   refine vcE (gC rX gN) Tryz.func268 Z0 (bs:=[true]) (α:=wZ (1:Int)/\W4 (0:Int) (S4 l (1:Int)).length/\IntKind.i64.wrap (↑((S4 l (1:Int)).getD 0 (0:UInt8)).toNat:Int)=numR l/\(1=1/\1=1/\O3 l (1:Int)=List.drop 1 l/\(fl||big l (1:Int))=(fl||l.isEmpty)/\True)/\True) ?_
   have h1:∀x:UInt8,IntKind.i64.wrap (x.toNat:Int)=x.toNat:=λx=>by
    have:=x.toNat_lt;rw[IntKind.wrap_i64];omega
   have h0:IntKind.i64.wrap 0=0:=by decide
   cases l with
   |nil=>refine⟨⟨by omega,by omega⟩,by simp[W4,S4,big],?_,⟨rfl,rfl,?_,?_,trivial⟩,trivial⟩<;>simp[S4,O3,big,numR,h0]
   |cons a l=>
    have hb:big (a::l) 1=false:=by simp[big];omega
    refine⟨⟨by omega,by omega⟩,by simp[W4,S4,hb],?_,⟨rfl,rfl,?_,?_,trivial⟩,trivial⟩<;>simp[S4,O3,hb,numR,h1]
  ·cases h
 ·cases h

def aW:List T->Option (T×Option Prop)
 | [.bref [.bys l,.bool fl]]=>some (.bool (!fl&&l.isEmpty),none)
 |_=>none
def b0m:Con:=.pure aW
theorem vI:GK 259 b0m:=gk Tryz.func259<|by
 intro args res p h hp;unfold aW at h;split at h
 ·rename_i l fl;simp only[X1,U4] at h;obtain⟨rfl,rfl⟩:=h;refine S6 gN Tryz.func259 Z0 (α:=(!fl&&(l.length:Int)==(0:Int))=(!fl&&l.isEmpty)) ?_
  cases l with
  |nil=>simp
  |cons a l=>
   have:((((a::l).length:Nat):Int)==0)=false:=by simp;omega
   rw[this];simp
 ·cases h

structure RdSt where
 l:List UInt8
 fl:Bool
 ok:Bool
 bef:Int
def RdSt.step(hi lsn:Int)(s:RdSt):RdSt:=
 ⟨(s.l.drop 1).drop 1,(s.fl||s.l.isEmpty)||(s.l.drop 1).isEmpty,s.ok&&W2 (numR s.l) (s.bef+1) hi&&W2 (numR (s.l.drop 1)) 1 (lsn-1),numR s.l⟩
def RdSt.go(hi lsn:Int)(s:RdSt):Nat->RdSt
 |0=>s
 |n+1=>RdSt.step hi lsn (RdSt.go hi lsn s n)
def xW(most lo:Int)(l:List UInt8)(fl:Bool):RdSt:=⟨l.drop 1,fl||l.isEmpty,decide (numR l<=most),lo-1⟩
def Q4(most lo hi lsn:Int)(l:List UInt8)(fl:Bool):RdSt:=RdSt.go hi lsn (xW most lo l fl) (numR l).toNat
def Okb(lo lsn:Int):Prop:= -1000000000000<=lo/\lo<=1000000000000/\ -1000000000000<=lsn/\lsn<=1000000000000
def pM:List T->Y3->Option (T×Y3×Option Prop)
 | [.ref 0 0 0,.int .i64 most,.int .i64 lo,.int .i64 hi,.int .i64 lsn],[some (.arr true _ 2 1 row)]=>match row 0 with
  | [.bys l,.bool fl]=>some (.bool ((Q4 most lo hi lsn l fl).ok&& !(Q4 most lo hi lsn l fl).fl),[rdr (Q4 most lo hi lsn l fl).l (Q4 most lo hi lsn l fl).fl],some (Okb lo lsn))
  |_=>none
 |_,_=>none
def aR:Con:=.eff pM
def I25(most lo hi lsn:Int)(l:List UInt8)(fl:Bool)(x:{i:Nat//i<=(numR l).toNat}):Sy:=
 ⟨[(0,.ref 0 0 0),(3,.int .i64 hi),(4,.int .i64 lsn),(12,.bool (RdSt.go hi lsn (xW most lo l fl) x.1).ok),(13,.int .i64 (RdSt.go hi lsn (xW most lo l fl) x.1).bef),(23,.int .i64 (numR l)),(24,.int .i64 x.1)],
  [rdr (RdSt.go hi lsn (xW most lo l fl) x.1).l (RdSt.go hi lsn (xW most lo l fl) x.1).fl]⟩
def A25(most lo hi lsn:Int)(l:List UInt8)(fl:Bool):Nat->Ann
 |0=>.one {i:Nat//i<=(numR l).toNat} (I25 most lo hi lsn l fl) (λx=>(numR l).toNat-x.1) [.box 0] [.box 0] (λ_=>Z0)
 |_=>.none
theorem z4(l:List UInt8):0<=numR l/\numR l<=255:=by
 unfold numR;have:=(l.getD 0 0).toNat_lt;omega
theorem b77(hi lsn lo most:Int)(l:List UInt8)(fl:Bool)(h: -1000000000000<=lo/\lo<=1000000000000)(n:Nat):
  -2000000000000<=(RdSt.go hi lsn (xW most lo l fl) n).bef/\(RdSt.go hi lsn (xW most lo l fl) n).bef<=2000000000000:=by
 cases n with
 |zero=>simp only[RdSt.go,xW];omega
 |succ n=>
  simp only[RdSt.go,RdSt.step];have:=z4 (RdSt.go hi lsn (xW most lo l fl) n).l;omega
theorem dN:GK 274 aR:=gk Tryz.func274<|by
 intro args H res H' p h hp;unfold pM at h;split at h
 ·rename_i most lo hi lsn ty row;split at h
  ·rename_i l fl hrow;simp only[X1,U4] at h;obtain⟨rfl,rfl,rfl⟩:=h;obtain⟨q1,q2,q3,q4⟩:Okb lo lsn:=hp;refine uY (oS hrow) ?_
   refine vcE (gC dZ (gC O5 gN)) Tryz.func274 (A25 most lo hi lsn l fl) (bs:=[true]) (α:=X4 .i64 (lo- (1:Int))/\(∃(x:{i:Nat//i<=(numR l).toNat}),((0=0/\0=0)/\hi=hi/\lsn=lsn/\decide (numR l<=most)=(RdSt.go hi lsn (xW most lo l fl) x.val).ok/\lo- (1:Int)=(RdSt.go hi lsn (xW most lo l fl) x.val).bef/\numR l=numR l/\(0:Int)=(x.val:Int)/\True)/\(1=1/\1=1/\List.drop 1 l=(RdSt.go hi lsn (xW most lo l fl) x.val).l/\(fl||l.isEmpty)=(RdSt.go hi lsn (xW most lo l fl) x.val).fl/\True)/\True)/\∀(x:{i:Nat//i<=(numR l).toNat}),(decide ((x.val:Int)<numR l)=true->((RdSt.go hi lsn (xW most lo l fl) x.val).ok=true->X4 .i64 ((RdSt.go hi lsn (xW most lo l fl) x.val).bef+(1:Int)))/\(((RdSt.go hi lsn (xW most lo l fl) x.val).ok&&W2 (numR (RdSt.go hi lsn (xW most lo l fl) x.val).l) ((RdSt.go hi lsn (xW most lo l fl) x.val).bef+(1:Int)) hi)=true->X4 .i64 (lsn- (1:Int)))/\X4 .i64 ((x.val:Int)+(1:Int))/\∃(y:{i:Nat//i<=(numR l).toNat}),(((0=0/\0=0)/\hi=hi/\lsn=lsn/\((RdSt.go hi lsn (xW most lo l fl) x.val).ok&&W2 (numR (RdSt.go hi lsn (xW most lo l fl) x.val).l) ((RdSt.go hi lsn (xW most lo l fl) x.val).bef+(1:Int)) hi&&W2 (numR (List.drop 1 (RdSt.go hi lsn (xW most lo l fl) x.val).l)) (1:Int) (lsn- (1:Int)))=(RdSt.go hi lsn (xW most lo l fl) y.val).ok/\numR (RdSt.go hi lsn (xW most lo l fl) x.val).l=(RdSt.go hi lsn (xW most lo l fl) y.val).bef/\numR l=numR l/\(x.val:Int)+(1:Int)=(y.val:Int)/\True)/\(1=1/\1=1/\List.drop 1 (List.drop 1 (RdSt.go hi lsn (xW most lo l fl) x.val).l)=(RdSt.go hi lsn (xW most lo l fl) y.val).l/\((RdSt.go hi lsn (xW most lo l fl) x.val).fl||(RdSt.go hi lsn (xW most lo l fl) x.val).l.isEmpty||(List.drop 1 (RdSt.go hi lsn (xW most lo l fl) x.val).l).isEmpty)=(RdSt.go hi lsn (xW most lo l fl) y.val).fl/\True)/\True)/\Lt ((numR l).toNat-y.val) ((numR l).toNat-x.val))/\(decide ((x.val:Int)<numR l)=false->((RdSt.go hi lsn (xW most lo l fl) x.val).ok&& !(RdSt.go hi lsn (xW most lo l fl) x.val).fl)=((Q4 most lo hi lsn l fl).ok&& !(Q4 most lo hi lsn l fl).fl)/\(1=1/\1=1/\(RdSt.go hi lsn (xW most lo l fl) x.val).l=(Q4 most lo hi lsn l fl).l/\(RdSt.go hi lsn (xW most lo l fl) x.val).fl=(Q4 most lo hi lsn l fl).fl/\True)/\True)) ?_
   have hn:=z4 l;refine⟨Z4 (by omega),⟨⟨0,S7 _⟩,⟨⟨rfl,rfl⟩,rfl,rfl,rfl,rfl,rfl,rfl,trivial⟩,⟨rfl,rfl,rfl,rfl,trivial⟩,trivial⟩,λx=>⟨λhc=>⟨λ_=>Z4 ?_,λ_=>Z4 (by omega),Z4 ?_,?_⟩,λhc=> ?_⟩⟩
   ·have:=b77 hi lsn lo most l fl ⟨q1,q2⟩ x.val;omega
   ·have:=x.2;omega
   ·have hlt:(x.val:Int)<numR l:=F3 hc;refine⟨⟨x.val+1,by omega⟩,⟨⟨⟨rfl,rfl⟩,rfl,rfl,rfl,rfl,rfl,by simp,trivial⟩,⟨rfl,rfl,rfl,rfl,trivial⟩,trivial⟩,?_⟩
    unfold Lt;simp only;omega
   ·have hge:¬ (x.val:Int)<numR l:=yQ hc;have hx:=x.2;have he:x.val=(numR l).toNat:=by omega
    unfold Q4;rw[he];exact⟨rfl,⟨rfl,rfl,rfl,rfl,trivial⟩,trivial⟩
  ·cases h
 ·cases h

def a1l(a:List UInt8)(lsn:Int):Bool:=
 (Q4 8 0 7 lsn a false).ok&& !(Q4 8 0 7 lsn a false).fl&&((Q4 10 1 60 lsn (Q4 8 0 7 lsn a false).l (Q4 8 0 7 lsn a false).fl).ok&& !(Q4 10 1 60 lsn (Q4 8 0 7 lsn a false).l (Q4 8 0 7 lsn a false).fl).fl)&&
  (!(Q4 10 1 60 lsn (Q4 8 0 7 lsn a false).l (Q4 8 0 7 lsn a false).fl).fl&&(Q4 10 1 60 lsn (Q4 8 0 7 lsn a false).l (Q4 8 0 7 lsn a false).fl).l.isEmpty)
def gH(a:List UInt8)(lsn:Int):Prop:=a.length<140737488355329/\ -1000000000000<=lsn/\lsn<=1000000000000
def jV:List T->Option (T×Option Prop)
 | [.str a,.int .i64 lsn]=>some (.bool (a1l a lsn),some (gH a lsn))
 |_=>none
def a7E:Con:=.pure jV
theorem a32:GK 244 a7E:=gk Tryz.func244<|by
 intro args res p h hp;unfold jV at h;split at h
 ·rename_i a lsn;simp only[X1,U4] at h;obtain⟨rfl,rfl⟩:=h;obtain⟨h1,h2,h3⟩:gH a lsn:=hp;exact S6 (gC dN (gC vI gN)) Tryz.func244 Z0 (α:=Lt a.length 140737488355329/\Okb (0:Int) lsn/\Okb (1:Int) lsn/\((Q4 (8:Int) (0:Int) (7:Int) lsn a false).ok&& !(Q4 (8:Int) (0:Int) (7:Int) lsn a false).fl&&((Q4 (10:Int) (1:Int) (60:Int) lsn (Q4 (8:Int) (0:Int) (7:Int) lsn a false).l (Q4 (8:Int) (0:Int) (7:Int) lsn a false).fl).ok&& !(Q4 (10:Int) (1:Int) (60:Int) lsn (Q4 (8:Int) (0:Int) (7:Int) lsn a false).l (Q4 (8:Int) (0:Int) (7:Int) lsn a false).fl).fl)&&(!(Q4 (10:Int) (1:Int) (60:Int) lsn (Q4 (8:Int) (0:Int) (7:Int) lsn a false).l (Q4 (8:Int) (0:Int) (7:Int) lsn a false).fl).fl&&(Q4 (10:Int) (1:Int) (60:Int) lsn (Q4 (8:Int) (0:Int) (7:Int) lsn a false).l (Q4 (8:Int) (0:Int) (7:Int) lsn a false).fl).l.isEmpty))=a1l a lsn) ⟨h1,⟨by omega,by omega,h2,h3⟩,⟨by omega,by omega,h2,h3⟩,rfl⟩
 ·cases h

structure Rec where
 (e l t k p n g s:Int) (b a:List UInt8)
 deriving Inhabited
def Rec.ts(r:Rec):List T:=[.int .i64 r.e,.int .i64 r.l,.int .i64 r.t,.int .i64 r.k,.int .i64 r.p,.int .i64 r.n,.int .i64 r.g,.int .i64 r.s,.str r.b,.str r.a]
end Go.Proofs.YtokaojbaacnngaaGreat

