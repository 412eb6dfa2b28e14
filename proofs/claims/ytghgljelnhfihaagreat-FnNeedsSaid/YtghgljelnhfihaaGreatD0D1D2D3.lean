/- A part of the proof. -/
import Derived.Test.YtghgljelnhfihaaGreatRows
import Derived.Test.YtghgljelnhfihaaGreatSS19
namespace Go.Proofs.YtghgljelnhfihaaGreat
set_option maxRecDepth 100000
open Go.SS
abbrev dz:=@default

def Y5:Nat->Ann:=λ_=>.none

theorem a59:Tryz.prog.follows .mixedOrders=true:=by kernel_rfl
theorem leB{a b:Nat}(h:Nat.ble a b=true):a<=b:=v6 h
theorem b8n:D0 Tryz.prog []:=λ_ h=>by cases h
theorem b0O:∀x ∈ ([]:I2),P4 Tryz.prog x.1:=λ_ h=>by cases h
theorem b6b{f:FuncId}{c:Con}{G:I2}(h:a3c Tryz.prog f c)(k:D0 Tryz.prog G):D0 Tryz.prog ((f,c)::G):=λx hx=>by
 rcases wY.1 hx with rfl|hx
 ·exact h
 ·exact k x hx
theorem a7x{f:FuncId}{c:Con}{G:I2}(h:P4 Tryz.prog f)(k:∀x ∈ G,P4 Tryz.prog x.1):∀x ∈ (f,c)::G,P4 Tryz.prog x.1:=λx hx=>by
 rcases wY.1 hx with rfl|hx
 ·exact h
 ·exact k x hx
def GG(G:I2):Prop:=D0 Tryz.prog G/\∀x ∈ G,P4 Tryz.prog x.1
theorem gN:GG []:=⟨b8n,b0O⟩
def GK(f:FuncId)(c:Con):Prop:=a3c Tryz.prog f c/\P4 Tryz.prog f
theorem gk{f:FuncId}{c:Con}{fn:Func}(h:Tryz.prog.funcs[f]? =some fn)(k:a3c Tryz.prog f c)(a:(fn.name== "runtime.NumGoroutine")=false:=by kernel_rfl)(b:fn.body.isNone=false:=by kernel_rfl):GK f c:=⟨k,fn,h,a,b⟩
theorem gC{f:FuncId}{c:Con}{G:I2}(h:GK f c)(r:GG G):GG ((f,c)::G):=⟨b6b h.1 r.1,a7x h.2 r.2⟩
theorem Q5{G:I2}{f:FuncId}{fn:Func}{args:List T}{res:T}(g:GG G)(hf:Tryz.prog.funcs[f]? =some fn)(A:Nat->Ann){α:Prop}(h:α)(hb:fn.body=some (fn.body.getD .skip):=by kernel_rfl)(hn:Nat.ble args.length fn.ntmps=true:=by kernel_rfl)(e:α=c0i Tryz.prog G fn.ntmps fn.results.toList (fn.body.getD .skip) args res A:=by kernel_rfl):U1 Tryz.prog f args res:=
 c0N a59 g.1 g.2 hf hb (leB hn) A (Eq.mp e h)
theorem Z8{q r:Sort _}{a:q}{b:r}:a=a/\b=b:=⟨rfl,rfl⟩
theorem Z7{q:Sort _}{a:q}{n:Nat}{r:Nat->List T}:a=a/\Z6 n r r:=⟨rfl,λ_ _=>rfl⟩
theorem A7:True/\True:=⟨trivial,trivial⟩
theorem X5{q0:Sort _}{a0:q0}{a1:Nat}{a2:Nat->List T}:(a0=a0/\Z6 a1 a2 a2)/\True:=⟨Z7,trivial⟩
theorem U3{q0:Sort _}{a0:q0}{q1:Sort _}{a1:q1}:(a0=a0/\a1=a1)/\True:=⟨Z8,trivial⟩
theorem Z9{q0:Sort _}{a0:q0}:a0=a0/\True:=⟨rfl,trivial⟩
theorem v8{G:I2}{f:FuncId}{fn:Func}{args:List T}{H Hres:Y1}{res:T}(g:GG G)(hf:Tryz.prog.funcs[f]? =some fn)(A:Nat->Ann)(lk:List (List Lk)){α:Prop}(h:α)(hb:fn.body=some (fn.body.getD .skip):=by kernel_rfl)(hn:Nat.ble args.length fn.ntmps=true:=by kernel_rfl)(e:α=b7q Tryz.prog G fn.ntmps fn.results.toList (fn.body.getD .skip) args H res Hres A lk:=by kernel_rfl):H3 Tryz.prog f args H res Hres:=
 b74 a59 g.1 g.2 hf hb (leB hn) A lk (Eq.mp e h)
theorem vcE{G:I2}{f:FuncId}{fn:Func}{args:List T}{H Hres:Y1}{bs:List Bool}{res:T}(g:GG G)(hf:Tryz.prog.funcs[f]? =some fn)(A:Nat->Ann){α:Prop}(h:α)(hb:fn.body=some (fn.body.getD .skip):=by kernel_rfl)(hn:Nat.ble args.length fn.ntmps=true:=by kernel_rfl)(e:α=b7o Tryz.prog G fn.ntmps fn.results.toList (fn.body.getD .skip) args H bs res Hres A:=by kernel_rfl)(hl:H.length=bs.length:=by rfl):H3 Tryz.prog f args H res Hres:=
 b7Z a59 g.1 g.2 hf hb (leB hn) hl A (Eq.mp e h)
abbrev Y8{α:Type}(row:List α->Nat->List T)(A B:List α):Prop:=A.length=B.length/\Z6 A.length (row A) (row B)
theorem Z4{n:Int}(h: -9223372036854775808<=n/\n<=9223372036854775807):W7 .i64 n:=by
 unfold W7;simp only[IntKind.min,IntKind.max,IntKind.bits,IntKind.signed];simp;omega
theorem b6q(n:Int):W7 .i64 n↔(-9223372036854775808<=n/\n<=9223372036854775807):=by
 unfold W7;simp only[IntKind.min,IntKind.max,IntKind.bits,IntKind.signed];simp
theorem wP(x:UInt8):IntKind.i64.wrap (x.toNat:Int)=x.toNat:=by
 have:=x.toNat_lt;rw[IntKind.wrap_i64];omega
def l8(n:Int):Prop:= -1000000000000000<=n/\n<=1000000000000000

def V9(n lo hi:Int):Bool:=decide (lo<=n)&&decide (n<=hi)
def tQ:List T->Option (T×Option Prop)
 | [.int .i64 n,.int .i64 lo,.int .i64 hi]=>some (.bool (V9 n lo hi),none)
 |_=>none
def a9V:Con:=.pure tQ
theorem a9J(n lo hi:Int)(h:
  (decide (lo<=n)&&decide (n<=hi))=V9 n lo hi):
  U1 Tryz.prog 112 [.int .i64 n,.int .i64 lo,.int .i64 hi] (.bool (V9 n lo hi)):=
 Q5 gN Tryz.func112 Y5 h
theorem M5:GK 112 a9V:=gk Tryz.func112<|by
 intro args res p h hp;unfold tQ at h;split at h
 ·simp only[W8,T5] at h;obtain⟨rfl,rfl⟩:=h;exact a9J _ _ _ rfl
 ·cases h
def b6D:Con:=.pure tQ
theorem b5S(n lo hi:Int)(h:
  (decide (lo<=n)&&decide (n<=hi))=V9 n lo hi):
  U1 Tryz.prog 85 [.int .i64 n,.int .i64 lo,.int .i64 hi] (.bool (V9 n lo hi)):=
 Q5 gN Tryz.func85 Y5 h
theorem E3:GK 85 b6D:=gk Tryz.func85<|by
 intro args res p h hp;unfold tQ at h;split at h
 ·simp only[W8,T5] at h;obtain⟨rfl,rfl⟩:=h;exact b5S _ _ _ rfl
 ·cases h
def eN:List T->Option (T×Option Prop)
 | [.int .i64 n,.int .i64 m]=>some (.bool (decide (0<=n)&&decide (n<m)),some (l8 m))
 |_=>none
def a7A:Con:=.pure eN
theorem a7E(n m:Int)(h:
  W7 .i64 (m- (1:Int))/\V9 n (0:Int) (m- (1:Int))=(decide ((0:Int)<=n)&&decide (n<m))):
  U1 Tryz.prog 144 [.int .i64 n,.int .i64 m] (.bool (decide (0<=n)&&decide (n<m))):=
 Q5 (gC M5 gN) Tryz.func144 Y5 h
theorem vM:GK 144 a7A:=gk Tryz.func144<|by
 intro args res p h hp;unfold eN at h;split at h
 ·simp only[W8,T5] at h;obtain⟨rfl,rfl⟩:=h;have hp:l8 _:=hp;unfold l8 at hp;refine a7E _ _ ⟨Z4 (by omega),?_⟩
  unfold V9;congr 1
  exact decide_eq_decide.2 (by omega)
 ·cases h
end Go.Proofs.YtghgljelnhfihaaGreat

namespace Go.Proofs.YtghgljelnhfihaaGreat
set_option maxRecDepth 100000
open Go.SS

def big(l:List UInt8)(n:Int):Bool:=decide (n>(l.length:Int))
def R6(l:List UInt8)(n:Int):List UInt8:=if big l n then List.replicate n.toNat 0 else l.take n.toNat
def O9(l:List UInt8)(n:Int):List UInt8:=if big l n then l else l.drop n.toNat
def rdr(l:List UInt8)(fl:Bool):Option Ob:=some (.arr true 1000000 2 1 λ_=>[.bys l,.bool fl])
def vY(n:Int):Prop:=0<=n/\n<140737488355328
theorem nA{ty:TypeId}{row:Nat->List T}{l:List UInt8}{fl:Bool}(h:row 0=[.bys l,.bool fl]):b5n [some (.arr true ty 2 1 row)] [rdr l fl]:=
 ⟨.rows _ _ _ _ _ _ _ λi hi=>by(obtain rfl:i=0:=by omega);exact h,trivial⟩
def b09:List T->Y1->Option (T×Y1×Option Prop)
 | [.ref 0 0 0,.int .i64 n],[some (.arr true _ 2 1 row)]=>match row 0 with
  | [.bys l,.bool fl]=>some (.bys (R6 l n),[rdr (O9 l n) (fl||big l n)],some (vY n))
  |_=>none
 |_,_=>none
def b9T:Con:=.eff b09
theorem pW:GK 279 b9T:=gk Tryz.func279<|by
 intro args H res H' p h hp;unfold b09 at h;split at h
 ·rename_i n ty row;split at h
  ·rename_i l fl hrow;simp only[W8,T5] at h;obtain⟨rfl,rfl,rfl⟩:=h;obtain⟨h0,h1⟩:vY n:=hp;refine tW (nA hrow) ?_
   refine vcE gN Tryz.func279 Y5 (bs:=[true]) (α:=let q:=(n>(l.length:Int));let p:=(List.replicate n.toNat (0:UInt8));(decide q=true->(Nn n/\LeI n n/\wK 1 n.toNat 140737488355328/\Lt n.toNat 9223372036854775808)/\Le (0+n.toNat) p.length/\List.take n.toNat (List.drop 0 p)=R6 l n/\(1=1/\1=1/\l=O9 l n/\true=(fl||big l n)/\True)/\True)/\(decide q=false->lL n l.length/\lL n l.length/\List.take n.toNat l=R6 l n/\(1=1/\1=1/\List.drop n.toNat l=O9 l n/\fl=(fl||big l n)/\True)/\True)) ⟨λhb=> ?_,λhb=> ?_⟩
   ·have hbig:big l n=true:=hb;refine⟨⟨h0,Int.le_refl _,by unfold wK;omega,by unfold Lt;omega⟩,by unfold Le;simp,?_,⟨rfl,rfl,?_,?_,trivial⟩,trivial⟩
    ·simp[R6,hbig]
    ·simp[O9,hbig]
    ·simp[hbig]
   ·have hbig:big l n=false:=hb;have hle:n<=l.length:=by simpa[big] using hbig
    refine⟨⟨h0,hle⟩,⟨h0,hle⟩,?_,⟨rfl,rfl,?_,?_,trivial⟩,trivial⟩
    ·simp[R6,hbig]
    ·simp[O9,hbig]
    ·simp[hbig]
  ·cases h
 ·cases h

def numR(l:List UInt8):Int:=(l.getD 0 0).toNat
def b7c:List T->Y1->Option (T×Y1×Option Prop)
 | [.ref 0 0 0],[some (.arr true _ 2 1 row)]=>match row 0 with
  | [.bys l,.bool fl]=>some (.int .i64 (numR l),[rdr (l.drop 1) (fl||l.isEmpty)],none)
  |_=>none
 |_,_=>none
def c1L:Con:=.eff b7c
theorem bG:GK 254 c1L:=gk Tryz.func254<|by
 intro args H res H' p h hp;unfold b7c at h;split at h
 ·rename_i ty row;split at h
  ·rename_i l fl hrow;simp only[W8,T5] at h;obtain⟨rfl,rfl,rfl⟩:=h;refine tW (nA hrow) ?_
   refine vcE (gC pW gN) Tryz.func254 Y5 (bs:=[true]) (α:=vY (1:Int)/\V3 (0:Int) (R6 l (1:Int)).length/\IntKind.i64.wrap (↑((R6 l (1:Int)).getD 0 (0:UInt8)).toNat:Int)=numR l/\(1=1/\1=1/\O9 l 1=List.drop 1 l/\(fl||big l (1:Int))=(fl||l.isEmpty)/\True)/\True) ?_
   have h1:∀x:UInt8,IntKind.i64.wrap (x.toNat:Int)=x.toNat:=λx=>by
    have:=x.toNat_lt;rw[IntKind.wrap_i64];omega
   have h0:IntKind.i64.wrap 0=0:=by decide
   cases l with
   |nil=>refine⟨⟨by omega,by omega⟩,by simp[V3,R6,big],?_,⟨rfl,rfl,?_,?_,trivial⟩,trivial⟩<;>simp[R6,O9,big,numR,h0]
   |cons a l=>
    have hb:big (a::l) 1=false:=by simp[big];omega
    refine⟨⟨by omega,by omega⟩,by simp[V3,R6,hb],?_,⟨rfl,rfl,?_,?_,trivial⟩,trivial⟩<;>simp[R6,O9,hb,numR,h1]
  ·cases h
 ·cases h

def a0R:List T->Option (T×Option Prop)
 | [.bref [.bys l,.bool fl]]=>some (.bool (!fl&&l.isEmpty),none)
 |_=>none
def b0p:Con:=.pure a0R
theorem tL:GK 300 b0p:=gk Tryz.func300<|by
 intro args res p h hp;unfold a0R at h;split at h
 ·rename_i l fl;simp only[W8,T5] at h;obtain⟨rfl,rfl⟩:=h;refine Q5 gN Tryz.func300 Y5 (α:=(!fl&&(l.length:Int)==0)=(!fl&&l.isEmpty)) ?_
  cases l with
  |nil=>simp
  |cons a l=>
   have:((((a::l).length:Nat):Int)==0)=false:=by simp;omega
   rw[this];simp
 ·cases h

structure RdSt where
 l:List UInt8
 fl:Bool
 ok:Bool
 bef:Int
def RdSt.step(hi lsn:Int)(s:RdSt):RdSt:=
 ⟨(s.l.drop 1).drop 1,(s.fl||s.l.isEmpty)||(s.l.drop 1).isEmpty,s.ok&&V9 (numR s.l) (s.bef+1) hi&&V9 (numR (s.l.drop 1)) 1 (lsn-1),numR s.l⟩
def RdSt.go(hi lsn:Int)(s:RdSt):Nat->RdSt
 |0=>s
 |n+1=>RdSt.step hi lsn (RdSt.go hi lsn s n)
def wL(most lo:Int)(l:List UInt8)(fl:Bool):RdSt:=⟨l.drop 1,fl||l.isEmpty,decide (numR l<=most),lo-1⟩
def O7(most lo hi lsn:Int)(l:List UInt8)(fl:Bool):RdSt:=RdSt.go hi lsn (wL most lo l fl) (numR l).toNat
def Okb(lo lsn:Int):Prop:= -1000000000000<=lo/\lo<=1000000000000/\ -1000000000000<=lsn/\lsn<=1000000000000
def nM:List T->Y1->Option (T×Y1×Option Prop)
 | [.ref 0 0 0,.int .i64 most,.int .i64 lo,.int .i64 hi,.int .i64 lsn],[some (.arr true _ 2 1 row)]=>match row 0 with
  | [.bys l,.bool fl]=>some (.bool ((O7 most lo hi lsn l fl).ok&& !(O7 most lo hi lsn l fl).fl),[rdr (O7 most lo hi lsn l fl).l (O7 most lo hi lsn l fl).fl],some (Okb lo lsn))
  |_=>none
 |_,_=>none
def a2Y:Con:=.eff nM
def I25(most lo hi lsn:Int)(l:List UInt8)(fl:Bool)(x:{i:Nat//i<=(numR l).toNat}):Sy:=
 ⟨[(0,.ref 0 0 0),(3,.int .i64 hi),(4,.int .i64 lsn),(12,.bool (RdSt.go hi lsn (wL most lo l fl) x.1).ok),(13,.int .i64 (RdSt.go hi lsn (wL most lo l fl) x.1).bef),(23,.int .i64 (numR l)),(24,.int .i64 x.1)],
  [rdr (RdSt.go hi lsn (wL most lo l fl) x.1).l (RdSt.go hi lsn (wL most lo l fl) x.1).fl]⟩
def A25(most lo hi lsn:Int)(l:List UInt8)(fl:Bool):Nat->Ann
 |0=>.one {i:Nat//i<=(numR l).toNat} (I25 most lo hi lsn l fl) (λx=>(numR l).toNat-x.1) [.box 0] [.box 0] (λ_=>Y5)
 |_=>.none
theorem w9(l:List UInt8):0<=numR l/\numR l<=255:=by
 unfold numR;have:=(l.getD 0 0).toNat_lt;omega
theorem b7C(hi lsn lo most:Int)(l:List UInt8)(fl:Bool)(h: -1000000000000<=lo/\lo<=1000000000000)(n:Nat):
  -2000000000000<=(RdSt.go hi lsn (wL most lo l fl) n).bef/\(RdSt.go hi lsn (wL most lo l fl) n).bef<=2000000000000:=by
 cases n with
 |zero=>simp only[RdSt.go,wL];omega
 |succ n=>
  simp only[RdSt.go,RdSt.step];have:=w9 (RdSt.go hi lsn (wL most lo l fl) n).l;omega
theorem dJ:GK 311 a2Y:=gk Tryz.func311<|by
 intro args H res H' p h hp;unfold nM at h;split at h
 ·rename_i most lo hi lsn ty row;split at h
  ·rename_i l fl hrow;simp only[W8,T5] at h;obtain⟨rfl,rfl,rfl⟩:=h;obtain⟨q1,q2,q3,q4⟩:Okb lo lsn:=hp;refine tW (nA hrow) ?_
   refine vcE (gC bG (gC M5 gN)) Tryz.func311 (A25 most lo hi lsn l fl) (bs:=[true]) (α:=let u:=(O7 most lo hi lsn l fl);let q:=(wL most lo l fl);W7 .i64 (lo-1)/\(∃(x:{i:Nat//i<=(numR l).toNat}),let r:=(RdSt.go hi lsn q x.val);((0=0/\0=0)/\hi=hi/\lsn=lsn/\decide (numR l<=most)=r.ok/\lo-1=r.bef/\numR l=numR l/\0=(x.val:Int)/\True)/\(1=1/\1=1/\List.drop 1 l=r.l/\(fl||l.isEmpty)=r.fl/\True)/\True)/\∀(x:{i:Nat//i<=(numR l).toNat}),let w:=(x.val:Int);let p:=(RdSt.go hi lsn q x.val);let v:=(List.drop 1 p.l);(decide (w<numR l)=true->(p.ok=true->W7 .i64 (p.bef+1))/\((p.ok&&V9 (numR p.l) (p.bef+1) hi)=true->W7 .i64 (lsn-1))/\W7 .i64 (w+1)/\∃(y:{i:Nat//i<=(numR l).toNat}),let z:=(RdSt.go hi lsn q y.val);(((0=0/\0=0)/\hi=hi/\lsn=lsn/\(p.ok&&V9 (numR p.l) (p.bef+1) hi&&V9 (numR v) (1:Int) (lsn-1))=z.ok/\numR p.l=z.bef/\numR l=numR l/\w+1=(y.val:Int)/\True)/\(1=1/\1=1/\List.drop 1 v=z.l/\(p.fl||p.l.isEmpty||v.isEmpty)=z.fl/\True)/\True)/\Lt ((numR l).toNat-y.val) ((numR l).toNat-x.val))/\(decide (w<numR l)=false->(p.ok&& ! p.fl)=(u.ok&& ! u.fl)/\(1=1/\1=1/\p.l=u.l/\p.fl=u.fl/\True)/\True)) ?_
   have hn:=w9 l;refine⟨Z4 (by omega),⟨⟨0,S7 _⟩,⟨⟨rfl,rfl⟩,rfl,rfl,rfl,rfl,rfl,rfl,trivial⟩,⟨rfl,rfl,rfl,rfl,trivial⟩,trivial⟩,λx=>⟨λhc=>⟨λ_=>Z4 ?_,λ_=>Z4 (by omega),Z4 ?_,?_⟩,λhc=> ?_⟩⟩
   ·have:=b7C hi lsn lo most l fl ⟨q1,q2⟩ x.val;omega
   ·have:=x.2;omega
   ·have hlt:(x.val:Int)<numR l:=C7 hc;refine⟨⟨x.val+1,by omega⟩,⟨⟨⟨rfl,rfl⟩,rfl,rfl,rfl,rfl,rfl,by simp,trivial⟩,⟨rfl,rfl,rfl,rfl,trivial⟩,trivial⟩,?_⟩
    unfold Lt;simp only;omega
   ·have hge:¬ (x.val:Int)<numR l:=l7 hc;have hx:=x.2;have he:x.val=(numR l).toNat:=by omega
    unfold O7;rw[he];exact⟨rfl,⟨rfl,rfl,rfl,rfl,trivial⟩,trivial⟩
  ·cases h
 ·cases h

def a2m(a:List UInt8)(lsn:Int):Bool:=
 (O7 8 0 7 lsn a false).ok&& !(O7 8 0 7 lsn a false).fl&&((O7 10 1 60 lsn (O7 8 0 7 lsn a false).l (O7 8 0 7 lsn a false).fl).ok&& !(O7 10 1 60 lsn (O7 8 0 7 lsn a false).l (O7 8 0 7 lsn a false).fl).fl)&&
  (!(O7 10 1 60 lsn (O7 8 0 7 lsn a false).l (O7 8 0 7 lsn a false).fl).fl&&(O7 10 1 60 lsn (O7 8 0 7 lsn a false).l (O7 8 0 7 lsn a false).fl).l.isEmpty)
def bP(a:List UInt8)(lsn:Int):Prop:=a.length<140737488355329/\ -1000000000000<=lsn/\lsn<=1000000000000
def fX:List T->Option (T×Option Prop)
 | [.str a,.int .i64 lsn]=>some (.bool (a2m a lsn),some (bP a lsn))
 |_=>none
def a9A:Con:=.pure fX
theorem a5a:GK 252 a9A:=gk Tryz.func252<|by
 intro args res p h hp;unfold fX at h;split at h
 ·rename_i a lsn;simp only[W8,T5] at h;obtain⟨rfl,rfl⟩:=h;obtain⟨h1,h2,h3⟩:bP a lsn:=hp;exact Q5 (gC dJ (gC tL gN)) Tryz.func252 Y5 (α:=let q:=(O7 (8:Int) (0:Int) (7:Int) lsn a false);let p:=(O7 (10:Int) (1:Int) (60:Int) lsn q.l q.fl);Lt a.length 140737488355329/\Okb (0:Int) lsn/\Okb (1:Int) lsn/\(q.ok&& ! q.fl&&(p.ok&& ! p.fl)&&(! p.fl&&p.l.isEmpty))=a2m a lsn) ⟨h1,⟨by omega,by omega,h2,h3⟩,⟨by omega,by omega,h2,h3⟩,rfl⟩
 ·cases h

structure Rec where
 (e l t k p n g s:Int) (b a:List UInt8)
 deriving Inhabited
def Rec.ts(r:Rec):List T:=[.int .i64 r.e,.int .i64 r.l,.int .i64 r.t,.int .i64 r.k,.int .i64 r.p,.int .i64 r.n,.int .i64 r.g,.int .i64 r.s,.str r.b,.str r.a]
end Go.Proofs.YtghgljelnhfihaaGreat

namespace Go.Proofs.YtghgljelnhfihaaGreat
set_option maxRecDepth 100000
open Go.SS

def F8(r:Rec):Prop:=
 1<=r.e/\r.e<=60/\1<=r.l/\r.l<=60/\1<=r.k/\r.k<=6/\0<=r.p/\r.p<=r.l-1/\0<=r.n/\r.n<=r.l-1/\0<=r.g/\r.g<=7/\0<=r.s/\r.s<=3/\r.b.length<=30/\
 (r.k=6->r.t=0/\r.p=0/\r.n=0/\r.g=0/\r.s=0/\r.b=[]/\a2m r.a r.l=true)/\
 (r.k≠6->1<=r.t/\r.t<=60/\r.a.length<=30/\(r.k≠2->r.k≠3->r.g=0/\r.s=0/\r.b=[]/\r.a=[])/\(r.k≠3->r.n=0)/\(r.k=3->r.b=[])/\(r.k=1↔r.p=0))
noncomputable instance(r:Rec):Decidable (F8 r):=Classical.propDecidable _
noncomputable def R1(r:Rec):Bool:=decide (F8 r)
theorem R7(r:Rec):R1 r=true↔F8 r:=decide_eq_true_iff
theorem wQ{r:Rec}(h:¬F8 r):R1 r=false:=uV h
def a9c(l:List UInt8):Prop:=l.length<140737488355329
noncomputable def kL:List T->Option (T×Option Prop)
 | [.agg [.int .i64 e,.int .i64 l,.int .i64 t,.int .i64 k,.int .i64 p,.int .i64 n,.int .i64 g,.int .i64 s,.str b,.str a]]=>some (.bool (R1 ⟨e,l,t,k,p,n,g,s,b,a⟩),some (a9c a))
 |_=>none
noncomputable def a0L:Con:=.pure kL
theorem a0Z(r:Rec)(x:Bool)(h:
  ((!V9 r.e (1:Int) (60:Int)|| !V9 r.l (1:Int) (60:Int))=true->false=x)/\((!V9 r.e (1:Int) (60:Int)|| !V9 r.l (1:Int) (60:Int))=false->((r.k==(6:Int))=true->((r.t==(0:Int)&&r.p==(0:
  Int)&&(true&&(true&&(true&&(true&&(true&&(r.n==(0:Int)&&(r.g==(0:Int)&&(r.s==(0:Int)&&(r.b==[]&&true))))))))))=true->bP r.a r.l)/\(r.t==(0:Int)&&r.p==(0:Int)&&(true&&(true&&
  (true&&(true&&(true&&(r.n==(0:Int)&&(r.g==(0:Int)&&(r.s==(0:Int)&&(r.b==[]&&true)))))))))&&a2m r.a r.l)=x)/\((r.k==(6:Int))=false->((r.k==(2:Int))=true->((r.k==(2:Int))=true->
  l8 (8:Int)/\((decide ((0:Int)<=r.g)&&decide (r.g<(8:Int)))=true->l8 (4:Int))/\((!(decide ((0:Int)<=r.g)&&decide (r.g<(8:Int))&&(decide ((0:Int)<=r.s)&&decide (r.s<(4:Int))))||decide
  ((r.b.length:Int)>(30:Int))||decide ((r.a.length:Int)>(30:Int)))=false->(r.k==(3:Int))=true->W7 .i64 (r.l- (1:Int)))/\((!(decide ((0:Int)<=r.g)&&decide (r.g<(8:Int))&&(decide ((0:Int)<=r.s)
  &&decide (r.s<(4:Int))))||decide ((r.b.length:Int)>(30:Int))||decide ((r.a.length:Int)>(30:Int))||r.k==(3:Int)&& !V9 r.n (0:Int) (r.l- (1:Int)))=true->false=x)/\((!(decide ((0:Int)<=r.g)&&
  decide (r.g<(8:Int))&&(decide ((0:Int)<=r.s)&&decide (r.s<(4:Int))))||decide ((r.b.length:Int)>(30:Int))||decide ((r.a.length:Int)>(30:Int))||r.k==(3:Int)&& !V9 r.n (0:Int) (r.l- (1:Int)))=
  false->((r.k==(2:Int))=true->((V9 r.k (1:Int) (5:Int)&&(true&&(true&&(true&&(true&&(true&&(r.n==(0:Int)&&true))))))&&V9 r.t (1:Int) (60:Int))=true->W7 .i64 (r.l- (1:Int)))/\(V9 r.k (1
  :Int) (5:Int)&&(true&&(true&&(true&&(true&&(true&&(r.n==(0:Int)&&true))))))&&V9 r.t (1:Int) (60:Int)&&V9 r.p (0:Int) (r.l- (1:Int))&&(r.p==(0:Int))==(r.k==(1:Int)))=x)/\((r.k==
  (2:Int))=false->((V9 r.k (1:Int) (5:Int)&&(true&&(true&&(true&&(true&&(true&&(true&&(true&&(true&&(r.b==[]&&true)))))))))&&V9 r.t (1:Int) (60:Int))=true->W7 .i64 (r.l- (1:Int)))/\(V9
  r.k (1:Int) (5:Int)&&(true&&(true&&(true&&(true&&(true&&(true&&(true&&(true&&(r.b==[]&&true)))))))))&&V9 r.t (1:Int) (60:Int)&&V9 r.p (0:Int) (r.l- (1:Int))&&(r.p==(0:Int))==(r.k==
  (1:Int)))=x)))/\((r.k==(2:Int))=false->((V9 r.k (1:Int) (5:Int)&&(true&&(true&&(true&&(true&&(true&&(r.n==(0:Int)&&(r.g==(0:Int)&&(r.s==(0:Int)&&(r.b==[]&&(r.a==[]&&
  true))))))))))&&V9 r.t (1:Int) (60:Int))=true->W7 .i64 (r.l- (1:Int)))/\(V9 r.k (1:Int) (5:Int)&&(true&&(true&&(true&&(true&&(true&&(r.n==(0:Int)&&(r.g==(0:Int)&&(r.s==(0:Int)&&
  (r.b==[]&&(r.a==[]&&true))))))))))&&V9 r.t (1:Int) (60:Int)&&V9 r.p (0:Int) (r.l- (1:Int))&&(r.p==(0:Int))==(r.k==(1:Int)))=x))/\((r.k==(2:Int))=false->((r.k==(3:Int))=true->
  l8 (8:Int)/\((decide ((0:Int)<=r.g)&&decide (r.g<(8:Int)))=true->l8 (4:Int))/\((!(decide ((0:Int)<=r.g)&&decide (r.g<(8:Int))&&(decide ((0:Int)<=r.s)&&decide (r.s<(4:Int))))||decide
  ((r.b.length:Int)>(30:Int))||decide ((r.a.length:Int)>(30:Int)))=false->(r.k==(3:Int))=true->W7 .i64 (r.l- (1:Int)))/\((!(decide ((0:Int)<=r.g)&&decide (r.g<(8:Int))&&(decide ((0:Int)<=r.s)
  &&decide (r.s<(4:Int))))||decide ((r.b.length:Int)>(30:Int))||decide ((r.a.length:Int)>(30:Int))||r.k==(3:Int)&& !V9 r.n (0:Int) (r.l- (1:Int)))=true->false=x)/\((!(decide ((0:Int)<=r.g)&&
  decide (r.g<(8:Int))&&(decide ((0:Int)<=r.s)&&decide (r.s<(4:Int))))||decide ((r.b.length:Int)>(30:Int))||decide ((r.a.length:Int)>(30:Int))||r.k==(3:Int)&& !V9 r.n (0:Int) (r.l- (1:Int)))=
  false->((r.k==(2:Int))=true->((V9 r.k (1:Int) (5:Int)&&(true&&(true&&(true&&(true&&(true&&(r.n==(0:Int)&&true))))))&&V9 r.t (1:Int) (60:Int))=true->W7 .i64 (r.l- (1:Int)))/\(V9 r.k (1
  :Int) (5:Int)&&(true&&(true&&(true&&(true&&(true&&(r.n==(0:Int)&&true))))))&&V9 r.t (1:Int) (60:Int)&&V9 r.p (0:Int) (r.l- (1:Int))&&(r.p==(0:Int))==(r.k==(1:Int)))=x)/\((r.k==
  (2:Int))=false->((V9 r.k (1:Int) (5:Int)&&(true&&(true&&(true&&(true&&(true&&(true&&(true&&(true&&(r.b==[]&&true)))))))))&&V9 r.t (1:Int) (60:Int))=true->W7 .i64 (r.l- (1:Int)))/\(V9
  r.k (1:Int) (5:Int)&&(true&&(true&&(true&&(true&&(true&&(true&&(true&&(true&&(r.b==[]&&true)))))))))&&V9 r.t (1:Int) (60:Int)&&V9 r.p (0:Int) (r.l- (1:Int))&&(r.p==(0:Int))==(r.k==
  (1:Int)))=x)))/\((r.k==(3:Int))=false->((V9 r.k (1:Int) (5:Int)&&(true&&(true&&(true&&(true&&(true&&(r.n==(0:Int)&&(r.g==(0:Int)&&(r.s==(0:Int)&&(r.b==[]&&(r.a==[]&&
  true))))))))))&&V9 r.t (1:Int) (60:Int))=true->W7 .i64 (r.l- (1:Int)))/\(V9 r.k (1:Int) (5:Int)&&(true&&(true&&(true&&(true&&(true&&(r.n==(0:Int)&&(r.g==(0:Int)&&(r.s==(0:Int)&&
  (r.b==[]&&(r.a==[]&&true))))))))))&&V9 r.t (1:Int) (60:Int)&&V9 r.p (0:Int) (r.l- (1:Int))&&(r.p==(0:Int))==(r.k==(1:Int)))=x))))):
  U1 Tryz.prog 156 [.agg r.ts] (.bool x):=
 Q5 (gC a5a (gC M5 (gC vM gN))) Tryz.func156 Y5 h
theorem b9b{p k a b:Int}:((p==a)=(k==b))↔(k=b↔p=a):=by
 rw[Bool.eq_iff_iff,beq_iff_eq,beq_iff_eq];exact Iff.comm
theorem tH{a b:Bool}(h:a=true↔b=true):a=b:=by cases a<;>cases b<;>simp_all
theorem vN:GK 156 a0L:=gk Tryz.func156<|by
 intro args res p h hp;unfold kL at h;split at h
 ·rename_i e l t k p n g s b a;simp only[W8,T5] at h;obtain⟨rfl,rfl⟩:=h;have hp:a.length<140737488355329:=hp;refine a0Z ⟨e,l,t,k,p,n,g,s,b,a⟩ _ ?_
  simp only[Rec.e,Rec.l,Rec.t,Rec.k,Rec.p,Rec.n,Rec.g,Rec.s,Rec.b,Rec.a];have s8:l8 8:=by unfold l8;omega
  have s4:l8 4:=by unfold l8;omega
  refine⟨λh=> ?_,λh=> ?_⟩
  ·refine(wQ ?_).symm
   simp only[pP,xP,V9,Bool.and_eq_false_iff,rX] at h;unfold F8;simp only;omega
  simp only[yP,yT,V9,L3,k4] at h;have hr:W7 .i64 (l-1):=Z4 (by omega)
  have hs:bP a l:=⟨hp,by omega,by omega⟩
  by_cases h6:k=6
  ·subst h6;refine⟨λ_=>⟨λ_=>hs,tH ?_⟩,λh=>by simp at h⟩
   rw[R7];simp only[F8,k4,L3,beq_iff_eq,true_and,and_true];constructor
   ·rintro⟨⟨⟨rfl,rfl⟩,rfl,rfl,rfl,rfl⟩,hc⟩;simp[hc];omega
   ·rintro⟨_,_,_,_,_,_,_,_,_,_,_,_,_,_,_,hh,_⟩;obtain⟨rfl,rfl,rfl,rfl,rfl,rfl,hc⟩:=hh trivial;simp[hc]
  refine⟨λh=>absurd (by simpa using h) h6,λ_=> ?_⟩
  by_cases h2:k=2
  ·subst h2;refine⟨λ_=>⟨λ_=>⟨s8,λ_=>s4,λ_ h=>by simp at h,λhb=> ?_,λhb=>⟨λ_=>⟨λ_=>hr,tH ?_⟩,λh=>by simp at h⟩⟩,λh=>by simp at h⟩,λh=>by simp at h⟩
   ·refine(wQ ?_).symm
    simp only[pP,xP,V9,Bool.and_eq_false_iff,rX,k4,L3] at hb;unfold F8;simp only;simp at hb;omega
   ·simp[V9] at hb;rw[R7];simp only[F8,k4,L3,beq_iff_eq,true_and,and_true,V9,b9b];simp;omega
  by_cases h3:k=3
  ·subst h3;refine⟨λh=>by simp at h,λ_=>⟨λ_=>⟨s8,λ_=>s4,λ_ _=>hr,λhb=> ?_,λhb=>⟨λh=>by simp at h,λ_=>⟨λ_=>hr,tH ?_⟩⟩⟩,λh=>by simp at h⟩⟩
   ·refine(wQ ?_).symm
    unfold F8;simp only;simp[V9] at hb;omega
   ·simp[V9] at hb;rw[R7];simp only[F8,k4,L3,beq_iff_eq,true_and,and_true,V9,b9b];by_cases hbn:b=[]
    ·subst hbn;simp;omega
    ·simp[hbn]
  ·refine⟨λh=>absurd (by simpa using h) h2,λ_=>⟨λh=>absurd (by simpa using h) h3,λ_=>⟨λ_=>hr,tH ?_⟩⟩⟩
   rw[R7];simp only[F8,k4,L3,beq_iff_eq,true_and,and_true,V9,b9b];constructor
   ·intro hh;have hb:b.length=0:=by simp[hh.1.1.1.2.2.2.2.1]
    have ha:a.length=0:=by simp[hh.1.1.1.2.2.2.2.2]
    simp[h2,h3,h6,hh.1.1.1.2.2.2.2.1,hh.1.1.1.2.2.2.2.2] at hh ⊢;omega
   ·intro hh;obtain⟨a1,a2,a3,a4,a5,a6,a7,a8,a9,a10,a11,a12,a13,a14,a15,_,hh⟩:=hh;obtain⟨b1,b2,b3,b4,b5,b6,b7⟩:=hh h6;obtain⟨c1,c2,c3,c4⟩:=b4 h2 h3;have c5:=b5 h3;simp[c1,c2,c3,c4,c5];omega
 ·cases h
end Go.Proofs.YtghgljelnhfihaaGreat

namespace Go.Proofs.YtghgljelnhfihaaGreat
set_option maxRecDepth 100000
open Go.SS

def P9(n:Nat)(p:Nat->Bool):Int:=match(List.range n).find? p with|some i=>(i:Int)|none=> -1
theorem M6{n:Nat}{p:Nat->Bool}{i:Nat}(hi:i<n)(hp:p i=true)(h:∀j,j<i->p j=false):P9 n p=i:=by
 have:(List.range n).find? p=some i:=by
  rw[List.find?_range_eq_some]
  exact⟨hp,List.mem_range.2 hi,λj hj=>by simp[h j hj]⟩
 unfold P9;rw[this]
theorem J1{n:Nat}{p:Nat->Bool}(h:∀j,j<n->p j=false):P9 n p= -1:=by
 have:(List.range n).find? p=none:=by
  rw[List.find?_range_eq_none]
  intro j hj;simp[h j hj]
 unfold P9;rw[this]
def anyI(n:Nat)(p:Nat->Bool):Bool:=(List.range n).any p
theorem A5(n:Nat)(p:Nat->Bool):decide (P9 n p≥0)=anyI n p:=by
 unfold P9 anyI;cases h:(List.range n).find? p with
 |none=>
  rw[List.find?_eq_none] at h
  have:(List.range n).any p=false:=by
   rw[List.any_eq_false];exact h
  rw[this];rfl
 |some i=>
  have h1:=List.find?_some h
  have h2:=List.mem_of_find?_eq_some h
  have:(List.range n).any p=true:=List.any_eq_true.2 ⟨i,h2,h1⟩;rw[this];simp
theorem Q9{n:Nat}{p:Nat->Bool}:anyI n p=true↔∃i,i<n/\p i=true:=by
 unfold anyI;simp
def V1(n:Nat)(p:Nat->Bool):Type:={i:Nat//i<=n/\∀j,j<i->p j=false}

theorem V1.ext_lt{n:Nat}{i:Nat}(h:i<n):Lt (n- (i+1)) (n-i):=by unfold Lt;omega
theorem X4{i n:Nat}(h:decide ((i:Int)<(n:Int))=false):n<=i:=by simpa using h
theorem X6{i n:Nat}(h:decide ((i:Int)<(n:Int))=true):i<n:=by simpa using h
theorem X8{i n:Nat}(h:i<n):V3 (i:Int) n:=⟨by omega,by omega⟩
theorem U5{i n:Nat}(h:i<n)(hn:n<1000000000000000):W7 .i64 ((i:Int)+1):=Z4 (by omega)
def F7{n:Nat}{p:Nat->Bool}:V1 n p:=⟨0,S7 _,λj hj=>absurd hj (J5 j)⟩
def V1.succ{n:Nat}{p:Nat->Bool}(x:V1 n p)(h:x.1<n)(hp:p x.1=false):V1 n p:=
 ⟨x.1+1,h,λj hj=>by rcases Nat.lt_or_ge j x.1 with h1|h1;exact x.2.2 j h1;(obtain rfl:j=x.1:=by omega);exact hp⟩

def Y3(L:List Rec)(i:Nat):List T:=(L.getD i dz).ts
def nI(L:List Rec):T:=.sl 10 L.length (Y3 L)
def m3(r:Rec):Bool:=decide (r.l>60)
def sY:List T->Option (T×Option Prop)
 | [.agg [.int .i64 e,.int .i64 l,.int .i64 t,.int .i64 k,.int .i64 p,.int .i64 n,.int .i64 g,.int .i64 s,.str b,.str a]]=>some (.bool (m3 ⟨e,l,t,k,p,n,g,s,b,a⟩),none)
 |_=>none
def iL:Con:=.pure sY
theorem gS(r:Rec)(h:
  decide (r.l>(60:Int))=m3 r):
  U1 Tryz.prog 158 [.agg r.ts] (.bool (m3 r)):=
 Q5 gN Tryz.func158 Y5 h
theorem iU:GK 158 iL:=gk Tryz.func158<|by
 intro args res p h hp;unfold sY at h;split at h
 ·simp only[W8,T5] at h;obtain⟨rfl,rfl⟩:=h;exact gS ⟨_,_,_,_,_,_,_,_,_,_⟩ rfl
 ·cases h

def fnT(f:Nat):T:=.v (.func (.func f) #[] #[])
def O6(n:Nat):Prop:=n<1000000000000
def a2y:Rl:=⟨List Rec,λL=>[nI L,fnT 158],λL=>.int .i64 (P9 L.length λi=>m3 (L.getD i dz)),λL=>O6 L.length⟩
def b1L:Con:=.rel a2y
def b1f(L:List Rec):Nat->Ann
 |0=>.one (V1 L.length λi=>m3 (L.getD i dz)) (λx=>⟨[(0,nI L),(1,fnT 158),(7,.int .i64 L.length),(8,.int .i64 x.1)],[]⟩) (λx=>L.length-x.1) [] [] (λ_=>Y5)
 |_=>.none
theorem a8z:GK 253 b1L:=gk Tryz.func253<|by
 intro L hL;have hL:L.length<1000000000000:=hL;refine Q5 (gC iU gN) Tryz.func253 (b1f L) (α:=let v:=(Fn.func 158);let r:=(L.length:Int);(∃(x:V1 L.length λ(i:Nat)=>m3 (L.getD i dz)),((Y8 Y3 L L)/\Value.func v #[] #[]=Value.func v #[] #[]/\r=r/\0=(x.val:Int)/\True)/\True)/\∀(x:V1 L.length λ(i:Nat)=>m3 (L.getD i dz)),let z:=(x.val:Int);let q:=(L.getD z.toNat dz);let u:=(Rec.mk q.e q.l q.t q.k q.p q.n q.g q.s q.b q.a);(decide (z<r)=true->V3 z L.length/\(m3 u=true->z=P9 L.length λ(i:Nat)=>m3 (L.getD i dz))/\(m3 u=false->W7 .i64 (z+1)/\∃(y:V1 L.length λ(i:Nat)=>m3 (L.getD i dz)),(((Y8 Y3 L L)/\Value.func v #[] #[]=Value.func v #[] #[]/\r=r/\z+1=(y.val:Int)/\True)/\True)/\Lt (L.length-y.val) (L.length-x.val)))/\(decide (z<r)=false->(-1:Int)=P9 L.length λ(i:Nat)=>m3 (L.getD i dz))) ⟨⟨F7,⟨⟨rfl,λ_ _=>rfl⟩,rfl,rfl,rfl,trivial⟩,trivial⟩,λx=>⟨λhc=> ?_,λhc=> ?_⟩⟩
 ·have hlt:=X6 hc;refine⟨X8 hlt,λhp=>(M6 hlt hp x.2.2).symm,λhp=>⟨U5 hlt (by omega),x.succ hlt hp,⟨⟨⟨rfl,λ_ _=>rfl⟩,rfl,rfl,rfl,trivial⟩,trivial⟩,V1.ext_lt hlt⟩⟩
 ·have hge:=X4 hc;exact(J1 λj hj=>x.2.2 j (by omega)).symm
def a3e:Rl:=⟨List Rec,λL=>[nI L,fnT 158],λL=>.bool (anyI L.length λi=>m3 (L.getD i dz)),λL=>O6 L.length⟩
def b0D:Con:=.rel a3e
theorem a8s:GK 157 b0D:=gk Tryz.func157<|by
 intro L hL;exact Q5 (gC a8z gN) Tryz.func157 Y5 (α:=∃(x:a2y.ι),(((L.length=List.length x/\Z6 L.length (Y3 L) (Y3 x))/\Value.func (Fn.func 158) #[] #[]=Value.func (Fn.func 158) #[] #[]/\True)/\O6 (List.length x))/\decide ((P9 (List.length x) λ(i:Nat)=>m3 (List.getD x i dz))≥(0:Int))=anyI L.length λ(i:Nat)=>m3 (L.getD i dz)) ⟨L,⟨⟨⟨rfl,λ_ _=>rfl⟩,rfl,trivial⟩,hL⟩,A5 _ _⟩

noncomputable def a0r(L:List Rec)(i:Nat):Bool:= !R1 (L.getD i dz)||(L.getD i dz).l !=(i:Int)+1
noncomputable def u9(L:List Rec):Bool:= !anyI L.length (a0r L)
def b5Z(L:List Rec):Prop:=L.length<1000000000000/\∀r ∈ L,r.a.length<140737488355329
noncomputable def pU:Rl:=⟨List Rec,λL=>[nI L],λL=>.bool (u9 L),b5Z⟩
noncomputable def bU:Con:=.rel pU
noncomputable def aT(L:List Rec):Nat->Ann
 |0=>.one (V1 L.length (a0r L)) (λx=>⟨[(0,nI L),(5,nI L),(6,.int .i64 L.length),(7,.int .i64 x.1)],[]⟩) (λx=>L.length-x.1) [] [] (λ_=>Y5)
 |_=>.none
theorem J6{L:List Rec}:u9 L=true↔∀i,i<L.length->R1 (L.getD i dz)=true/\(L.getD i dz).l=(i:Int)+1:=by
 unfold u9;rw[xP,Bool.eq_false_iff,ne_eq,Q9];constructor
 ·intro h i hi;have:¬a0r L i=true:=λhb=>h ⟨i,hi,hb⟩
  simpa[a0r] using this
 ·rintro h ⟨i,hi,hb⟩;have:=h i hi;unfold a0r at hb;rw[this.1,this.2] at hb;simp at hb
theorem a2N{L:List Rec}{i:Nat}(h:i<L.length):L.getD i dz ∈ L:=by
 rw[P8,K7 h]
 exact List.getElem_mem h
theorem gK:GK 74 bU:=gk Tryz.func74<|by
 intro L hL;obtain⟨hn,hb⟩:b5Z L:=hL;refine Q5 (gC vN (gC a8s gN)) Tryz.func74 (aT L) (α:=let v:=(Y8 Y3 L L);let u:=(L.length:Int);(∃(x:V1 L.length (a0r L)),(v/\v/\u=u/\0=(x.val:Int)/\True)/\True)/\∀(x:V1 L.length (a0r L)),let z:=(x.val:Int);let q:=(L.getD z.toNat dz);let r:=(Rec.mk q.e q.l q.t q.k q.p q.n q.g q.s q.b q.a);let w:=(!R1 r||q.l !=z+1);(decide (z<u)=true->V3 z L.length/\a9c q.a/\((!R1 r)=false->W7 .i64 (z+1))/\(w=true->false=u9 L)/\(w=false->W7 .i64 (z+1)/\∃(y:V1 L.length (a0r L)),((v/\v/\u=u/\z+1=(y.val:Int)/\True)/\True)/\Lt (L.length-y.val) (L.length-x.val)))/\(decide (z<u)=false->∃(x:a3e.ι),(((L.length=List.length x/\Z6 L.length (Y3 L) (Y3 x))/\Value.func (Fn.func 158) #[] #[]=Value.func (Fn.func 158) #[] #[]/\True)/\O6 (List.length x))/\(!anyI (List.length x) λ(i:Nat)=>m3 (List.getD x i dz))=u9 L)) ⟨⟨F7,⟨⟨rfl,λ_ _=>rfl⟩,⟨rfl,λ_ _=>rfl⟩,rfl,rfl,trivial⟩,trivial⟩,λx=>⟨λhc=> ?_,λhc=> ?_⟩⟩
 ·have hlt:=X6 hc;refine⟨X8 hlt,hb _ (a2N hlt),λ_=>U5 hlt (by omega),λhp=> ?_,λhp=>⟨U5 hlt (by omega),x.succ hlt hp,⟨⟨⟨rfl,λ_ _=>rfl⟩,⟨rfl,λ_ _=>rfl⟩,rfl,rfl,trivial⟩,trivial⟩,V1.ext_lt hlt⟩⟩
  have:anyI L.length (a0r L)=true:=Q9.2 ⟨x.1,hlt,hp⟩;simp[u9,this]
 ·have hge:=X4 hc;have hgood:u9 L=true:=by
   unfold u9;rw[xP,Bool.eq_false_iff,ne_eq,Q9];rintro⟨i,hi,h⟩;rw[x.2.2 i (by omega)] at h
   cases h
  refine⟨L,⟨⟨⟨rfl,λ_ _=>rfl⟩,rfl,trivial⟩,hn⟩,?_⟩
  rw[hgood,xP,Bool.eq_false_iff,ne_eq,Q9];rintro⟨i,hi,h⟩;have h1:=(R7 _).1 (J6.1 hgood i hi).1;obtain⟨_,_,_,h60,_⟩:=h1;have:¬ (L.getD i dz).l>60:=by omega
  simp[m3] at h;simp at this;omega
end Go.Proofs.YtghgljelnhfihaaGreat

