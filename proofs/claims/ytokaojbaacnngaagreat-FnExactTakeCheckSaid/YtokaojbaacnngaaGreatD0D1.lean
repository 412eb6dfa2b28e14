/- A part of the proof. -/
import Derived.Test.YtokaojbaacnngaaGreatRows
import Derived.Test.YtokaojbaacnngaaGreatSS19
namespace Go.Proofs.YtokaojbaacnngaaGreat
set_option maxRecDepth 100000
open Go.SS

def Z0:Nat->Ann:=fun _=>.none

theorem a1g:Tryz.prog.follows .mixedOrders=true:=by kernel_rfl
theorem leB{a b:Nat}(h:Nat.ble a b=true):a<=b:=vS h
theorem c52:H3 Tryz.prog []:=fun _ h=>by cases h
theorem b99:∀x ∈ ([]:K3),Z7 Tryz.prog x.1:=fun _ h=>by cases h
theorem c1H{f:FuncId}{c:Con}{G:K3}(h:Z1 Tryz.prog f c)(k:H3 Tryz.prog G):H3 Tryz.prog ((f,c)::G):=fun x hx=>by
 rcases zJ.1 hx with rfl|hx
 ·exact h
 ·exact k x hx
theorem b14{f:FuncId}{c:Con}{G:K3}(h:Z7 Tryz.prog f)(k:∀x ∈ G,Z7 Tryz.prog x.1):∀x ∈ (f,c)::G,Z7 Tryz.prog x.1:=fun x hx=>by
 rcases zJ.1 hx with rfl|hx
 ·exact h
 ·exact k x hx
def GG(G:K3):Prop:=H3 Tryz.prog G/\∀x ∈ G,Z7 Tryz.prog x.1
theorem gN:GG []:=⟨c52,b99⟩
theorem gC{f:FuncId}{c:Con}{G:K3}(h:Z1 Tryz.prog f c)(k:Z7 Tryz.prog f)(r:GG G):GG ((f,c)::G):=⟨c1H h r.1,b14 k r.2⟩
theorem T4{G:K3}{f:FuncId}{fn:Func}{code:Code}{args:List T}{res:T}(g:GG G)(hf:Tryz.prog.funcs[f]? =some fn)(hb:fn.body=some code)(hn:Nat.ble args.length fn.ntmps=true)(A:Nat->Ann){α:Prop}(h:α)(e:α=c7q Tryz.prog G fn.ntmps fn.results.toList code args res A):Z2 Tryz.prog f args res:=
 c7g a1g g.1 g.2 hf hb (leB hn) A (Eq.mp e h)
theorem v5{G:K3}{f:FuncId}{fn:Func}{code:Code}{args:List T}{H Hres:Y6}{res:T}(g:GG G)(hf:Tryz.prog.funcs[f]? =some fn)(hb:fn.body=some code)(hn:Nat.ble args.length fn.ntmps=true)(A:Nat->Ann)(lk:List (List Lk)){α:Prop}(h:α)(e:α=c4W Tryz.prog G fn.ntmps fn.results.toList code args H res Hres A lk):V3 Tryz.prog f args H res Hres:=
 c6h a1g g.1 g.2 hf hb (leB hn) A lk (Eq.mp e h)
theorem vcE{G:K3}{f:FuncId}{fn:Func}{code:Code}{args:List T}{H Hres:Y6}{bs:List Bool}{res:T}(g:GG G)(hf:Tryz.prog.funcs[f]? =some fn)(hb:fn.body=some code)(hn:Nat.ble args.length fn.ntmps=true)(A:Nat->Ann){α:Prop}(h:α)(e:α=c4M Tryz.prog G fn.ntmps fn.results.toList code args H bs res Hres A)(hl:H.length=bs.length:=by rfl):V3 Tryz.prog f args H res Hres:=
 c6v a1g g.1 g.2 hf hb (leB hn) hl A (Eq.mp e h)
abbrev Y4{α:Type}(row:List α->Nat->List T)(A B:List α):Prop:=A.length=B.length/\Z8 A.length (row A) (row B)
theorem Z5{n:Int}(h: -9223372036854775808<=n/\n<=9223372036854775807):X8 .i64 n:=by
 unfold X8;simp only[IntKind.min,IntKind.max,IntKind.bits,IntKind.signed];simp;omega
theorem B3(n:Int):X8 .i64 n↔(-9223372036854775808<=n/\n<=9223372036854775807):=by
 unfold X8;simp only[IntKind.min,IntKind.max,IntKind.bits,IntKind.signed];simp
theorem qR(x:UInt8):IntKind.i64.wrap (x.toNat:Int)=x.toNat:=by
 have:=x.toNat_lt;rw[IntKind.wrap_i64];omega
def A9(n:Int):Prop:= -1000000000000000<=n/\n<=1000000000000000

def W8(n lo hi:Int):Bool:=decide (lo<=n)&&decide (n<=hi)
def wO:List T->Option (T×Option Prop)
 | [.int .i64 n,.int .i64 lo,.int .i64 hi]=>some (.bool (W8 n lo hi),none)
 |_=>none
def b2B:Con:=.pure wO
noncomputable def b3i:Code:=Tryz.f122.body.getD .skip
theorem R8:Z7 Tryz.prog 122:=⟨_,Tryz.func122,by kernel_rfl,by kernel_rfl⟩
theorem b1G(n lo hi:Int)(h:
  (decide (lo<=n)&&decide (n<=hi))=W8 n lo hi):
  Z2 Tryz.prog 122 [.int .i64 n,.int .i64 lo,.int .i64 hi] (.bool (W8 n lo hi)):=
 T4 (code:=b3i) gN Tryz.func122 (by kernel_rfl) (by kernel_rfl) Z0 h (by kernel_rfl)
theorem P2:Z1 Tryz.prog 122 b2B:=by
 intro args res p h hp;unfold wO at h;split at h
 ·simp only[X6,V1] at h;obtain⟨rfl,rfl⟩:=h;exact b1G _ _ _ rfl
 ·cases h
def c3M:Con:=.pure wO
noncomputable def c3a:Code:=Tryz.f74.body.getD .skip
theorem F7:Z7 Tryz.prog 74:=⟨_,Tryz.func74,by kernel_rfl,by kernel_rfl⟩
theorem c2h(n lo hi:Int)(h:
  (decide (lo<=n)&&decide (n<=hi))=W8 n lo hi):
  Z2 Tryz.prog 74 [.int .i64 n,.int .i64 lo,.int .i64 hi] (.bool (W8 n lo hi)):=
 T4 (code:=c3a) gN Tryz.func74 (by kernel_rfl) (by kernel_rfl) Z0 h (by kernel_rfl)
theorem v7:Z1 Tryz.prog 74 c3M:=by
 intro args res p h hp;unfold wO at h;split at h
 ·simp only[X6,V1] at h;obtain⟨rfl,rfl⟩:=h;exact c2h _ _ _ rfl
 ·cases h
def fC:List T->Option (T×Option Prop)
 | [.int .i64 n,.int .i64 m]=>some (.bool (decide (0<=n)&&decide (n<m)),some (A9 m))
 |_=>none
def b0k:Con:=.pure fC
noncomputable def b4m:Code:=Tryz.f155.body.getD .skip
theorem s3:Z7 Tryz.prog 155:=⟨_,Tryz.func155,by kernel_rfl,by kernel_rfl⟩
theorem b0u(n m:Int)(h:
  X8 .i64 (m- (1:Int))/\W8 n (0:Int) (m- (1:Int))=(decide ((0:Int)<=n)&&decide (n<m))):
  Z2 Tryz.prog 155 [.int .i64 n,.int .i64 m] (.bool (decide (0<=n)&&decide (n<m))):=
 T4 (code:=b4m) (gC P2 R8 gN) Tryz.func155 (by kernel_rfl) (by kernel_rfl) Z0 h (by kernel_rfl)
theorem yJ:Z1 Tryz.prog 155 b0k:=by
 intro args res p h hp;unfold fC at h;split at h
 ·simp only[X6,V1] at h;obtain⟨rfl,rfl⟩:=h;have hp:A9 _:=hp;unfold A9 at hp;refine b0u _ _ ⟨Z5 (by omega),?_⟩
  unfold W8;congr 1
  exact decide_eq_decide.2 (by omega)
 ·cases h
end Go.Proofs.YtokaojbaacnngaaGreat

namespace Go.Proofs.YtokaojbaacnngaaGreat
set_option maxRecDepth 100000
open Go.SS

def big(l:List UInt8)(n:Int):Bool:=decide (n>(l.length:Int))
def P5(l:List UInt8)(n:Int):List UInt8:=if big l n then List.replicate n.toNat 0 else l.take n.toNat
def O4(l:List UInt8)(n:Int):List UInt8:=if big l n then l else l.drop n.toNat
def rdr(l:List UInt8)(fl:Bool):Option Ob:=some (.arr true 1000000 2 1 fun _=>[.bys l,.bool fl])
def tI(n:Int):Prop:=0<=n/\n<140737488355328
theorem oN{ty:TypeId}{row:Nat->List T}{l:List UInt8}{fl:Bool}(h:row 0=[.bys l,.bool fl]):c2Q [some (.arr true ty 2 1 row)] [rdr l fl]:=
 ⟨.rows _ _ _ _ _ _ _ fun i hi=>by(obtain rfl:i=0:=by omega);exact h,trivial⟩
def b8F:List T->Y6->Option (T×Y6×Option Prop)
 | [.ref 0 0 0,.int .i64 n],[some (.arr true _ 2 1 row)]=>match row 0 with
  | [.bys l,.bool fl]=>some (.bys (P5 l n),[rdr (O4 l n) (fl||big l n)],some (tI n))
  |_=>none
 |_,_=>none
def c6H:Con:=.eff b8F
noncomputable def c5M:Code:=Tryz.f256.body.getD .skip
theorem rM:Z7 Tryz.prog 256:=⟨_,Tryz.func256,by kernel_rfl,by kernel_rfl⟩
theorem c5R(l:List UInt8)(fl:Bool)(n:Int)(h:
  (decide (n>(l.length:Int))=true->(Nn n/\kF n n/\I4 1 n.toNat 140737488355328/\Lt n.toNat 9223372036854775808)/\Le (0+n.toNat) (List.replicate n.toNat (0:UInt8)).length/\List.take n.toNat (List.drop 0
  (List.replicate n.toNat (0:UInt8)))=P5 l n/\(1=1/\1=1/\l=O4 l n/\true=(fl||big l n)/\True)/\True)/\(decide (n>(l.length:Int))=false->InC n l.length/\InC n l.length/\List.take n.toNat l=P5 l n
  /\(1=1/\1=1/\List.drop n.toNat l=O4 l n/\fl=(fl||big l n)/\True)/\True)):
  V3 Tryz.prog 256 [.ref 0 0 0,.int .i64 n] [rdr l fl] (.bys (P5 l n)) [rdr (O4 l n) (fl||big l n)]:=
 vcE (code:=c5M) gN Tryz.func256 (by kernel_rfl) (by kernel_rfl) Z0 (bs:=[true]) h (by kernel_rfl)
theorem bH:Z1 Tryz.prog 256 c6H:=by
 intro args H res H' p h hp;unfold b8F at h;split at h
 ·rename_i n ty row;split at h
  ·rename_i l fl hrow;simp only[X6,V1] at h;obtain⟨rfl,rfl,rfl⟩:=h;obtain⟨h0,h1⟩:tI n:=hp;refine wH (oN hrow) ?_
   refine c5R l fl n ⟨fun hb=> ?_,fun hb=> ?_⟩
   ·have hbig:big l n=true:=hb;refine⟨⟨h0,Int.le_refl _,by unfold I4;omega,by unfold Lt;omega⟩,by unfold Le;simp,?_,⟨rfl,rfl,?_,?_,trivial⟩,trivial⟩
    ·simp[P5,hbig]
    ·simp[O4,hbig]
    ·simp[hbig]
   ·have hbig:big l n=false:=hb;have hle:n<=l.length:=by simpa[big] using hbig
    refine⟨⟨h0,hle⟩,⟨h0,hle⟩,?_,⟨rfl,rfl,?_,?_,trivial⟩,trivial⟩
    ·simp[P5,hbig]
    ·simp[O4,hbig]
    ·simp[hbig]
  ·cases h
 ·cases h

def numR(l:List UInt8):Int:=(l.getD 0 0).toNat
def c4L:List T->Y6->Option (T×Y6×Option Prop)
 | [.ref 0 0 0],[some (.arr true _ 2 1 row)]=>match row 0 with
  | [.bys l,.bool fl]=>some (.int .i64 (numR l),[rdr (l.drop 1) (fl||l.isEmpty)],none)
  |_=>none
 |_,_=>none
def c7H:Con:=.eff c4L
noncomputable def c7Y:Code:=Tryz.f268.body.getD .skip
theorem a3E:Z7 Tryz.prog 268:=⟨_,Tryz.func268,by kernel_rfl,by kernel_rfl⟩
theorem c7u(l:List UInt8)(fl:Bool)(h:
  tI (1:Int)/\X0 (0:Int) (P5 l (1:Int)).length/\IntKind.i64.wrap (↑((P5 l (1:Int)).getD 0 (0:UInt8)).toNat:Int)=numR l/\(1=1/\1=1/\O4 l (1:Int)=List.drop 1 l/\(fl||big l (1:Int))=(fl
  ||l.isEmpty)/\True)/\True):
  V3 Tryz.prog 268 [.ref 0 0 0] [rdr l fl] (.int .i64 (numR l)) [rdr (l.drop 1) (fl||l.isEmpty)]:=
 vcE (code:=c7Y) (gC bH rM gN) Tryz.func268 (by kernel_rfl) (by kernel_rfl) Z0 (bs:=[true]) h (by kernel_rfl)
theorem a7J:Z1 Tryz.prog 268 c7H:=by
 intro args H res H' p h hp;unfold c4L at h;split at h
 ·rename_i ty row;split at h
  ·rename_i l fl hrow;simp only[X6,V1] at h;obtain⟨rfl,rfl,rfl⟩:=h;refine wH (oN hrow) ?_
   refine c7u l fl ?_
   have h1:∀x:UInt8,IntKind.i64.wrap (x.toNat:Int)=x.toNat:=fun x=>by
    have:=x.toNat_lt;rw[IntKind.wrap_i64];omega
   have h0:IntKind.i64.wrap 0=0:=by decide
   cases l with
   |nil=>refine⟨⟨by omega,by omega⟩,by simp[X0,P5,big],?_,⟨rfl,rfl,?_,?_,trivial⟩,trivial⟩<;>simp[P5,O4,big,numR,h0]
   |cons a l=>
    have hb:big (a::l) 1=false:=by simp[big];omega
    refine⟨⟨by omega,by omega⟩,by simp[X0,P5,hb],?_,⟨rfl,rfl,?_,?_,trivial⟩,trivial⟩<;>simp[P5,O4,hb,numR,h1]
  ·cases h
 ·cases h

def a1A:List T->Option (T×Option Prop)
 | [.bref [.bys l,.bool fl]]=>some (.bool (!fl&&l.isEmpty),none)
 |_=>none
def b62:Con:=.pure a1A
noncomputable def b6y:Code:=Tryz.f259.body.getD .skip
theorem xC:Z7 Tryz.prog 259:=⟨_,Tryz.func259,by kernel_rfl,by kernel_rfl⟩
theorem b8P(l:List UInt8)(fl:Bool)(h:
  (!fl&&(l.length:Int)==(0:Int))=(!fl&&l.isEmpty)):
  Z2 Tryz.prog 259 [.bref [.bys l,.bool fl]] (.bool (!fl&&l.isEmpty)):=
 T4 (code:=b6y) gN Tryz.func259 (by kernel_rfl) (by kernel_rfl) Z0 h (by kernel_rfl)
theorem qX:Z1 Tryz.prog 259 b62:=by
 intro args res p h hp;unfold a1A at h;split at h
 ·rename_i l fl;simp only[X6,V1] at h;obtain⟨rfl,rfl⟩:=h;refine b8P l fl ?_
  cases l with
  |nil=>simp
  |cons a l=>
   have:((((a::l).length:Nat):Int)==0)=false:=by simp;omega
   rw[this];simp
 ·cases h

structure RdSt where
 l:List UInt8
 fl:Bool
 ok:Bool
 bef:Int
def RdSt.step(hi lsn:Int)(s:RdSt):RdSt:=
 ⟨(s.l.drop 1).drop 1,(s.fl||s.l.isEmpty)||(s.l.drop 1).isEmpty,s.ok&&W8 (numR s.l) (s.bef+1) hi&&W8 (numR (s.l.drop 1)) 1 (lsn-1),numR s.l⟩
def RdSt.go(hi lsn:Int)(s:RdSt):Nat->RdSt
 |0=>s
 |n+1=>RdSt.step hi lsn (RdSt.go hi lsn s n)
def j4(most lo:Int)(l:List UInt8)(fl:Bool):RdSt:=⟨l.drop 1,fl||l.isEmpty,decide (numR l<=most),lo-1⟩
def T2(most lo hi lsn:Int)(l:List UInt8)(fl:Bool):RdSt:=RdSt.go hi lsn (j4 most lo l fl) (numR l).toNat
def Okb(lo lsn:Int):Prop:= -1000000000000<=lo/\lo<=1000000000000/\ -1000000000000<=lsn/\lsn<=1000000000000
def pZ:List T->Y6->Option (T×Y6×Option Prop)
 | [.ref 0 0 0,.int .i64 most,.int .i64 lo,.int .i64 hi,.int .i64 lsn],[some (.arr true _ 2 1 row)]=>match row 0 with
  | [.bys l,.bool fl]=>some (.bool ((T2 most lo hi lsn l fl).ok&& !(T2 most lo hi lsn l fl).fl),[rdr (T2 most lo hi lsn l fl).l (T2 most lo hi lsn l fl).fl],some (Okb lo lsn))
  |_=>none
 |_,_=>none
def a0X:Con:=.eff pZ
def I25(most lo hi lsn:Int)(l:List UInt8)(fl:Bool)(x:{i:Nat//i<=(numR l).toNat}):Sy:=
 ⟨[(0,.ref 0 0 0),(3,.int .i64 hi),(4,.int .i64 lsn),(12,.bool (RdSt.go hi lsn (j4 most lo l fl) x.1).ok),(13,.int .i64 (RdSt.go hi lsn (j4 most lo l fl) x.1).bef),(23,.int .i64 (numR l)),(24,.int .i64 x.1)],
  [rdr (RdSt.go hi lsn (j4 most lo l fl) x.1).l (RdSt.go hi lsn (j4 most lo l fl) x.1).fl]⟩
def A25(most lo hi lsn:Int)(l:List UInt8)(fl:Bool):Nat->Ann
 |0=>.one {i:Nat//i<=(numR l).toNat} (I25 most lo hi lsn l fl) (fun x=>(numR l).toNat-x.1) [.box 0] [.box 0] (fun _=>Z0)
 |_=>.none
noncomputable def a3L:Code:=Tryz.f274.body.getD .skip
theorem mK:Z7 Tryz.prog 274:=⟨_,Tryz.func274,by kernel_rfl,by kernel_rfl⟩
theorem a0B(most lo hi lsn:Int)(l:List UInt8)(fl:Bool)(h:
  X8 .i64 (lo- (1:Int))/\(∃(x:{i:Nat//i<=(numR l).toNat}),((0=0/\0=0)/\hi=hi/\lsn=lsn/\decide (numR l<=most)=(RdSt.go hi lsn (j4 most lo l fl) x.val).ok/\lo- (1:Int)=(RdSt.go hi lsn (j4 most lo
  l fl) x.val).bef/\numR l=numR l/\(0:Int)=(x.val:Int)/\True)/\(1=1/\1=1/\List.drop 1 l=(RdSt.go hi lsn (j4 most lo l fl) x.val).l/\(fl||l.isEmpty)=(RdSt.go hi lsn (j4 most lo l fl) x.val).fl/\True)/\True)
  /\∀(x:{i:Nat//i<=(numR l).toNat}),(decide ((x.val:Int)<numR l)=true->((RdSt.go hi lsn (j4 most lo l fl) x.val).ok=true->X8 .i64 ((RdSt.go hi lsn (j4 most lo l fl) x.val).bef+(1:Int)))/\(((RdSt.go hi lsn
  (j4 most lo l fl) x.val).ok&&W8 (numR (RdSt.go hi lsn (j4 most lo l fl) x.val).l) ((RdSt.go hi lsn (j4 most lo l fl) x.val).bef+(1:Int)) hi)=true->X8 .i64 (lsn- (1:Int)))/\X8 .i64 ((x.val:Int)+(1:Int))/\∃
  (y:{i:Nat//i<=(numR l).toNat}),(((0=0/\0=0)/\hi=hi/\lsn=lsn/\((RdSt.go hi lsn (j4 most lo l fl) x.val).ok&&W8 (numR (RdSt.go hi lsn (j4 most lo l fl) x.val).l) ((RdSt.go hi lsn (j4 most lo l fl)
  x.val).bef+(1:Int)) hi&&W8 (numR (List.drop 1 (RdSt.go hi lsn (j4 most lo l fl) x.val).l)) (1:Int) (lsn- (1:Int)))=(RdSt.go hi lsn (j4 most lo l fl) y.val).ok/\numR (RdSt.go hi lsn (j4 most lo l fl) x.val).l=
  (RdSt.go hi lsn (j4 most lo l fl) y.val).bef/\numR l=numR l/\(x.val:Int)+(1:Int)=(y.val:Int)/\True)/\(1=1/\1=1/\List.drop 1 (List.drop 1 (RdSt.go hi lsn (j4 most lo l fl) x.val).l)=(RdSt.go hi lsn (j4 most
  lo l fl) y.val).l/\((RdSt.go hi lsn (j4 most lo l fl) x.val).fl||(RdSt.go hi lsn (j4 most lo l fl) x.val).l.isEmpty||(List.drop 1 (RdSt.go hi lsn (j4 most lo l fl) x.val).l).isEmpty)=(RdSt.go hi lsn (j4 most lo l fl)
  y.val).fl/\True)/\True)/\Lt ((numR l).toNat-y.val) ((numR l).toNat-x.val))/\(decide ((x.val:Int)<numR l)=false->((RdSt.go hi lsn (j4 most lo l fl) x.val).ok&& !(RdSt.go hi lsn (j4 most lo l fl) x.val).fl)=((T2
  most lo hi lsn l fl).ok&& !(T2 most lo hi lsn l fl).fl)/\(1=1/\1=1/\(RdSt.go hi lsn (j4 most lo l fl) x.val).l=(T2 most lo hi lsn l fl).l/\(RdSt.go hi lsn (j4 most lo l fl) x.val).fl=(T2 most lo hi lsn l
  fl).fl/\True)/\True)):
  V3 Tryz.prog 274 [.ref 0 0 0,.int .i64 most,.int .i64 lo,.int .i64 hi,.int .i64 lsn] [rdr l fl] (.bool ((T2 most lo hi lsn l fl).ok&& !(T2 most lo hi lsn l fl).fl)) [rdr (T2 most lo hi lsn l fl).l (T2 most lo hi lsn l fl).fl]:=
 vcE (code:=a3L) (gC a7J a3E (gC P2 R8 gN)) Tryz.func274 (by kernel_rfl) (by kernel_rfl) (A25 most lo hi lsn l fl) (bs:=[true]) h (by kernel_rfl)
theorem e9(l:List UInt8):0<=numR l/\numR l<=255:=by
 unfold numR;have:=(l.getD 0 0).toNat_lt;omega
theorem c6u(hi lsn lo most:Int)(l:List UInt8)(fl:Bool)(h: -1000000000000<=lo/\lo<=1000000000000)(n:Nat):
  -2000000000000<=(RdSt.go hi lsn (j4 most lo l fl) n).bef/\(RdSt.go hi lsn (j4 most lo l fl) n).bef<=2000000000000:=by
 cases n with
 |zero=>simp only[RdSt.go,j4];omega
 |succ n=>
  simp only[RdSt.go,RdSt.step];have:=e9 (RdSt.go hi lsn (j4 most lo l fl) n).l;omega
theorem aZ:Z1 Tryz.prog 274 a0X:=by
 intro args H res H' p h hp;unfold pZ at h;split at h
 ·rename_i most lo hi lsn ty row;split at h
  ·rename_i l fl hrow;simp only[X6,V1] at h;obtain⟨rfl,rfl,rfl⟩:=h;obtain⟨q1,q2,q3,q4⟩:Okb lo lsn:=hp;refine wH (oN hrow) ?_
   refine a0B most lo hi lsn l fl ?_
   have hn:=e9 l;refine⟨Z5 (by omega),⟨⟨0,T0 _⟩,⟨⟨rfl,rfl⟩,rfl,rfl,rfl,rfl,rfl,rfl,trivial⟩,⟨rfl,rfl,rfl,rfl,trivial⟩,trivial⟩,fun x=>⟨fun hc=>⟨fun _=>Z5 ?_,fun _=>Z5 (by omega),Z5 ?_,?_⟩,fun hc=> ?_⟩⟩
   ·have:=c6u hi lsn lo most l fl ⟨q1,q2⟩ x.val;omega
   ·have:=x.2;omega
   ·have hlt:(x.val:Int)<numR l:=D8 hc;refine⟨⟨x.val+1,by omega⟩,⟨⟨⟨rfl,rfl⟩,rfl,rfl,rfl,rfl,rfl,by simp,trivial⟩,⟨rfl,rfl,rfl,rfl,trivial⟩,trivial⟩,?_⟩
    unfold Lt;simp only;omega
   ·have hge:¬ (x.val:Int)<numR l:=yQ hc;have hx:=x.2;have he:x.val=(numR l).toNat:=by omega
    unfold T2;rw[he];exact⟨rfl,⟨rfl,rfl,rfl,rfl,trivial⟩,trivial⟩
  ·cases h
 ·cases h

def oY(a:List UInt8)(lsn:Int):Bool:=
 (T2 8 0 7 lsn a false).ok&& !(T2 8 0 7 lsn a false).fl&&((T2 10 1 60 lsn (T2 8 0 7 lsn a false).l (T2 8 0 7 lsn a false).fl).ok&& !(T2 10 1 60 lsn (T2 8 0 7 lsn a false).l (T2 8 0 7 lsn a false).fl).fl)&&
  (!(T2 10 1 60 lsn (T2 8 0 7 lsn a false).l (T2 8 0 7 lsn a false).fl).fl&&(T2 10 1 60 lsn (T2 8 0 7 lsn a false).l (T2 8 0 7 lsn a false).fl).l.isEmpty)
def eQ(a:List UInt8)(lsn:Int):Prop:=a.length<140737488355329/\ -1000000000000<=lsn/\lsn<=1000000000000
def fG:List T->Option (T×Option Prop)
 | [.str a,.int .i64 lsn]=>some (.bool (oY a lsn),some (eQ a lsn))
 |_=>none
def b0A:Con:=.pure fG
noncomputable def b0m:Code:=Tryz.f244.body.getD .skip
theorem eN:Z7 Tryz.prog 244:=⟨_,Tryz.func244,by kernel_rfl,by kernel_rfl⟩
theorem b2V(a:List UInt8)(lsn:Int)(h:
  Lt a.length 140737488355329/\Okb (0:Int) lsn/\Okb (1:Int) lsn/\((T2 (8:Int) (0:Int) (7:Int) lsn a false).ok&& !(T2 (8:Int) (0:Int) (7:Int) lsn a false).fl&&((T2 (10:Int) (1:Int) (60:Int) lsn
  (T2 (8:Int) (0:Int) (7:Int) lsn a false).l (T2 (8:Int) (0:Int) (7:Int) lsn a false).fl).ok&& !(T2 (10:Int) (1:Int) (60:Int) lsn (T2 (8:Int) (0:Int) (7:Int) lsn a false).l (T2 (8:Int) (0:
  Int) (7:Int) lsn a false).fl).fl)&&(!(T2 (10:Int) (1:Int) (60:Int) lsn (T2 (8:Int) (0:Int) (7:Int) lsn a false).l (T2 (8:Int) (0:Int) (7:Int) lsn a false).fl).fl&&(T2 (10:Int) (1:Int) (60:
  Int) lsn (T2 (8:Int) (0:Int) (7:Int) lsn a false).l (T2 (8:Int) (0:Int) (7:Int) lsn a false).fl).l.isEmpty))=oY a lsn):
  Z2 Tryz.prog 244 [.str a,.int .i64 lsn] (.bool (oY a lsn)):=
 T4 (code:=b0m) (gC aZ mK (gC qX xC gN)) Tryz.func244 (by kernel_rfl) (by kernel_rfl) Z0 h (by kernel_rfl)
theorem a4R:Z1 Tryz.prog 244 b0A:=by
 intro args res p h hp;unfold fG at h;split at h
 ·rename_i a lsn;simp only[X6,V1] at h;obtain⟨rfl,rfl⟩:=h;obtain⟨h1,h2,h3⟩:eQ a lsn:=hp;exact b2V a lsn ⟨h1,⟨by omega,by omega,h2,h3⟩,⟨by omega,by omega,h2,h3⟩,rfl⟩
 ·cases h

structure Rec where
 (e l t k p n g s:Int) (b a:List UInt8)
 deriving Inhabited
def Rec.ts(r:Rec):List T:=[.int .i64 r.e,.int .i64 r.l,.int .i64 r.t,.int .i64 r.k,.int .i64 r.p,.int .i64 r.n,.int .i64 r.g,.int .i64 r.s,.str r.b,.str r.a]
end Go.Proofs.YtokaojbaacnngaaGreat

