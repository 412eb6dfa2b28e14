/- A part of the proof. -/
import Derived.Test.YtokaojbaacnngaaGreatRows
import Derived.Test.YtokaojbaacnngaaGreatSS19
namespace Go.Proofs.YtokaojbaacnngaaGreat
set_option maxRecDepth 100000
open Go.SS

def Z0:Nat->Ann:=fun _=>.none

theorem b8q:Tryz.prog.follows .mixedOrders=true:=by kernel_rfl
theorem leB{a b:Nat}(h:Nat.ble a b=true):a<=b:=Nat.le_of_ble_eq_true h
theorem d4h:I8 Tryz.prog []:=fun _ h=>by cases h
theorem c4X:∀x ∈ ([]:K8),Z8 Tryz.prog x.1:=fun _ h=>by cases h
theorem d2y{f:FuncId}{c:Con}{G:K8}(h:Z2 Tryz.prog f c)(k:I8 Tryz.prog G):I8 Tryz.prog ((f,c)::G):=fun x hx=>by
 rcases List.mem_cons.1 hx with rfl|hx
 ·exact h
 ·exact k x hx
theorem c0j{f:FuncId}{c:Con}{G:K8}(h:Z8 Tryz.prog f)(k:∀x ∈ G,Z8 Tryz.prog x.1):∀x ∈ (f,c)::G,Z8 Tryz.prog x.1:=fun x hx=>by
 rcases List.mem_cons.1 hx with rfl|hx
 ·exact h
 ·exact k x hx
def GG(G:K8):Prop:=I8 Tryz.prog G/\∀x ∈ G,Z8 Tryz.prog x.1
theorem gN:GG []:=⟨d4h,c4X⟩
theorem gC{f:FuncId}{c:Con}{G:K8}(h:Z2 Tryz.prog f c)(k:Z8 Tryz.prog f)(r:GG G):GG ((f,c)::G):=⟨d2y h r.1,c0j k r.2⟩
theorem T7{G:K8}{f:FuncId}{fn:Func}{code:Code}{args:List T}{res:T}(g:GG G)(hf:Tryz.prog.funcs[f]? =some fn)(hb:fn.body=some code)(hn:Nat.ble args.length fn.ntmps=true)(A:Nat->Ann){α:Prop}(h:α)(e:α=d6y Tryz.prog G fn.ntmps fn.results.toList code args res A):Z1 Tryz.prog f args res:=
 d6L b8q g.1 g.2 hf hb (leB hn) A (Eq.mp e h)
theorem C4{G:K8}{f:FuncId}{fn:Func}{code:Code}{args:List T}{H Hres:Y5}{res:T}(g:GG G)(hf:Tryz.prog.funcs[f]? =some fn)(hb:fn.body=some code)(hn:Nat.ble args.length fn.ntmps=true)(A:Nat->Ann)(lk:List (List Lk)){α:Prop}(h:α)(e:α=d3F Tryz.prog G fn.ntmps fn.results.toList code args H res Hres A lk):V7 Tryz.prog f args H res Hres:=
 d4v b8q g.1 g.2 hf hb (leB hn) A lk (Eq.mp e h)
theorem vcE{G:K8}{f:FuncId}{fn:Func}{code:Code}{args:List T}{H Hres:Y5}{bs:List Bool}{res:T}(g:GG G)(hf:Tryz.prog.funcs[f]? =some fn)(hb:fn.body=some code)(hn:Nat.ble args.length fn.ntmps=true)(A:Nat->Ann){α:Prop}(h:α)(e:α=d3K Tryz.prog G fn.ntmps fn.results.toList code args H bs res Hres A)(hl:H.length=bs.length:=by rfl):V7 Tryz.prog f args H res Hres:=
 d3U b8q g.1 g.2 hf hb (leB hn) hl A (Eq.mp e h)
abbrev Y3{α:Type}(row:List α->Nat->List T)(A B:List α):Prop:=A.length=B.length/\Z7 A.length (row A) (row B)
theorem Z5{n:Int}(h: -9223372036854775808<=n/\n<=9223372036854775807):X6 .i64 n:=by
 unfold X6;simp only[IntKind.min,IntKind.max,IntKind.bits,IntKind.signed];simp;omega
theorem D3(n:Int):X6 .i64 n↔(-9223372036854775808<=n/\n<=9223372036854775807):=by
 unfold X6;simp only[IntKind.min,IntKind.max,IntKind.bits,IntKind.signed];simp
theorem a2E(x:UInt8):IntKind.i64.wrap (x.toNat:Int)=x.toNat:=by
 have:=x.toNat_lt;rw[IntKind.wrap_i64];omega
def A5(n:Int):Prop:= -1000000000000000<=n/\n<=1000000000000000

def W9(n lo hi:Int):Bool:=decide (lo<=n)&&decide (n<=hi)
def a07:List T->Option (T×Option Prop)
 | [.int .i64 n,.int .i64 lo,.int .i64 hi]=>some (.bool (W9 n lo hi),none)
 |_=>none
def b94:Con:=.pure a07
noncomputable def b9z:Code:=Tryz.f122.body.getD .skip
theorem S0:Z8 Tryz.prog 122:=⟨_,Tryz.func122,by kernel_rfl,by kernel_rfl⟩
theorem c1j(n lo hi:Int)(h:
  (decide (lo<=n)&&decide (n<=hi))=W9 n lo hi):
  Z1 Tryz.prog 122 [.int .i64 n,.int .i64 lo,.int .i64 hi] (.bool (W9 n lo hi)):=
 T7 (code:=b9z) gN Tryz.func122 (by kernel_rfl) (by kernel_rfl) Z0 h (by kernel_rfl)
theorem P4:Z2 Tryz.prog 122 b94:=by
 intro args res p h hp;unfold a07 at h;split at h
 ·simp only[Option.some.injEq,Prod.mk.injEq] at h;obtain⟨rfl,rfl⟩:=h;exact c1j _ _ _ rfl
 ·cases h
def c9i:Con:=.pure a07
noncomputable def d1q:Code:=Tryz.f74.body.getD .skip
theorem I3:Z8 Tryz.prog 74:=⟨_,Tryz.func74,by kernel_rfl,by kernel_rfl⟩
theorem d2C(n lo hi:Int)(h:
  (decide (lo<=n)&&decide (n<=hi))=W9 n lo hi):
  Z1 Tryz.prog 74 [.int .i64 n,.int .i64 lo,.int .i64 hi] (.bool (W9 n lo hi)):=
 T7 (code:=d1q) gN Tryz.func74 (by kernel_rfl) (by kernel_rfl) Z0 h (by kernel_rfl)
theorem A7:Z2 Tryz.prog 74 c9i:=by
 intro args res p h hp;unfold a07 at h;split at h
 ·simp only[Option.some.injEq,Prod.mk.injEq] at h;obtain⟨rfl,rfl⟩:=h;exact d2C _ _ _ rfl
 ·cases h
def a6Z:List T->Option (T×Option Prop)
 | [.int .i64 n,.int .i64 m]=>some (.bool (decide (0<=n)&&decide (n<m)),some (A5 m))
 |_=>none
def b81:Con:=.pure a6Z
noncomputable def c0V:Code:=Tryz.f155.body.getD .skip
theorem w7:Z8 Tryz.prog 155:=⟨_,Tryz.func155,by kernel_rfl,by kernel_rfl⟩
theorem c1W(n m:Int)(h:
  X6 .i64 (m- (1:Int))/\W9 n (0:Int) (m- (1:Int))=(decide ((0:Int)<=n)&&decide (n<m))):
  Z1 Tryz.prog 155 [.int .i64 n,.int .i64 m] (.bool (decide (0<=n)&&decide (n<m))):=
 T7 (code:=c0V) (gC P4 S0 gN) Tryz.func155 (by kernel_rfl) (by kernel_rfl) Z0 h (by kernel_rfl)
theorem a0y:Z2 Tryz.prog 155 b81:=by
 intro args res p h hp;unfold a6Z at h;split at h
 ·simp only[Option.some.injEq,Prod.mk.injEq] at h;obtain⟨rfl,rfl⟩:=h;have hp:A5 _:=hp;unfold A5 at hp;refine c1W _ _ ⟨Z5 (by omega),?_⟩
  unfold W9;congr 1
  exact decide_eq_decide.2 (by omega)
 ·cases h
end Go.Proofs.YtokaojbaacnngaaGreat

namespace Go.Proofs.YtokaojbaacnngaaGreat
set_option maxRecDepth 100000
open Go.SS

def big(l:List UInt8)(n:Int):Bool:=decide (n>(l.length:Int))
def P7(l:List UInt8)(n:Int):List UInt8:=if big l n then List.replicate n.toNat 0 else l.take n.toNat
def O5(l:List UInt8)(n:Int):List UInt8:=if big l n then l else l.drop n.toNat
def rdr(l:List UInt8)(fl:Bool):Option Ob:=some (.arr true 1000000 2 1 fun _=>[.bys l,.bool fl])
def a2w(n:Int):Prop:=0<=n/\n<140737488355328
theorem a3O{ty:TypeId}{row:Nat->List T}{l:List UInt8}{fl:Bool}(h:row 0=[.bys l,.bool fl]):d1i [some (.arr true ty 2 1 row)] [rdr l fl]:=
 ⟨.rows _ _ _ _ _ _ _ fun i hi=>by(obtain rfl:i=0:=by omega);exact h,trivial⟩
def c4R:List T->Y5->Option (T×Y5×Option Prop)
 | [.ref 0 0 0,.int .i64 n],[some (.arr true _ 2 1 row)]=>match row 0 with
  | [.bys l,.bool fl]=>some (.bys (P7 l n),[rdr (O5 l n) (fl||big l n)],some (a2w n))
  |_=>none
 |_,_=>none
def d42:Con:=.eff c4R
noncomputable def d4c:Code:=Tryz.f256.body.getD .skip
theorem a2V:Z8 Tryz.prog 256:=⟨_,Tryz.func256,by kernel_rfl,by kernel_rfl⟩
theorem d5O(l:List UInt8)(fl:Bool)(n:Int)(h:
  (decide (n>(l.length:Int))=true->(Nn n/\LeI n n/\J8 1 n.toNat 140737488355328/\Lt n.toNat 9223372036854775808)/\Le (0+n.toNat) (List.replicate n.toNat (0:UInt8)).length/\List.take n.toNat (List.drop 0
  (List.replicate n.toNat (0:UInt8)))=P7 l n/\(1=1/\1=1/\l=O5 l n/\true=(fl||big l n)/\True)/\True)/\(decide (n>(l.length:Int))=false->InC n l.length/\InC n l.length/\List.take n.toNat l=P7 l n
  /\(1=1/\1=1/\List.drop n.toNat l=O5 l n/\fl=(fl||big l n)/\True)/\True)):
  V7 Tryz.prog 256 [.ref 0 0 0,.int .i64 n] [rdr l fl] (.bys (P7 l n)) [rdr (O5 l n) (fl||big l n)]:=
 vcE (code:=d4c) gN Tryz.func256 (by kernel_rfl) (by kernel_rfl) Z0 (bs:=[true]) h (by kernel_rfl)
theorem a8c:Z2 Tryz.prog 256 d42:=by
 intro args H res H' p h hp;unfold c4R at h;split at h
 ·rename_i n ty row;split at h
  ·rename_i l fl hrow;simp only[Option.some.injEq,Prod.mk.injEq] at h;obtain⟨rfl,rfl,rfl⟩:=h;obtain⟨h0,h1⟩:a2w n:=hp;refine a08 (a3O hrow) ?_
   refine d5O l fl n ⟨fun hb=> ?_,fun hb=> ?_⟩
   ·have hbig:big l n=true:=hb;refine⟨⟨h0,Int.le_refl _,by unfold J8;omega,by unfold Lt;omega⟩,by unfold Le;simp,?_,⟨rfl,rfl,?_,?_,trivial⟩,trivial⟩
    ·simp[P7,hbig]
    ·simp[O5,hbig]
    ·simp[hbig]
   ·have hbig:big l n=false:=hb;have hle:n<=l.length:=by simpa[big] using hbig
    refine⟨⟨h0,hle⟩,⟨h0,hle⟩,?_,⟨rfl,rfl,?_,?_,trivial⟩,trivial⟩
    ·simp[P7,hbig]
    ·simp[O5,hbig]
    ·simp[hbig]
  ·cases h
 ·cases h

def numR(l:List UInt8):Int:=(l.getD 0 0).toNat
def d3h:List T->Y5->Option (T×Y5×Option Prop)
 | [.ref 0 0 0],[some (.arr true _ 2 1 row)]=>match row 0 with
  | [.bys l,.bool fl]=>some (.int .i64 (numR l),[rdr (l.drop 1) (fl||l.isEmpty)],none)
  |_=>none
 |_,_=>none
def d6w:Con:=.eff d3h
noncomputable def d6h:Code:=Tryz.f268.body.getD .skip
theorem a9t:Z8 Tryz.prog 268:=⟨_,Tryz.func268,by kernel_rfl,by kernel_rfl⟩
theorem d7c(l:List UInt8)(fl:Bool)(h:
  a2w (1:Int)/\W7 (0:Int) (P7 l (1:Int)).length/\IntKind.i64.wrap (↑((P7 l (1:Int)).getD 0 (0:UInt8)).toNat:Int)=numR l/\(1=1/\1=1/\O5 l (1:Int)=List.drop 1 l/\(fl||big l (1:Int))=(fl
  ||l.isEmpty)/\True)/\True):
  V7 Tryz.prog 268 [.ref 0 0 0] [rdr l fl] (.int .i64 (numR l)) [rdr (l.drop 1) (fl||l.isEmpty)]:=
 vcE (code:=d6h) (gC a8c a2V gN) Tryz.func268 (by kernel_rfl) (by kernel_rfl) Z0 (bs:=[true]) h (by kernel_rfl)
theorem b56:Z2 Tryz.prog 268 d6w:=by
 intro args H res H' p h hp;unfold d3h at h;split at h
 ·rename_i ty row;split at h
  ·rename_i l fl hrow;simp only[Option.some.injEq,Prod.mk.injEq] at h;obtain⟨rfl,rfl,rfl⟩:=h;refine a08 (a3O hrow) ?_
   refine d7c l fl ?_
   have h1:∀x:UInt8,IntKind.i64.wrap (x.toNat:Int)=x.toNat:=fun x=>by
    have:=x.toNat_lt;rw[IntKind.wrap_i64];omega
   have h0:IntKind.i64.wrap 0=0:=by decide
   cases l with
   |nil=>refine⟨⟨by omega,by omega⟩,by simp[W7,P7,big],?_,⟨rfl,rfl,?_,?_,trivial⟩,trivial⟩<;>simp[P7,O5,big,numR,h0]
   |cons a l=>
    have hb:big (a::l) 1=false:=by simp[big];omega
    refine⟨⟨by omega,by omega⟩,by simp[W7,P7,hb],?_,⟨rfl,rfl,?_,?_,trivial⟩,trivial⟩<;>simp[P7,O5,hb,numR,h1]
  ·cases h
 ·cases h

def b1Q:List T->Option (T×Option Prop)
 | [.bref [.bys l,.bool fl]]=>some (.bool (!fl&&l.isEmpty),none)
 |_=>none
def c5w:Con:=.pure b1Q
noncomputable def c8R:Code:=Tryz.f259.body.getD .skip
theorem a0H:Z8 Tryz.prog 259:=⟨_,Tryz.func259,by kernel_rfl,by kernel_rfl⟩
theorem c47(l:List UInt8)(fl:Bool)(h:
  (!fl&&(l.length:Int)==(0:Int))=(!fl&&l.isEmpty)):
  Z1 Tryz.prog 259 [.bref [.bys l,.bool fl]] (.bool (!fl&&l.isEmpty)):=
 T7 (code:=c8R) gN Tryz.func259 (by kernel_rfl) (by kernel_rfl) Z0 h (by kernel_rfl)
theorem a2X:Z2 Tryz.prog 259 c5w:=by
 intro args res p h hp;unfold b1Q at h;split at h
 ·rename_i l fl;simp only[Option.some.injEq,Prod.mk.injEq] at h;obtain⟨rfl,rfl⟩:=h;refine c47 l fl ?_
  cases l with
  |nil=>simp
  |cons a l=>
   have:((((a::l).length:Nat):Int)==0)=false:=by simp;omega
   rw[this];simp
 ·cases h

structure RdSt where
 l:List UInt8
 fl:Bool
 ok:Bool
 bef:Int
def RdSt.step(hi lsn:Int)(s:RdSt):RdSt:=
 ⟨(s.l.drop 1).drop 1,(s.fl||s.l.isEmpty)||(s.l.drop 1).isEmpty,s.ok&&W9 (numR s.l) (s.bef+1) hi&&W9 (numR (s.l.drop 1)) 1 (lsn-1),numR s.l⟩
def RdSt.go(hi lsn:Int)(s:RdSt):Nat->RdSt
 |0=>s
 |n+1=>RdSt.step hi lsn (RdSt.go hi lsn s n)
def g7(most lo:Int)(l:List UInt8)(fl:Bool):RdSt:=⟨l.drop 1,fl||l.isEmpty,decide (numR l<=most),lo-1⟩
def S6(most lo hi lsn:Int)(l:List UInt8)(fl:Bool):RdSt:=RdSt.go hi lsn (g7 most lo l fl) (numR l).toNat
def Okb(lo lsn:Int):Prop:= -1000000000000<=lo/\lo<=1000000000000/\ -1000000000000<=lsn/\lsn<=1000000000000
def a3h:List T->Y5->Option (T×Y5×Option Prop)
 | [.ref 0 0 0,.int .i64 most,.int .i64 lo,.int .i64 hi,.int .i64 lsn],[some (.arr true _ 2 1 row)]=>match row 0 with
  | [.bys l,.bool fl]=>some (.bool ((S6 most lo hi lsn l fl).ok&& !(S6 most lo hi lsn l fl).fl),[rdr (S6 most lo hi lsn l fl).l (S6 most lo hi lsn l fl).fl],some (Okb lo lsn))
  |_=>none
 |_,_=>none
def a92:Con:=.eff a3h
def I25(most lo hi lsn:Int)(l:List UInt8)(fl:Bool)(x:{i:Nat//i<=(numR l).toNat}):Sy:=
 ⟨[(0,.ref 0 0 0),(3,.int .i64 hi),(4,.int .i64 lsn),(12,.bool (RdSt.go hi lsn (g7 most lo l fl) x.1).ok),(13,.int .i64 (RdSt.go hi lsn (g7 most lo l fl) x.1).bef),(23,.int .i64 (numR l)),(24,.int .i64 x.1)],
  [rdr (RdSt.go hi lsn (g7 most lo l fl) x.1).l (RdSt.go hi lsn (g7 most lo l fl) x.1).fl]⟩
def A25(most lo hi lsn:Int)(l:List UInt8)(fl:Bool):Nat->Ann
 |0=>.one {i:Nat//i<=(numR l).toNat} (I25 most lo hi lsn l fl) (fun x=>(numR l).toNat-x.1) [.box 0] [.box 0] (fun _=>Z0)
 |_=>.none
noncomputable def b1g:Code:=Tryz.f274.body.getD .skip
theorem a4f:Z8 Tryz.prog 274:=⟨_,Tryz.func274,by kernel_rfl,by kernel_rfl⟩
theorem a9L(most lo hi lsn:Int)(l:List UInt8)(fl:Bool)(h:
  X6 .i64 (lo- (1:Int))/\(∃(x:{i:Nat//i<=(numR l).toNat}),((0=0/\0=0)/\hi=hi/\lsn=lsn/\decide (numR l<=most)=(RdSt.go hi lsn (g7 most lo l fl) x.val).ok/\lo- (1:Int)=(RdSt.go hi lsn (g7 most lo
  l fl) x.val).bef/\numR l=numR l/\(0:Int)=(x.val:Int)/\True)/\(1=1/\1=1/\List.drop 1 l=(RdSt.go hi lsn (g7 most lo l fl) x.val).l/\(fl||l.isEmpty)=(RdSt.go hi lsn (g7 most lo l fl) x.val).fl/\True)/\True)
  /\∀(x:{i:Nat//i<=(numR l).toNat}),(decide ((x.val:Int)<numR l)=true->((RdSt.go hi lsn (g7 most lo l fl) x.val).ok=true->X6 .i64 ((RdSt.go hi lsn (g7 most lo l fl) x.val).bef+(1:Int)))/\(((RdSt.go hi lsn
  (g7 most lo l fl) x.val).ok&&W9 (numR (RdSt.go hi lsn (g7 most lo l fl) x.val).l) ((RdSt.go hi lsn (g7 most lo l fl) x.val).bef+(1:Int)) hi)=true->X6 .i64 (lsn- (1:Int)))/\X6 .i64 ((x.val:Int)+(1:Int))/\∃
  (y:{i:Nat//i<=(numR l).toNat}),(((0=0/\0=0)/\hi=hi/\lsn=lsn/\((RdSt.go hi lsn (g7 most lo l fl) x.val).ok&&W9 (numR (RdSt.go hi lsn (g7 most lo l fl) x.val).l) ((RdSt.go hi lsn (g7 most lo l fl)
  x.val).bef+(1:Int)) hi&&W9 (numR (List.drop 1 (RdSt.go hi lsn (g7 most lo l fl) x.val).l)) (1:Int) (lsn- (1:Int)))=(RdSt.go hi lsn (g7 most lo l fl) y.val).ok/\numR (RdSt.go hi lsn (g7 most lo l fl) x.val).l=
  (RdSt.go hi lsn (g7 most lo l fl) y.val).bef/\numR l=numR l/\(x.val:Int)+(1:Int)=(y.val:Int)/\True)/\(1=1/\1=1/\List.drop 1 (List.drop 1 (RdSt.go hi lsn (g7 most lo l fl) x.val).l)=(RdSt.go hi lsn (g7 most
  lo l fl) y.val).l/\((RdSt.go hi lsn (g7 most lo l fl) x.val).fl||(RdSt.go hi lsn (g7 most lo l fl) x.val).l.isEmpty||(List.drop 1 (RdSt.go hi lsn (g7 most lo l fl) x.val).l).isEmpty)=(RdSt.go hi lsn (g7 most lo l fl)
  y.val).fl/\True)/\True)/\Lt ((numR l).toNat-y.val) ((numR l).toNat-x.val))/\(decide ((x.val:Int)<numR l)=false->((RdSt.go hi lsn (g7 most lo l fl) x.val).ok&& !(RdSt.go hi lsn (g7 most lo l fl) x.val).fl)=((S6
  most lo hi lsn l fl).ok&& !(S6 most lo hi lsn l fl).fl)/\(1=1/\1=1/\(RdSt.go hi lsn (g7 most lo l fl) x.val).l=(S6 most lo hi lsn l fl).l/\(RdSt.go hi lsn (g7 most lo l fl) x.val).fl=(S6 most lo hi lsn l
  fl).fl/\True)/\True)):
  V7 Tryz.prog 274 [.ref 0 0 0,.int .i64 most,.int .i64 lo,.int .i64 hi,.int .i64 lsn] [rdr l fl] (.bool ((S6 most lo hi lsn l fl).ok&& !(S6 most lo hi lsn l fl).fl)) [rdr (S6 most lo hi lsn l fl).l (S6 most lo hi lsn l fl).fl]:=
 vcE (code:=b1g) (gC b56 a9t (gC P4 S0 gN)) Tryz.func274 (by kernel_rfl) (by kernel_rfl) (A25 most lo hi lsn l fl) (bs:=[true]) h (by kernel_rfl)
theorem k7(l:List UInt8):0<=numR l/\numR l<=255:=by
 unfold numR;have:=(l.getD 0 0).toNat_lt;omega
theorem d4U(hi lsn lo most:Int)(l:List UInt8)(fl:Bool)(h: -1000000000000<=lo/\lo<=1000000000000)(n:Nat):
  -2000000000000<=(RdSt.go hi lsn (g7 most lo l fl) n).bef/\(RdSt.go hi lsn (g7 most lo l fl) n).bef<=2000000000000:=by
 cases n with
 |zero=>simp only[RdSt.go,g7];omega
 |succ n=>
  simp only[RdSt.go,RdSt.step];have:=k7 (RdSt.go hi lsn (g7 most lo l fl) n).l;omega
theorem a8C:Z2 Tryz.prog 274 a92:=by
 intro args H res H' p h hp;unfold a3h at h;split at h
 ·rename_i most lo hi lsn ty row;split at h
  ·rename_i l fl hrow;simp only[Option.some.injEq,Prod.mk.injEq] at h;obtain⟨rfl,rfl,rfl⟩:=h;obtain⟨q1,q2,q3,q4⟩:Okb lo lsn:=hp;refine a08 (a3O hrow) ?_
   refine a9L most lo hi lsn l fl ?_
   have hn:=k7 l;refine⟨Z5 (by omega),⟨⟨0,Nat.zero_le _⟩,⟨⟨rfl,rfl⟩,rfl,rfl,rfl,rfl,rfl,rfl,trivial⟩,⟨rfl,rfl,rfl,rfl,trivial⟩,trivial⟩,fun x=>⟨fun hc=>⟨fun _=>Z5 ?_,fun _=>Z5 (by omega),Z5 ?_,?_⟩,fun hc=> ?_⟩⟩
   ·have:=d4U hi lsn lo most l fl ⟨q1,q2⟩ x.val;omega
   ·have:=x.2;omega
   ·have hlt:(x.val:Int)<numR l:=of_decide_eq_true hc;refine⟨⟨x.val+1,by omega⟩,⟨⟨⟨rfl,rfl⟩,rfl,rfl,rfl,rfl,rfl,by simp,trivial⟩,⟨rfl,rfl,rfl,rfl,trivial⟩,trivial⟩,?_⟩
    unfold Lt;simp only;omega
   ·have hge:¬ (x.val:Int)<numR l:=of_decide_eq_false hc;have hx:=x.2;have he:x.val=(numR l).toNat:=by omega
    unfold S6;rw[he];exact⟨rfl,⟨rfl,rfl,rfl,rfl,trivial⟩,trivial⟩
  ·cases h
 ·cases h

def a8Z(a:List UInt8)(lsn:Int):Bool:=
 (S6 8 0 7 lsn a false).ok&& !(S6 8 0 7 lsn a false).fl&&((S6 10 1 60 lsn (S6 8 0 7 lsn a false).l (S6 8 0 7 lsn a false).fl).ok&& !(S6 10 1 60 lsn (S6 8 0 7 lsn a false).l (S6 8 0 7 lsn a false).fl).fl)&&
  (!(S6 10 1 60 lsn (S6 8 0 7 lsn a false).l (S6 8 0 7 lsn a false).fl).fl&&(S6 10 1 60 lsn (S6 8 0 7 lsn a false).l (S6 8 0 7 lsn a false).fl).l.isEmpty)
def a9q(a:List UInt8)(lsn:Int):Prop:=a.length<140737488355329/\ -1000000000000<=lsn/\lsn<=1000000000000
def a6q:List T->Option (T×Option Prop)
 | [.str a,.int .i64 lsn]=>some (.bool (a8Z a lsn),some (a9q a lsn))
 |_=>none
def c1G:Con:=.pure a6q
noncomputable def c0O:Code:=Tryz.f244.body.getD .skip
theorem a8u:Z8 Tryz.prog 244:=⟨_,Tryz.func244,by kernel_rfl,by kernel_rfl⟩
theorem c3s(a:List UInt8)(lsn:Int)(h:
  Lt a.length 140737488355329/\Okb (0:Int) lsn/\Okb (1:Int) lsn/\((S6 (8:Int) (0:Int) (7:Int) lsn a false).ok&& !(S6 (8:Int) (0:Int) (7:Int) lsn a false).fl&&((S6 (10:Int) (1:Int) (60:Int) lsn
  (S6 (8:Int) (0:Int) (7:Int) lsn a false).l (S6 (8:Int) (0:Int) (7:Int) lsn a false).fl).ok&& !(S6 (10:Int) (1:Int) (60:Int) lsn (S6 (8:Int) (0:Int) (7:Int) lsn a false).l (S6 (8:Int) (0:
  Int) (7:Int) lsn a false).fl).fl)&&(!(S6 (10:Int) (1:Int) (60:Int) lsn (S6 (8:Int) (0:Int) (7:Int) lsn a false).l (S6 (8:Int) (0:Int) (7:Int) lsn a false).fl).fl&&(S6 (10:Int) (1:Int) (60:
  Int) lsn (S6 (8:Int) (0:Int) (7:Int) lsn a false).l (S6 (8:Int) (0:Int) (7:Int) lsn a false).fl).l.isEmpty))=a8Z a lsn):
  Z1 Tryz.prog 244 [.str a,.int .i64 lsn] (.bool (a8Z a lsn)):=
 T7 (code:=c0O) (gC a8C a4f (gC a2X a0H gN)) Tryz.func244 (by kernel_rfl) (by kernel_rfl) Z0 h (by kernel_rfl)
theorem b4w:Z2 Tryz.prog 244 c1G:=by
 intro args res p h hp;unfold a6q at h;split at h
 ·rename_i a lsn;simp only[Option.some.injEq,Prod.mk.injEq] at h;obtain⟨rfl,rfl⟩:=h;obtain⟨h1,h2,h3⟩:a9q a lsn:=hp;exact c3s a lsn ⟨h1,⟨by omega,by omega,h2,h3⟩,⟨by omega,by omega,h2,h3⟩,rfl⟩
 ·cases h

structure Rec where
 (e l t k p n g s:Int) (b a:List UInt8)
 deriving Inhabited
def Rec.ts(r:Rec):List T:=[.int .i64 r.e,.int .i64 r.l,.int .i64 r.t,.int .i64 r.k,.int .i64 r.p,.int .i64 r.n,.int .i64 r.g,.int .i64 r.s,.str r.b,.str r.a]
end Go.Proofs.YtokaojbaacnngaaGreat

