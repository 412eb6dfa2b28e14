/- A part of the proof. -/
import Derived.Test.YtpdnnhnfongoeaaGreatRows
import Derived.Test.YtpdnnhnfongoeaaGreatSS13
import Derived.Laws.BitsLemmas
namespace Go.Proofs.YtpdnnhnfongoeaaGreat
set_option maxRecDepth 100000
open Go.SS Go.Proofs.Tryz
variable{p:Prop}
noncomputable section
abbrev Ji(n:Int):T:=.int .i64 n
abbrev dz:=@default
def Z3:Nat->Ann:=λ_=>.none
theorem a9N:prog.follows .mixedOrders=true:=R4
theorem leB{a b:Nat}(h:Nat.ble a b=true):a<=b:=yG h
theorem c6m:B4 prog []:=λ_ h=>F1
theorem b5T:∀x ∈ ([]:H4),Q5 prog x.1:=λ_ h=>F1
theorem c3j{f:FuncId}{c:Con}{G:H4}(h:a5P prog f c)(k:B4 prog G):B4 prog ((f,c)::G):=λx X=>by
 rcases vM.1 X with rfl|X
 ·exact h
 ·exact k x X
theorem b1B{f:FuncId}{c:Con}{G:H4}(h:Q5 prog f)(k:∀x ∈ G,Q5 prog x.1):∀x ∈ (f,c)::G,Q5 prog x.1:=λx X=>by
 rcases vM.1 X with rfl|X
 ·exact h
 ·exact k x X
def GG(G:H4):Prop:=B4 prog G/\∀x ∈ G,Q5 prog x.1
theorem gN:GG []:=⟨c6m,b5T⟩
abbrev br(b:Bool)(p q:Prop):Prop:=(b=true->p)/\(b=false->q)
abbrev bd(c:Prop)[Decidable c](p q:Prop):Prop:=br (decide c) p q
abbrev Up(n:Nat):Type:={i:Nat//i<=n}
abbrev Ri(n:Int):Prop:=R1 .i64 n
abbrev tk(n:Nat)(l:List T)(k:Nat):List T:=List.take n (List.drop (k*n) l)
abbrev T8(p:Prop):Prop:=True/\True/\True/\True/\True/\True/\True/\True/\p
abbrev oo(p:Prop):Prop:=1=1/\1=1/\p
def pY:List (List Lk):=[[.arr 0]]
def iQ:List Lk:=[.box 0,.box 1]
def cG:List Lk:=[.arr 0,.box 1]
def aW:List (List Lk):=[[.box 0,.arr 1,.arr 2,.arr 3,.arr 4,.arr 5,.arr 6,.arr 7,.arr 8,.cel 0 0,.cel 0 1,.cel 0 3,.cel 0 5,.cel 0 7,.cel 0 10,.cel 0 11,.cel 0 12]]
def c96:List Lk:=[.box 0,.arr 1,.arr 2,.arr 3,.arr 4,.arr 5,.arr 6,.arr 7,.arr 8,.cel 0 0,.cel 0 1,.cel 0 3,.cel 0 5,.cel 0 7,.cel 0 10,.cel 0 11,.cel 0 12]
def a8S:List Lk:=[.box 0,.arr 1,.arr 2,.arr 3,.arr 4,.arr 5,.arr 6,.arr 7,.arr 8,.box 9,.box 10,.box 11,.box 12,.cel 0 0,.cel 0 1,.cel 0 3,.cel 0 5,.cel 0 7,.cel 0 10,.cel 0 11,.cel 0 12]
def b5p:List Lk:=[.box 0,.arr 1]
def b7X:List Lk:=[.box 0,.at_ 5]
def b7p:List Lk:=[.box 0,.box 1,.box 2,.cel 2 0,.cel 2 1]
def c2T:List Lk:=[.box 0,.at_ 7,.at_ 8]
def b6A:List (List Lk):=[[.arr 1],[.nilS 0 [] 0 2,.arr 0]]
def c93:List Lk:=[.nilS 0 [] 0 2,.arr 0]
def c4o:List Lk:=[.arr 2,.arr 3,.arr 4,.arr 5,.arr 6]
def c4u:List Lk:=[.box 0,.arr 1,.arr 2,.arr 3,.arr 4,.arr 5,.arr 8]
def c4N:List Lk:=[.box 0,.arr 1,.arr 2,.arr 3,.arr 4,.arr 5,.arr 6]
def c5h:List Lk:=[.box 0,.arr 1,.arr 2,.arr 3,.arr 4,.arr 5]
def c42:List Lk:=[.box 0,.arr 1,.arr 2,.arr 3,.arr 4,.arr 5,.arr 7,.arr 8]
def c4E:List Lk:=[.box 0,.arr 1,.arr 2,.arr 3,.arr 4,.arr 5,.arr 2,.arr 3]
def c4J:List Lk:=[.box 0,.box 1,.box 5,.arr 2,.arr 3,.arr 4]
def c4n:List Lk:=[.box 0,.box 1,.box 2,.arr 3,.arr 4,.arr 5]
def c43:List (List Lk):=[[.box 0,.arr 1,.arr 2,.arr 3,.arr 4,.arr 5,.arr 6,.arr 7,.arr 5],[.box 0,.arr 1,.arr 2,.arr 3,.arr 4,.arr 5,.arr 2,.arr 3,.arr 7],[.box 0,.arr 1,.arr 2,.arr 3,.arr 4,.arr 5,.arr 2,.arr 3,.arr 5]]
def c92:List Lk:=[.box 0,.arr 1,.arr 2,.arr 3,.arr 4,.arr 5,.arr 6,.arr 7,.arr 5]
def c9Z:List Lk:=[.box 0,.arr 1,.arr 2,.arr 3,.arr 4,.arr 5,.arr 2,.arr 3,.arr 7]
def c94:List Lk:=[.box 0,.arr 1,.arr 2,.arr 3,.arr 4,.arr 5,.arr 2,.arr 3,.arr 5]
def c4r:List (List Lk):=[[.box 0,.arr 1,.arr 2,.arr 3,.arr 4,.arr 5,.arr 7,.arr 8,.arr 9]]
def c90:List Lk:=[.box 0,.arr 1,.arr 2,.arr 3,.arr 4,.arr 5,.arr 7,.arr 8,.arr 9]
def c5n:List Lk:=[.arr 0,.arr 1,.box 2,.box 3,.at_ 5]
def c40:List Lk:=[.box 0,.box 1,.box 2,.cel 2 0,.cel 2 1,.at_ 13,.box 6,.box 7]
def c5r:List Lk:=[.box 0,.arr 1,.arr 2,.arr 3,.arr 4,.arr 5,.arr 6,.arr 7,.arr 8,.box 9,.at_ 5]
def GK(f:FuncId)(c:Con):Prop:=a5P prog f c/\Q5 prog f
theorem gk{f:FuncId}{c:Con}{fn:Func}(h:prog.funcs[f]? =some fn)(k:a5P prog f c)(a:(fn.name== "runtime.NumGoroutine")=false:=by kernel_rfl)(b:fn.body.isNone=false:=by kernel_rfl):GK f c:=⟨k,fn,h,a,b⟩
theorem gC{f:FuncId}{c:Con}{G:H4}(h:GK f c)(r:GG G):GG ((f,c)::G):=⟨c3j h.1 r.1,b1B h.2 r.2⟩
theorem U5{G:H4}{f:FuncId}{fn:Func}{args:List T}{res:T}(g:GG G)(F:prog.funcs[f]? =some fn)(A:Nat->Ann){α:Prop}(h:α)(B:fn.body=some (fn.body.getD .skip):=by kernel_rfl)(n:Nat.ble args.length fn.ntmps=true:=by kernel_rfl)(e:α=c8k prog G fn.ntmps fn.results.toList (fn.body.getD .skip) args res A:=by kernel_rfl):V4 prog f args res:=
 c8N a9N g.1 g.2 F B (leB n) A (Eq.mp e h)
theorem c91{q r:Sort _}{a:q}{b:r}:a=a/\b=b:=⟨rfl,rfl⟩
theorem c95{q:Sort _}{a:q}{n:Nat}{r:Nat->List T}:a=a/\Z8 n r r:=⟨rfl,λ_ _=>rfl⟩
theorem c9X{q0:Sort _}{a0:q0}{q1:Sort _}{a1:q1}:a0=a0/\a1=a1/\True:=⟨rfl,rfl,trivial⟩
theorem c9G:True/\True:=⟨trivial,trivial⟩
theorem C4{G:H4}{f:FuncId}{fn:Func}{args:List T}{H Hres:X8}{res:T}(g:GG G)(F:prog.funcs[f]? =some fn)(A:Nat->Ann)(lk:List (List Lk)){α:Prop}(h:α)(B:fn.body=some (fn.body.getD .skip):=by kernel_rfl)(n:Nat.ble args.length fn.ntmps=true:=by kernel_rfl)(e:α=c5g prog G fn.ntmps fn.results.toList (fn.body.getD .skip) args H res Hres A lk:=by kernel_rfl):G1 prog f args H res Hres:=
 c53 a9N g.1 g.2 F B (leB n) A lk (Eq.mp e h)
theorem vcE{G:H4}{f:FuncId}{fn:Func}{args:List T}{H Hres:X8}{bs:List Bool}{res:T}(g:GG G)(F:prog.funcs[f]? =some fn)(A:Nat->Ann){α:Prop}(h:α)(B:fn.body=some (fn.body.getD .skip):=by kernel_rfl)(n:Nat.ble args.length fn.ntmps=true:=by kernel_rfl)(e:α=c5d prog G fn.ntmps fn.results.toList (fn.body.getD .skip) args H bs res Hres A:=by kernel_rfl)(l:H.length=bs.length:=by rfl):G1 prog f args H res Hres:=
 c5X a9N g.1 g.2 F B (leB n) l A (Eq.mp e h)
abbrev Z0{α:Type}(row:List α->Nat->List T)(A B:List α):Prop:=A.length=B.length/\Z8 A.length (row A) (row B)
theorem Z4{n:Int}(h: -9223372036854775808<=n/\n<=9223372036854775807):R1 .i64 n:=by
 unfold R1;simp only[IntKind.min,IntKind.max,IntKind.bits,IntKind.signed];simp;omega
theorem k6(n:Int):R1 .i64 n↔(-9223372036854775808<=n/\n<=9223372036854775807):=by
 unfold R1;simp only[IntKind.min,IntKind.max,IntKind.bits,IntKind.signed];simp
theorem uM(x:UInt8):IntKind.i64.wrap (x.toNat:Int)=x.toNat:=by
 have:=x.toNat_lt;rw[IntKind.wrap_i64];omega
def m4(n:Int):Prop:= -1000000000000000<=n/\n<=1000000000000000
theorem b7h(h:p:=by unfold m4;dsimp only;omega):p:=h
def V6(n l hi:Int):Bool:=decide (l<=n)&&decide (n<=hi)
def qT:List T->Option (T×Option Prop)
 | [.int .i64 n,.int .i64 lo,.int .i64 hi]=>some (.bool (V6 n lo hi),none)
 |_=>none
def b4J:Con:=.pure qT
theorem b4w(n l hi:Int)(h:
  (decide (l<=n)&&decide (n<=hi))=V6 n l hi):
  V4 prog 91 [Ji n,Ji l,Ji hi] (.bool (V6 n l hi)):=
 U5 gN func91 Z3 h
theorem O0:GK 91 b4J:=gk func91<|by
 intro args res p h hp;unfold qT at h;split at h
 ·simp only[X0,U4] at h;obtain⟨rfl,rfl⟩:=h;exact b4w _ _ _ rfl
 ·cases h
def c3Y:Con:=.pure qT
theorem c2S(n l hi:Int)(h:
  (decide (l<=n)&&decide (n<=hi))=V6 n l hi):
  V4 prog 33 [Ji n,Ji l,Ji hi] (.bool (V6 n l hi)):=
 U5 gN func33 Z3 h
theorem z7:GK 33 c3Y:=gk func33<|by
 intro args res p h hp;unfold qT at h;split at h
 ·simp only[X0,U4] at h;obtain⟨rfl,rfl⟩:=h;exact c2S _ _ _ rfl
 ·cases h
def a0D:List T->Option (T×Option Prop)
 | [.int .i64 n,.int .i64 m]=>some (.bool (decide (0<=n)&&decide (n<m)),some (m4 m))
 |_=>none
def b1E:Con:=.pure a0D
theorem b1I(n m:Int)(h:
  Ri (m-1)/\V6 n (0:Int) (m-1)=(decide (0<=n)&&decide (n<m))):
  V4 prog 229 [Ji n,Ji m] (.bool (decide (0<=n)&&decide (n<m))):=
 U5 (gC O0 gN) func229 Z3 h
theorem tJ:GK 229 b1E:=gk func229<|by
 intro args res p h hp;unfold a0D at h;split at h
 ·simp only[X0,U4] at h;obtain⟨rfl,rfl⟩:=h;have hp:m4 _:=hp;unfold m4 at hp;refine b1I _ _ ⟨Z4 Z9,?_⟩
  unfold V6;congr 1
  exact decide_eq_decide.2 Z9
 ·cases h
def big(l:Bz)(n:Int):Bool:=decide (n>(l.length:Int))
def T3(l:Bz)(n:Int):Bz:=if big l n then List.replicate n.toNat 0 else l.take n.toNat
def Q7(l:Bz)(n:Int):Bz:=if big l n then l else l.drop n.toNat
def rdr(l:Bz)(fl:Bool):Option Ob:=some (.arr true 1000000 2 1 λ_=>[.bys l,.bool fl])
def r7(n:Int):Prop:=0<=n/\n<140737488355328
theorem iP{ty:TypeId}{row:Nat->List T}{l:Bz}{fl:Bool}(h:row 0=[.bys l,.bool fl]):c2c [some (.arr true ty 2 1 row)] [rdr l fl]:=
 ⟨.rows _ _ _ _ _ _ _ λi hi=>by(obtain rfl:i=0:=by omega);exact h,trivial⟩
def b6p:List T->X8->Option (T×X8×Option Prop)
 | [.ref 0 0 0,.int .i64 n],[some (.arr true _ 2 1 row)]=>match row 0 with
  | [.bys l,.bool fl]=>some (.bys (T3 l n),[rdr (Q7 l n) (fl||big l n)],some (r7 n))
  |_=>none
 |_,_=>none
def c7V:Con:=.eff b6p
theorem qH:GK 335 c7V:=gk func335<|by
 intro args H res H' p h hp;unfold b6p at h;split at h
 ·rename_i n ty row;split at h
  ·rename_i l fl hrow;simp only[X0,U4] at h;obtain⟨rfl,rfl,rfl⟩:=h;obtain⟨h0,h1⟩:r7 n:=hp;refine qY (iP hrow) ?_
   refine vcE gN func335 Z3 (bs:=[true]) (α:=let p:=(List.replicate n.toNat (0:UInt8));bd (n>(l.length:Int)) ((Nn n/\LeI n n/\yN 1 n.toNat 140737488355328/\Lt n.toNat 9223372036854775808)/\Le (0+n.toNat) p.length/\List.take n.toNat (List.drop 0 p)=T3 l n/\(oo (l=Q7 l n/\true=(fl||big l n)/\True))/\True) (jX n l.length/\jX n l.length/\List.take n.toNat l=T3 l n/\(oo (List.drop n.toNat l=Q7 l n/\fl=(fl||big l n)/\True))/\True)) ⟨λhb=>?_,λhb=>?_⟩
   ·have hbig:big l n=true:=hb;refine⟨⟨h0,Int.le_refl _,sW,Q1⟩,by unfold Le;simp,?_,⟨rfl,rfl,?_,?_,trivial⟩,trivial⟩
    ·simp[T3,hbig]
    ·simp[Q7,hbig]
    ·simp[hbig]
   ·have hbig:big l n=false:=hb;have hle:n<=l.length:=by simpa[big] using hbig
    refine⟨⟨h0,hle⟩,⟨h0,hle⟩,?_,⟨rfl,rfl,?_,?_,trivial⟩,trivial⟩
    ·simp[T3,hbig]
    ·simp[Q7,hbig]
    ·simp[hbig]
  ·cases h
 ·cases h
def numR(l:Bz):Int:=(l.getD 0 0).toNat
def c4W:List T->X8->Option (T×X8×Option Prop)
 | [.ref 0 0 0],[some (.arr true _ 2 1 row)]=>match row 0 with
  | [.bys l,.bool fl]=>some (.int .i64 (numR l),[rdr (l.drop 1) (fl||l.isEmpty)],none)
  |_=>none
 |_,_=>none
def c9A:Con:=.eff c4W
theorem eI:GK 321 c9A:=gk func321<|by
 intro args H res H' p h hp;unfold c4W at h;split at h
 ·rename_i ty row;split at h
  ·rename_i l fl hrow;simp only[X0,U4] at h;obtain⟨rfl,rfl,rfl⟩:=h;refine qY (iP hrow) ?_
   refine vcE (gC qH gN) func321 Z3 (bs:=[true]) (α:=r7 (1:Int)/\W9 (0:Int) (T3 l (1:Int)).length/\IntKind.i64.wrap (↑((T3 l (1:Int)).getD 0 (0:UInt8)).toNat:Int)=numR l/\(1=1/\1=1/\Q7 l 1=List.drop 1 l/\(fl||big l (1:Int))=(fl||l.isEmpty)/\True)/\True) ?_
   have e:∀x:UInt8,IntKind.i64.wrap (x.toNat:Int)=x.toNat:=λx=>by
    have:=x.toNat_lt;rw[IntKind.wrap_i64];omega
   have d:IntKind.i64.wrap 0=0:=M3
   cases l with
   |nil=>refine⟨⟨Z9,Z9⟩,by simp[W9,T3,big],?_,⟨rfl,rfl,?_,?_,trivial⟩,trivial⟩<;>simp[T3,Q7,big,numR,d]
   |cons a l=>
    have B:big (a::l) 1=false:=by simp[big];omega
    refine⟨⟨Z9,Z9⟩,by simp[W9,T3,B],?_,⟨rfl,rfl,?_,?_,trivial⟩,trivial⟩<;>simp[T3,Q7,B,numR,e]
  ·cases h
 ·cases h
def a3a:List T->Option (T×Option Prop)
 | [.bref [.bys l,.bool fl]]=>some (.bool (!fl&&l.isEmpty),none)
 |_=>none
def b5i:Con:=.pure a3a
theorem qO:GK 323 b5i:=gk func323<|by
 intro args res p h hp;unfold a3a at h;split at h
 ·rename_i l fl;simp only[X0,U4] at h;obtain⟨rfl,rfl⟩:=h;refine U5 gN func323 Z3 (α:=(!fl&&(l.length:Int)==0)=(!fl&&l.isEmpty)) ?_
  cases l with
  |nil=>simp
  |cons a l=>
   have:((((a::l).length:Nat):Int)==0)=false:=by simp;omega
   rw[this];simp
 ·cases h
structure RdSt where
 l:Bz
 fl:Bool
 ok:Bool
 bef:Int
def RdSt.step(hi lsn:Int)(s:RdSt):RdSt:=
 ⟨(s.l.drop 1).drop 1,(s.fl||s.l.isEmpty)||(s.l.drop 1).isEmpty,s.ok&&V6 (numR s.l) (s.bef+1) hi&&V6 (numR (s.l.drop 1)) 1 (lsn-1),numR s.l⟩
def RdSt.go(hi lsn:Int)(s:RdSt):Nat->RdSt
 |0=>s
 |n+1=>RdSt.step hi lsn (RdSt.go hi lsn s n)
def uJ(t o:Int)(l:Bz)(fl:Bool):RdSt:=⟨l.drop 1,fl||l.isEmpty,decide (numR l<=t),o-1⟩
def N4(t o hi lsn:Int)(l:Bz)(fl:Bool):RdSt:=RdSt.go hi lsn (uJ t o l fl) (numR l).toNat
def Okb(l lsn:Int):Prop:= -1000000000000<=l/\l<=1000000000000/\ -1000000000000<=lsn/\lsn<=1000000000000
def jB:List T->X8->Option (T×X8×Option Prop)
 | [.ref 0 0 0,.int .i64 most,.int .i64 lo,.int .i64 hi,.int .i64 lsn],[some (.arr true _ 2 1 row)]=>match row 0 with
  | [.bys l,.bool fl]=>some (.bool ((N4 most lo hi lsn l fl).ok&& !(N4 most lo hi lsn l fl).fl),[rdr (N4 most lo hi lsn l fl).l (N4 most lo hi lsn l fl).fl],some (Okb lo lsn))
  |_=>none
 |_,_=>none
def a5u:Con:=.eff jB
def I25(t o hi lsn:Int)(l:Bz)(fl:Bool)(x:Up ((numR l).toNat)):Sy:=
 ⟨[(0,.ref 0 0 0),(3,Ji hi),(4,Ji lsn),(12,.bool (RdSt.go hi lsn (uJ t o l fl) x.1).ok),(13,Ji (RdSt.go hi lsn (uJ t o l fl) x.1).bef),(23,Ji (numR l)),(24,Ji x.1)],
  [rdr (RdSt.go hi lsn (uJ t o l fl) x.1).l (RdSt.go hi lsn (uJ t o l fl) x.1).fl]⟩
def A25(t o hi lsn:Int)(l:Bz)(fl:Bool):Nat->Ann
 |0=>.one (Up ((numR l).toNat)) (I25 t o hi lsn l fl) (λx=>(numR l).toNat-x.1) [.box 0] [.box 0] (λ_=>Z3)
 |_=>.none
theorem r5(l:Bz):0<=numR l/\numR l<=255:=by
 unfold numR;have:=(l.getD 0 0).toNat_lt;omega
theorem c5y(hi lsn o t:Int)(l:Bz)(fl:Bool)(h: -1000000000000<=o/\o<=1000000000000)(n:Nat):
  -2000000000000<=(RdSt.go hi lsn (uJ t o l fl) n).bef/\(RdSt.go hi lsn (uJ t o l fl) n).bef<=2000000000000:=by
 cases n with
 |zero=>simp only[RdSt.go,uJ];omega
 |succ n=>
  simp only[RdSt.go,RdSt.step];have:=r5 (RdSt.go hi lsn (uJ t o l fl) n).l;omega
theorem a07:GK 370 a5u:=gk func370<|by
 intro args H res H' p h hp;unfold jB at h;split at h
 ·rename_i most lo hi lsn ty row;split at h
  ·rename_i l fl hrow;simp only[X0,U4] at h;obtain⟨rfl,rfl,rfl⟩:=h;obtain⟨q1,q2,q3,q4⟩:Okb lo lsn:=hp;refine qY (iP hrow) ?_
   refine vcE (gC eI (gC O0 gN)) func370 (A25 most lo hi lsn l fl) (bs:=[true]) (α:=let u:=(N4 most lo hi lsn l fl);let q:=(uJ most lo l fl);R1 .i64 (lo-1)/\(∃(x:Up ((numR l).toNat)),let r:=(RdSt.go hi lsn q x.1);((0=0/\0=0)/\hi=hi/\lsn=lsn/\decide (numR l<=most)=r.ok/\lo-1=r.bef/\numR l=numR l/\0=(x.1:Int)/\True)/\(1=1/\1=1/\List.drop 1 l=r.l/\(fl||l.isEmpty)=r.fl/\True)/\True)/\∀(x:Up ((numR l).toNat)),let w:=(x.1:Int);let p:=(RdSt.go hi lsn q x.1);let j:=(p.bef+1);let v:=(List.drop 1 p.l);(decide (w<numR l)=true->(p.ok=true->R1 .i64 j)/\((p.ok&&V6 (numR p.l) j hi)=true->R1 .i64 (lsn-1))/\R1 .i64 (w+1)/\∃(y:Up ((numR l).toNat)),let z:=(RdSt.go hi lsn q y.1);(((0=0/\0=0)/\hi=hi/\lsn=lsn/\(p.ok&&V6 (numR p.l) j hi&&V6 (numR v) (1:Int) (lsn-1))=z.ok/\numR p.l=z.bef/\numR l=numR l/\w+1=(y.1:Int)/\True)/\(1=1/\1=1/\List.drop 1 v=z.l/\(p.fl||p.l.isEmpty||v.isEmpty)=z.fl/\True)/\True)/\Lt ((numR l).toNat-y.1) ((numR l).toNat-x.1))/\(decide (w<numR l)=false->(p.ok&& ! p.fl)=(u.ok&& ! u.fl)/\(1=1/\1=1/\p.l=u.l/\p.fl=u.fl/\True)/\True)) ?_
   have n:=r5 l;refine⟨Z4 Z9,⟨⟨0,N7 _⟩,⟨⟨rfl,rfl⟩,rfl,rfl,rfl,rfl,rfl,rfl,trivial⟩,⟨rfl,rfl,rfl,rfl,trivial⟩,trivial⟩,λx=>⟨λhc=>⟨λ_=>Z4 ?_,λ_=>Z4 Z9,Z4 ?_,?_⟩,λhc=>?_⟩⟩
   ·have:=c5y hi lsn lo most l fl ⟨q1,q2⟩ x.1;omega
   ·have:=x.2;omega
   ·have hlt:(x.1:Int)<numR l:=G5 hc;refine⟨⟨x.1+1,Z9⟩,⟨⟨⟨rfl,rfl⟩,rfl,rfl,rfl,rfl,rfl,W7,trivial⟩,⟨rfl,rfl,rfl,rfl,trivial⟩,trivial⟩,?_⟩
    unfold Lt;simp only;omega
   ·have hge:¬ (x.1:Int)<numR l:=r8 hc;have hx:=x.2;have he:x.1=(numR l).toNat:=by omega
    unfold N4;rw[he];exact⟨rfl,⟨rfl,rfl,rfl,rfl,trivial⟩,trivial⟩
  ·cases h
 ·cases h
def a4N(a:Bz)(lsn:Int):Bool:=
 (N4 8 0 7 lsn a false).ok&& !(N4 8 0 7 lsn a false).fl&&((N4 10 1 60 lsn (N4 8 0 7 lsn a false).l (N4 8 0 7 lsn a false).fl).ok&& !(N4 10 1 60 lsn (N4 8 0 7 lsn a false).l (N4 8 0 7 lsn a false).fl).fl)&&
  (!(N4 10 1 60 lsn (N4 8 0 7 lsn a false).l (N4 8 0 7 lsn a false).fl).fl&&(N4 10 1 60 lsn (N4 8 0 7 lsn a false).l (N4 8 0 7 lsn a false).fl).l.isEmpty)
def a1K(a:Bz)(lsn:Int):Prop:=a.length<140737488355329/\ -1000000000000<=lsn/\lsn<=1000000000000
def aK:List T->Option (T×Option Prop)
 | [.str a,.int .i64 lsn]=>some (.bool (a4N a lsn),some (a1K a lsn))
 |_=>none
def b4j:Con:=.pure aK
theorem a8n:GK 339 b4j:=gk func339<|by
 intro args res p h hp;unfold aK at h;split at h
 ·rename_i a lsn;simp only[X0,U4] at h;obtain⟨rfl,rfl⟩:=h;obtain⟨f,d,e⟩:a1K a lsn:=hp;exact U5 (gC a07 (gC qO gN)) func339 Z3 (α:=let q:=(N4 (8:Int) (0:Int) (7:Int) lsn a false);let p:=(N4 (10:Int) (1:Int) (60:Int) lsn q.l q.fl);Lt a.length 140737488355329/\Okb (0:Int) lsn/\Okb (1:Int) lsn/\(q.ok&& ! q.fl&&(p.ok&& ! p.fl)&&(! p.fl&&p.l.isEmpty))=a4N a lsn) ⟨f,⟨Z9,Z9,d,e⟩,⟨Z9,Z9,d,e⟩,rfl⟩
 ·cases h
structure Rec where
 (e l t k p n g s:Int) (b a:Bz)
 deriving Inhabited
def Rec.ts(r:Rec):List T:=[Ji r.e,Ji r.l,Ji r.t,Ji r.k,Ji r.p,Ji r.n,Ji r.g,Ji r.s,.str r.b,.str r.a]
def zF(r:Rec):Prop:=
 1<=r.e/\r.e<=60/\1<=r.l/\r.l<=60/\1<=r.k/\r.k<=6/\0<=r.p/\r.p<=r.l-1/\0<=r.n/\r.n<=r.l-1/\0<=r.g/\r.g<=7/\0<=r.s/\r.s<=3/\r.b.length<=30/\
 (r.k=6->r.t=0/\r.p=0/\r.n=0/\r.g=0/\r.s=0/\r.b=[]/\a4N r.a r.l=true)/\
 (r.k≠6->1<=r.t/\r.t<=60/\r.a.length<=30/\(r.k≠2->r.k≠3->r.g=0/\r.s=0/\r.b=[]/\r.a=[])/\(r.k≠3->r.n=0)/\(r.k=3->r.b=[])/\(r.k=1↔r.p=0))
noncomputable instance(r:Rec):Decidable (zF r):=Classical.propDecidable _
def O8(r:Rec):Bool:=decide (zF r)
theorem Q3(r:Rec):O8 r=true↔zF r:=decide_eq_true_iff
theorem uO{r:Rec}(h:¬zF r):O8 r=false:=tP h
def b3J(l:Bz):Prop:=l.length<140737488355329
def eR:List T->Option (T×Option Prop)
 | [.agg [.int .i64 e,.int .i64 l,.int .i64 t,.int .i64 k,.int .i64 p,.int .i64 n,.int .i64 g,.int .i64 s,.str b,.str a]]=>some (.bool (O8 ⟨e,l,t,k,p,n,g,s,b,a⟩),some (b3J a))
 |_=>none
def a2Y:Con:=.pure eR
theorem a3k(r:Rec)(x:Bool)(h:
let c:=((r.a.length:Int)>30);let f:=((r.b.length:Int)>30);let m:=(!V6 r.e (1:Int) (60:Int)|| !V6 r.l (1:Int) (60:Int));let j:=(true&&(true&&(true&&(true&&(true&&(r.n==0&&true))))));let w:=(decide (0<=r.g)&&decide (r.g<8)&&(decide (0<=r.s)&&decide (r.s<4)));let y:=(true&&(true&&(true&&(true&&(true&&(true&&(true&&(true&&(r.b==[]&&true)))))))));let v:=(true&&(true&&(true&&(true&&(true&&(r.n==0&&(r.g==0&&(r.s==0&&(r.b==[]&&true)))))))));let u:=(true&&(true&&(true&&(true&&(true&&(r.n==0&&(r.g==0&&(r.s==0&&(r.b==[]&&(r.a==[]&&true))))))))));let z:=(((V6 r.k (1:Int) (5:Int)&&u&&V6 r.t (1:Int) (60:Int))=true->Ri (r.l-1))/\(V6 r.k (1:Int) (5:Int)&&u&&V6 r.t (1:Int) (60:Int)&&V6 r.p (0:Int) (r.l-1)&&(r.p==0)==(r.k==1))=x);let q:=(m4 (8:Int)/\((decide (0<=r.g)&&decide (r.g<8))=true->m4 (4:Int))/\((! w||decide f||decide c)=false->(r.k==3)=true->Ri (r.l-1))/\br (! w||decide f||decide c||r.k==3&& !V6 r.n (0:Int) (r.l-1)) (false=x) (br (r.k==2) (((V6 r.k (1:Int) (5:Int)&&j&&V6 r.t (1:Int) (60:Int))=true->Ri (r.l-1))/\(V6 r.k (1:Int) (5:Int)&&j&&V6 r.t (1:Int) (60:Int)&&V6 r.p (0:Int) (r.l-1)&&(r.p==0)==(r.k==1))=x) (((V6 r.k (1:Int) (5:Int)&&y&&V6 r.t (1:Int) (60:Int))=true->Ri (r.l-1))/\(V6 r.k (1:Int) (5:Int)&&y&&V6 r.t (1:Int) (60:Int)&&V6 r.p (0:Int) (r.l-1)&&(r.p==0)==(r.k==1))=x)));  (m=true->false=x)/\(m=false->br (r.k==6) (((r.t==0&&r.p==0&&v)=true->a1K r.a r.l)/\(r.t==0&&r.p==0&&v&&a4N r.a r.l)=x) (br (r.k==2) (br (r.k==2) q z) (br (r.k==3) q z)))):
  V4 prog 283 [.agg r.ts] (.bool x):=
 U5 (gC a8n (gC O0 (gC tJ gN))) func283 Z3 h
theorem c7i{p k a b:Int}:((p==a)=(k==b))↔(k=b↔p=a):=by
 rw[Bool.eq_iff_iff,beq_iff_eq,beq_iff_eq];exact Iff.comm
theorem qK{a b:Bool}(h:a=true↔b=true):a=b:=by cases a<;>cases b<;>simp_all
theorem tK:GK 283 a2Y:=gk func283<|by
 intro args res p h hp;unfold eR at h;split at h
 ·rename_i e l t k p n g s b a;simp only[X0,U4] at h;obtain⟨rfl,rfl⟩:=h;have hp:a.length<140737488355329:=hp;refine a3k ⟨e,l,t,k,p,n,g,s,b,a⟩ _ ?_
  simp only[Rec.e,Rec.l,Rec.t,Rec.k,Rec.p,Rec.n,Rec.g,Rec.s,Rec.b,Rec.a];have s8:m4 8:=by unfold m4;omega
  have s4:m4 4:=by unfold m4;omega
  refine⟨λh=>?_,λh=>?_⟩
  ·refine(uO ?_).symm
   simp only[nS,vY,V6,Bool.and_eq_false_iff,uG] at h;unfold zF;simp only;omega
  simp only[wR,wT,V6,J4,o7] at h;have hr:R1 .i64 (l-1):=Z4 Z9
  have hs:a1K a l:=⟨hp,Z9,Z9⟩
  by_cases h6:k=6
  ·subst h6;refine⟨λ_=>⟨λ_=>hs,qK ?_⟩,λh=>L3⟩
   rw[Q3];simp only[zF,o7,J4,beq_iff_eq,true_and,and_true];constructor
   ·rintro⟨⟨⟨rfl,rfl⟩,rfl,rfl,rfl,rfl⟩,C⟩;simp[C];omega
   ·rintro⟨_,_,_,_,_,_,_,_,_,_,_,_,_,_,_,hh,_⟩;obtain⟨rfl,rfl,rfl,rfl,rfl,rfl,C⟩:=hh trivial;simp[C]
  refine⟨λh=>absurd w9 h6,λ_=>?_⟩
  by_cases h2:k=2
  ·subst h2;refine⟨λ_=>⟨λ_=>⟨s8,λ_=>s4,λ_ h=>L3,λhb=>?_,λhb=>⟨λ_=>⟨λ_=>hr,qK ?_⟩,λh=>L3⟩⟩,λh=>L3⟩,λh=>L3⟩
   ·refine(uO ?_).symm
    simp only[nS,vY,V6,Bool.and_eq_false_iff,uG,o7,J4] at hb;unfold zF;simp only;simp at hb;omega
   ·simp[V6] at hb;rw[Q3];simp only[zF,o7,J4,beq_iff_eq,true_and,and_true,V6,c7i];simp;omega
  by_cases h3:k=3
  ·subst h3;refine⟨λh=>L3,λ_=>⟨λ_=>⟨s8,λ_=>s4,λ_ _=>hr,λhb=>?_,λhb=>⟨λh=>L3,λ_=>⟨λ_=>hr,qK ?_⟩⟩⟩,λh=>L3⟩⟩
   ·refine(uO ?_).symm
    unfold zF;simp only;simp[V6] at hb;omega
   ·simp[V6] at hb;rw[Q3];simp only[zF,o7,J4,beq_iff_eq,true_and,and_true,V6,c7i];by_cases hbn:b=[]
    ·subst hbn;simp;omega
    ·simp[hbn]
  ·refine⟨λh=>absurd w9 h2,λ_=>⟨λh=>absurd w9 h3,λ_=>⟨λ_=>hr,qK ?_⟩⟩⟩
   rw[Q3];simp only[zF,o7,J4,beq_iff_eq,true_and,and_true,V6,c7i];constructor
   ·intro hh;have hb:b.length=0:=by simp[hh.1.1.1.2.2.2.2.1]
    have X:a.length=0:=by simp[hh.1.1.1.2.2.2.2.2]
    simp[h2,h3,h6,hh.1.1.1.2.2.2.2.1,hh.1.1.1.2.2.2.2.2] at hh ⊢;omega
   ·intro hh;obtain⟨V,W,M,O,N,U,I,z,R,d,i,u,v,A,j,_,hh⟩:=hh;obtain⟨F,b2,L,r,B,J,Q⟩:=hh h6;obtain⟨f,c2,o,x⟩:=r h2 h3;have q:=B h3;simp[f,c2,o,x,q];omega
 ·cases h
def S5(n:Nat)(p:Nat->Bool):Int:=match(List.range n).find? p with|some i=>(i:Int)|none=> -1
theorem N8{n:Nat}{p:Nat->Bool}{i:Nat}(hi:i<n)(hp:p i=true)(h:∀j,j<i->p j=false):S5 n p=i:=by
 have:(List.range n).find? p=some i:=by
  rw[List.find?_range_eq_some]
  exact⟨hp,List.mem_range.2 hi,λj J=>by simp[h j J]⟩
 unfold S5;rw[this]
theorem K1{n:Nat}{p:Nat->Bool}(h:∀j,j<n->p j=false):S5 n p= -1:=by
 have:(List.range n).find? p=none:=by
  rw[List.find?_range_eq_none]
  intro j J;simp[h j J]
 unfold S5;rw[this]
def anyI(n:Nat)(p:Nat->Bool):Bool:=(List.range n).any p
theorem C7(n:Nat)(p:Nat->Bool):decide (S5 n p≥0)=anyI n p:=by
 unfold S5 anyI;cases h:(List.range n).find? p with
 |none=>
  rw[List.find?_eq_none] at h
  have:(List.range n).any p=false:=by
   rw[List.any_eq_false];exact h
  rw[this];rfl
 |some i=>
  have d:=List.find?_some h
  have e:=List.mem_of_find?_eq_some h
  have:(List.range n).any p=true:=List.any_eq_true.2 ⟨i,e,d⟩;rw[this];simp
theorem R8{n:Nat}{p:Nat->Bool}:anyI n p=true↔∃i,i<n/\p i=true:=by
 unfold anyI;simp
def V5(n:Nat)(p:Nat->Bool):Type:={i:Nat//i<=n/\∀j,j<i->p j=false}
theorem V5.ext_lt{n:Nat}{i:Nat}(h:i<n):Lt (n- (i+1)) (n-i):=by unfold Lt;omega
theorem X9{i n:Nat}(h:decide ((i:Int)<(n:Int))=false):n<=i:=w9
theorem Y2{i n:Nat}(h:decide ((i:Int)<(n:Int))=true):i<n:=w9
theorem Y6{i n:Nat}(h:i<n):W9 (i:Int) n:=⟨Z9,Z9⟩
theorem W2{i n:Nat}(h:i<n)(N:n<1000000000000000):R1 .i64 ((i:Int)+1):=Z4 Z9
def F2{n:Nat}{p:Nat->Bool}:V5 n p:=⟨0,N7 _,λj h=>absurd h (D0 j)⟩
def V5.succ{n:Nat}{p:Nat->Bool}(x:V5 n p)(h:x.1<n)(hp:p x.1=false):V5 n p:=
 ⟨x.1+1,h,λj J=>by rcases Nat.lt_or_ge j x.1 with h1|h1;exact x.2.2 j h1;(obtain rfl:j=x.1:=by omega);exact hp⟩
theorem I8(h:p:=by simp only[V5.succ];omega):p:=h
def Y0(L:List Rec)(i:Nat):List T:=(L.getD i dz).ts
def zD(L:List Rec):T:=.sl 10 L.length (Y0 L)
def yU(r:Rec):Bool:=decide (r.l>60)
def pV:List T->Option (T×Option Prop)
 | [.agg [.int .i64 e,.int .i64 l,.int .i64 t,.int .i64 k,.int .i64 p,.int .i64 n,.int .i64 g,.int .i64 s,.str b,.str a]]=>some (.bool (yU ⟨e,l,t,k,p,n,g,s,b,a⟩),none)
 |_=>none
def bY:Con:=.pure pV
theorem bC(r:Rec)(h:
  decide (r.l>60)=yU r):
  V4 prog 309 [.agg r.ts] (.bool (yU r)):=
 U5 gN func309 Z3 h
theorem cN:GK 309 bY:=gk func309<|by
 intro args res p h hp;unfold pV at h;split at h
 ·simp only[X0,U4] at h;obtain⟨rfl,rfl⟩:=h;exact bC ⟨_,_,_,_,_,_,_,_,_,_⟩ rfl
 ·cases h
def fnT(f:Nat):T:=.v (.func (.func f) #[] #[])
def L8(n:Nat):Prop:=n<1000000000000
theorem rT(h:p:=by unfold L8;dsimp only;omega):p:=h
theorem sU(h:p:=by unfold L8;omega):p:=h
def a42:Rl:=⟨List Rec,λL=>[zD L,fnT 309],λL=>.int .i64 (S5 L.length λi=>yU (L.getD i dz)),λL=>L8 L.length⟩
def b7u:Con:=.rel a42
def b6u(L:List Rec):Nat->Ann
 |0=>.one (V5 L.length λi=>yU (L.getD i dz)) (λx=>⟨[(0,zD L),(1,fnT 309),(7,Ji L.length),(8,Ji x.1)],[]⟩) (λx=>L.length-x.1) [] [] (λ_=>Z3)
 |_=>.none
theorem b2U:GK 360 b7u:=gk func360<|by
 intro L d;have d:L.length<1000000000000:=d;refine U5 (gC cN gN) func360 (b6u L) (α:=let u:=(Fn.func 309);let r:=(L.length:Int);(∃(x:V5 L.length λ(i:Nat)=>yU (L.getD i dz)),((Z0 Y0 L L)/\Value.func u #[] #[]=Value.func u #[] #[]/\r=r/\0=(x.1:Int)/\True)/\True)/\∀(x:V5 L.length λ(i:Nat)=>yU (L.getD i dz)),let z:=(x.1:Int);let q:=(L.getD z.toNat dz);bd (z<r) (W9 z L.length/\br (yU (Rec.mk q.e q.l q.t q.k q.p q.n q.g q.s q.b q.a)) (z=S5 L.length λ(i:Nat)=>yU (L.getD i dz)) (Ri (z+1)/\∃(y:V5 L.length λ(i:Nat)=>yU (L.getD i dz)),(((Z0 Y0 L L)/\Value.func u #[] #[]=Value.func u #[] #[]/\r=r/\z+1=(y.1:Int)/\True)/\True)/\Lt (L.length-y.1) (L.length-x.1))) ((-1:Int)=S5 L.length λ(i:Nat)=>yU (L.getD i dz))) ⟨⟨F2,⟨⟨rfl,λ_ _=>rfl⟩,rfl,rfl,rfl,trivial⟩,trivial⟩,λx=>⟨λC=>?_,λC=>?_⟩⟩
 ·have h:=Y2 C;refine⟨Y6 h,λhp=>(N8 h hp x.2.2).symm,λhp=>⟨W2 h Z9,x.succ h hp,⟨⟨⟨rfl,λ_ _=>rfl⟩,rfl,rfl,rfl,trivial⟩,trivial⟩,V5.ext_lt h⟩⟩
 ·have f:=X9 C;exact(K1 λj J=>x.2.2 j Z9).symm
def a5S:Rl:=⟨List Rec,λL=>[zD L,fnT 309],λL=>.bool (anyI L.length λi=>yU (L.getD i dz)),λL=>L8 L.length⟩
def b5D:Con:=.rel a5S
theorem b2M:GK 308 b5D:=gk func308<|by
 intro L h;exact U5 (gC b2U gN) func308 Z3 (α:=∃(x:a42.ι),(((Z0 Y0 L x)/\Value.func (Fn.func 309) #[] #[]=Value.func (Fn.func 309) #[] #[]/\True)/\L8 (x.length))/\decide ((S5 (x.length) λ(i:Nat)=>yU (List.getD x i dz))≥(0:Int))=anyI L.length λ(i:Nat)=>yU (L.getD i dz)) ⟨L,⟨⟨⟨rfl,λ_ _=>rfl⟩,rfl,trivial⟩,h⟩,C7 _ _⟩
def a2C(L:List Rec)(i:Nat):Bool:= !O8 (L.getD i dz)||(L.getD i dz).l !=(i:Int)+1
def yV(L:List Rec):Bool:= !anyI L.length (a2C L)
def c2Z(L:List Rec):Prop:=L.length<1000000000000/\∀r ∈ L,r.a.length<140737488355329
def lT:Rl:=⟨List Rec,λL=>[zD L],λL=>.bool (yV L),c2Z⟩
def a1E:Con:=.rel lT
def a14(L:List Rec):Nat->Ann
 |0=>.one (V5 L.length (a2C L)) (λx=>⟨[(0,zD L),(5,zD L),(6,Ji L.length),(7,Ji x.1)],[]⟩) (λx=>L.length-x.1) [] [] (λ_=>Z3)
 |_=>.none
theorem C2{L:List Rec}:yV L=true↔∀i,i<L.length->O8 (L.getD i dz)=true/\(L.getD i dz).l=(i:Int)+1:=by
 unfold yV;rw[vY,Bool.eq_false_iff,ne_eq,R8];constructor
 ·intro h i hi;have:¬a2C L i=true:=λhb=>h ⟨i,hi,hb⟩
  simpa[a2C] using this
 ·rintro h ⟨i,hi,hb⟩;have:=h i hi;unfold a2C at hb;rw[this.1,this.2] at hb;simp at hb
theorem dE{L:List Rec}{i:Nat}(h:i<L.length):L.getD i dz ∈ L:=by
 rw[P3,I0 h]
 exact List.getElem_mem h
theorem aX:GK 227 a1E:=gk func227<|by
 intro L o;obtain⟨N,hb⟩:c2Z L:=o;refine U5 (gC tK (gC b2M gN)) func227 (a14 L) (α:=let v:=(Z0 Y0 L L);let z:=(L.length:Int);(∃(x:V5 L.length (a2C L)),(v/\v/\z=z/\0=(x.1:Int)/\True)/\True)/\∀(x:V5 L.length (a2C L)),let r:=(x.1:Int);let q:=(L.getD r.toNat dz);let u:=(Rec.mk q.e q.l q.t q.k q.p q.n q.g q.s q.b q.a);bd (r<z) (W9 r L.length/\b3J q.a/\((!O8 u)=false->Ri (r+1))/\br (!O8 u||q.l !=r+1) (false=yV L) (Ri (r+1)/\∃(y:V5 L.length (a2C L)),((v/\v/\z=z/\r+1=(y.1:Int)/\True)/\True)/\Lt (L.length-y.1) (L.length-x.1))) (∃(x:a5S.ι),(((Z0 Y0 L x)/\Value.func (Fn.func 309) #[] #[]=Value.func (Fn.func 309) #[] #[]/\True)/\L8 (x.length))/\(!anyI (x.length) λ(i:Nat)=>yU (List.getD x i dz))=yV L)) ⟨⟨F2,⟨⟨rfl,λ_ _=>rfl⟩,⟨rfl,λ_ _=>rfl⟩,rfl,rfl,trivial⟩,trivial⟩,λx=>⟨λhc=>?_,λhc=>?_⟩⟩
 ·have hlt:=Y2 hc;refine⟨Y6 hlt,hb _ (dE hlt),λ_=>W2 hlt Z9,λhp=>?_,λhp=>⟨W2 hlt Z9,x.succ hlt hp,⟨⟨⟨rfl,λ_ _=>rfl⟩,⟨rfl,λ_ _=>rfl⟩,rfl,rfl,trivial⟩,trivial⟩,V5.ext_lt hlt⟩⟩
  have:anyI L.length (a2C L)=true:=R8.2 ⟨x.1,hlt,hp⟩;simp[yV,this]
 ·have j:=X9 hc;have d:yV L=true:=by
   unfold yV;rw[vY,Bool.eq_false_iff,ne_eq,R8];rintro⟨i,hi,h⟩;rw[x.2.2 i Z9] at h
   cases h
  refine⟨L,⟨⟨⟨rfl,λ_ _=>rfl⟩,rfl,trivial⟩,N⟩,?_⟩
  rw[d,vY,Bool.eq_false_iff,ne_eq,R8];rintro⟨i,hi,h⟩;have q:=(Q3 _).1 (C2.1 d i hi).1;obtain⟨_,_,_,f,_⟩:=q;have:¬ (L.getD i dz).l>60:=Z9
  simp[yU] at h;simp at this;omega
def r6(a:Bz)(i:Nat):Int:=((a.getD i 0).toNat:Int)
def W8(a:Bz)(A:Nat)(r:Nat):List T:=[Ji (r6 a (A+2*r)),Ji (r6 a (A+2*r+1))]
def T2(a:Bz):Nat:=(r6 a 0).toNat
def k4(a:Bz):Nat:=(r6 a (1+2*T2 a)).toNat
def vT(a:Bz):Nat:=if 0<a.length/\1+2*T2 a<=a.length then T2 a else 0
def zJ(a:Bz):Nat:=if 0<a.length/\1+2*T2 a<a.length/\2+2*T2 a+2*k4 a<=a.length then k4 a else 0
def tW(a:Bz):Bool:=decide (0<a.length/\1+2*T2 a<a.length/\2+2*T2 a+2*k4 a=a.length)
def c9B(a:Bz):T:=.tup [.sl 2 (vT a) (W8 a 1),.sl 2 (zJ a) (W8 a (2+2*T2 a)),.bool (tW a)]
def c06(n:Nat)(row:Nat->List T):Option Ob:=some (.arr true 0 2 n row)
def c5q(e d n N:Nat):Option Ob:=some (.arr false 0 1 2 λr=>match r with|0=>[.osl e 0 n]|_=>[.osl d 0 N])
def a4z(a:Bz):Nat->Ann
 |0=>.unr 3 (λm=>fun
  |1=>match m with
   |2=>.one (Up (T2 a)) (λx=>⟨[(0,.str a),(5,.osl 2 0 2),(6,Ji (1+2*x.1)),(7,Ji 0),(8,Ji (T2 a)),(9,Ji x.1)],[c06 x.1 (W8 a 1),c06 0 (W8 a 0),c5q 0 1 x.1 0]⟩) (λx=>T2 a-x.1) [.arr 0,.arr 1,.ren 2] [.arr 4,.arr 1,.ren 2] (λ_=>Z3)
   |_=>.one (Up (k4 a)) (λx=>⟨[(0,.str a),(5,.osl 2 0 2),(6,Ji (2+2*T2 a+2*x.1)),(7,Ji 1),(8,Ji (k4 a)),(9,Ji x.1)],[c06 (T2 a) (W8 a 1),c06 x.1 (W8 a (2+2*T2 a)),c5q 0 1 (T2 a) x.1]⟩) (λx=>k4 a-x.1) [.arr 0,.arr 1,.ren 2] [.arr 0,.arr 4,.ren 2] (λ_=>Z3)
  |_=>.none)
 |_=>.none
def jE:List T->Option (T×Option Prop)
 | [.str a]=>some (c9B a,some (L8 a.length))
 |_=>none
def a3v:Con:=.pure jE
theorem M7{row row':Nat->List T}{n i:Nat}(h:i<n):X4 row n row' i=row i:=by
 unfold X4;rw[show Nat.blt i n=true from by simp[Nat.blt];omega]
theorem M9{row row':Nat->List T}{n i:Nat}(h:n<=i):X4 row n row' i=row' (i-n):=by
 unfold X4;rw[show Nat.blt i n=false from Bool.eq_false_iff.2 λB=>by have:=yG B;omega]
theorem a1d:GK 219 a3v:=gk func219<|by
 intro args res p h hp;unfold jE at h;split at h
 case h_2=>cases h
 rename_i a;simp only[X0,U4] at h;obtain⟨rfl,rfl⟩:=h;have hp:a.length<1000000000000:=hp;have h0:((a.getD 0 0).toNat:Int)=(T2 a:Int):=by simp[T2,r6]
 have h1:((a.getD (1+2*T2 a) 0).toNat:Int)=(k4 a:Int):=by simp[k4,r6]
 have b0:T2 a<=255:=by have:=(a.getD 0 0).toNat_lt;omega
 have b1:k4 a<=255:=by have:=(a.getD (1+2*T2 a) 0).toNat_lt;omega
 have t0:(1+2*(T2 a:Int)).toNat=1+2*T2 a:=Z9
 have none0:∀row row':Nat->List T,Z8 0 row row':=λrow row' i hi=>absurd hi (D0 i)
 have refl0:∀(n:Nat) (row:Nat->List T),Z8 n row row:=λn row i hi=>rfl
 have aV:∀(at0 i:Nat),Z8 (i+1) (X4 (W8 a at0) i λk=>List.take 2 (List.drop (k*2) [Ji ((a.getD (at0+2*i) 0).toNat:Int),Ji ((a.getD (at0+2*i+1) 0).toNat:Int)])) (W8 a at0):=by
  intro at0 i j hj;by_cases hlt:j<i
  ·rw[M7 hlt]
  ·obtain rfl:j=i:=by omega
   rw[M9 (U9 _),j_h];rfl
 have two:∀{ρ:Nat->Option Nat} {row row':Nat->List T},N9 (S7 ρ 6) (row' 0)=some (row 0)->N9 (S7 ρ 6) (row' 1)=some (row 1)->wH ρ 2 row row':=by
  intro ρ row row' e0 e1 i hi;rcases Nat.lt_or_ge i 1 with h|h
  ·obtain rfl:i=0:=by omega
   exact e0
  ·obtain rfl:i=1:=by omega
   exact e1
 refine U5 gN func219 (a4z a) (α:=(true=true->(decide ((0:Int)≥(a.length:Int))=true->W9 (0:Int) 2/\Lt 0 2/\W9 (1:Int) 2/\Lt 1 2/\(Le 0 0/\Le 0 0)/\(0=vT a/\Z8 0 (tk 2 []) (W8 a 1))/\(0=zJ a/\Z8 0 (tk 2 []) (W8 a (2+2*T2 a)))/\false=tW a/\True)/\(decide ((0:Int)≥(a.length:Int))=false->W9 (0:Int) a.length/\R1 .i64 1/\R1 .i64 ((2:Int)*IntKind.i64.wrap (↑(a.getD 0 (0:UInt8)).toNat:Int))/\R1 .i64 ((1:Int)+2*IntKind.i64.wrap (↑(a.getD 0 (0:UInt8)).toNat:Int))/\(decide ((1:Int)+2*IntKind.i64.wrap (↑(a.getD 0 (0:UInt8)).toNat:Int)>(a.length:Int))=true->W9 (0:Int) 2/\Lt 0 2/\W9 (1:Int) 2/\Lt 1 2/\(Le 0 0/\Le 0 0)/\(0=vT a/\Z8 0 (tk 2 []) (W8 a 1))/\(0=zJ a/\Z8 0 (tk 2 []) (W8 a (2+2*T2 a)))/\false=tW a/\True)/\(decide ((1:Int)+2*IntKind.i64.wrap (↑(a.getD 0 (0:UInt8)).toNat:Int)>(a.length:Int))=false->(∃(x:Up (T2 a)),(a=a/\(0=0/\2=2)/\(1:Int)=1+2*(x.1:Int)/\(0:Int)=0/\IntKind.i64.wrap (↑(a.getD 0 (0:UInt8)).toNat:Int)=(↑(T2 a):Int)/\0=(x.1:Int)/\True)/\(0=x.1/\Z8 0 (tk 2 []) (W8 a 1))/\(0=0/\Z8 0 (tk 2 []) (W8 a 0))/\(2=2/\wH (m8 [some 0,some 1,some 2]) 2 (tk 1 [T.osl 0 0 0,T.osl 1 0 0]) λ(r:Nat)=>match r with|0=>[T.osl 0 0 x.1]|x=>[T.osl 1 0 0])/\True)/\∀(x:Up (T2 a)),(decide ((x.1:Int)<(↑(T2 a):Int))=true->W9 (0:Int) 2/\Lt 0 2/\W9 ((1:Int)+2*(x.1:Int)) a.length/\R1 .i64 ((1:Int)+2*(x.1:Int)+1)/\W9 ((1:Int)+2*(x.1:Int)+1) a.length/\(Le 1 1/\Le x.1 x.1/\U8 x.1 1 16)/\W9 (0:Int) 2/\Lt 0 2/\R1 .i64 ((1:Int)+2*(x.1:Int)+2)/\R1 .i64 ((x.1:Int)+1)/\∃(y:Up (T2 a)),((a=a/\(0=0/\2=2)/\(1:Int)+2*(x.1:Int)+2=1+2*(y.1:Int)/\(0:Int)=0/\(↑(T2 a):Int)=(↑(T2 a):Int)/\(x.1:Int)+1=(y.1:Int)/\True)/\(x.1+1=y.1/\Z8 (x.1+1) (X4 (W8 a 1) x.1 (tk 2 [Ji (IntKind.i64.wrap (↑(a.getD ((1:Int)+2*(x.1:Int)).toNat (0:UInt8)).toNat:Int)),Ji (IntKind.i64.wrap (↑(a.getD ((1:Int)+2*(x.1:Int)+1).toNat (0:UInt8)).toNat:Int))])) (W8 a 1))/\(0=0/\Z8 0 (W8 a 0) (W8 a 0))/\(2=2/\wH (m8 [some 4,some 1,some 2]) 2 (setRow (λ(r:Nat)=>match r with|0=>[T.osl 0 0 x.1]|x=>[T.osl 1 0 0]) 0 0 [T.osl 4 0 (x.1+1)]) λ(r:Nat)=>match r with|0=>[T.osl 0 0 y.1]|x=>[T.osl 1 0 0])/\True)/\Lt (T2 a-y.1) (T2 a-x.1))/\(decide ((x.1:Int)<(↑(T2 a):Int))=false->R1 .i64 1/\(true=true->(decide ((1:Int)+2*(x.1:Int)≥(a.length:Int))=true->W9 (0:Int) 2/\Lt 0 2/\W9 (1:Int) 2/\Lt 1 2/\(Le (0+x.1) x.1/\Le 0 0)/\(x.1=vT a/\Z8 x.1 (W8 a 1) (W8 a 1))/\(0=zJ a/\Z8 0 (W8 a 0) (W8 a (2+2*T2 a)))/\false=tW a/\True)/\(decide ((1:Int)+2*(x.1:Int)≥(a.length:Int))=false->W9 ((1:Int)+2*(x.1:Int)) a.length/\R1 .i64 ((1:Int)+2*(x.1:Int)+1)/\R1 .i64 ((2:Int)*IntKind.i64.wrap (↑(a.getD ((1:Int)+2*(x.1:Int)).toNat (0:UInt8)).toNat:Int))/\R1 .i64 ((1:Int)+2*(x.1:Int)+1+2*IntKind.i64.wrap (↑(a.getD ((1:Int)+2*(x.1:Int)).toNat (0:UInt8)).toNat:Int))/\(decide ((1:Int)+2*(x.1:Int)+1+2*IntKind.i64.wrap (↑(a.getD ((1:Int)+2*(x.1:Int)).toNat (0:UInt8)).toNat:Int)>(a.length:Int))=true->W9 (0:Int) 2/\Lt 0 2/\W9 (1:Int) 2/\Lt 1 2/\(Le (0+x.1) x.1/\Le 0 0)/\(x.1=vT a/\Z8 x.1 (W8 a 1) (W8 a 1))/\(0=zJ a/\Z8 0 (W8 a 0) (W8 a (2+2*T2 a)))/\false=tW a/\True)/\(decide ((1:Int)+2*(x.1:Int)+1+2*IntKind.i64.wrap (↑(a.getD ((1:Int)+2*(x.1:Int)).toNat (0:UInt8)).toNat:Int)>(a.length:Int))=false->(∃(x_1:Up (k4 a)),(a=a/\(0=0/\2=2)/\(1:Int)+2*(x.1:Int)+1=2+2*(↑(T2 a):Int)+2*(x_1.val:Int)/\(1:Int)=1/\IntKind.i64.wrap (↑(a.getD ((1:Int)+2*(x.1:Int)).toNat (0:UInt8)).toNat:Int)=(↑(k4 a):Int)/\0=(x_1.val:Int)/\True)/\(x.1=T2 a/\Z8 x.1 (W8 a 1) (W8 a 1))/\(0=x_1.val/\Z8 0 (W8 a 0) (W8 a (2+2*T2 a)))/\(2=2/\wH (m8 [some 0,some 1,some 2]) 2 (λ(r:Nat)=>match r with|0=>[T.osl 0 0 x.1]|x=>[T.osl 1 0 0]) λ(r:Nat)=>match r with|0=>[T.osl 0 0 (T2 a)]|x=>[T.osl 1 0 x_1.val])/\True)/\∀(x:Up (k4 a)),(decide ((x.1:Int)<(↑(k4 a):Int))=true->W9 (1:Int) 2/\Lt 1 2/\W9 ((2:Int)+2*(↑(T2 a):Int)+2*(x.1:Int)) a.length/\R1 .i64 ((2:Int)+2*(↑(T2 a):Int)+2*(x.1:Int)+1)/\W9 ((2:Int)+2*(↑(T2 a):Int)+2*(x.1:Int)+1) a.length/\(Le 1 1/\Le x.1 x.1/\U8 x.1 1 16)/\W9 (1:Int) 2/\Lt 1 2/\R1 .i64 ((2:Int)+2*(↑(T2 a):Int)+2*(x.1:Int)+2)/\R1 .i64 ((x.1:Int)+1)/\∃(y:Up (k4 a)),((a=a/\(0=0/\2=2)/\(2:Int)+2*(↑(T2 a):Int)+2*(x.1:Int)+2=2+2*(↑(T2 a):Int)+2*(y.1:Int)/\(1:Int)=1/\(↑(k4 a):Int)=(↑(k4 a):Int)/\(x.1:Int)+1=(y.1:Int)/\True)/\(T2 a=T2 a/\Z8 (T2 a) (W8 a 1) (W8 a 1))/\(x.1+1=y.1/\Z8 (x.1+1) (X4 (W8 a (2+2*T2 a)) x.1 (tk 2 [Ji (IntKind.i64.wrap (↑(a.getD ((2:Int)+2*(↑(T2 a):Int)+2*(x.1:Int)).toNat (0:UInt8)).toNat:Int)),Ji (IntKind.i64.wrap (↑(a.getD ((2:Int)+2*(↑(T2 a):Int)+2*(x.1:Int)+1).toNat (0:UInt8)).toNat:Int))])) (W8 a (2+2*T2 a)))/\(2=2/\wH (m8 [some 0,some 4,some 2]) 2 (setRow (λ(r:Nat)=>match r with|0=>[T.osl 0 0 (T2 a)]|x_1=>[T.osl 1 0 x.1]) 1 0 [T.osl 4 0 (x.1+1)]) λ(r:Nat)=>match r with|0=>[T.osl 0 0 (T2 a)]|x=>[T.osl 1 0 y.1])/\True)/\Lt (k4 a-y.1) (k4 a-x.1))/\(decide ((x.1:Int)<(↑(k4 a):Int))=false->R1 .i64 2/\(false=true->(decide ((2:Int)+2*(↑(T2 a):Int)+2*(x.1:Int)≥(a.length:Int))=true->W9 (0:Int) 2/\Lt 0 2/\W9 (1:Int) 2/\Lt 1 2/\(Le (0+T2 a) (T2 a)/\Le (0+x.1) x.1)/\(T2 a=vT a/\Z8 (T2 a) (W8 a 1) (W8 a 1))/\(x.1=zJ a/\Z8 x.1 (W8 a (2+2*T2 a)) (W8 a (2+2*T2 a)))/\false=tW a/\True)/\(decide ((2:Int)+2*(↑(T2 a):Int)+2*(x.1:Int)≥(a.length:Int))=false->W9 ((2:Int)+2*(↑(T2 a):Int)+2*(x.1:Int)) a.length/\R1 .i64 ((2:Int)+2*(↑(T2 a):Int)+2*(x.1:Int)+1)/\R1 .i64 ((2:Int)*IntKind.i64.wrap (↑(a.getD ((2:Int)+2*(↑(T2 a):Int)+2*(x.1:Int)).toNat (0:UInt8)).toNat:Int))/\R1 .i64 ((2:Int)+2*(↑(T2 a):Int)+2*(x.1:Int)+1+2*IntKind.i64.wrap (↑(a.getD ((2:Int)+2*(↑(T2 a):Int)+2*(x.1:Int)).toNat (0:UInt8)).toNat:Int))/\(decide ((2:Int)+2*(↑(T2 a):Int)+2*(x.1:Int)+1+2*IntKind.i64.wrap (↑(a.getD ((2:Int)+2*(↑(T2 a):Int)+2*(x.1:Int)).toNat (0:UInt8)).toNat:Int)>(a.length:Int))=true->W9 (0:Int) 2/\Lt 0 2/\W9 (1:Int) 2/\Lt 1 2/\(Le (0+T2 a) (T2 a)/\Le (0+x.1) x.1)/\(T2 a=vT a/\Z8 (T2 a) (W8 a 1) (W8 a 1))/\(x.1=zJ a/\Z8 x.1 (W8 a (2+2*T2 a)) (W8 a (2+2*T2 a)))/\false=tW a/\True)/\(decide ((2:Int)+2*(↑(T2 a):Int)+2*(x.1:Int)+1+2*IntKind.i64.wrap (↑(a.getD ((2:Int)+2*(↑(T2 a):Int)+2*(x.1:Int)).toNat (0:UInt8)).toNat:Int)>(a.length:Int))=false->(∃(x_1:Up (k4 a)),(a=a/\(0=0/\2=2)/\(2:Int)+2*(↑(T2 a):Int)+2*(x.1:Int)+1=2+2*(↑(T2 a):Int)+2*(x_1.val:Int)/\(2:Int)=1/\IntKind.i64.wrap (↑(a.getD ((2:Int)+2*(↑(T2 a):Int)+2*(x.1:Int)).toNat (0:UInt8)).toNat:Int)=(↑(k4 a):Int)/\0=(x_1.val:Int)/\True)/\(T2 a=T2 a/\Z8 (T2 a) (W8 a 1) (W8 a 1))/\(x.1=x_1.val/\Z8 x.1 (W8 a (2+2*T2 a)) (W8 a (2+2*T2 a)))/\(2=2/\wH (m8 [some 0,some 1,some 2]) 2 (λ(r:Nat)=>match r with|0=>[T.osl 0 0 (T2 a)]|x_2=>[T.osl 1 0 x.1]) λ(r:Nat)=>match r with|0=>[T.osl 0 0 (T2 a)]|x=>[T.osl 1 0 x_1.val])/\True)/\∀(x:Up (k4 a)),(decide ((x.1:Int)<(↑(k4 a):Int))=true->W9 (1:Int) 2/\Lt 1 2/\W9 ((2:Int)+2*(↑(T2 a):Int)+2*(x.1:Int)) a.length/\R1 .i64 ((2:Int)+2*(↑(T2 a):Int)+2*(x.1:Int)+1)/\W9 ((2:Int)+2*(↑(T2 a):Int)+2*(x.1:Int)+1) a.length/\(Le 1 1/\Le x.1 x.1/\U8 x.1 1 16)/\W9 (1:Int) 2/\Lt 1 2/\R1 .i64 ((2:Int)+2*(↑(T2 a):Int)+2*(x.1:Int)+2)/\R1 .i64 ((x.1:Int)+1)/\∃(y:Up (k4 a)),((a=a/\(0=0/\2=2)/\(2:Int)+2*(↑(T2 a):Int)+2*(x.1:Int)+2=2+2*(↑(T2 a):Int)+2*(y.1:Int)/\(1:Int)=1/\(↑(k4 a):Int)=(↑(k4 a):Int)/\(x.1:Int)+1=(y.1:Int)/\True)/\(T2 a=T2 a/\Z8 (T2 a) (W8 a 1) (W8 a 1))/\(x.1+1=y.1/\Z8 (x.1+1) (X4 (W8 a (2+2*T2 a)) x.1 (tk 2 [Ji (IntKind.i64.wrap (↑(a.getD ((2:Int)+2*(↑(T2 a):Int)+2*(x.1:Int)).toNat (0:UInt8)).toNat:Int)),Ji (IntKind.i64.wrap (↑(a.getD ((2:Int)+2*(↑(T2 a):Int)+2*(x.1:Int)+1).toNat (0:UInt8)).toNat:Int))])) (W8 a (2+2*T2 a)))/\(2=2/\wH (m8 [some 0,some 4,some 2]) 2 (setRow (λ(r:Nat)=>match r with|0=>[T.osl 0 0 (T2 a)]|x_1=>[T.osl 1 0 x.1]) 1 0 [T.osl 4 0 (x.1+1)]) λ(r:Nat)=>match r with|0=>[T.osl 0 0 (T2 a)]|x=>[T.osl 1 0 y.1])/\True)/\Lt (k4 a-y.1) (k4 a-x.1))/\(decide ((x.1:Int)<(↑(k4 a):Int))=false->R1 .i64 2/\False))))/\(false=false->W9 (0:Int) 2/\Lt 0 2/\W9 (1:Int) 2/\Lt 1 2/\(Le (0+T2 a) (T2 a)/\Le (0+x.1) x.1)/\(T2 a=vT a/\Z8 (T2 a) (W8 a 1) (W8 a 1))/\(x.1=zJ a/\Z8 x.1 (W8 a (2+2*T2 a)) (W8 a (2+2*T2 a)))/\((2:Int)+2*(↑(T2 a):Int)+2*(x.1:Int)==(a.length:Int))=tW a/\True)))))/\(true=false->W9 (0:Int) 2/\Lt 0 2/\W9 (1:Int) 2/\Lt 1 2/\(Le (0+x.1) x.1/\Le 0 0)/\(x.1=vT a/\Z8 x.1 (W8 a 1) (W8 a 1))/\(0=zJ a/\Z8 0 (W8 a 0) (W8 a (2+2*T2 a)))/\((1:Int)+2*(x.1:Int)==(a.length:Int))=tW a/\True)))))/\(true=false->W9 (0:Int) 2/\Lt 0 2/\W9 (1:Int) 2/\Lt 1 2/\(Le 0 0/\Le 0 0)/\(0=vT a/\Z8 0 (tk 2 []) (W8 a 1))/\(0=zJ a/\Z8 0 (tk 2 []) (W8 a (2+2*T2 a)))/\((0:Int)==(a.length:Int))=tW a/\True)) ?_
 simp only[k6,W9,Lt,Le,U8,uM];simp only[h0];refine⟨λ_=>⟨λhz=>?_,λhz=>?_⟩,λh=>F1⟩
 ·have hz':¬0<a.length:=by simp at hz;simp[hz]
  refine⟨Z9,Z9,Z9,Z9,Z9,⟨by simp[vT,hz'],none0 _ _⟩,⟨by simp[zJ,hz'],none0 _ _⟩,by simp[tW,hz'],trivial⟩
 have hz':0<a.length:=by simp at hz;exact List.length_pos_iff.2 hz
 refine⟨⟨Z9,Z9⟩,Z9,Z9,Z9,λhgt=>?_,λhle=>?_⟩
 ·have hgt':¬1+2*T2 a<=a.length:=by simp at hgt;omega
  have hgt'':¬1+2*T2 a<a.length:=Z9
  refine⟨Z9,Z9,Z9,Z9,Z9,⟨by simp[vT,hgt'],none0 _ _⟩,⟨by simp[zJ,hgt''],none0 _ _⟩,by simp[tW,hgt''],trivial⟩
 have hle':1+2*T2 a<=a.length:=by simp at hle;omega
 have e0:vT a=T2 a:=by simp[vT,hz',hle']
 refine⟨⟨⟨0,N7 _⟩,⟨trivial,⟨trivial,trivial⟩,rfl,trivial,trivial,rfl,trivial⟩,⟨rfl,none0 _ _⟩,⟨trivial,none0 _ _⟩,⟨trivial,two rfl rfl⟩,trivial⟩,λx=>⟨λhx=>?_,λhx=>?_⟩⟩
 ·have hx':x.1<T2 a:=by simpa using hx
  rw[show(1+2*(x.1:Int)).toNat=1+2*x.1 by omega,show(1+2*(x.1:Int)+1).toNat=1+2*x.1+1 by omega]
  refine⟨Z9,Z9,Z9,Z9,Z9,Z9,Z9,Z9,Z9,Z9,⟨x.1+1,hx'⟩,⟨⟨trivial,⟨trivial,trivial⟩,L9,trivial,trivial,L9,trivial⟩,⟨rfl,aV 1 _⟩,⟨trivial,none0 _ _⟩,⟨trivial,two rfl rfl⟩,trivial⟩,L9⟩
 have hx':x.1=T2 a:=by have:=x.2;simp at hx;omega
 rw[hx',t0,h1];refine⟨Z9,λ_=>⟨λhz1=>?_,λhz1=>⟨?_,Z9,Z9,Z9,λhg1=>?_,λhl1=>?_⟩⟩,λh=>F1⟩
 ·have hz1':¬1+2*T2 a<a.length:=by simp at hz1;omega
  refine⟨Z9,Z9,Z9,Z9,Z9,⟨e0.symm,refl0 _ _⟩,⟨by simp[zJ,hz1'],none0 _ _⟩,by simp[tW,hz1'],trivial⟩
 ·simp at hz1;omega
 ·have hz1':1+2*T2 a<a.length:=by simp at hz1;omega
  have hg1':¬2+2*T2 a+2*k4 a<=a.length:=by simp at hg1;omega
  have hg1'':¬2+2*T2 a+2*k4 a=a.length:=Z9
  refine⟨Z9,Z9,Z9,Z9,Z9,⟨e0.symm,refl0 _ _⟩,⟨by simp[zJ,hg1'],none0 _ _⟩,by simp[tW,hg1''],trivial⟩
 have hz1':1+2*T2 a<a.length:=by simp at hz1;omega
 have hl1':2+2*T2 a+2*k4 a<=a.length:=by simp at hl1;omega
 have e1:zJ a=k4 a:=by simp[zJ,hz',hz1',hl1']
 refine⟨⟨⟨0,N7 _⟩,⟨trivial,⟨trivial,trivial⟩,L9,trivial,rfl,rfl,trivial⟩,⟨rfl,refl0 _ _⟩,⟨rfl,none0 _ _⟩,⟨trivial,two rfl rfl⟩,trivial⟩,λy=>⟨λhy=>?_,λhy=>?_⟩⟩
 ·have hy':y.1<k4 a:=by simpa using hy
  rw[show(2+2*(T2 a:Int)+2*(y.1:Int)).toNat=2+2*T2 a+2*y.1 by omega,show(2+2*(T2 a:Int)+2*(y.1:Int)+1).toNat=2+2*T2 a+2*y.1+1 by omega]
  refine⟨Z9,Z9,Z9,Z9,Z9,Z9,Z9,Z9,Z9,Z9,⟨y.1+1,hy'⟩,⟨⟨trivial,⟨trivial,trivial⟩,L9,trivial,trivial,L9,trivial⟩,⟨trivial,refl0 _ _⟩,⟨rfl,aV _ _⟩,⟨trivial,two rfl rfl⟩,trivial⟩,L9⟩
 have hy':y.1=k4 a:=by have:=y.2;simp at hy;omega
 rw[hy'];refine⟨Z9,(λh=>F1),λ_=>⟨Z9,Z9,Z9,Z9,Z9,⟨e0.symm,refl0 _ _⟩,⟨e1.symm,refl0 _ _⟩,?_,trivial⟩⟩
 unfold tW;rw[Bool.eq_iff_iff,beq_iff_eq,o7];omega
def xI(a:Bz)(A:Nat)(l hi lsn:Int)(i:Nat):Bool:=
 !V6 (r6 a (A+2*i)) l hi|| !V6 (r6 a (A+2*i+1)) 1 (lsn-1)||(decide ((i:Int)>0)&&decide (r6 a (A+2*(i-1))≥r6 a (A+2*i)))
def ckS(a:Bz)(lsn:Int):Bool:=
 tW a&&decide (vT a<=8)&&decide (zJ a<=10)&& !anyI (vT a) (xI a 1 0 7 lsn)&& !anyI (zJ a) (xI a (2+2*T2 a) 1 60 lsn)
def b9E(a:Bz)(n:Int):Prop:=a.length<1000000000000/\ -1000000000000<=n/\n<=1000000000000
def a0f:List T->Option (T×Option Prop)
 | [.agg [.int .i64 e,.int .i64 l,.int .i64 t,.int .i64 k,.int .i64 p,.int .i64 n,.int .i64 g,.int .i64 s,.str b,.str a]]=>some (.bool (ckS a l),some (b9E a l))
 |_=>none
def b4Q:Con:=.pure a0f
def b1v(r:Rec):Nat->Ann
 |1=>.one (V5 (zJ r.a) (xI r.a (2+2*T2 r.a) 1 60 r.l)) (λx=>⟨[(1,.ref 0 0 0),(4,.sl 2 (zJ r.a) (W8 r.a (2+2*T2 r.a))),(7,Ji x.1)],[some (.arr true 1000000 10 1 λ_=>r.ts)]⟩) (λx=>zJ r.a-x.1) [.arr 0] [.arr 0] (λ_=>Z3)
 |_=>.none
def b11(r:Rec):Nat->Ann
 |0=>.one (V5 (vT r.a) (xI r.a 1 0 7 r.l)) (λx=>⟨[(1,.ref 0 0 0),(3,.sl 2 (vT r.a) (W8 r.a 1)),(4,.sl 2 (zJ r.a) (W8 r.a (2+2*T2 r.a))),(6,Ji x.1)],[some (.arr true 1000000 10 1 λ_=>r.ts)]⟩) (λx=>vT r.a-x.1) [.arr 0] [.arr 0] (λ_=>b1v r)
 |_=>.none
theorem b2z(r:Rec)(h:
let ph:=(false=ckS r.a r.l);let pg:=(W8 r.a (2+2*T2 r.a));let pd:=(0=0/\0=0);let d:=(vT r.a=vT r.a/\Z8 (vT r.a) (W8 r.a 1) (W8 r.a 1));let v:=(zJ r.a=zJ r.a/\Z8 (zJ r.a) pg pg);  L8 r.a.length/\br (!tW r.a||decide ((↑(vT r.a):Int)>8)||decide ((↑(zJ r.a):Int)>10)) ph ((∃(x:V5 (vT r.a) (xI r.a 1 (0:Int) (7:Int) r.l)),(pd/\d/\v/\0=(x.1:Int)/\True)/\(1=1/\Z8 1 (λ(x:Nat)=>[Ji r.e,Ji r.l,Ji r.t,Ji r.k,Ji r.p,Ji r.n,Ji r.g,Ji r.s,T.str r.b,T.str r.a]) λ(x:Nat)=>[Ji r.e,Ji r.l,Ji r.t,Ji r.k,Ji r.p,Ji r.n,Ji r.g,Ji r.s,T.str r.b,T.str r.a])/\True)/\∀(x:V5 (vT r.a) (xI r.a 1 (0:Int) (7:Int) r.l)),let w:=(x.1:Int);let pe:=(r6 r.a (1+2*w.toNat+1));let pc:=(r6 r.a (1+2*w.toNat));let m:=(!V6 pc (0:Int) (7:Int));let z:=(!V6 pc (0:Int) (7:Int)|| !V6 pe (1:Int) (r.l-1));let pa:=(z=false->decide (w>0)=true->W9 (0:Int) 2);bd (w<(↑(vT r.a):Int)) (W9 w (vT r.a)/\W9 (0:Int) 2/\(m=false->W9 w (vT r.a))/\(m=false->W9 (1:Int) 2)/\(m=false->Ri (r.l-1))/\(z=false->decide (w>0)=true->Ri (w-1))/\(z=false->decide (w>0)=true->W9 (w-1) (vT r.a))/\pa/\(z=false->decide (w>0)=true->W9 w (vT r.a))/\pa/\br (!V6 pc (0:Int) (7:Int)|| !V6 pe (1:Int) (r.l-1)||decide (w>0)&&decide (r6 r.a (1+2*(w-1).toNat)≥r6 r.a (1+2*w.toNat))) ph (Ri (w+1)/\∃(y:V5 (vT r.a) (xI r.a 1 (0:Int) (7:Int) r.l)),((pd/\d/\v/\w+1=(y.1:Int)/\True)/\(1=1/\Z8 1 (λ(x:Nat)=>[Ji r.e,Ji r.l,Ji r.t,Ji r.k,Ji r.p,Ji r.n,Ji r.g,Ji r.s,T.str r.b,T.str r.a]) λ(x:Nat)=>[Ji r.e,Ji r.l,Ji r.t,Ji r.k,Ji r.p,Ji r.n,Ji r.g,Ji r.s,T.str r.b,T.str r.a])/\True)/\Lt (vT r.a-y.1) (vT r.a-x.1))) ((∃(x:V5 (zJ r.a) (xI r.a (2+2*T2 r.a) (1:Int) (60:Int) r.l)),(pd/\v/\0=(x.1:Int)/\True)/\(1=1/\Z8 1 (λ(x:Nat)=>[Ji r.e,Ji r.l,Ji r.t,Ji r.k,Ji r.p,Ji r.n,Ji r.g,Ji r.s,T.str r.b,T.str r.a]) λ(x:Nat)=>[Ji r.e,Ji r.l,Ji r.t,Ji r.k,Ji r.p,Ji r.n,Ji r.g,Ji r.s,T.str r.b,T.str r.a])/\True)/\∀(x:V5 (zJ r.a) (xI r.a (2+2*T2 r.a) (1:Int) (60:Int) r.l)),let u:=(x.1:Int);let pf:=(2+2*T2 r.a+2*u.toNat);let c:=(r6 r.a (2+2*T2 r.a+2*u.toNat+1));let f:=(r6 r.a (2+2*T2 r.a+2*(u-1).toNat)≥r6 r.a pf);let j:=(r6 r.a pf);let i:=(!V6 j (1:Int) (60:Int));let q:=(!V6 j (1:Int) (60:Int)|| !V6 c (1:Int) (r.l-1));let pb:=(q=false->decide (u>0)=true->W9 (0:Int) 2);bd (u<(↑(zJ r.a):Int)) (W9 u (zJ r.a)/\W9 (0:Int) 2/\(i=false->W9 u (zJ r.a))/\(i=false->W9 (1:Int) 2)/\(i=false->Ri (r.l-1))/\(q=false->decide (u>0)=true->Ri (u-1))/\(q=false->decide (u>0)=true->W9 (u-1) (zJ r.a))/\pb/\(q=false->decide (u>0)=true->W9 u (zJ r.a))/\pb/\((!V6 j (1:Int) (60:Int)||!V6 c (1:Int) (r.l-1)||decide (u>0)&&decide f)=true->false=ckS r.a r.l)/\((!V6 j (1:Int) (60:Int)|| !V6 c (1:Int) (r.l-1)||decide (u>0)&&decide f)=false->Ri (u+1)/\∃(y:V5 (zJ r.a) (xI r.a (2+2*T2 r.a) (1:Int) (60:Int) r.l)),((pd/\v/\u+1=(y.1:Int)/\True)/\(1=1/\Z8 1 (λ(x:Nat)=>[Ji r.e,Ji r.l,Ji r.t,Ji r.k,Ji r.p,Ji r.n,Ji r.g,Ji r.s,T.str r.b,T.str r.a]) λ(x:Nat)=>[Ji r.e,Ji r.l,Ji r.t,Ji r.k,Ji r.p,Ji r.n,Ji r.g,Ji r.s,T.str r.b,T.str r.a])/\True)/\Lt (zJ r.a-y.1) (zJ r.a-x.1))) (true=ckS r.a r.l)))):
  V4 prog 256 [.agg r.ts] (.bool (ckS r.a r.l)):=
 U5 (gC a1d (gC z7 gN)) func256 (b11 r) h
theorem b0G(a:Bz)(A:Nat)(l hi lsn:Int)(i:Nat):
  xI a A l hi lsn i=(!V6 (r6 a (A+2*(i:Int).toNat)) l hi|| !V6 (r6 a (A+2*(i:Int).toNat+1)) 1 (lsn-1)||(decide ((i:Int)>0)&&decide (r6 a (A+2*((i:Int)-1).toNat)≥r6 a (A+2*(i:Int).toNat)))):=by
 unfold xI;rw[D8,show((i:Int)-1).toNat=i-1 by omega]
theorem a9c:GK 256 b4Q:=gk func256<|by
 intro args res p h hp;unfold a0f at h;split at h
 case h_2=>cases h
 rename_i e l t k p n g s b a;simp only[X0,U4] at h;obtain⟨rfl,rfl⟩:=h;obtain⟨hn,hl1,hl2⟩:b9E a l:=hp;have q0:vT a<=a.length:=by unfold vT;split<;>omega
 have q1:zJ a<=a.length:=by unfold zJ;split<;>omega
 have r0:∀(n:Nat) (row:Nat->List T),Z8 n row row:=λn row i hi=>rfl
 refine b2z ⟨e,l,t,k,p,n,g,s,b,a⟩ ?_
 simp only[Rec.e,Rec.l,Rec.t,Rec.k,Rec.p,Rec.n,Rec.g,Rec.s,Rec.b,Rec.a];refine⟨hn,λhb=>?_,λhb=>⟨⟨F2,⟨⟨u7,u7⟩,⟨u7,r0 _ _⟩,⟨u7,r0 _ _⟩,u7,trivial⟩,⟨u7,r0 _ _⟩,trivial⟩,λx=>⟨λhc=>?_,λhc=>?_⟩⟩⟩
 ·unfold ckS;simp only[nS,vY,o7] at hb;rcases hb with(hb|hb)|hb
  ·rw[hb];rfl
  ·rw[show decide (vT a<=8)=false from tP Z9];simp
  ·rw[show decide (zJ a<=10)=false from tP Z9];simp
 ·have hlt:=Y2 hc;have i2:W9 0 2:=⟨Z9,Z9⟩
  have i2':W9 1 2:=⟨Z9,Z9⟩
  rw[←b0G];refine⟨Y6 hlt,i2,λ_=>Y6 hlt,λ_=>i2',λ_=>Z4 Z9,λ_ _=>Z4 Z9,λ_ hh=>?_,λ_ _=>i2,λ_ _=>Y6 hlt,λ_ _=>i2,λhp=>?_,λhp=>⟨W2 hlt Z9,x.succ hlt hp,⟨⟨⟨u7,u7⟩,⟨u7,r0 _ _⟩,⟨u7,r0 _ _⟩,u7,trivial⟩,⟨u7,r0 _ _⟩,trivial⟩,V5.ext_lt hlt⟩⟩
  ·have:=G5 hh;exact⟨Z9,Z9⟩
  ·have:anyI (vT a) (xI a 1 0 7 l)=true:=R8.2 ⟨x.1,hlt,hp⟩;simp[ckS,this]
 ·have hge:=X9 hc;have g0:anyI (vT a) (xI a 1 0 7 l)=false:=by
   rw[Bool.eq_false_iff,ne_eq,R8];rintro⟨i,hi,h⟩;rw[x.2.2 i Z9] at h
   cases h
  refine⟨⟨F2,⟨⟨u7,u7⟩,⟨u7,r0 _ _⟩,u7,trivial⟩,⟨u7,r0 _ _⟩,trivial⟩,λy=>⟨λhc=>?_,λhc=>?_⟩⟩
  ·have hlt:=Y2 hc;have i2:W9 0 2:=⟨Z9,Z9⟩
   have i2':W9 1 2:=⟨Z9,Z9⟩
   rw[←b0G];refine⟨Y6 hlt,i2,λ_=>Y6 hlt,λ_=>i2',λ_=>Z4 Z9,λ_ _=>Z4 Z9,λ_ hh=>?_,λ_ _=>i2,λ_ _=>Y6 hlt,λ_ _=>i2,λhp=>?_,λhp=>⟨W2 hlt Z9,y.succ hlt hp,⟨⟨⟨u7,u7⟩,⟨u7,r0 _ _⟩,u7,trivial⟩,⟨u7,r0 _ _⟩,trivial⟩,V5.ext_lt hlt⟩⟩
   ·have:=G5 hh;exact⟨Z9,Z9⟩
   ·have:anyI (zJ a) (xI a (2+2*T2 a) 1 60 l)=true:=R8.2 ⟨y.1,hlt,hp⟩;simp[ckS,this]
  ·have hge:=X9 hc;have g1:anyI (zJ a) (xI a (2+2*T2 a) 1 60 l)=false:=by
    rw[Bool.eq_false_iff,ne_eq,R8];rintro⟨i,hi,h⟩;rw[y.2.2 i Z9] at h
    cases h
   simp only[wR,wT,uG] at hb;unfold ckS;rw[g0,g1,hb.1.1,show decide (vT a<=8)=true from mN Z9,show decide (zJ a<=10)=true from mN Z9]
   rfl
theorem qJ(l:Bz)(k:Nat):numR (l.drop k)=r6 l k:=by
 unfold numR r6;simp[P3]
theorem b9Q(l:Bz)(k i:Nat):r6 (l.drop k) i=r6 l (k+i):=by
 unfold r6;simp[P3]
theorem a8b(l:Bz)(k:Nat):0<=r6 l k:=by unfold r6;omega
def a3T(l:Bz)(o:Int)(i:Nat):Int:=if i=0 then o-1 else r6 l (1+2*(i-1))
def okP(l:Bz)(o hi lsn:Int)(i:Nat):Bool:=V6 (r6 l (1+2*i)) (a3T l o i+1) hi&&V6 (r6 l (2+2*i)) 1 (lsn-1)
theorem c5k(most lo hi lsn:Int)(l:Bz)(fl:Bool)(i:Nat):
  RdSt.go hi lsn (uJ most lo l fl) i=⟨l.drop (1+2*i),fl||decide (l.length<1+2*i),decide (numR l<=most)&&(List.range i).all (okP l lo hi lsn),a3T l lo i⟩:=by
 induction i with
 |zero=>
  simp only[RdSt.go,uJ,a3T,if_true,List.range_zero,List.all_nil,Bool.and_true,Nat.mul_zero,Nat.add_zero];cases l<;>simp
 |succ i ih=>
  simp only[RdSt.go];rw[ih];simp only[RdSt.step];have e1:((l.drop (1+2*i)).drop 1).drop 1=l.drop (1+2*(i+1)):=by
   rw[List.drop_drop,List.drop_drop];congr 1
  have e2:numR ((l.drop (1+2*i)).drop 1)=r6 l (2+2*i):=by
   rw[List.drop_drop,qJ];congr 1
   omega
  have e3:a3T l lo (i+1)=numR (l.drop (1+2*i)):=by
   rw[qJ];simp[a3T]
  have e4:(List.range (i+1)).all (okP l lo hi lsn)=((List.range i).all (okP l lo hi lsn)&&okP l lo hi lsn i):=by
   rw[List.range_succ,List.all_append];simp
  rw[e1,e2,e3,e4,qJ];congr 1
  ·have:(l.drop (1+2*i)).isEmpty=decide (l.length<=1+2*i):=by
    rw[Bool.eq_iff_iff];simp
   have h2:((l.drop (1+2*i)).drop 1).isEmpty=decide (l.length<=1+2*i+1):=by
    rw[Bool.eq_iff_iff];simp
   rw[this,h2,Bool.or_assoc,Bool.or_assoc];congr 1
   rw[Bool.eq_iff_iff];simp;omega
  ·unfold okP;rw[Bool.and_assoc,Bool.and_assoc]
theorem b1g{n:Nat}{p q:Nat->Bool}(h:∀i,p i= !q i):(List.range n).all p= !anyI n q:=by
 unfold anyI;rw[List.not_any_eq_all_not];congr 1
 funext i
 rw[h i]
theorem b0s(l:Bz)(o hi lsn:Int)(d:o=0∨o=1)(i:Nat):okP l o hi lsn i= !xI l 1 o hi lsn i:=by
 have B:=a8b l (1+2*(i-1));have b2:=a8b l (1+2*i);unfold okP xI a3T V6;rw[show 1+2*i+1=2+2*i by omega]
 rw[Bool.eq_iff_iff];by_cases h:i=0
 ·subst h;simp
 ·simp[h];omega
theorem b4I(a:Bz)(k:Nat)(l hi lsn:Int)(i:Nat):xI (a.drop k) 1 l hi lsn i=xI a (k+1) l hi lsn i:=by
 unfold xI;simp only[b9Q];rw[show k+(1+2*i)=k+1+2*i by omega,show k+(1+2*i+1)=k+1+2*i+1 by omega,show k+(1+2*(i-1))=k+1+2*(i-1) by omega]
theorem c6w(a:Bz)(lsn:Int):a4N a lsn=ckS a lsn:=by
 have n0:(numR a).toNat=T2 a:=by simp[numR,T2,r6]
 have n0':numR a=(T2 a:Int):=by have:=r5 a;omega
 have n1:numR (a.drop (1+2*T2 a))=(k4 a:Int):=by rw[qJ];have:=a8b a (1+2*T2 a);simp[k4];omega
 have n1':(numR (a.drop (1+2*T2 a))).toNat=k4 a:=Z9
 have E1:N4 8 0 7 lsn a false=⟨a.drop (1+2*T2 a),decide (a.length<1+2*T2 a),decide ((T2 a:Int)<=8)&& !anyI (T2 a) (xI a 1 0 7 lsn),a3T a 0 (T2 a)⟩:=by
  unfold N4;rw[c5k,n0,n0',b1g (b0s a 0 7 lsn (.inl rfl)),Bool.false_or]
 have E2:N4 10 1 60 lsn (a.drop (1+2*T2 a)) (decide (a.length<1+2*T2 a))=⟨a.drop (2+2*T2 a+2*k4 a),decide (a.length<2+2*T2 a+2*k4 a),decide ((k4 a:Int)<=10)&& !anyI (k4 a) (xI a (2+2*T2 a) 1 60 lsn),a3T (a.drop (1+2*T2 a)) 1 (k4 a)⟩:=by
  unfold N4;rw[c5k,n1',n1,b1g (b0s (a.drop (1+2*T2 a)) 1 60 lsn (.inr rfl))];congr 1
  ·rw[List.drop_drop];congr 1;omega
  ·rw[Bool.eq_iff_iff];simp;omega
  ·congr 2
   unfold anyI;congr 1
   funext i
   rw[b4I];congr 1
   omega
 unfold a4N;rw[E1];simp only;rw[E2];simp only;have hE:(a.drop (2+2*T2 a+2*k4 a)).isEmpty=decide (a.length<=2+2*T2 a+2*k4 a):=by rw[Bool.eq_iff_iff];simp
 rw[hE];by_cases hr:0<a.length/\1+2*T2 a<a.length/\2+2*T2 a+2*k4 a=a.length
 ·have c0:vT a=T2 a:=by unfold vT;rw[if_pos ⟨hr.1,Z9⟩]
  have c1:zJ a=k4 a:=by unfold zJ;rw[if_pos ⟨hr.1,hr.2.1,Z9⟩]
  unfold ckS;rw[show tW a=true from mN hr,c0,c1]
  rw[show decide (a.length<1+2*T2 a)=false from tP Z9,show decide (a.length<2+2*T2 a+2*k4 a)=false from tP Z9,show decide (a.length<=2+2*T2 a+2*k4 a)=true from mN Z9]
  rw[show decide ((T2 a:Int)<=8)=decide (T2 a<=8) from decide_eq_decide.2 Z9,show decide ((k4 a:Int)<=10)=decide (k4 a<=10) from decide_eq_decide.2 Z9]
  generalize anyI (T2 a) _=x;generalize anyI (k4 a) _=y;generalize decide (T2 a<=8)=u;generalize decide (k4 a<=10)=v;cases x<;>cases y<;>cases u<;>cases v<;>rfl
 ·have:ckS a lsn=false:=by
   unfold ckS;rw[show tW a=false from tP hr]
   rfl
  rw[this];by_cases h1:a.length<2+2*T2 a+2*k4 a
  ·rw[show decide (a.length<2+2*T2 a+2*k4 a)=true from mN h1]
   simp
  ·have h2:¬a.length<=2+2*T2 a+2*k4 a:=by omega
   rw[show decide (a.length<=2+2*T2 a+2*k4 a)=false from tP h2]
   simp
def jN:List T->Option (T×Option Prop)
 | [.agg [.int .i64 e,.int .i64 l,.int .i64 t,.int .i64 k,.int .i64 p,.int .i64 n,.int .i64 g,.int .i64 s,.str b,.str a]]=>some (.bool (O8 ⟨e,l,t,k,p,n,g,s,b,a⟩),some (L8 a.length))
 |_=>none
def a5I:Con:=.pure jN
theorem a4I(r:Rec)(x:Bool)(h:
let q:=((r.b.length:Int)>30);  ((!V6 r.e (1:Int) (60:Int)|| !V6 r.l (1:Int) (60:Int)|| !V6 r.k (1:Int) (6:Int))=false->Ri (r.l-1))/\((!V6 r.e (1:Int) (60:Int)|| !V6 r.l (1:Int) (60:Int)|| !V6 r.k (1:Int) (6:Int)|| !V6 r.p (0:Int) (r.l-1))=false->Ri (r.l-1))/\((!V6 r.e (1:Int) (60:Int)|| !V6 r.l (1:Int) (60:Int)|| !V6 r.k (1:Int) (6:Int)|| !V6 r.p (0:Int) (r.l-1)|| !V6 r.n (0:Int) (r.l-1)|| !V6 r.g (0:Int) (7:Int)|| !V6 r.s (0:Int) (3:Int)||decide q)=true->false=x)/\((!V6 r.e (1:Int) (60:Int)|| !V6 r.l (1:Int) (60:Int)||!V6 r.k (1:Int) (6:Int)|| !V6 r.p (0:Int) (r.l-1)|| !V6 r.n (0:Int) (r.l-1)|| !V6 r.g (0:Int) (7:Int)|| !V6 r.s (0:Int) (3:Int)||decide q)=false->br (r.k==6) (((r.t==0&&r.p==0&&r.n==0&&r.g==0&&r.s==0&&r.b==[])=true->b9E r.a r.l)/\(r.t==0&&r.p==0&&r.n==0&&r.g==0&&r.s==0&&r.b==[]&&ckS r.a r.l)=x) (br (!V6 r.t (1:Int) (60:Int)||decide ((r.a.length:Int)>30)) (false=x) (br (!(r.k==2||r.k==3)&&(r.g !=0||r.s !=0|| !r.b==[]|| !r.a==[])||r.k !=3&&r.n !=0||r.k==3&& !r.b==[]) (false=x) (((r.k==1)==(r.p==0))=x))))):
  V4 prog 158 [.agg r.ts] (.bool x):=
 U5 (gC a9c (gC z7 gN)) func158 Z3 h
theorem c89{p k a b:Int}:((k==b)=(p==a))↔(k=b↔p=a):=by
 rw[Bool.eq_iff_iff,beq_iff_eq,beq_iff_eq]
theorem lR:GK 158 a5I:=gk func158<|by
 intro args res p h hp;unfold jN at h;split at h
 case h_2=>cases h
 rename_i e l t k p n g s b a;simp only[X0,U4] at h;obtain⟨rfl,rfl⟩:=h;have hp:a.length<1000000000000:=hp;refine a4I ⟨e,l,t,k,p,n,g,s,b,a⟩ _ ?_
 simp only[Rec.e,Rec.l,Rec.t,Rec.k,Rec.p,Rec.n,Rec.g,Rec.s,Rec.b,Rec.a];have hr:∀{q:Bool},(!V6 e 1 60|| !V6 l 1 60||q)=false->R1 .i64 (l-1):=by
  intro q h;simp only[wR,wT,V6,J4,o7] at h;exact Z4 Z9
 refine⟨hr,λh=>hr (q:= !V6 k 1 6|| !V6 p 0 (l-1)) (by rw[←h];simp[Bool.or_assoc]),λh=>?_,λh=>?_⟩
 ·refine(uO ?_).symm
  simp only[nS,vY,V6,Bool.and_eq_false_iff,uG,o7] at h;unfold zF;simp only;omega
 simp only[wR,wT,V6,J4,o7,uG] at h;by_cases h6:k=6
 ·subst h6;refine⟨λ_=>⟨λ_=>⟨hp,Z9,Z9⟩,qK ?_⟩,λh=>L3⟩
  rw[Q3,←c6w];simp only[zF,o7,J4,beq_iff_eq,true_and,and_true];constructor
  ·rintro⟨⟨⟨⟨⟨⟨rfl,rfl⟩,rfl⟩,rfl⟩,rfl⟩,rfl⟩,hc⟩;simp[hc];omega
  ·rintro⟨_,_,_,_,_,_,_,_,_,_,_,_,_,_,_,hh,_⟩;obtain⟨rfl,rfl,rfl,rfl,rfl,rfl,hc⟩:=hh trivial;simp[hc]
 refine⟨λh=>absurd w9 h6,λ_=>⟨λhb=>?_,λhb=>⟨λhc=>?_,λhc=>qK ?_⟩⟩⟩
 ·refine(uO ?_).symm
  simp[V6] at hb;unfold zF;simp only;omega
 ·refine(uO ?_).symm
  unfold zF;simp only;rintro⟨_,_,_,_,_,_,_,_,_,_,_,_,_,_,_,_,hh⟩;obtain⟨c1,c2,c3,c4,c5,c6,c7⟩:=hh h6;simp only[nS,J4,vY,wR,beq_iff_eq,bne_iff_ne,beq_eq_false_iff_ne] at hc;rcases hc with(⟨⟨x2,x3⟩,hc⟩|⟨x3,hn⟩)|⟨x3,hn⟩
  ·obtain⟨d1,d2,d3,d4⟩:=c4 x2 x3;rcases hc with((hc|hc)|hc)|hc
   ·exact hc d1
   ·exact hc d2
   ·exact hc d3
   ·exact hc d4
  ·exact hn (c5 x3)
  ·exact hn (c6 x3)
 ·rw[Q3];simp only[zF,c89,true_and,and_true,beq_iff_eq];simp[V6] at hb hc;constructor
  ·intro hk;refine⟨Z9,Z9,Z9,Z9,Z9,Z9,Z9,Z9,Z9,Z9,Z9,Z9,Z9,Z9,Z9,λh=>absurd h h6,λ_=>⟨Z9,Z9,Z9,λx2 x3=>?_,λx3=>?_,λx3=>?_,hk⟩⟩
   ·have:=hc.1.1 x2 x3;exact⟨this.1.1.1,this.1.1.2,this.1.2,this.2⟩
   ·exact hc.1.2 x3
   ·exact hc.2 x3
  ·rintro⟨_,_,_,_,_,_,_,_,_,_,_,_,_,_,_,_,hh⟩;exact(hh h6).2.2.2.2.2.2
def rem(l:Int)(n:Nat):Int:=if 0<=l-n then l-n else-1
def C1(n:Int):Prop:=0<=n/\n<=1048576
def N6(r:Rec):Nat:=r.b.length+r.a.length
def b4l(r:Rec):Prop:=r.b.length<=9223372036854775807/\r.a.length<=9223372036854775807
def b0m:Rl:=⟨Rec×Int,λx=>[.agg x.1.ts,Ji x.2],λx=>Ji (rem x.2 (N6 x.1)),λx=>C1 x.2/\b4l x.1⟩
def c3E:Con:=.rel b0m
theorem I6{l:Int}{n:Nat}(h:l<n):rem l n= -1:=by unfold rem;rw[if_neg Z9]
theorem D7{l:Int}{n:Nat}(h:(n:Int)<=l):rem l n=l-n:=by unfold rem;rw[if_pos Z9]
theorem b7G:GK 155 c3E:=gk func155<|by
 rintro⟨r,l⟩ ⟨⟨g,f⟩,B,A⟩;simp only at g f B A;refine U5 gN func155 Z3 (α:=let q:=(r.a.length:Int);let p:=(r.b.length:Int);R1 .i64 (l- p)/\(decide (l- p<0)=true->(-1:Int)=rem l (N6 r))/\(decide (l- p<0)=false->R1 .i64 (l- p- q)/\(decide (l- p- q<0)=true->(-1:Int)=rem l (N6 r))/\(decide (l- p- q<0)=false->l- p- q=rem l (N6 r)))) ?_
 simp only[k6,o7,uG];have e:((N6 r:Nat):Int)=r.b.length+r.a.length:=by unfold N6;omega
 refine⟨Z9,λh=>(I6 Z9).symm,λh=>⟨Z9,λd=>(I6 Z9).symm,λd=>?_⟩⟩
 rw[D7 Z9]
 omega
def V3{α:Type}(f:α->Nat)(L:List α)(n:Nat):Nat->Nat
 |0=>n
 |i+1=>V3 f L n i+(L[i]?.map f).getD 0
def S2{α:Type}(f:α->Nat)(L:List α):Nat:=V3 f L L.length L.length
def a3u:Rl:=⟨List Rec×Int,λx=>[zD x.1,Ji x.2],λx=>Ji (rem x.2 (S2 N6 x.1)),λx=>C1 x.2/\x.1.length<=9223372036854775807/\∀r ∈ x.1,b4l r⟩
def b9j:Con:=.rel a3u
def b9p(L:List Rec)(l:Int):Nat->Ann
 |0=>.one {i:Nat//i<=L.length/\(V3 N6 L L.length i:Int)<=l} (λx=>⟨[(0,zD L),(1,Ji (l-V3 N6 L L.length x.1)),(5,Ji x.1)],[]⟩) (λx=>L.length-x.1) [] [] (λ_=>Z3)
 |_=>.none
theorem zK{α:Type}(f:α->Nat)(L:List α)(n:Nat){i:Nat}(d:α)(h:i<L.length):V3 f L n (i+1)=V3 f L n i+f (L.getD i d):=by
 simp[V3,P3,I0 h]
theorem w6{α:Type}(f:α->Nat)(L:List α)(n:Nat):∀{i j:Nat},i<=j->V3 f L n i<=V3 f L n j:=by
 intro i j h;induction h with
 |refl=>exact U9 _
 |step _ I=>simp only[V3];omega
theorem b3Y:GK 68 b9j:=gk func68<|by
 rintro⟨L,left⟩ ⟨⟨d,f⟩,N,B⟩;simp only at d f B N;have R:∀(n:Nat) (row:Nat->List T),Z8 n row row:=λn row i hi=>rfl
 have M:∀i,i<=L.length->V3 N6 L L.length i<=S2 N6 L:=λi hi=>w6 _ _ _ hi
 have z:V3 N6 L L.length 0=L.length:=rfl;refine U5 (gC b7G gN) func68 (b9p L left) (α:=let w:=(S2 N6 L);let r:=(L.length:Int);R1 .i64 (left- r)/\(decide (left- r<0)=true->(-1:Int)=rem left w)/\(decide (left- r<0)=false->(∃(x:{i:Nat//i<=L.length/\(↑(V3 N6 L L.length i):Int)<=left}),((Z0 Y0 L L)/\left- r=left- (↑(V3 N6 L L.length x.1):Int)/\0=(x.1:Int)/\True)/\True)/\∀(x:{i:Nat//i<=L.length/\(↑(V3 N6 L L.length i):Int)<=left}),let u:=(↑(V3 N6 L L.length x.1):Int);let z:=(x.1:Int);let q:=(L.getD z.toNat dz);(decide (z<r)=true->W9 z L.length/\∃(X:b0m.ι),let v:=(rem X.2 (N6 X.1)<0);(((q.e=X.1.e/\q.l=X.1.l/\q.t=X.1.t/\q.k=X.1.k/\q.p=X.1.p/\q.n=X.1.n/\q.g=X.1.g/\q.s=X.1.s/\q.b=X.1.b/\q.a=X.1.a/\True)/\left- u=X.2/\True)/\C1 X.2/\b4l X.1)/\(decide v=true->(-1:Int)=rem left w)/\(decide v=false->R1 .i64 (z+1)/\∃(y:{i:Nat//i<=L.length/\(↑(V3 N6 L L.length i):Int)<=left}),(((Z0 Y0 L L)/\rem X.2 (N6 X.1)=left- (↑(V3 N6 L L.length y.1):Int)/\z+1=(y.1:Int)/\True)/\True)/\Lt (L.length-y.1) (L.length-x.1)))/\(decide (z<r)=false->left- u=rem left w))) ?_
 simp only[k6,o7,uG];refine⟨Z9,λh=>(I6 a9p).symm,λh=>⟨⟨⟨0,N7 _,Z9⟩,⟨⟨S6,R _ _⟩,by simp only[z],rfl,trivial⟩,trivial⟩,λx=>⟨λC=>?_,λC=>?_⟩⟩⟩
 ·have hlt:x.1<L.length:=by omega
  have hx:=x.2;have o:=zK N6 L L.length dz hlt;have j:=M (x.1+1) hlt;have r:=B _ (dE hlt);refine⟨Y6 hlt,⟨L.getD x.1 dz,left- (V3 N6 L L.length x.1:Int)⟩,⟨⟨⟨rfl,rfl,rfl,rfl,rfl,rfl,rfl,rfl,rfl,rfl,trivial⟩,rfl,trivial⟩,⟨L9,L9⟩,r⟩,λhr=>?_,λhr=>⟨Z9,⟨x.1+1,hlt,?_⟩,⟨⟨⟨S6,R _ _⟩,?_,L9,trivial⟩,trivial⟩,V5.ext_lt hlt⟩⟩
  ·simp only at hr;by_cases hq:(N6 (L.getD x.1 dz):Int)<=left- (V3 N6 L L.length x.1:Int)
   ·rw[D7 hq] at hr;omega
   ·exact(I6 Z9).symm
  ·simp only at hr;by_cases hq:(N6 (L.getD x.1 dz):Int)<=left- (V3 N6 L L.length x.1:Int)
   ·omega
   ·rw[I6 Z9] at hr
    omega
  ·simp only at hr ⊢;by_cases hq:(N6 (L.getD x.1 dz):Int)<=left- (V3 N6 L L.length x.1:Int)
   ·rw[D7 hq];omega
   ·rw[I6 Z9] at hr
    omega
 ·have hx:=x.2;have he:x.1=L.length:=by omega
  rw[he] at hx ⊢;exact(D7 hx.2).symm
def a95:Rl:=⟨Rec,λr=>[.agg r.ts],λr=>.agg r.ts,λ_=>True⟩
def c2u:Con:=.rel a95
theorem c0O(r:Rec)(h:
  r.e=r.e/\r.l=r.l/\r.t=r.t/\r.k=r.k/\r.p=r.p/\r.n=r.n/\r.g=r.g/\r.s=r.s/\r.b=r.b/\r.a=r.a/\True):
  V4 prog 175 [.agg r.ts] (.agg r.ts):=
 U5 gN func175 Z3 h
theorem b5W:GK 175 c2u:=gk func175<|λr _=>c0O r ⟨rfl,rfl,rfl,rfl,rfl,rfl,rfl,rfl,rfl,rfl,trivial⟩
def G4{α:Type}(d z:α)(L:List α)(i j:Nat):α:=if j<i then L.getD j d else z
def M5:Rec:=⟨0,0,0,0,0,0,0,0,[],[]⟩
def b51(L:List Rec):Nat->Ann
 |0=>.one (Up L.length) (λx=>⟨[(0,zD L),(3,.osl 0 0 L.length),(4,Ji x.1)],[some (.arr true 0 10 L.length λj=>(G4 dz M5 L x.1 j).ts)]⟩) (λx=>L.length-x.1) [.arr 0] [.arr 0] (λ_=>Z3)
 |_=>.none
theorem E4{row:Nat->List T}{i k:Nat}{cs:List T}(h:cs.length=(row k).length):setRow row i 0 cs k=match Nat.beq k i with|true=>cs|false=>row k:=by
 rw[g8 Z9]
 cases Nat.beq k i
 ·rfl
 ·simp[h]
theorem b4L{α:Type}{d z:α}{L:List α}{i j:Nat}:G4 d z L (i+1) j=if j=i then L.getD j d else G4 d z L i j:=by
 unfold G4;by_cases h:j=i
 ·subst h;simp
 ·by_cases h2:j<i
  ·rw[if_pos Z9,if_neg h,if_pos h2]
  ·rw[if_neg Z9,if_neg h,if_neg h2]
theorem c2O{α:Type}(ts:α->List T)(m:Nat)(M:∀a,(ts a).length=m)(d z:α)(L:List α)(i j:Nat):
  setRow (λj=>ts (G4 d z L i j)) (0+(i:Int).toNat) 0 (ts (L.getD i d)) j=ts (G4 d z L (i+1) j):=by
 rw[E4 (by rw[M,M]),b4L,show 0+(i:Int).toNat=i by omega]
 by_cases I:j=i
 ·subst I;rw[if_pos rfl,show Nat.beq j j=true from by simp]
 ·rw[if_neg I,show Nat.beq j i=false from Bool.eq_false_iff.2 λh=>I (F3 h)]
def b0v:Rl:=⟨Rec,λr=>[.agg r.ts,.agg r.ts],λ_=>.bool true,λ_=>True⟩
def c00:Con:=.rel b0v
theorem b6c:GK 192 c00:=gk func192<|by
 intro r _;refine U5 gN func192 Z3 (α:=((r.e !=r.e)=true->false=true)/\((r.e !=r.e)=false->((r.l !=r.l)=true->false=true)/\((r.l !=r.l)=false->((r.t !=r.t)=true->false=true)/\((r.t !=r.t)=false->((r.k !=r.k)=true->false=true)/\((r.k !=r.k)=false->((r.p !=r.p)=true->false=true)/\((r.p !=r.p)=false->((r.n !=r.n)=true->false=true)/\((r.n !=r.n)=false->((r.g !=r.g)=true->false=true)/\((r.g !=r.g)=false->((r.s !=r.s)=true->false=true)/\((r.s !=r.s)=false->((!r.b==r.b)=true->false=true)/\((!r.b==r.b)=false->((!r.a==r.a)=true->false=true)/\((!r.a==r.a)=false->true=true))))))))))) ?_
 simp
def a4C:Rl:=⟨List Rec,λL=>[zD L,zD L],λ_=>.bool true,λL=>L.length<=1048576⟩
def b9V:Con:=.rel a4C
def b8d(L:List Rec):Nat->Ann
 |0=>.one (Up L.length) (λx=>⟨[(0,zD L),(1,zD L),(5,Ji x.1)],[]⟩) (λx=>L.length-x.1) [] [] (λ_=>Z3)
 |_=>.none
theorem b2R:GK 101 b9V:=gk func101<|by
 intro L f;have f:L.length<=1048576:=f;have r:∀(n:Nat) (row:Nat->List T),Z8 n row row:=λn row i hi=>rfl
 refine U5 (gC b6c gN) func101 (b8d L) (α:=let v:=(L.length:Int);let u:=(Z0 Y0 L L);br (v !=v) (false=true) ((∃(x:Up L.length),(u/\u/\0=(x.1:Int)/\True)/\True)/\∀(x:Up L.length),let z:=(x.1:Int);let q:=(L.getD z.toNat dz);bd (z<v) (W9 z L.length/\W9 z L.length/\∃(X:b0v.ι),let r:=(q.e=X.e/\q.l=X.l/\q.t=X.t/\q.k=X.k/\q.p=X.p/\q.n=X.n/\q.g=X.g/\q.s=X.s/\q.b=X.b/\q.a=X.a/\True);((r/\r/\True)/\True)/\br false (false=true) (Ri (z+1)/\∃(y:Up L.length),((u/\u/\z+1=(y.1:Int)/\True)/\True)/\Lt (L.length-y.1) (L.length-x.1))) (true=true))) ⟨λh=>L3,λ_=>⟨⟨⟨0,N7 _⟩,⟨⟨S6,r _ _⟩,⟨S6,r _ _⟩,rfl,trivial⟩,trivial⟩,λx=>⟨λC=>?_,λ_=>rfl⟩⟩⟩
 have d:=Y2 C;exact⟨Y6 d,Y6 d,L.getD x.1 dz,⟨⟨⟨rfl,rfl,rfl,rfl,rfl,rfl,rfl,rfl,rfl,rfl,trivial⟩,⟨rfl,rfl,rfl,rfl,rfl,rfl,rfl,rfl,rfl,rfl,trivial⟩,trivial⟩,trivial⟩,λh=>h,λ_=>⟨W2 d Z9,⟨x.1+1,d⟩,⟨⟨⟨S6,r _ _⟩,⟨S6,r _ _⟩,L9,trivial⟩,trivial⟩,V5.ext_lt d⟩⟩
theorem b9N{a b:Nat}(h:a<4294967296)(B:b<4294967296):a ^^^ b<4294967296:=Nat.xor_lt_two_pow (n:=32) h B
theorem b9n{a b:Nat}(h:b<4294967296):a&&&b<4294967296:=Nat.and_lt_two_pow (n:=32) a h
theorem c22{a b:Nat}(h:a<4294967296)(B:b<4294967296):a|||b<4294967296:=Nat.or_lt_two_pow (n:=32) h B
theorem uU{k:IntKind}(d:k= .i64∨k= .u32){n:Nat}(h:n<4294967296):(BitVec.ofInt k.bits (n:Int)).toNat=n:=by
 rw[BitVec.ofInt_natCast,BitVec.toNat_ofNat];refine Nat.mod_eq_of_lt ?_
 rcases d with rfl|rfl
 ·exact Nat.lt_trans h M3
 ·exact h
theorem sZ{k:IntKind}(h:k= .i64∨k= .u32){n:Nat}(N:n<4294967296):k.wrap (n:Int)=n:=by
 rcases h with rfl|rfl
 ·rw[IntKind.wrap_i64];omega
 ·rw[IntKind.wrap_u32];omega
theorem kK{k:IntKind}(h:k= .i64∨k= .u32){a b:Nat}(A:a<4294967296)(B:b<4294967296):bits .xor k (a:Int) (b:Int)=((a ^^^ b:Nat):Int):=by
 show k.wrap ((BitVec.ofInt k.bits (a:Int) ^^^ BitVec.ofInt k.bits (b:Int)).toNat:Int)=_;rw[BitVec.toNat_xor,uU h A,uU h B,sZ h (b9N A B)]
theorem c5Q{k:IntKind}(h:k= .i64∨k= .u32){a b:Nat}(A:a<4294967296)(B:b<4294967296):bits .and k (a:Int) (b:Int)=((a&&&b:Nat):Int):=by
 show k.wrap ((BitVec.ofInt k.bits (a:Int)&&&BitVec.ofInt k.bits (b:Int)).toNat:Int)=_;rw[BitVec.toNat_and,uU h A,uU h B,sZ h (b9n B)]
theorem c9q{k:IntKind}(h:k= .i64∨k= .u32){a b:Nat}(A:a<4294967296)(B:b<4294967296):bits .or k (a:Int) (b:Int)=((a|||b:Nat):Int):=by
 show k.wrap ((BitVec.ofInt k.bits (a:Int)|||BitVec.ofInt k.bits (b:Int)).toNat:Int)=_;rw[BitVec.toNat_or,uU h A,uU h B,sZ h (c22 A B)]
def a13(r:Nat):Nat:=(r/2) ^^^ (r % 2*3988292384)
def O5(r c:Nat):Nat->Nat
 |0=>r ^^^ c
 |k+1=>a13 (O5 r c k)
def I1(l:Bz):Nat->Nat
 |0=>4294967295
 |i+1=>O5 (I1 l i) (l.getD i 0).toNat 8
def zN(l:Bz):Nat:=I1 l l.length ^^^ 4294967295
theorem b2t{r:Nat}(h:r<4294967296):a13 r<4294967296:=by
 have:r % 2*3988292384<2 ^ 32:=by have:=Nat.mod_lt r (show 0<2 by decide);omega
 exact Nat.xor_lt_two_pow (n:=32) Z9 this
theorem tD{r c:Nat}(h:r<4294967296)(C:c<256):∀k,O5 r c k<4294967296
 |0=>Nat.xor_lt_two_pow (n:=32) Z9 Z9
 |k+1=>b2t (tD h C k)
theorem yK(l:Bz)(i:Nat):(l.getD i 0).toNat<256:=(l.getD i 0).toNat_lt
theorem vB(l:Bz):∀i,I1 l i<4294967296
 |0=>show 4294967295<4294967296 by decide
 |i+1=>tD (vB l i) (yK l i) 8
theorem a1X(l:Bz):zN l<4294967296:=Nat.xor_lt_two_pow (n:=32) (vB l _) M3
def u9(l:Bz):Prop:=l.length<=1000000000
theorem a0X(h:p:=by unfold u9;omega):p:=h
def tX(k:IntKind):Rl:=⟨Bz,λl=>[.bys l],λl=>.int k (zN l),u9⟩
def a7s:Con:=.rel (tX .i64)
def b1D:Con:=.rel (tX .u32)
def a7n(l:Bz):Nat->Ann
 |0=>.one (Up l.length) (λx=>⟨[(0,.bys l),(3,Ji (I1 l x.1)),(4,Ji x.1)],[]⟩) (λx=>l.length-x.1) [] [] (λx=>fun
  |1=>.one {k:Nat//k<=8} (λy=>⟨[(0,.bys l),(3,Ji (O5 (I1 l x.1) (l.getD x.1 0).toNat y.1)),(4,Ji x.1),(5,Ji y.1)],[]⟩) (λy=>8-y.1) [] [] (λ_=>Z3)
  |_=>.none)
 |_=>.none
def b3W(l:Bz):Nat->Ann
 |0=>.one (Up l.length) (λx=>⟨[(3,.int .u32 (I1 l x.1)),(6,.bys l),(7,Ji l.length),(8,Ji x.1)],[]⟩) (λx=>l.length-x.1) [] [] (λx=>fun
  |1=>.one {k:Nat//k<=8} (λy=>⟨[(3,.int .u32 (O5 (I1 l x.1) (l.getD x.1 0).toNat y.1)),(6,.bys l),(7,Ji l.length),(8,Ji x.1),(16,Ji y.1)],[]⟩) (λy=>8-y.1) [] [] (λ_=>Z3)
  |_=>.none)
 |_=>.none
theorem a96{k:IntKind}(d:k= .i64∨k= .u32){r:Nat}(h:r<4294967296):bits .and k (r:Int) 1=((r % 2:Nat):Int):=by
 rw[show(1:Int)=((1:Nat):Int) from rfl,c5Q d h M3,Nat.and_one_is_mod]
theorem c4y(r:Nat):(r:Int).fdiv 2=((r/2:Nat):Int):=by
 rw[Int.fdiv_eq_ediv_of_nonneg _ Z9]
 omega
theorem jO:GK 297 a7s:=gk func297<|by
 intro(l:Bz) (hl:l.length<=1000000000);have k1:IntKind.i64= .i64∨IntKind.i64= .u32:=.inl rfl;refine U5 gN func297 (a7n l) (α:=(∃(x:Up l.length),(l=l/\4294967295=(↑(I1 l x.1):Int)/\0=(x.1:Int)/\True)/\True)/\∀(x:Up l.length),let u:=(I1 l x.1);let r:=(l.getD x.1 (0:UInt8)).toNat;let q:=(x.1:Int);bd (q<(l.length:Int)) (W9 q l.length/\(∃(X:{k:Nat//k<=8}),(l=l/\bits BinOp.xor IntKind.i64 (↑u:Int) (IntKind.i64.wrap (↑(l.getD q.toNat (0:UInt8)).toNat:Int))=(↑(O5 u r X.val):Int)/\q=q/\0=(X.val:Int)/\True)/\True)/\∀(X:{k:Nat//k<=8}),let v:=(X.val:Int);let p:=(↑(O5 u r X.val):Int);let z:=(bits BinOp.and IntKind.i64 p (1:Int)*3988292384);bd (v<8) (Nn (1:Int)/\Ri z/\Ri (v+1)/\∃(y:{k:Nat//k<=8}),((l=l/\bits BinOp.xor IntKind.i64 (p.fdiv (2:Int)) z=(↑(O5 u r y.1):Int)/\q=q/\v+1=(y.1:Int)/\True)/\True)/\Lt (8-y.1) (8-X.val)) (Ri (q+1)/\∃(y:Up l.length),((l=l/\p=(↑(I1 l y.1):Int)/\q+1=(y.1:Int)/\True)/\True)/\Lt (l.length-y.1) (l.length-x.1))) (bits BinOp.xor IntKind.i64 (↑u:Int) 4294967295=(↑(zN l):Int))) ⟨⟨⟨0,N7 _⟩,⟨rfl,rfl,rfl,trivial⟩,trivial⟩,λx=>⟨λhc=>?_,λhc=>?_⟩⟩
 ·have hlt:=Y2 hc;have hr:=vB l x.1;have hb:=yK l x.1;refine⟨Y6 hlt,⟨⟨0,Z9⟩,⟨rfl,?_,rfl,rfl,trivial⟩,trivial⟩,λy=>⟨λhd=>?_,λhd=>?_⟩⟩
  ·rw[D8,sZ k1 Z9,kK k1 hr Z9]
   rfl
  ·have hy:y.1<8:=by have:=G5 hd;omega
   have q:=tD hr hb y.1;have h:O5 (I1 l x.1) (l.getD x.1 0).toNat y.1 % 2*3988292384<4294967296:=by have:=Nat.mod_lt (O5 (I1 l x.1) (l.getD x.1 0).toNat y.1) (show 0<2 by decide);omega
   rw[a96 k1 q,c4y,show((O5 (I1 l x.1) (l.getD x.1 0).toNat y.1 % 2:Nat):Int)*3988292384=((O5 (I1 l x.1) (l.getD x.1 0).toNat y.1 % 2*3988292384:Nat):Int) by omega,kK k1 Z9 h]
   refine⟨m0,Z4 Z9,Z4 Z9,⟨y.1+1,hy⟩,⟨⟨rfl,rfl,rfl,L9,trivial⟩,trivial⟩,nB⟩
  ·have hy:y.1=8:=by have:=y.2;have:=r8 hd;omega
   refine⟨W2 hlt Z9,⟨x.1+1,hlt⟩,⟨⟨rfl,?_,L9,trivial⟩,trivial⟩,V5.ext_lt hlt⟩
   rw[hy];rfl
 ·have hx:x.1=l.length:=by have:=x.2;have:=X9 hc;omega
  rw[hx,show(4294967295:Int)=((4294967295:Nat):Int) from rfl,kK k1 (vB l _) M3]
  rfl
theorem oR:GK 318 b1D:=gk func318<|by
 intro(l:Bz) (hl:l.length<=1000000000);have k1:IntKind.u32= .i64∨IntKind.u32= .u32:=.inr rfl;refine U5 gN func318 (b3W l) (α:=let q:=(l.length:Int);(∃(x:Up l.length),(4294967295=(↑(I1 l x.1):Int)/\l=l/\q=q/\0=(x.1:Int)/\True)/\True)/\∀(x:Up l.length),let u:=(I1 l x.1);let z:=(l.getD x.1 (0:UInt8)).toNat;let r:=(x.1:Int);bd (r<q) (W9 r l.length/\(∃(X:{k:Nat//k<=8}),(bits BinOp.xor IntKind.u32 (↑u:Int) (IntKind.u32.wrap (↑(l.getD r.toNat (0:UInt8)).toNat:Int))=(↑(O5 u z X.val):Int)/\l=l/\q=q/\r=r/\0=(X.val:Int)/\True)/\True)/\∀(X:{k:Nat//k<=8}),let v:=(X.val:Int);let p:=(↑(O5 u z X.val):Int);bd (v<8) (br (bits BinOp.and IntKind.u32 p (1:Int)==1) (Nn (1:Int)/\Ri (v+1)/\∃(y:{k:Nat//k<=8}),((bits BinOp.xor IntKind.u32 (p.fdiv (2:Int)) 3988292384=(↑(O5 u z y.1):Int)/\l=l/\q=q/\r=r/\v+1=(y.1:Int)/\True)/\True)/\Lt (8-y.1) (8-X.val)) (Nn (1:Int)/\Ri (v+1)/\∃(y:{k:Nat//k<=8}),((p.fdiv 2=(↑(O5 u z y.1):Int)/\l=l/\q=q/\r=r/\v+1=(y.1:Int)/\True)/\True)/\Lt (8-y.1) (8-X.val))) (Ri (r+1)/\∃(y:Up l.length),((p=(↑(I1 l y.1):Int)/\l=l/\q=q/\r+1=(y.1:Int)/\True)/\True)/\Lt (l.length-y.1) (l.length-x.1))) (bits BinOp.xor IntKind.u32 (↑u:Int) 4294967295=(↑(zN l):Int))) ⟨⟨⟨0,N7 _⟩,⟨rfl,rfl,rfl,rfl,trivial⟩,trivial⟩,λx=>⟨λhc=>?_,λhc=>?_⟩⟩
 ·have hlt:=Y2 hc;have hr:=vB l x.1;have hb:=yK l x.1;refine⟨Y6 hlt,⟨⟨0,Z9⟩,⟨?_,rfl,rfl,rfl,rfl,trivial⟩,trivial⟩,λy=>⟨λhd=>?_,λhd=>?_⟩⟩
  ·rw[D8,sZ k1 Z9,kK k1 hr Z9]
   rfl
  ·have hy:y.1<8:=by have:=G5 hd;omega
   have h:=tD hr hb y.1;rw[a96 k1 h,c4y];refine⟨λho=>⟨m0,Z4 Z9,⟨y.1+1,hy⟩,⟨⟨?_,rfl,rfl,rfl,L9,trivial⟩,trivial⟩,nB⟩,
    λho=>⟨m0,Z4 Z9,⟨y.1+1,hy⟩,⟨⟨?_,rfl,rfl,rfl,L9,trivial⟩,trivial⟩,nB⟩⟩
   ·have ho:O5 (I1 l x.1) (l.getD x.1 0).toNat y.1 % 2=1:=by rw[beq_iff_eq] at ho;omega
    rw[show(3988292384:Int)=((3988292384:Nat):Int) from rfl,kK k1 Z9 M3]
    simp only[O5,a13,ho,Nat.one_mul]
   ·have ho:O5 (I1 l x.1) (l.getD x.1 0).toNat y.1 % 2=0:=by
     have:¬ ((O5 (I1 l x.1) (l.getD x.1 0).toNat y.1 % 2:Nat):Int)=1:=by simpa using ho
     omega
    simp only[O5,a13,ho,Nat.zero_mul,Nat.xor_zero]
  ·have hy:y.1=8:=by have:=y.2;have:=r8 hd;omega
   refine⟨W2 hlt Z9,⟨x.1+1,hlt⟩,⟨⟨?_,rfl,rfl,L9,trivial⟩,trivial⟩,V5.ext_lt hlt⟩
   rw[hy];rfl
 ·have hx:x.1=l.length:=by have:=x.2;have:=X9 hc;omega
  rw[hx,show(4294967295:Int)=((4294967295:Nat):Int) from rfl,kK k1 (vB l _) M3]
  rfl
def j4(l:Bz):Nat->Nat
 |0=>0
 |i+1=>j4 l i*256+(l.getD i 0).toNat
def be(l:Bz):Nat:=j4 l l.length
def mK(l:Bz):Prop:=l.length<=4
def a5M:Rl:=⟨Bz,λl=>[.bys l],λl=>Ji (be l),mK⟩
def c9f:Con:=.rel a5M
def iI:Rl:=⟨Bz,λl=>[.str l],λl=>Ji (be l),mK⟩
def c1K:Con:=.rel iI
def c1a(l:Bz):Nat->Ann
 |0=>.one (Up l.length) (λx=>⟨[(0,.str l),(3,Ji (j4 l x.1)),(4,Ji x.1)],[]⟩) (λx=>l.length-x.1) [] [] (λ_=>Z3)
 |_=>.none
def c82(l:Bz):Nat->Ann
 |0=>.one (Up l.length) (λx=>⟨[(3,Ji (j4 l x.1)),(6,.bys l),(7,Ji l.length),(8,Ji x.1)],[]⟩) (λx=>l.length-x.1) [] [] (λ_=>Z3)
 |_=>.none
def b9e(n:Nat):Nat->Ann
 |0=>.unr n (λ_=>Z3)
 |_=>.none
def z6(n:Nat):Bz:=[R0 (IntKind.u8.wrap ((n:Int).fdiv 16777216)),R0 (IntKind.u8.wrap ((n:Int).fdiv 65536)),R0 (IntKind.u8.wrap ((n:Int).fdiv 256)),R0 (IntKind.u8.wrap ((n:Int).fdiv 1))]
def yW(n:Nat):Bz:=[R0 (IntKind.u8.wrap ((n:Int).fdiv 256)),R0 (IntKind.u8.wrap ((n:Int).fdiv 1))]
theorem O6(x:Int):R1 .u8 (IntKind.u8.wrap x):=by
 rw[IntKind.wrap_u8];unfold R1 IntKind.min IntKind.max IntKind.signed IntKind.bits;have:=Int.emod_nonneg x (show(256:Int)≠0 by decide)
 have:=Int.emod_lt_of_pos x (show(0:Int)<256 by decide)
 simp;omega
theorem pH(n:Int):R1 .u8 n↔(0<=n/\n<=255):=by
 unfold R1 IntKind.min IntKind.max IntKind.signed IntKind.bits;simp
def nK:Rl:=⟨Nat×Bool,λx=>[Ji x.1,Ji (match x.2 with|true=>4|false=>2)],λx=>.bys (match x.2 with|true=>z6 x.1|false=>yW x.1),λ_=>True⟩
def a5F:Con:=.rel nK
theorem tO:GK 299 a5F:=gk func299<|by
 rintro⟨n,b⟩ _;cases b
 ·refine U5 gN func299 (b9e 3) (α:=let r:=(List.map R0 []);let q:=(n:Int).fdiv;let p:=(List.take 0 r++List.take 1 (List.drop 0 (List.map R0 [IntKind.u8.wrap (q (256:Int))])));R1 .i64 1/\(true=true->R1 .i64 8/\Nn (8:Int)/\R1 IntKind.u8 (IntKind.u8.wrap (q (256:Int)))/\(Le 1 1/\Le 0 0/\U8 0 1 1)/\R1 .i64 0/\(true=true->R1 .i64 0/\Nn (0:Int)/\R1 IntKind.u8 (IntKind.u8.wrap (q (1:Int)))/\(Le (0+1) 1/\Le (0+1) 1/\U8 (0+1) 1 1)/\R1 .i64 (-1:Int)/\(false=true->R1 .i64 (-8:Int)/\Nn (18446744073709551608:Int)/\R1 IntKind.u8 (IntKind.u8.wrap (q (18446744073709551616:Int)))/\(Le (0+1) 1/\Le (0+1+1) 2/\U8 (0+1+1) 1 1)/\R1 .i64 (-2:Int)/\False)/\(false=false->Le 2 2/\List.take (0+1+1) (List.drop 0 (List.take (0+1) p++List.take 1 (List.drop 0 (List.map R0 [IntKind.u8.wrap (q (1:Int))]))))=yW n))/\(true=false->Le 1 1/\List.take (0+1) (List.drop 0 p)=yW n))/\(true=false->Le 0 0/\List.take 0 (List.drop 0 r)=yW n)) ?_
  simp[Z4,O6,Nn,Le,U8,yW]
 ·refine U5 gN func299 (b9e 5) (α:=let w:=(List.map R0 []);let v:=(0+1+1+1+1);let u:=(0+1+1+1);let z:=(n:Int).fdiv;let y:=(z (16777216:Int));let q:=(List.take 0 w++List.take 1 (List.drop 0 (List.map R0 [IntKind.u8.wrap y])));let p:=(List.take (0+1) q++List.take 1 (List.drop 0 (List.map R0 [IntKind.u8.wrap (z (65536:Int))])));let r:=(List.take (0+1+1) p++List.take 1 (List.drop 0 (List.map R0 [IntKind.u8.wrap (z (256:Int))])));R1 .i64 3/\(true=true->R1 .i64 24/\Nn (24:Int)/\R1 IntKind.u8 (IntKind.u8.wrap y)/\(Le 1 1/\Le 0 0/\U8 0 1 1)/\R1 .i64 2/\(true=true->R1 .i64 16/\Nn (16:Int)/\R1 IntKind.u8 (IntKind.u8.wrap (z (65536:Int)))/\(Le (0+1) 1/\Le (0+1) 1/\U8 (0+1) 1 1)/\R1 .i64 1/\(true=true->R1 .i64 8/\Nn (8:Int)/\R1 IntKind.u8 (IntKind.u8.wrap (z (256:Int)))/\(Le (0+1) 1/\Le (0+1+1) 2/\U8 (0+1+1) 1 1)/\R1 .i64 0/\(true=true->R1 .i64 0/\Nn (0:Int)/\R1 IntKind.u8 (IntKind.u8.wrap (z (1:Int)))/\(Le (0+1) 1/\Le u 3/\U8 u 1 1)/\R1 .i64 (-1:Int)/\(false=true->R1 .i64 (-8:Int)/\Nn (18446744073709551608:Int)/\R1 IntKind.u8 (IntKind.u8.wrap (z (18446744073709551616:Int)))/\(Le (0+1) 1/\Le v 4/\U8 v 1 1)/\R1 .i64 (-2:Int)/\False)/\(false=false->Le 4 4/\List.take v (List.drop 0 (List.take u r++List.take 1 (List.drop 0 (List.map R0 [IntKind.u8.wrap (z (1:Int))]))))=z6 n))/\(true=false->Le 3 3/\List.take u (List.drop 0 r)=z6 n))/\(true=false->Le 2 2/\List.take (0+1+1) (List.drop 0 p)=z6 n))/\(true=false->Le 1 1/\List.take (0+1) (List.drop 0 q)=z6 n))/\(true=false->Le 0 0/\List.take 0 (List.drop 0 w)=z6 n)) ?_
  simp[Z4,O6,Nn,Le,U8,z6]
theorem uV(l:Bz)(i:Nat):IntKind.i64.wrap ((l.getD i 0).toNat:Int)=((l.getD i 0).toNat:Int):=uM _
theorem a2o(l:Bz):∀i,j4 l i<256 ^ i
 |0=>by simp[j4]
 |i+1=>by
  have h:=a2o l i;have d:=yK l i;simp only[j4,Nat.pow_succ];omega
theorem a4L(l:Bz){i:Nat}(h:i<=4):j4 l i<4294967296:=
 xX (a2o l i) (Nat.pow_le_pow_right (n:=256) M3 h)
theorem a4A(l:Bz){i:Nat}(h:i<4):j4 l i<16777216:=
 xX (a2o l i) (Nat.pow_le_pow_right (n:=256) M3 (show i<=3 by omega))
theorem cC:GK 265 c1K:=gk func265<|by
 intro(l:Bz) (hl:l.length<=4);refine U5 gN func265 (c1a l) (α:=(∃(x:Up l.length),(l=l/\0=(↑(j4 l x.1):Int)/\0=(x.1:Int)/\True)/\True)/\∀(x:Up l.length),let r:=(x.1:Int);let q:=(↑(l.getD r.toNat (0:UInt8)).toNat:Int);let p:=(↑(j4 l x.1):Int);bd (r<(l.length:Int)) (Ri (p*256)/\W9 r l.length/\Ri (p*256+IntKind.i64.wrap q)/\Ri (r+1)/\∃(y:Up l.length),((l=l/\p*256+IntKind.i64.wrap q=(↑(j4 l y.1):Int)/\r+1=(y.1:Int)/\True)/\True)/\Lt (l.length-y.1) (l.length-x.1)) (p=(↑(be l):Int))) ⟨⟨⟨0,N7 _⟩,⟨rfl,rfl,rfl,trivial⟩,trivial⟩,λx=>⟨λhc=>?_,λhc=>?_⟩⟩
 ·have hlt:=Y2 hc;have hb:=yK l x.1;have hr:=a4A l (show x.1<4 by omega)
  rw[D8,uV];refine⟨Z4 Z9,Y6 hlt,Z4 Z9,W2 hlt Z9,⟨x.1+1,hlt⟩,⟨⟨rfl,?_,L9,trivial⟩,trivial⟩,V5.ext_lt hlt⟩
  simp only[j4];omega
 ·have hx:x.1=l.length:=by have:=x.2;have:=X9 hc;omega
  rw[hx];rfl
theorem a2K:GK 319 c9f:=gk func319<|by
 intro(l:Bz) (hl:l.length<=4);refine U5 gN func319 (c82 l) (α:=let p:=(l.length:Int);(∃(x:Up l.length),(0=(↑(j4 l x.1):Int)/\l=l/\p=p/\0=(x.1:Int)/\True)/\True)/\∀(x:Up l.length),let r:=(↑(j4 l x.1):Int);let q:=(x.1:Int);bd (q<p) (W9 q l.length/\Nn (8:Int)/\Ri (q+1)/\∃(y:Up l.length),((bits BinOp.or IntKind.i64 (IntKind.i64.wrap (r*256)) (IntKind.i64.wrap (↑(l.getD q.toNat (0:UInt8)).toNat:Int))=(↑(j4 l y.1):Int)/\l=l/\p=p/\q+1=(y.1:Int)/\True)/\True)/\Lt (l.length-y.1) (l.length-x.1)) (r=(↑(be l):Int))) ⟨⟨⟨0,N7 _⟩,⟨rfl,rfl,rfl,rfl,trivial⟩,trivial⟩,λx=>⟨λhc=>?_,λhc=>?_⟩⟩
 ·have hlt:=Y2 hc;have hb:=yK l x.1;have hr:=a4A l (show x.1<4 by omega)
  rw[D8,uV,show((j4 l x.1:Nat):Int)*256=((j4 l x.1*256:Nat):Int) by omega,sZ (.inl rfl) Z9,c9q (.inl rfl) Z9 Z9]
  refine⟨Y6 hlt,m0,W2 hlt Z9,⟨x.1+1,hlt⟩,⟨⟨?_,rfl,rfl,L9,trivial⟩,trivial⟩,V5.ext_lt hlt⟩
  have:=Nat.two_pow_add_eq_or_of_lt (i:=8) (b:=(l.getD x.1 0).toNat) hb (j4 l x.1);rw[show j4 l x.1*256=2 ^ 8*j4 l x.1 by omega,←this]
  simp only[j4];omega
 ·have hx:x.1=l.length:=by have:=x.2;have:=X9 hc;omega
  rw[hx];rfl
def R9(b:Bz):Bool:=decide (4<=b.length)&&zN (b.take (b.length-4))==be (b.drop (b.length-4))
def X1(b:Bz):Bz:=if R9 b then b.take (b.length-4) else[]
def tF:Rl:=⟨Bz,λb=>[.bys b],λb=>.tup [.bys (X1 b),.bool (R9 b)],u9⟩
def a66:Con:=.rel tF
def a49:Rl:=⟨Bz,λb=>[.str b],λb=>.tup [.str (X1 b),.bool (R9 b)],u9⟩
def a31:Con:=.rel a49
theorem sJ:GK 236 a66:=gk func236<|by
 intro(b:Bz) (hl:b.length<=1000000000);have hd:∀{p:Prop},(decide ((b.length:Int)-4<0)=false->p)↔(4<=b.length->p):=λ{p}=>⟨λh g=>h (tP Z9),λh g=>h a45⟩
 refine U5 (gC oR (gC a2K gN)) func236 Z3 (α:=let p:=(b.length:Int);let z:=(p-4).toNat;let r:=(decide (p-4<0)=false->jX (p-4) b.length);R1 .i64 (p-4)/\r/\∃(x:(tX IntKind.u32).ι),(decide (p-4<0)=false->(List.take z b=x/\True)/\u9 x)/\r/\∃(X:a5M.ι),let q:=(decide (p-4<0)||IntKind.i64.wrap (↑(zN x):Int) !=(↑(be X):Int));(decide (p-4<0)=false->(List.drop z b=X/\True)/\mK X)/\(q=true->X1 b=[]/\false=R9 b/\True)/\(q=false->jX (p-4) b.length/\List.take z b=X1 b/\true=R9 b/\True)) ?_
 refine⟨Z4 Z9,hd.2 λd=>⟨Z9,Z9⟩,b.take (b.length-4),hd.2 ?_,hd.2 λd=>⟨Z9,Z9⟩,b.drop (b.length-4),hd.2 ?_,?_⟩
 ·exact λd=>⟨⟨a9G,trivial⟩,by unfold u9;simp;omega⟩
 ·exact λd=>⟨⟨a9G,trivial⟩,by unfold mK;simp;omega⟩
 have e:(decide ((b.length:Int)-4<0)||IntKind.i64.wrap (zN (b.take (b.length-4)):Int) !=(be (b.drop (b.length-4)):Int))= !R9 b:=by
  rw[sZ (.inl rfl) (a1X _)];unfold R9;rw[Bool.eq_iff_iff];simp;omega
 rw[e];refine⟨λh=>?_,λh=>?_⟩
 ·have h:R9 b=false:=by simpa using h
  exact⟨by simp[X1,h],h.symm,trivial⟩
 ·have h:R9 b=true:=by simpa using h
  have d:4<=b.length:=by simp[R9] at h;exact h.1
  exact⟨⟨Z9,Z9⟩,by rw[show((b.length:Int)-4).toNat=b.length-4 by omega];simp[X1,h],h.symm,trivial⟩
theorem mW:GK 217 a31:=gk func217<|by
 intro(b:Bz) (hl:b.length<=1000000000);have hd:∀{p:Prop},(decide ((b.length:Int)-4<0)=false->p)↔(4<=b.length->p):=λ{p}=>⟨λh g=>h (tP Z9),λh g=>h a45⟩
 refine U5 (gC jO (gC cC gN)) func217 Z3 (α:=let p:=(b.length:Int);let z:=(p-4).toNat;let r:=(decide (p-4<0)=false->jX (p-4) b.length);R1 .i64 (p-4)/\r/\(decide (p-4<0)=false->Lt (List.take z b).length 140737488355329)/\∃(x:(tX IntKind.i64).ι),(decide (p-4<0)=false->(List.take z b=x/\True)/\u9 x)/\r/\∃(X:iI.ι),let q:=(decide (p-4<0)||(↑(zN x):Int) !=(↑(be X):Int));(decide (p-4<0)=false->(List.drop z b=X/\True)/\mK X)/\(q=true->[]=X1 b/\false=R9 b/\True)/\(q=false->jX (p-4) b.length/\List.take z b=X1 b/\true=R9 b/\True)) ?_
 refine⟨Z4 Z9,hd.2 λd=>⟨Z9,Z9⟩,hd.2 λd=>by unfold Lt;simp;omega,b.take (b.length-4),hd.2 ?_,hd.2 λd=>⟨Z9,Z9⟩,b.drop (b.length-4),hd.2 ?_,?_⟩
 ·exact λd=>⟨⟨a9G,trivial⟩,by unfold u9;simp;omega⟩
 ·exact λd=>⟨⟨a9G,trivial⟩,by unfold mK;simp;omega⟩
 have e:(decide ((b.length:Int)-4<0)||(zN (b.take (b.length-4)):Int) !=(be (b.drop (b.length-4)):Int))= !R9 b:=by
  unfold R9;rw[Bool.eq_iff_iff];simp;omega
 rw[e];refine⟨λh=>?_,λh=>?_⟩
 ·have h:R9 b=false:=by simpa using h
  exact⟨by simp[X1,h],h.symm,trivial⟩
 ·have h:R9 b=true:=by simpa using h
  have d:4<=b.length:=by simp[R9] at h;exact h.1
  exact⟨⟨Z9,Z9⟩,by rw[show((b.length:Int)-4).toNat=b.length-4 by omega];simp[X1,h],h.symm,trivial⟩
def Z5(L:List (Bz))(i:Nat):List T:=[.str (L.getD i [])]
def s9(L:List (Bz)):T:=.sl 1 L.length (Z5 L)
def z9(L:List (Bz)):Option Ob:=some (.arr true 0 1 L.length (Z5 L))
structure Fst where
 l:Bz
 fl:Bool
 out:List (Bz)
def Fst.step(s:Fst):Fst:=⟨Q7 (s.l.drop 1) (numR s.l),(s.fl||s.l.isEmpty)||big (s.l.drop 1) (numR s.l),s.out++[T3 (s.l.drop 1) (numR s.l)]⟩
def Fst.go(s:Fst):Nat->Fst
 |0=>s
 |n+1=>Fst.step (Fst.go s n)
def fs0(l:Bz)(fl:Bool):Fst:=⟨l.drop 1,fl||l.isEmpty,[]⟩
def F0(l:Bz)(fl:Bool)(i:Nat):Fst:=Fst.go (fs0 l fl) i
def U1(l:Bz)(fl:Bool):Fst:=F0 l fl (numR l).toNat
theorem uF(l:Bz)(fl:Bool):∀i,(F0 l fl i).out.length=i
 |0=>rfl
 |i+1=>by
  have:=uF l fl i;simp only[F0] at this ⊢;simp[Fst.go,Fst.step,this]
def a3U:List T->X8->Option (T×X8×Option Prop)
 | [.ref 0 0 0],[some (.arr true _ 2 1 row)]=>match row 0 with
  | [.bys l,.bool fl]=>some (s9 (U1 l fl).out,[rdr (U1 l fl).l (U1 l fl).fl],none)
  |_=>none
 |_,_=>none
def b95:Con:=.eff a3U
def a5m(l:Bz)(fl:Bool):Nat->Ann
 |0=>.one (Up ((numR l).toNat)) (λx=>⟨[(0,.ref 0 0 0),(3,.osl 1 0 (F0 l fl x.1).out.length),(6,Ji (numR l)),(7,Ji x.1)],[rdr (F0 l fl x.1).l (F0 l fl x.1).fl,z9 (F0 l fl x.1).out]⟩) (λx=>(numR l).toNat-x.1) b5p [.box 0,.arr 3] (λ_=>Z3)
 |_=>.none
def xJ(t:Bz):Nat->Option (Nat×List (Bz))
 |0=>some (1,[])
 |i+1=>match xJ t i with
  |some (p,out)=>if p<t.length/\p+1+(t.getD p 0).toNat<=t.length then some (p+1+(t.getD p 0).toNat,out++[List.drop (p+1) (List.take (p+1+(t.getD p 0).toNat) t)]) else none
  |none=>none
def C0(t:Bz):Nat:=(t.getD 0 0).toNat
def Q2(t:Bz):Option (List (Bz)):=if t.length=0∨C0 t>100 then none else match xJ t (C0 t) with
 |some (p,out)=>if p=t.length then some out else none
 |none=>none
def aA:Rl:=⟨Bz,λt=>[.str t],λt=>.tup [s9 ((Q2 t).getD []),.bool (Q2 t).isSome],u9⟩
def b3I:Con:=.rel aA
def c1m(t:Bz):Type:={x:Nat×Nat×List (Bz)//x.1<=C0 t/\xJ t x.1=some x.2}
def b2c(t:Bz):Nat->Ann
 |0=>.one (c1m t) (λx=>⟨[(0,.str t),(4,.osl 0 0 x.1.2.2.length),(5,Ji x.1.2.1),(6,Ji (C0 t-x.1.1:Int))],[z9 x.1.2.2]⟩) (λx=>C0 t-x.1.1) [.arr 0] [.arr 2] (λ_=>Z3)
 |_=>.none
theorem nD(row row':Nat->List T):Z8 0 row row':=λi hi=>absurd hi (D0 i)
theorem X6(n:Nat)(row:Nat->List T):Z8 n row row:=λi _=>rfl
theorem a2H(L:List (Bz))(s:Bz):Z8 (L.length+1) (X4 (Z5 L) L.length λk=>List.take 1 (List.drop (k*1) [T.str s])) (Z5 (L++[s])):=by
 intro i hi;by_cases h:i<L.length
 ·rw[M7 h];simp[Z5,rK h]
 ·obtain rfl:i=L.length:=by omega
  rw[M9 (U9 _),j_h];simp[Z5]
theorem aS:GK 322 b95:=gk func322<|by
 intro args H res H' p h hp;unfold a3U at h;split at h
 ·rename_i ty row;split at h
  ·rename_i l fl hrow;simp only[X0,U4] at h;obtain⟨rfl,rfl,rfl⟩:=h;refine qY (iP hrow) ?_
   have N:=r5 l;refine vcE (gC eI (gC qH gN)) func322 (a5m l fl) (bs:=[true]) (α:=let j:=(U1 l fl);(∃(x:Up ((numR l).toNat)),let q:=(F0 l fl x.1);((0=0/\0=0)/\(0=0/\0=q.out.length)/\numR l=numR l/\0=(x.1:Int)/\True)/\(oo (List.drop 1 l=q.l/\(fl||l.isEmpty)=q.fl/\True))/\(0=q.out.length/\Z8 0 (tk 1 []) (Z5 q.out))/\True)/\∀(x:Up ((numR l).toNat)),let w:=(x.1:Int);let p:=(F0 l fl x.1);let v:=(numR p.l);let u:=(List.drop 1 p.l);let z:=p.out.length;bd (w<numR l) (r7 v/\(Le 1 1/\Le p.out.length z/\U8 p.out.length 1 16)/\Ri (w+1)/\∃(y:Up ((numR l).toNat)),let r:=(F0 l fl y.1);(((0=0/\0=0)/\(0=0/\z+1=r.out.length)/\numR l=numR l/\w+1=(y.1:Int)/\True)/\(oo (Q7 u v=r.l/\(p.fl||p.l.isEmpty||big u v)=r.fl/\True))/\(z+1=r.out.length/\Z8 (z+1) (X4 (Z5 p.out) p.out.length (tk 1 [T.str (T3 u v)])) (Z5 r.out))/\True)/\Lt ((numR l).toNat-y.1) ((numR l).toNat-x.1)) (Le (0+z) z/\(Z0 Z5 p.out j.out)/\(oo (p.l=j.l/\p.fl=j.fl/\True))/\True)) ⟨⟨⟨0,N7 _⟩,⟨⟨rfl,rfl⟩,⟨rfl,rfl⟩,rfl,rfl,trivial⟩,⟨rfl,rfl,rfl,rfl,trivial⟩,⟨rfl,nD _ _⟩,trivial⟩,λx=>⟨λhc=>?_,λhc=>?_⟩⟩
   ·have t:(x.1:Int)<numR l:=G5 hc;have n:=uF l fl x.1;have M:=r5 (F0 l fl x.1).l;refine⟨⟨M.1,Z9⟩,⟨U9 _,U9 _,Z9,Z9⟩,Z4 Z9,⟨x.1+1,Z9⟩,⟨⟨⟨rfl,rfl⟩,⟨rfl,(congrArg (· +1) n).trans (uF l fl (x.1+1)).symm⟩,rfl,L9,trivial⟩,⟨rfl,rfl,rfl,rfl,trivial⟩,⟨(congrArg (· +1) n).trans (uF l fl (x.1+1)).symm,a2H _ _⟩,trivial⟩,nB⟩
   ·have hge:¬ (x.1:Int)<numR l:=r8 hc;have hx:=x.2;have he:x.1=(numR l).toNat:=by omega
    rw[he];exact⟨J9,⟨rfl,X6 _ _⟩,⟨rfl,rfl,rfl,rfl,trivial⟩,trivial⟩
  ·cases h
 ·cases h
theorem fO{t:Bz}:∀{i:Nat} {x:Nat×List (Bz)},xJ t i=some x->x.2.length=i
 |0,x,h=>by simp only[xJ,X0] at h;subst h;rfl
 |i+1,x,h=>by
  simp only[xJ] at h;split at h
  ·rename_i p out ho;split at h
   ·simp only[X0] at h;subst h;simp[fO ho]
   ·cases h
  ·cases h
theorem a9O{t:Bz}{i p:Nat}{out:List (Bz)}(h:xJ t i=some (p,out)):xJ t (i+1)=if p<t.length/\p+1+(t.getD p 0).toNat<=t.length then some (p+1+(t.getD p 0).toNat,out++[List.drop (p+1) (List.take (p+1+(t.getD p 0).toNat) t)]) else none:=by
 simp only[xJ,h]
theorem a1B{t:Bz}{i:Nat}(h:xJ t i=none):∀j,xJ t (i+j)=none
 |0=>h
 |j+1=>by
  have:=a1B h j;rw[show i+(j+1)=(i+j)+1 by omega]
  simp only[xJ,this]
theorem fJ:GK 298 b3I:=gk func298<|by
 intro(t:Bz) (hl:t.length<=1000000000);have B:=yK t;have N:((t.getD 0 0).toNat:Int)=(C0 t:Int):=rfl;have d:(t==[])=false->0<t.length:=λh=>List.length_pos_iff.2 w9
 refine U5 gN func298 (b2c t) (α:=let n:=((Q2 t).getD []);let k:=(↑(t.getD 0 (0:UInt8)).toNat:Int);let w:=(↑(C0 t):Int);let v:=(t.length:Int);let r:=(Le 0 0/\(0=n.length/\Z8 0 (tk 1 []) (Z5 n))/\false=(Q2 t).isSome/\True);((t==[])=false->W9 (0:Int) t.length)/\br (t==[]||decide (k>100)) r (W9 (0:Int) t.length/\(∃(x:c1m t),let f:=x.1.2;(t=t/\(0=0/\0=f.2.length)/\1=(f.1:Int)/\IntKind.i64.wrap k=w- (x.1.1:Int)/\True)/\(0=f.2.length/\Z8 0 (tk 1 []) (Z5 f.2))/\True)/\∀(x:c1m t),let m:=x.1;let a:=(m.1:Int);let z:=m.2.2.length;let q:=(m.2.1:Int);let p:=(↑(t.getD q.toNat (0:UInt8)).toNat:Int);let j:=(1+IntKind.i64.wrap p);let u:=(q+1+IntKind.i64.wrap p);bd (w- a>0) ((decide (q≥v)=false->Ri (q+1))/\(decide (q≥v)=false->W9 q t.length)/\(decide (q≥v)=false->Ri u)/\br (decide (q≥v)||decide (q+1+IntKind.i64.wrap p>v)) r (W9 q t.length/\Ri (q+1)/\Ri (q+1)/\Ri u/\b1R (q+1) u t.length/\(Le 1 1/\Le m.2.2.length z/\U8 m.2.2.length 1 16)/\Ri j/\Ri (q+j)/\Ri (w- a-1)/\∃(y:c1m t),let g:=y.1;((t=t/\(0=0/\z+1=g.2.2.length)/\q+j=(g.2.1:Int)/\w- a-1=w- (g.1:Int)/\True)/\(z+1=g.2.2.length/\Z8 (z+1) (X4 (Z5 m.2.2) m.2.2.length (tk 1 [T.str (List.drop (q+1).toNat (List.take u.toNat t))])) (Z5 g.2.2))/\True)/\Lt (C0 t-g.1) (C0 t-m.1))) (br (q !=v) r (Le (0+z) z/\(Z0 Z5 m.2.2 n)/\true=(Q2 t).isSome/\True)))) ⟨λh=>⟨Z9,by have:=d h;omega⟩,λh=>?_,λh=>?_⟩
 ·have n:Q2 t=none:=by
   unfold Q2;rw[if_pos];simp only[nS,beq_iff_eq,o7] at h;rcases h with h|h
   ·exact .inl dH
   ·exact .inr Z9
  rw[n];exact⟨U9 _,⟨rfl,nD _ _⟩,rfl,trivial⟩
 simp only[wR,uG] at h;have e:0<t.length:=d h.1;have l:Q2 t=match xJ t (C0 t) with
  |some (p,out)=>if p=t.length then some out else none
  |none=>none:=by
  unfold Q2;rw[if_neg Z9]
 refine⟨⟨Z9,Z9⟩,⟨⟨(0,1,[]),N7 _,rfl⟩,⟨rfl,⟨rfl,rfl⟩,rfl,by rw[uV,N];simp,trivial⟩,⟨rfl,nD _ _⟩,trivial⟩,λx=>?_⟩
 obtain⟨⟨i,p,out⟩,hi,X⟩:=x;simp only at hi X ⊢;have f:out.length=i:=fO X;rw[D8,uV];have j:=B p;refine⟨λhc=>?_,λhc=>?_⟩
 ·have hlt:i<C0 t:=by have:=G5 hc;omega
  have hst:=a9O X;refine⟨λg=>Z4 a45,λg=>⟨Z9,a45⟩,λg=>Z4 a45,λg=>?_,λg=>?_⟩
  ·have n:Q2 t=none:=by
    rw[if_neg (by simp only[nS,o7] at g;omega)] at hst
    rw[l];have:=a1B hst (C0 t- (i+1));rw[show i+1+(C0 t- (i+1))=C0 t by omega] at this
    rw[this]
   rw[n];exact⟨U9 _,⟨rfl,nD _ _⟩,rfl,trivial⟩
  ·simp only[wR,uG] at g;rw[if_pos Z9] at hst
   refine⟨⟨Z9,Z9⟩,Z4 Z9,Z4 Z9,Z4 Z9,⟨Z9,Z9,Z9⟩,⟨U9 _,U9 _,Z9,Z9⟩,Z4 Z9,Z4 Z9,Z4 Z9,
    ⟨(i+1,_,_),hlt,hst⟩,⟨⟨S6,⟨S6,W7⟩,L9,L9,trivial⟩,⟨W7,?_⟩,trivial⟩,nB⟩
   rw[show((p:Int)+1).toNat=p+1 by omega,show((p:Int)+1+((t.getD p 0).toNat:Int)).toNat=p+1+(t.getD p 0).toNat by omega]
   exact a2H _ _
 ·have he:i=C0 t:=by have:=r8 hc;omega
  subst he;rw[X] at l;simp only at l;refine⟨λg=>?_,λg=>?_⟩
  ·have n:Q2 t=none:=by
    rw[l,if_neg (by simp only[bne_iff_ne,ne_eq] at g;omega)]
   rw[n];exact⟨U9 _,⟨rfl,nD _ _⟩,rfl,trivial⟩
  ·have n:Q2 t=some out:=by
    rw[l,if_pos (by simp only[bne_eq_false_iff_eq] at g;omega)]
   rw[n];exact⟨J9,⟨rfl,X6 _ _⟩,rfl,trivial⟩
end
end Go.Proofs.YtpdnnhnfongoeaaGreat
