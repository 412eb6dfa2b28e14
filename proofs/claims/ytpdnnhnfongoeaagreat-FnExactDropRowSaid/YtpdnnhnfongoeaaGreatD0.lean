/- A part of the proof. -/
import Derived.Test.YtpdnnhnfongoeaaGreatRows
import Derived.Test.YtpdnnhnfongoeaaGreatSS15
namespace Go.Proofs.YtpdnnhnfongoeaaGreat
set_option maxRecDepth 100000
open Go.SS Go.Proofs.Tryz
noncomputable section
abbrev Ji(n:Int):T:=.int .i64 n
abbrev dz:=@default
def Z3:Nat->Ann:=λ_=>.none
theorem a9K:prog.follows .mixedOrders=true:=R4
theorem leB{a b:Nat}(h:Nat.ble a b=true):a<=b:=yY h
theorem c5Z:B8 prog []:=λ_ h=>F7
theorem b5O:∀x ∈ ([]:H9),Q6 prog x.1:=λ_ h=>F7
theorem c20{f:FuncId}{c:Con}{G:H9}(h:a5H prog f c)(k:B8 prog G):B8 prog ((f,c)::G):=λx X=>by
 rcases vO.1 X with rfl|X
 ·exact h
 ·exact k x X
theorem b1y{f:FuncId}{c:Con}{G:H9}(h:Q6 prog f)(k:∀x ∈ G,Q6 prog x.1):∀x ∈ (f,c)::G,Q6 prog x.1:=λx X=>by
 rcases vO.1 X with rfl|X
 ·exact h
 ·exact k x X
def GG(G:H9):Prop:=B8 prog G/\∀x ∈ G,Q6 prog x.1
theorem gN:GG []:=⟨c5Z,b5O⟩
abbrev br(b:Bool)(p q:Prop):Prop:=(b=true->p)/\(b=false->q)
abbrev bd(c:Prop)[Decidable c](p q:Prop):Prop:=br (decide c) p q
abbrev Up(n:Nat):Type:={i:Nat//i<=n}
abbrev Ri(n:Int):Prop:=R3 .i64 n
def pZ:List (List Lk):=[[.arr 0]]
def iV:List Lk:=[.box 0,.box 1]
def cL:List Lk:=[.arr 0,.box 1]
def bC:List (List Lk):=[[.box 0,.arr 1,.arr 2,.arr 3,.arr 4,.arr 5,.arr 6,.arr 7,.arr 8,.cel 0 0,.cel 0 1,.cel 0 3,.cel 0 5,.cel 0 7,.cel 0 10,.cel 0 11,.cel 0 12]]
def c9E:List Lk:=[.box 0,.arr 1,.arr 2,.arr 3,.arr 4,.arr 5,.arr 6,.arr 7,.arr 8,.cel 0 0,.cel 0 1,.cel 0 3,.cel 0 5,.cel 0 7,.cel 0 10,.cel 0 11,.cel 0 12]
def a8N:List Lk:=[.box 0,.arr 1,.arr 2,.arr 3,.arr 4,.arr 5,.arr 6,.arr 7,.arr 8,.box 9,.box 10,.box 11,.box 12,.cel 0 0,.cel 0 1,.cel 0 3,.cel 0 5,.cel 0 7,.cel 0 10,.cel 0 11,.cel 0 12]
def b5m:List Lk:=[.box 0,.arr 1]
def b7N:List Lk:=[.box 0,.at_ 5]
def b7g:List Lk:=[.box 0,.box 1,.box 2,.cel 2 0,.cel 2 1]
def c2E:List Lk:=[.box 0,.at_ 7,.at_ 8]
def b6v:List (List Lk):=[[.arr 1],[.nilS 0 [] 0 2,.arr 0]]
def c9B:List Lk:=[.nilS 0 [] 0 2,.arr 0]
def c37:List Lk:=[.arr 2,.arr 3,.arr 4,.arr 5,.arr 6]
def c4d:List Lk:=[.box 0,.arr 1,.arr 2,.arr 3,.arr 4,.arr 5,.arr 8]
def c4w:List Lk:=[.box 0,.arr 1,.arr 2,.arr 3,.arr 4,.arr 5,.arr 6]
def c4Y:List Lk:=[.box 0,.arr 1,.arr 2,.arr 3,.arr 4,.arr 5]
def c4L:List Lk:=[.box 0,.arr 1,.arr 2,.arr 3,.arr 4,.arr 5,.arr 7,.arr 8]
def c4o:List Lk:=[.box 0,.arr 1,.arr 2,.arr 3,.arr 4,.arr 5,.arr 2,.arr 3]
def c4t:List Lk:=[.box 0,.box 1,.box 5,.arr 2,.arr 3,.arr 4]
def c36:List Lk:=[.box 0,.box 1,.box 2,.arr 3,.arr 4,.arr 5]
def c4M:List (List Lk):=[[.box 0,.arr 1,.arr 2,.arr 3,.arr 4,.arr 5,.arr 6,.arr 7,.arr 5],[.box 0,.arr 1,.arr 2,.arr 3,.arr 4,.arr 5,.arr 2,.arr 3,.arr 7],[.box 0,.arr 1,.arr 2,.arr 3,.arr 4,.arr 5,.arr 2,.arr 3,.arr 5]]
def c9A:List Lk:=[.box 0,.arr 1,.arr 2,.arr 3,.arr 4,.arr 5,.arr 6,.arr 7,.arr 5]
def c9x:List Lk:=[.box 0,.arr 1,.arr 2,.arr 3,.arr 4,.arr 5,.arr 2,.arr 3,.arr 7]
def c9C:List Lk:=[.box 0,.arr 1,.arr 2,.arr 3,.arr 4,.arr 5,.arr 2,.arr 3,.arr 5]
def c4a:List (List Lk):=[[.box 0,.arr 1,.arr 2,.arr 3,.arr 4,.arr 5,.arr 7,.arr 8,.arr 9]]
def c9y:List Lk:=[.box 0,.arr 1,.arr 2,.arr 3,.arr 4,.arr 5,.arr 7,.arr 8,.arr 9]
def c43:List Lk:=[.arr 0,.arr 1,.box 2,.box 3,.at_ 5]
def c4I:List Lk:=[.box 0,.box 1,.box 2,.cel 2 0,.cel 2 1,.at_ 13,.box 6,.box 7]
def c47:List Lk:=[.box 0,.arr 1,.arr 2,.arr 3,.arr 4,.arr 5,.arr 6,.arr 7,.arr 8,.box 9,.at_ 5]
def GK(f:FuncId)(c:Con):Prop:=a5H prog f c/\Q6 prog f
theorem gk{f:FuncId}{c:Con}{fn:Func}(h:prog.funcs[f]? =some fn)(k:a5H prog f c)(a:(fn.name== "runtime.NumGoroutine")=false:=by kernel_rfl)(b:fn.body.isNone=false:=by kernel_rfl):GK f c:=⟨k,fn,h,a,b⟩
theorem gC{f:FuncId}{c:Con}{G:H9}(h:GK f c)(r:GG G):GG ((f,c)::G):=⟨c20 h.1 r.1,b1y h.2 r.2⟩
theorem U6{G:H9}{f:FuncId}{fn:Func}{args:List T}{res:T}(g:GG G)(F:prog.funcs[f]? =some fn)(A:Nat->Ann){α:Prop}(h:α)(B:fn.body=some (fn.body.getD .skip):=by kernel_rfl)(n:Nat.ble args.length fn.ntmps=true:=by kernel_rfl)(e:α=c7T prog G fn.ntmps fn.results.toList (fn.body.getD .skip) args res A:=by kernel_rfl):V3 prog f args res:=
 c8j a9K g.1 g.2 F B (leB n) A (Eq.mp e h)
theorem c9z{q r:Sort _}{a:q}{b:r}:a=a/\b=b:=⟨rfl,rfl⟩
theorem c9D{q:Sort _}{a:q}{n:Nat}{r:Nat->List T}:a=a/\Z7 n r r:=⟨rfl,λ_ _=>rfl⟩
theorem c9v:True/\True:=⟨trivial,trivial⟩
theorem c9e{q0:Sort _}{a0:q0}:a0=a0/\True:=⟨rfl,trivial⟩
theorem C7{G:H9}{f:FuncId}{fn:Func}{args:List T}{H Hres:X9}{res:T}(g:GG G)(F:prog.funcs[f]? =some fn)(A:Nat->Ann)(lk:List (List Lk)){α:Prop}(h:α)(B:fn.body=some (fn.body.getD .skip):=by kernel_rfl)(n:Nat.ble args.length fn.ntmps=true:=by kernel_rfl)(e:α=c4X prog G fn.ntmps fn.results.toList (fn.body.getD .skip) args H res Hres A lk:=by kernel_rfl):F8 prog f args H res Hres:=
 c5H a9K g.1 g.2 F B (leB n) A lk (Eq.mp e h)
theorem vcE{G:H9}{f:FuncId}{fn:Func}{args:List T}{H Hres:X9}{bs:List Bool}{res:T}(g:GG G)(F:prog.funcs[f]? =some fn)(A:Nat->Ann){α:Prop}(h:α)(B:fn.body=some (fn.body.getD .skip):=by kernel_rfl)(n:Nat.ble args.length fn.ntmps=true:=by kernel_rfl)(e:α=c4V prog G fn.ntmps fn.results.toList (fn.body.getD .skip) args H bs res Hres A:=by kernel_rfl)(l:H.length=bs.length:=by rfl):F8 prog f args H res Hres:=
 c5B a9K g.1 g.2 F B (leB n) l A (Eq.mp e h)
abbrev Z0{α:Type}(row:List α->Nat->List T)(A B:List α):Prop:=A.length=B.length/\Z7 A.length (row A) (row B)
theorem Z4{n:Int}(h: -9223372036854775808<=n/\n<=9223372036854775807):R3 .i64 n:=by
 unfold R3;simp only[IntKind.min,IntKind.max,IntKind.bits,IntKind.signed];simp;omega
theorem l0(n:Int):R3 .i64 n↔(-9223372036854775808<=n/\n<=9223372036854775807):=by
 unfold R3;simp only[IntKind.min,IntKind.max,IntKind.bits,IntKind.signed];simp
theorem uP(x:UInt8):IntKind.i64.wrap (x.toNat:Int)=x.toNat:=by
 have:=x.toNat_lt;rw[IntKind.wrap_i64];omega
def m7(n:Int):Prop:= -1000000000000000<=n/\n<=1000000000000000
theorem b68{p:Prop}(h:p:=by unfold m7;dsimp only;omega):p:=h
def V9(n l hi:Int):Bool:=decide (l<=n)&&decide (n<=hi)
def qV:List T->Option (T×Option Prop)
 | [.int .i64 n,.int .i64 lo,.int .i64 hi]=>some (.bool (V9 n lo hi),none)
 |_=>none
def b4H:Con:=.pure qV
theorem b4t(n l hi:Int)(h:
  (decide (l<=n)&&decide (n<=hi))=V9 n l hi):
  V3 prog 91 [Ji n,Ji l,Ji hi] (.bool (V9 n l hi)):=
 U6 gN func91 Z3 h
theorem O3:GK 91 b4H:=gk func91<|by
 intro args res p h hp;unfold qV at h;split at h
 ·simp only[X0,U5] at h;obtain⟨rfl,rfl⟩:=h;exact b4t _ _ _ rfl
 ·cases h
def c3H:Con:=.pure qV
theorem c2D(n l hi:Int)(h:
  (decide (l<=n)&&decide (n<=hi))=V9 n l hi):
  V3 prog 33 [Ji n,Ji l,Ji hi] (.bool (V9 n l hi)):=
 U6 gN func33 Z3 h
theorem A2:GK 33 c3H:=gk func33<|by
 intro args res p h hp;unfold qV at h;split at h
 ·simp only[X0,U5] at h;obtain⟨rfl,rfl⟩:=h;exact c2D _ _ _ rfl
 ·cases h
def a0y:List T->Option (T×Option Prop)
 | [.int .i64 n,.int .i64 m]=>some (.bool (decide (0<=n)&&decide (n<m)),some (m7 m))
 |_=>none
def b1B:Con:=.pure a0y
theorem b1F(n m:Int)(h:
  Ri (m-1)/\V9 n (0:Int) (m-1)=(decide (0<=n)&&decide (n<m))):
  V3 prog 229 [Ji n,Ji m] (.bool (decide (0<=n)&&decide (n<m))):=
 U6 (gC O3 gN) func229 Z3 h
theorem tK:GK 229 b1B:=gk func229<|by
 intro args res p h hp;unfold a0y at h;split at h
 ·simp only[X0,U5] at h;obtain⟨rfl,rfl⟩:=h;have hp:m7 _:=hp;unfold m7 at hp;refine b1F _ _ ⟨Z4 Z9,?_⟩
  unfold V9;congr 1
  exact decide_eq_decide.2 Z9
 ·cases h
def big(l:Bz)(n:Int):Bool:=decide (n>(l.length:Int))
def T5(l:Bz)(n:Int):Bz:=if big l n then List.replicate n.toNat 0 else l.take n.toNat
def Q8(l:Bz)(n:Int):Bz:=if big l n then l else l.drop n.toNat
def rdr(l:Bz)(fl:Bool):Option Ob:=some (.arr true 1000000 2 1 λ_=>[.bys l,.bool fl])
def s6(n:Int):Prop:=0<=n/\n<140737488355328
theorem iU{ty:TypeId}{row:Nat->List T}{l:Bz}{fl:Bool}(h:row 0=[.bys l,.bool fl]):c1Y [some (.arr true ty 2 1 row)] [rdr l fl]:=
 ⟨.rows _ _ _ _ _ _ _ λi hi=>by(obtain rfl:i=0:=by omega);exact h,trivial⟩
def b6k:List T->X9->Option (T×X9×Option Prop)
 | [.ref 0 0 0,.int .i64 n],[some (.arr true _ 2 1 row)]=>match row 0 with
  | [.bys l,.bool fl]=>some (.bys (T5 l n),[rdr (Q8 l n) (fl||big l n)],some (s6 n))
  |_=>none
 |_,_=>none
def c7v:Con:=.eff b6k
theorem qJ:GK 335 c7v:=gk func335<|by
 intro args H res H' p h hp;unfold b6k at h;split at h
 ·rename_i n ty row;split at h
  ·rename_i l fl hrow;simp only[X0,U5] at h;obtain⟨rfl,rfl,rfl⟩:=h;obtain⟨h0,h1⟩:s6 n:=hp;refine rA (iU hrow) ?_
   refine vcE gN func335 Z3 (bs:=[true]) (α:=let p:=(List.replicate n.toNat (0:UInt8));bd (n>(l.length:Int)) ((Nn n/\LeI n n/\yQ 1 n.toNat 140737488355328/\Lt n.toNat 9223372036854775808)/\Le (0+n.toNat) p.length/\List.take n.toNat (List.drop 0 p)=T5 l n/\(1=1/\1=1/\l=Q8 l n/\true=(fl||big l n)/\True)/\True) (kB n l.length/\kB n l.length/\List.take n.toNat l=T5 l n/\(1=1/\1=1/\List.drop n.toNat l=Q8 l n/\fl=(fl||big l n)/\True)/\True)) ⟨λhb=>?_,λhb=>?_⟩
   ·have hbig:big l n=true:=hb;refine⟨⟨h0,Int.le_refl _,sW,Q2⟩,by unfold Le;simp,?_,⟨rfl,rfl,?_,?_,trivial⟩,trivial⟩
    ·simp[T5,hbig]
    ·simp[Q8,hbig]
    ·simp[hbig]
   ·have hbig:big l n=false:=hb;have hle:n<=l.length:=by simpa[big] using hbig
    refine⟨⟨h0,hle⟩,⟨h0,hle⟩,?_,⟨rfl,rfl,?_,?_,trivial⟩,trivial⟩
    ·simp[T5,hbig]
    ·simp[Q8,hbig]
    ·simp[hbig]
  ·cases h
 ·cases h
def numR(l:Bz):Int:=(l.getD 0 0).toNat
def c4E:List T->X9->Option (T×X9×Option Prop)
 | [.ref 0 0 0],[some (.arr true _ 2 1 row)]=>match row 0 with
  | [.bys l,.bool fl]=>some (.int .i64 (numR l),[rdr (l.drop 1) (fl||l.isEmpty)],none)
  |_=>none
 |_,_=>none
def c87:Con:=.eff c4E
theorem eN:GK 321 c87:=gk func321<|by
 intro args H res H' p h hp;unfold c4E at h;split at h
 ·rename_i ty row;split at h
  ·rename_i l fl hrow;simp only[X0,U5] at h;obtain⟨rfl,rfl,rfl⟩:=h;refine rA (iU hrow) ?_
   refine vcE (gC qJ gN) func321 Z3 (bs:=[true]) (α:=s6 (1:Int)/\W9 (0:Int) (T5 l (1:Int)).length/\IntKind.i64.wrap (↑((T5 l (1:Int)).getD 0 (0:UInt8)).toNat:Int)=numR l/\(1=1/\1=1/\Q8 l 1=List.drop 1 l/\(fl||big l (1:Int))=(fl||l.isEmpty)/\True)/\True) ?_
   have e:∀x:UInt8,IntKind.i64.wrap (x.toNat:Int)=x.toNat:=λx=>by
    have:=x.toNat_lt;rw[IntKind.wrap_i64];omega
   have d:IntKind.i64.wrap 0=0:=K3
   cases l with
   |nil=>refine⟨⟨Z9,Z9⟩,by simp[W9,T5,big],?_,⟨rfl,rfl,?_,?_,trivial⟩,trivial⟩<;>simp[T5,Q8,big,numR,d]
   |cons a l=>
    have B:big (a::l) 1=false:=by simp[big];omega
    refine⟨⟨Z9,Z9⟩,by simp[W9,T5,B],?_,⟨rfl,rfl,?_,?_,trivial⟩,trivial⟩<;>simp[T5,Q8,B,numR,e]
  ·cases h
 ·cases h
def a22:List T->Option (T×Option Prop)
 | [.bref [.bys l,.bool fl]]=>some (.bool (!fl&&l.isEmpty),none)
 |_=>none
def b5f:Con:=.pure a22
theorem qQ:GK 323 b5f:=gk func323<|by
 intro args res p h hp;unfold a22 at h;split at h
 ·rename_i l fl;simp only[X0,U5] at h;obtain⟨rfl,rfl⟩:=h;refine U6 gN func323 Z3 (α:=(!fl&&(l.length:Int)==0)=(!fl&&l.isEmpty)) ?_
  cases l with
  |nil=>simp
  |cons a l=>
   have:((((a::l).length:Nat):Int)==0)=false:=by simp;omega
   rw[this];simp
 ·cases h
structure RdSt where
 l:Bz
 fl:Bool
 ok:Bool
 bef:Int
def RdSt.step(hi lsn:Int)(s:RdSt):RdSt:=
 ⟨(s.l.drop 1).drop 1,(s.fl||s.l.isEmpty)||(s.l.drop 1).isEmpty,s.ok&&V9 (numR s.l) (s.bef+1) hi&&V9 (numR (s.l.drop 1)) 1 (lsn-1),numR s.l⟩
def RdSt.go(hi lsn:Int)(s:RdSt):Nat->RdSt
 |0=>s
 |n+1=>RdSt.step hi lsn (RdSt.go hi lsn s n)
def uM(t o:Int)(l:Bz)(fl:Bool):RdSt:=⟨l.drop 1,fl||l.isEmpty,decide (numR l<=t),o-1⟩
def N7(t o hi lsn:Int)(l:Bz)(fl:Bool):RdSt:=RdSt.go hi lsn (uM t o l fl) (numR l).toNat
def Okb(l lsn:Int):Prop:= -1000000000000<=l/\l<=1000000000000/\ -1000000000000<=lsn/\lsn<=1000000000000
def jF:List T->X9->Option (T×X9×Option Prop)
 | [.ref 0 0 0,.int .i64 most,.int .i64 lo,.int .i64 hi,.int .i64 lsn],[some (.arr true _ 2 1 row)]=>match row 0 with
  | [.bys l,.bool fl]=>some (.bool ((N7 most lo hi lsn l fl).ok&& !(N7 most lo hi lsn l fl).fl),[rdr (N7 most lo hi lsn l fl).l (N7 most lo hi lsn l fl).fl],some (Okb lo lsn))
  |_=>none
 |_,_=>none
def a5m:Con:=.eff jF
def I25(t o hi lsn:Int)(l:Bz)(fl:Bool)(x:Up ((numR l).toNat)):Sy:=
 ⟨[(0,.ref 0 0 0),(3,Ji hi),(4,Ji lsn),(12,.bool (RdSt.go hi lsn (uM t o l fl) x.1).ok),(13,Ji (RdSt.go hi lsn (uM t o l fl) x.1).bef),(23,Ji (numR l)),(24,Ji x.1)],
  [rdr (RdSt.go hi lsn (uM t o l fl) x.1).l (RdSt.go hi lsn (uM t o l fl) x.1).fl]⟩
def A25(t o hi lsn:Int)(l:Bz)(fl:Bool):Nat->Ann
 |0=>.one (Up ((numR l).toNat)) (I25 t o hi lsn l fl) (λx=>(numR l).toNat-x.1) [.box 0] [.box 0] (λ_=>Z3)
 |_=>.none
theorem r9(l:Bz):0<=numR l/\numR l<=255:=by
 unfold numR;have:=(l.getD 0 0).toNat_lt;omega
theorem c5d(hi lsn o t:Int)(l:Bz)(fl:Bool)(h: -1000000000000<=o/\o<=1000000000000)(n:Nat):
  -2000000000000<=(RdSt.go hi lsn (uM t o l fl) n).bef/\(RdSt.go hi lsn (uM t o l fl) n).bef<=2000000000000:=by
 cases n with
 |zero=>simp only[RdSt.go,uM];omega
 |succ n=>
  simp only[RdSt.go,RdSt.step];have:=r9 (RdSt.go hi lsn (uM t o l fl) n).l;omega
theorem a00:GK 370 a5m:=gk func370<|by
 intro args H res H' p h hp;unfold jF at h;split at h
 ·rename_i most lo hi lsn ty row;split at h
  ·rename_i l fl hrow;simp only[X0,U5] at h;obtain⟨rfl,rfl,rfl⟩:=h;obtain⟨q1,q2,q3,q4⟩:Okb lo lsn:=hp;refine rA (iU hrow) ?_
   refine vcE (gC eN (gC O3 gN)) func370 (A25 most lo hi lsn l fl) (bs:=[true]) (α:=let u:=(N7 most lo hi lsn l fl);let q:=(uM most lo l fl);R3 .i64 (lo-1)/\(∃(x:Up ((numR l).toNat)),let r:=(RdSt.go hi lsn q x.1);((0=0/\0=0)/\hi=hi/\lsn=lsn/\decide (numR l<=most)=r.ok/\lo-1=r.bef/\numR l=numR l/\0=(x.1:Int)/\True)/\(1=1/\1=1/\List.drop 1 l=r.l/\(fl||l.isEmpty)=r.fl/\True)/\True)/\∀(x:Up ((numR l).toNat)),let w:=(x.1:Int);let p:=(RdSt.go hi lsn q x.1);let v:=(List.drop 1 p.l);(decide (w<numR l)=true->(p.ok=true->R3 .i64 (p.bef+1))/\((p.ok&&V9 (numR p.l) (p.bef+1) hi)=true->R3 .i64 (lsn-1))/\R3 .i64 (w+1)/\∃(y:Up ((numR l).toNat)),let z:=(RdSt.go hi lsn q y.1);(((0=0/\0=0)/\hi=hi/\lsn=lsn/\(p.ok&&V9 (numR p.l) (p.bef+1) hi&&V9 (numR v) (1:Int) (lsn-1))=z.ok/\numR p.l=z.bef/\numR l=numR l/\w+1=(y.1:Int)/\True)/\(1=1/\1=1/\List.drop 1 v=z.l/\(p.fl||p.l.isEmpty||v.isEmpty)=z.fl/\True)/\True)/\Lt ((numR l).toNat-y.1) ((numR l).toNat-x.1))/\(decide (w<numR l)=false->(p.ok&& ! p.fl)=(u.ok&& ! u.fl)/\(1=1/\1=1/\p.l=u.l/\p.fl=u.fl/\True)/\True)) ?_
   have n:=r9 l;refine⟨Z4 Z9,⟨⟨0,N5 _⟩,⟨⟨rfl,rfl⟩,rfl,rfl,rfl,rfl,rfl,rfl,trivial⟩,⟨rfl,rfl,rfl,rfl,trivial⟩,trivial⟩,λx=>⟨λhc=>⟨λ_=>Z4 ?_,λ_=>Z4 Z9,Z4 ?_,?_⟩,λhc=>?_⟩⟩
   ·have:=c5d hi lsn lo most l fl ⟨q1,q2⟩ x.1;omega
   ·have:=x.2;omega
   ·have hlt:(x.1:Int)<numR l:=G6 hc;refine⟨⟨x.1+1,Z9⟩,⟨⟨⟨rfl,rfl⟩,rfl,rfl,rfl,rfl,rfl,W7,trivial⟩,⟨rfl,rfl,rfl,rfl,trivial⟩,trivial⟩,?_⟩
    unfold Lt;simp only;omega
   ·have hge:¬ (x.1:Int)<numR l:=m9 hc;have hx:=x.2;have he:x.1=(numR l).toNat:=by omega
    unfold N7;rw[he];exact⟨rfl,⟨rfl,rfl,rfl,rfl,trivial⟩,trivial⟩
  ·cases h
 ·cases h
def a4F(a:Bz)(lsn:Int):Bool:=
 (N7 8 0 7 lsn a false).ok&& !(N7 8 0 7 lsn a false).fl&&((N7 10 1 60 lsn (N7 8 0 7 lsn a false).l (N7 8 0 7 lsn a false).fl).ok&& !(N7 10 1 60 lsn (N7 8 0 7 lsn a false).l (N7 8 0 7 lsn a false).fl).fl)&&
  (!(N7 10 1 60 lsn (N7 8 0 7 lsn a false).l (N7 8 0 7 lsn a false).fl).fl&&(N7 10 1 60 lsn (N7 8 0 7 lsn a false).l (N7 8 0 7 lsn a false).fl).l.isEmpty)
def a1F(a:Bz)(lsn:Int):Prop:=a.length<140737488355329/\ -1000000000000<=lsn/\lsn<=1000000000000
def aQ:List T->Option (T×Option Prop)
 | [.str a,.int .i64 lsn]=>some (.bool (a4F a lsn),some (a1F a lsn))
 |_=>none
def b4g:Con:=.pure aQ
theorem a8i:GK 339 b4g:=gk func339<|by
 intro args res p h hp;unfold aQ at h;split at h
 ·rename_i a lsn;simp only[X0,U5] at h;obtain⟨rfl,rfl⟩:=h;obtain⟨f,d,e⟩:a1F a lsn:=hp;exact U6 (gC a00 (gC qQ gN)) func339 Z3 (α:=let q:=(N7 (8:Int) (0:Int) (7:Int) lsn a false);let p:=(N7 (10:Int) (1:Int) (60:Int) lsn q.l q.fl);Lt a.length 140737488355329/\Okb (0:Int) lsn/\Okb (1:Int) lsn/\(q.ok&& ! q.fl&&(p.ok&& ! p.fl)&&(! p.fl&&p.l.isEmpty))=a4F a lsn) ⟨f,⟨Z9,Z9,d,e⟩,⟨Z9,Z9,d,e⟩,rfl⟩
 ·cases h
structure Rec where
 (e l t k p n g s:Int) (b a:Bz)
 deriving Inhabited
def Rec.ts(r:Rec):List T:=[Ji r.e,Ji r.l,Ji r.t,Ji r.k,Ji r.p,Ji r.n,Ji r.g,Ji r.s,.str r.b,.str r.a]
def zK(r:Rec):Prop:=
 1<=r.e/\r.e<=60/\1<=r.l/\r.l<=60/\1<=r.k/\r.k<=6/\0<=r.p/\r.p<=r.l-1/\0<=r.n/\r.n<=r.l-1/\0<=r.g/\r.g<=7/\0<=r.s/\r.s<=3/\r.b.length<=30/\
 (r.k=6->r.t=0/\r.p=0/\r.n=0/\r.g=0/\r.s=0/\r.b=[]/\a4F r.a r.l=true)/\
 (r.k≠6->1<=r.t/\r.t<=60/\r.a.length<=30/\(r.k≠2->r.k≠3->r.g=0/\r.s=0/\r.b=[]/\r.a=[])/\(r.k≠3->r.n=0)/\(r.k=3->r.b=[])/\(r.k=1↔r.p=0))
noncomputable instance(r:Rec):Decidable (zK r):=Classical.propDecidable _
def P0(r:Rec):Bool:=decide (zK r)
theorem Q4(r:Rec):P0 r=true↔zK r:=decide_eq_true_iff
theorem uR{r:Rec}(h:¬zK r):P0 r=false:=tQ h
def b3G(l:Bz):Prop:=l.length<140737488355329
def eX:List T->Option (T×Option Prop)
 | [.agg [.int .i64 e,.int .i64 l,.int .i64 t,.int .i64 k,.int .i64 p,.int .i64 n,.int .i64 g,.int .i64 s,.str b,.str a]]=>some (.bool (P0 ⟨e,l,t,k,p,n,g,s,b,a⟩),some (b3G a))
 |_=>none
def a2R:Con:=.pure eX
theorem a3c(r:Rec)(x:Bool)(h:
let c:=((r.a.length:Int)>30);let f:=((r.b.length:Int)>30);let m:=(!V9 r.e (1:Int) (60:Int)|| !V9 r.l (1:Int) (60:Int));let j:=(true&&(true&&(true&&(true&&(true&&(r.n==0&&true))))));let w:=(decide (0<=r.g)&&decide (r.g<8)&&(decide (0<=r.s)&&decide (r.s<4)));let y:=(true&&(true&&(true&&(true&&(true&&(true&&(true&&(true&&(r.b==[]&&true)))))))));let v:=(true&&(true&&(true&&(true&&(true&&(r.n==0&&(r.g==0&&(r.s==0&&(r.b==[]&&true)))))))));let u:=(true&&(true&&(true&&(true&&(true&&(r.n==0&&(r.g==0&&(r.s==0&&(r.b==[]&&(r.a==[]&&true))))))))));let z:=(((V9 r.k (1:Int) (5:Int)&&u&&V9 r.t (1:Int) (60:Int))=true->Ri (r.l-1))/\(V9 r.k (1:Int) (5:Int)&&u&&V9 r.t (1:Int) (60:Int)&&V9 r.p (0:Int) (r.l-1)&&(r.p==0)==(r.k==1))=x);let q:=(m7 (8:Int)/\((decide (0<=r.g)&&decide (r.g<8))=true->m7 (4:Int))/\((! w||decide f||decide c)=false->(r.k==3)=true->Ri (r.l-1))/\br (! w||decide f||decide c||r.k==3&& !V9 r.n (0:Int) (r.l-1)) (false=x) (br (r.k==2) (((V9 r.k (1:Int) (5:Int)&&j&&V9 r.t (1:Int) (60:Int))=true->Ri (r.l-1))/\(V9 r.k (1:Int) (5:Int)&&j&&V9 r.t (1:Int) (60:Int)&&V9 r.p (0:Int) (r.l-1)&&(r.p==0)==(r.k==1))=x) (((V9 r.k (1:Int) (5:Int)&&y&&V9 r.t (1:Int) (60:Int))=true->Ri (r.l-1))/\(V9 r.k (1:Int) (5:Int)&&y&&V9 r.t (1:Int) (60:Int)&&V9 r.p (0:Int) (r.l-1)&&(r.p==0)==(r.k==1))=x)));  (m=true->false=x)/\(m=false->br (r.k==6) (((r.t==0&&r.p==0&&v)=true->a1F r.a r.l)/\(r.t==0&&r.p==0&&v&&a4F r.a r.l)=x) (br (r.k==2) (br (r.k==2) q z) (br (r.k==3) q z)))):
  V3 prog 283 [.agg r.ts] (.bool x):=
 U6 (gC a8i (gC O3 (gC tK gN))) func283 Z3 h
theorem c6T{p k a b:Int}:((p==a)=(k==b))↔(k=b↔p=a):=by
 rw[Bool.eq_iff_iff,beq_iff_eq,beq_iff_eq];exact Iff.comm
theorem qM{a b:Bool}(h:a=true↔b=true):a=b:=by cases a<;>cases b<;>simp_all
theorem tL:GK 283 a2R:=gk func283<|by
 intro args res p h hp;unfold eX at h;split at h
 ·rename_i e l t k p n g s b a;simp only[X0,U5] at h;obtain⟨rfl,rfl⟩:=h;have hp:a.length<140737488355329:=hp;refine a3c ⟨e,l,t,k,p,n,g,s,b,a⟩ _ ?_
  simp only[Rec.e,Rec.l,Rec.t,Rec.k,Rec.p,Rec.n,Rec.g,Rec.s,Rec.b,Rec.a];have s8:m7 8:=by unfold m7;omega
  have s4:m7 4:=by unfold m7;omega
  refine⟨λh=>?_,λh=>?_⟩
  ·refine(uR ?_).symm
   simp only[nV,wA,V9,Bool.and_eq_false_iff,uI] at h;unfold zK;simp only;omega
  simp only[wU,wX,V9,I4,q8] at h;have hr:R3 .i64 (l-1):=Z4 Z9
  have hs:a1F a l:=⟨hp,Z9,Z9⟩
  by_cases h6:k=6
  ·subst h6;refine⟨λ_=>⟨λ_=>hs,qM ?_⟩,λh=>L6⟩
   rw[Q4];simp only[zK,q8,I4,beq_iff_eq,true_and,and_true];constructor
   ·rintro⟨⟨⟨rfl,rfl⟩,rfl,rfl,rfl,rfl⟩,C⟩;simp[C];omega
   ·rintro⟨_,_,_,_,_,_,_,_,_,_,_,_,_,_,_,hh,_⟩;obtain⟨rfl,rfl,rfl,rfl,rfl,rfl,C⟩:=hh trivial;simp[C]
  refine⟨λh=>absurd x8 h6,λ_=>?_⟩
  by_cases h2:k=2
  ·subst h2;refine⟨λ_=>⟨λ_=>⟨s8,λ_=>s4,λ_ h=>L6,λhb=>?_,λhb=>⟨λ_=>⟨λ_=>hr,qM ?_⟩,λh=>L6⟩⟩,λh=>L6⟩,λh=>L6⟩
   ·refine(uR ?_).symm
    simp only[nV,wA,V9,Bool.and_eq_false_iff,uI,q8,I4] at hb;unfold zK;simp only;simp at hb;omega
   ·simp[V9] at hb;rw[Q4];simp only[zK,q8,I4,beq_iff_eq,true_and,and_true,V9,c6T];simp;omega
  by_cases h3:k=3
  ·subst h3;refine⟨λh=>L6,λ_=>⟨λ_=>⟨s8,λ_=>s4,λ_ _=>hr,λhb=>?_,λhb=>⟨λh=>L6,λ_=>⟨λ_=>hr,qM ?_⟩⟩⟩,λh=>L6⟩⟩
   ·refine(uR ?_).symm
    unfold zK;simp only;simp[V9] at hb;omega
   ·simp[V9] at hb;rw[Q4];simp only[zK,q8,I4,beq_iff_eq,true_and,and_true,V9,c6T];by_cases hbn:b=[]
    ·subst hbn;simp;omega
    ·simp[hbn]
  ·refine⟨λh=>absurd x8 h2,λ_=>⟨λh=>absurd x8 h3,λ_=>⟨λ_=>hr,qM ?_⟩⟩⟩
   rw[Q4];simp only[zK,q8,I4,beq_iff_eq,true_and,and_true,V9,c6T];constructor
   ·intro hh;have hb:b.length=0:=by simp[hh.1.1.1.2.2.2.2.1]
    have X:a.length=0:=by simp[hh.1.1.1.2.2.2.2.2]
    simp[h2,h3,h6,hh.1.1.1.2.2.2.2.1,hh.1.1.1.2.2.2.2.2] at hh ⊢;omega
   ·intro hh;obtain⟨V,W,M,O,N,U,I,z,R,d,i,u,v,A,j,_,hh⟩:=hh;obtain⟨F,b2,L,r,B,J,Q⟩:=hh h6;obtain⟨f,c2,o,x⟩:=r h2 h3;have q:=B h3;simp[f,c2,o,x,q];omega
 ·cases h
def S6(n:Nat)(p:Nat->Bool):Int:=match(List.range n).find? p with|some i=>(i:Int)|none=> -1
theorem O0{n:Nat}{p:Nat->Bool}{i:Nat}(hi:i<n)(hp:p i=true)(h:∀j,j<i->p j=false):S6 n p=i:=by
 have:(List.range n).find? p=some i:=by
  rw[List.find?_range_eq_some]
  exact⟨hp,List.mem_range.2 hi,λj J=>by simp[h j J]⟩
 unfold S6;rw[this]
theorem K4{n:Nat}{p:Nat->Bool}(h:∀j,j<n->p j=false):S6 n p= -1:=by
 have:(List.range n).find? p=none:=by
  rw[List.find?_range_eq_none]
  intro j J;simp[h j J]
 unfold S6;rw[this]
def anyI(n:Nat)(p:Nat->Bool):Bool:=(List.range n).any p
theorem D1(n:Nat)(p:Nat->Bool):decide (S6 n p≥0)=anyI n p:=by
 unfold S6 anyI;cases h:(List.range n).find? p with
 |none=>
  rw[List.find?_eq_none] at h
  have:(List.range n).any p=false:=by
   rw[List.any_eq_false];exact h
  rw[this];rfl
 |some i=>
  have d:=List.find?_some h
  have e:=List.mem_of_find?_eq_some h
  have:(List.range n).any p=true:=List.any_eq_true.2 ⟨i,e,d⟩;rw[this];simp
theorem R9{n:Nat}{p:Nat->Bool}:anyI n p=true↔∃i,i<n/\p i=true:=by
 unfold anyI;simp
def V5(n:Nat)(p:Nat->Bool):Type:={i:Nat//i<=n/\∀j,j<i->p j=false}
theorem V5.ext_lt{n:Nat}{i:Nat}(h:i<n):Lt (n- (i+1)) (n-i):=by unfold Lt;omega
theorem Y0{i n:Nat}(h:decide ((i:Int)<(n:Int))=false):n<=i:=x8
theorem Y2{i n:Nat}(h:decide ((i:Int)<(n:Int))=true):i<n:=x8
theorem Y6{i n:Nat}(h:i<n):W9 (i:Int) n:=⟨Z9,Z9⟩
theorem W4{i n:Nat}(h:i<n)(N:n<1000000000000000):R3 .i64 ((i:Int)+1):=Z4 Z9
def F9{n:Nat}{p:Nat->Bool}:V5 n p:=⟨0,N5 _,λj h=>absurd h (D4 j)⟩
def V5.succ{n:Nat}{p:Nat->Bool}(x:V5 n p)(h:x.1<n)(hp:p x.1=false):V5 n p:=
 ⟨x.1+1,h,λj J=>by rcases Nat.lt_or_ge j x.1 with h1|h1;exact x.2.2 j h1;(obtain rfl:j=x.1:=by omega);exact hp⟩
theorem J2{p:Prop}(h:p:=by simp only[V5.succ];omega):p:=h
def Y1(L:List Rec)(i:Nat):List T:=(L.getD i dz).ts
def zH(L:List Rec):T:=.sl 10 L.length (Y1 L)
def yX(r:Rec):Bool:=decide (r.l>60)
def pW:List T->Option (T×Option Prop)
 | [.agg [.int .i64 e,.int .i64 l,.int .i64 t,.int .i64 k,.int .i64 p,.int .i64 n,.int .i64 g,.int .i64 s,.str b,.str a]]=>some (.bool (yX ⟨e,l,t,k,p,n,g,s,b,a⟩),none)
 |_=>none
def cG:Con:=.pure pW
theorem bI(r:Rec)(h:
  decide (r.l>60)=yX r):
  V3 prog 309 [.agg r.ts] (.bool (yX r)):=
 U6 gN func309 Z3 h
theorem cU:GK 309 cG:=gk func309<|by
 intro args res p h hp;unfold pW at h;split at h
 ·simp only[X0,U5] at h;obtain⟨rfl,rfl⟩:=h;exact bI ⟨_,_,_,_,_,_,_,_,_,_⟩ rfl
 ·cases h
def fnT(f:Nat):T:=.v (.func (.func f) #[] #[])
def L7(n:Nat):Prop:=n<1000000000000
theorem rT{p:Prop}(h:p:=by unfold L7;dsimp only;omega):p:=h
theorem sU{p:Prop}(h:p:=by unfold L7;omega):p:=h
def a4U:Rl:=⟨List Rec,λL=>[zH L,fnT 309],λL=>.int .i64 (S6 L.length λi=>yX (L.getD i dz)),λL=>L7 L.length⟩
def b7l:Con:=.rel a4U
def b6p(L:List Rec):Nat->Ann
 |0=>.one (V5 L.length λi=>yX (L.getD i dz)) (λx=>⟨[(0,zH L),(1,fnT 309),(7,Ji L.length),(8,Ji x.1)],[]⟩) (λx=>L.length-x.1) [] [] (λ_=>Z3)
 |_=>.none
theorem b2R:GK 360 b7l:=gk func360<|by
 intro L d;have d:L.length<1000000000000:=d;refine U6 (gC cU gN) func360 (b6p L) (α:=let u:=(Fn.func 309);let r:=(L.length:Int);(∃(x:V5 L.length λ(i:Nat)=>yX (L.getD i dz)),((Z0 Y1 L L)/\Value.func u #[] #[]=Value.func u #[] #[]/\r=r/\0=(x.1:Int)/\True)/\True)/\∀(x:V5 L.length λ(i:Nat)=>yX (L.getD i dz)),let z:=(x.1:Int);let q:=(L.getD z.toNat dz);bd (z<r) (W9 z L.length/\br (yX (Rec.mk q.e q.l q.t q.k q.p q.n q.g q.s q.b q.a)) (z=S6 L.length λ(i:Nat)=>yX (L.getD i dz)) (Ri (z+1)/\∃(y:V5 L.length λ(i:Nat)=>yX (L.getD i dz)),(((Z0 Y1 L L)/\Value.func u #[] #[]=Value.func u #[] #[]/\r=r/\z+1=(y.1:Int)/\True)/\True)/\Lt (L.length-y.1) (L.length-x.1))) ((-1:Int)=S6 L.length λ(i:Nat)=>yX (L.getD i dz))) ⟨⟨F9,⟨⟨rfl,λ_ _=>rfl⟩,rfl,rfl,rfl,trivial⟩,trivial⟩,λx=>⟨λC=>?_,λC=>?_⟩⟩
 ·have h:=Y2 C;refine⟨Y6 h,λhp=>(O0 h hp x.2.2).symm,λhp=>⟨W4 h Z9,x.succ h hp,⟨⟨⟨rfl,λ_ _=>rfl⟩,rfl,rfl,rfl,trivial⟩,trivial⟩,V5.ext_lt h⟩⟩
 ·have f:=Y0 C;exact(K4 λj J=>x.2.2 j Z9).symm
def a5K:Rl:=⟨List Rec,λL=>[zH L,fnT 309],λL=>.bool (anyI L.length λi=>yX (L.getD i dz)),λL=>L7 L.length⟩
def b5A:Con:=.rel a5K
theorem b2J:GK 308 b5A:=gk func308<|by
 intro L h;exact U6 (gC b2R gN) func308 Z3 (α:=∃(x:a4U.ι),(((Z0 Y1 L x)/\Value.func (Fn.func 309) #[] #[]=Value.func (Fn.func 309) #[] #[]/\True)/\L7 (x.length))/\decide ((S6 (x.length) λ(i:Nat)=>yX (List.getD x i dz))≥(0:Int))=anyI L.length λ(i:Nat)=>yX (L.getD i dz)) ⟨L,⟨⟨⟨rfl,λ_ _=>rfl⟩,rfl,trivial⟩,h⟩,D1 _ _⟩
def a2w(L:List Rec)(i:Nat):Bool:= !P0 (L.getD i dz)||(L.getD i dz).l !=(i:Int)+1
def yZ(L:List Rec):Bool:= !anyI L.length (a2w L)
def c2K(L:List Rec):Prop:=L.length<1000000000000/\∀r ∈ L,r.a.length<140737488355329
def lW:Rl:=⟨List Rec,λL=>[zH L],λL=>.bool (yZ L),c2K⟩
def a1z:Con:=.rel lW
def a1Z(L:List Rec):Nat->Ann
 |0=>.one (V5 L.length (a2w L)) (λx=>⟨[(0,zH L),(5,zH L),(6,Ji L.length),(7,Ji x.1)],[]⟩) (λx=>L.length-x.1) [] [] (λ_=>Z3)
 |_=>.none
theorem C5{L:List Rec}:yZ L=true↔∀i,i<L.length->P0 (L.getD i dz)=true/\(L.getD i dz).l=(i:Int)+1:=by
 unfold yZ;rw[wA,Bool.eq_false_iff,ne_eq,R9];constructor
 ·intro h i hi;have:¬a2w L i=true:=λhb=>h ⟨i,hi,hb⟩
  simpa[a2w] using this
 ·rintro h ⟨i,hi,hb⟩;have:=h i hi;unfold a2w at hb;rw[this.1,this.2] at hb;simp at hb
theorem dJ{L:List Rec}{i:Nat}(h:i<L.length):L.getD i dz ∈ L:=by
 rw[P4,I3 h]
 exact List.getElem_mem h
theorem bE:GK 227 a1z:=gk func227<|by
 intro L o;obtain⟨N,hb⟩:c2K L:=o;refine U6 (gC tL (gC b2J gN)) func227 (a1Z L) (α:=let v:=(Z0 Y1 L L);let z:=(L.length:Int);(∃(x:V5 L.length (a2w L)),(v/\v/\z=z/\0=(x.1:Int)/\True)/\True)/\∀(x:V5 L.length (a2w L)),let r:=(x.1:Int);let q:=(L.getD r.toNat dz);let u:=(Rec.mk q.e q.l q.t q.k q.p q.n q.g q.s q.b q.a);bd (r<z) (W9 r L.length/\b3G q.a/\((!P0 u)=false->Ri (r+1))/\br (!P0 u||q.l !=r+1) (false=yZ L) (Ri (r+1)/\∃(y:V5 L.length (a2w L)),((v/\v/\z=z/\r+1=(y.1:Int)/\True)/\True)/\Lt (L.length-y.1) (L.length-x.1))) (∃(x:a5K.ι),(((Z0 Y1 L x)/\Value.func (Fn.func 309) #[] #[]=Value.func (Fn.func 309) #[] #[]/\True)/\L7 (x.length))/\(!anyI (x.length) λ(i:Nat)=>yX (List.getD x i dz))=yZ L)) ⟨⟨F9,⟨⟨rfl,λ_ _=>rfl⟩,⟨rfl,λ_ _=>rfl⟩,rfl,rfl,trivial⟩,trivial⟩,λx=>⟨λhc=>?_,λhc=>?_⟩⟩
 ·have hlt:=Y2 hc;refine⟨Y6 hlt,hb _ (dJ hlt),λ_=>W4 hlt Z9,λhp=>?_,λhp=>⟨W4 hlt Z9,x.succ hlt hp,⟨⟨⟨rfl,λ_ _=>rfl⟩,⟨rfl,λ_ _=>rfl⟩,rfl,rfl,trivial⟩,trivial⟩,V5.ext_lt hlt⟩⟩
  have:anyI L.length (a2w L)=true:=R9.2 ⟨x.1,hlt,hp⟩;simp[yZ,this]
 ·have j:=Y0 hc;have d:yZ L=true:=by
   unfold yZ;rw[wA,Bool.eq_false_iff,ne_eq,R9];rintro⟨i,hi,h⟩;rw[x.2.2 i Z9] at h
   cases h
  refine⟨L,⟨⟨⟨rfl,λ_ _=>rfl⟩,rfl,trivial⟩,N⟩,?_⟩
  rw[d,wA,Bool.eq_false_iff,ne_eq,R9];rintro⟨i,hi,h⟩;have q:=(Q4 _).1 (C5.1 d i hi).1;obtain⟨_,_,_,f,_⟩:=q;have:¬ (L.getD i dz).l>60:=Z9
  simp[yX] at h;simp at this;omega
def s5(a:Bz)(i:Nat):Int:=((a.getD i 0).toNat:Int)
def W8(a:Bz)(A:Nat)(r:Nat):List T:=[Ji (s5 a (A+2*r)),Ji (s5 a (A+2*r+1))]
def T4(a:Bz):Nat:=(s5 a 0).toNat
def k8(a:Bz):Nat:=(s5 a (1+2*T4 a)).toNat
def vV(a:Bz):Nat:=if 0<a.length/\1+2*T4 a<=a.length then T4 a else 0
def zO(a:Bz):Nat:=if 0<a.length/\1+2*T4 a<a.length/\2+2*T4 a+2*k8 a<=a.length then k8 a else 0
def tX(a:Bz):Bool:=decide (0<a.length/\1+2*T4 a<a.length/\2+2*T4 a+2*k8 a=a.length)
def c88(a:Bz):T:=.tup [.sl 2 (vV a) (W8 a 1),.sl 2 (zO a) (W8 a (2+2*T4 a)),.bool (tX a)]
def c0V(n:Nat)(row:Nat->List T):Option Ob:=some (.arr true 0 2 n row)
def c46(e d n N:Nat):Option Ob:=some (.arr false 0 1 2 λr=>match r with|0=>[.osl e 0 n]|_=>[.osl d 0 N])
def a4r(a:Bz):Nat->Ann
 |0=>.unr 3 (λm=>fun
  |1=>match m with
   |2=>.one (Up (T4 a)) (λx=>⟨[(0,.str a),(5,.osl 2 0 2),(6,Ji (1+2*x.1)),(7,Ji 0),(8,Ji (T4 a)),(9,Ji x.1)],[c0V x.1 (W8 a 1),c0V 0 (W8 a 0),c46 0 1 x.1 0]⟩) (λx=>T4 a-x.1) [.arr 0,.arr 1,.ren 2] [.arr 4,.arr 1,.ren 2] (λ_=>Z3)
   |_=>.one (Up (k8 a)) (λx=>⟨[(0,.str a),(5,.osl 2 0 2),(6,Ji (2+2*T4 a+2*x.1)),(7,Ji 1),(8,Ji (k8 a)),(9,Ji x.1)],[c0V (T4 a) (W8 a 1),c0V x.1 (W8 a (2+2*T4 a)),c46 0 1 (T4 a) x.1]⟩) (λx=>k8 a-x.1) [.arr 0,.arr 1,.ren 2] [.arr 0,.arr 4,.ren 2] (λ_=>Z3)
  |_=>.none)
 |_=>.none
def jI:List T->Option (T×Option Prop)
 | [.str a]=>some (c88 a,some (L7 a.length))
 |_=>none
def a3n:Con:=.pure jI
theorem M9{row row':Nat->List T}{n i:Nat}(h:i<n):X4 row n row' i=row i:=by
 unfold X4;rw[show Nat.blt i n=true from by simp[Nat.blt];omega]
theorem N4{row row':Nat->List T}{n i:Nat}(h:n<=i):X4 row n row' i=row' (i-n):=by
 unfold X4;rw[show Nat.blt i n=false from Bool.eq_false_iff.2 λB=>by have:=yY B;omega]
theorem a06:GK 219 a3n:=gk func219<|by
 intro args res p h hp;unfold jI at h;split at h
 case h_2=>cases h
 rename_i a;simp only[X0,U5] at h;obtain⟨rfl,rfl⟩:=h;have hp:a.length<1000000000000:=hp;have h0:((a.getD 0 0).toNat:Int)=(T4 a:Int):=by simp[T4,s5]
 have h1:((a.getD (1+2*T4 a) 0).toNat:Int)=(k8 a:Int):=by simp[k8,s5]
 have b0:T4 a<=255:=by have:=(a.getD 0 0).toNat_lt;omega
 have b1:k8 a<=255:=by have:=(a.getD (1+2*T4 a) 0).toNat_lt;omega
 have t0:(1+2*(T4 a:Int)).toNat=1+2*T4 a:=Z9
 have none0:∀row row':Nat->List T,Z7 0 row row':=λrow row' i hi=>absurd hi (D4 i)
 have refl0:∀(n:Nat) (row:Nat->List T),Z7 n row row:=λn row i hi=>rfl
 have lT:∀(at0 i:Nat),Z7 (i+1) (X4 (W8 a at0) i λk=>List.take 2 (List.drop (k*2) [Ji ((a.getD (at0+2*i) 0).toNat:Int),Ji ((a.getD (at0+2*i+1) 0).toNat:Int)])) (W8 a at0):=by
  intro at0 i j hj;by_cases hlt:j<i
  ·rw[M9 hlt]
  ·obtain rfl:j=i:=by omega
   rw[N4 (U9 _),j_h];rfl
 have two:∀{ρ:Nat->Option Nat} {row row':Nat->List T},O2 (S8 ρ 6) (row' 0)=some (row 0)->O2 (S8 ρ 6) (row' 1)=some (row 1)->wJ ρ 2 row row':=by
  intro ρ row row' e0 e1 i hi;rcases Nat.lt_or_ge i 1 with h|h
  ·obtain rfl:i=0:=by omega
   exact e0
  ·obtain rfl:i=1:=by omega
   exact e1
 refine U6 gN func219 (a4r a) (α:=(true=true->(decide ((0:Int)≥(a.length:Int))=true->W9 (0:Int) 2/\Lt 0 2/\W9 (1:Int) 2/\Lt 1 2/\(Le 0 0/\Le 0 0)/\(0=vV a/\Z7 0 (λ(k:Nat)=>List.take 2 (List.drop (k*2) [])) (W8 a 1))/\(0=zO a/\Z7 0 (λ(k:Nat)=>List.take 2 (List.drop (k*2) [])) (W8 a (2+2*T4 a)))/\false=tX a/\True)/\(decide ((0:Int)≥(a.length:Int))=false->W9 (0:Int) a.length/\R3 .i64 1/\R3 .i64 ((2:Int)*IntKind.i64.wrap (↑(a.getD 0 (0:UInt8)).toNat:Int))/\R3 .i64 ((1:Int)+2*IntKind.i64.wrap (↑(a.getD 0 (0:UInt8)).toNat:Int))/\(decide ((1:Int)+2*IntKind.i64.wrap (↑(a.getD 0 (0:UInt8)).toNat:Int)>(a.length:Int))=true->W9 (0:Int) 2/\Lt 0 2/\W9 (1:Int) 2/\Lt 1 2/\(Le 0 0/\Le 0 0)/\(0=vV a/\Z7 0 (λ(k:Nat)=>List.take 2 (List.drop (k*2) [])) (W8 a 1))/\(0=zO a/\Z7 0 (λ(k:Nat)=>List.take 2 (List.drop (k*2) [])) (W8 a (2+2*T4 a)))/\false=tX a/\True)/\(decide ((1:Int)+2*IntKind.i64.wrap (↑(a.getD 0 (0:UInt8)).toNat:Int)>(a.length:Int))=false->(∃(x:Up (T4 a)),(a=a/\(0=0/\2=2)/\(1:Int)=1+2*(x.1:Int)/\(0:Int)=0/\IntKind.i64.wrap (↑(a.getD 0 (0:UInt8)).toNat:Int)=(↑(T4 a):Int)/\0=(x.1:Int)/\True)/\(0=x.1/\Z7 0 (λ(k:Nat)=>List.take 2 (List.drop (k*2) [])) (W8 a 1))/\(0=0/\Z7 0 (λ(k:Nat)=>List.take 2 (List.drop (k*2) [])) (W8 a 0))/\(2=2/\wJ (o5 [some 0,some 1,some 2]) 2 (λ(k:Nat)=>List.take 1 (List.drop (k*1) [T.osl 0 0 0,T.osl 1 0 0])) λ(r:Nat)=>match r with|0=>[T.osl 0 0 x.1]|x=>[T.osl 1 0 0])/\True)/\∀(x:Up (T4 a)),(decide ((x.1:Int)<(↑(T4 a):Int))=true->W9 (0:Int) 2/\Lt 0 2/\W9 ((1:Int)+2*(x.1:Int)) a.length/\R3 .i64 ((1:Int)+2*(x.1:Int)+1)/\W9 ((1:Int)+2*(x.1:Int)+1) a.length/\(Le 1 1/\Le x.1 x.1/\U8 x.1 1 16)/\W9 (0:Int) 2/\Lt 0 2/\R3 .i64 ((1:Int)+2*(x.1:Int)+2)/\R3 .i64 ((x.1:Int)+1)/\∃(y:Up (T4 a)),((a=a/\(0=0/\2=2)/\(1:Int)+2*(x.1:Int)+2=1+2*(y.1:Int)/\(0:Int)=0/\(↑(T4 a):Int)=(↑(T4 a):Int)/\(x.1:Int)+1=(y.1:Int)/\True)/\(x.1+1=y.1/\Z7 (x.1+1) (X4 (W8 a 1) x.1 λ(k:Nat)=>List.take 2 (List.drop (k*2) [Ji (IntKind.i64.wrap (↑(a.getD ((1:Int)+2*(x.1:Int)).toNat (0:UInt8)).toNat:Int)),Ji (IntKind.i64.wrap (↑(a.getD ((1:Int)+2*(x.1:Int)+1).toNat (0:UInt8)).toNat:Int))])) (W8 a 1))/\(0=0/\Z7 0 (W8 a 0) (W8 a 0))/\(2=2/\wJ (o5 [some 4,some 1,some 2]) 2 (setRow (λ(r:Nat)=>match r with|0=>[T.osl 0 0 x.1]|x=>[T.osl 1 0 0]) 0 0 [T.osl 4 0 (x.1+1)]) λ(r:Nat)=>match r with|0=>[T.osl 0 0 y.1]|x=>[T.osl 1 0 0])/\True)/\Lt (T4 a-y.1) (T4 a-x.1))/\(decide ((x.1:Int)<(↑(T4 a):Int))=false->R3 .i64 1/\(true=true->(decide ((1:Int)+2*(x.1:Int)≥(a.length:Int))=true->W9 (0:Int) 2/\Lt 0 2/\W9 (1:Int) 2/\Lt 1 2/\(Le (0+x.1) x.1/\Le 0 0)/\(x.1=vV a/\Z7 x.1 (W8 a 1) (W8 a 1))/\(0=zO a/\Z7 0 (W8 a 0) (W8 a (2+2*T4 a)))/\false=tX a/\True)/\(decide ((1:Int)+2*(x.1:Int)≥(a.length:Int))=false->W9 ((1:Int)+2*(x.1:Int)) a.length/\R3 .i64 ((1:Int)+2*(x.1:Int)+1)/\R3 .i64 ((2:Int)*IntKind.i64.wrap (↑(a.getD ((1:Int)+2*(x.1:Int)).toNat (0:UInt8)).toNat:Int))/\R3 .i64 ((1:Int)+2*(x.1:Int)+1+2*IntKind.i64.wrap (↑(a.getD ((1:Int)+2*(x.1:Int)).toNat (0:UInt8)).toNat:Int))/\(decide ((1:Int)+2*(x.1:Int)+1+2*IntKind.i64.wrap (↑(a.getD ((1:Int)+2*(x.1:Int)).toNat (0:UInt8)).toNat:Int)>(a.length:Int))=true->W9 (0:Int) 2/\Lt 0 2/\W9 (1:Int) 2/\Lt 1 2/\(Le (0+x.1) x.1/\Le 0 0)/\(x.1=vV a/\Z7 x.1 (W8 a 1) (W8 a 1))/\(0=zO a/\Z7 0 (W8 a 0) (W8 a (2+2*T4 a)))/\false=tX a/\True)/\(decide ((1:Int)+2*(x.1:Int)+1+2*IntKind.i64.wrap (↑(a.getD ((1:Int)+2*(x.1:Int)).toNat (0:UInt8)).toNat:Int)>(a.length:Int))=false->(∃(x_1:Up (k8 a)),(a=a/\(0=0/\2=2)/\(1:Int)+2*(x.1:Int)+1=2+2*(↑(T4 a):Int)+2*(x_1.val:Int)/\(1:Int)=1/\IntKind.i64.wrap (↑(a.getD ((1:Int)+2*(x.1:Int)).toNat (0:UInt8)).toNat:Int)=(↑(k8 a):Int)/\0=(x_1.val:Int)/\True)/\(x.1=T4 a/\Z7 x.1 (W8 a 1) (W8 a 1))/\(0=x_1.val/\Z7 0 (W8 a 0) (W8 a (2+2*T4 a)))/\(2=2/\wJ (o5 [some 0,some 1,some 2]) 2 (λ(r:Nat)=>match r with|0=>[T.osl 0 0 x.1]|x=>[T.osl 1 0 0]) λ(r:Nat)=>match r with|0=>[T.osl 0 0 (T4 a)]|x=>[T.osl 1 0 x_1.val])/\True)/\∀(x:Up (k8 a)),(decide ((x.1:Int)<(↑(k8 a):Int))=true->W9 (1:Int) 2/\Lt 1 2/\W9 ((2:Int)+2*(↑(T4 a):Int)+2*(x.1:Int)) a.length/\R3 .i64 ((2:Int)+2*(↑(T4 a):Int)+2*(x.1:Int)+1)/\W9 ((2:Int)+2*(↑(T4 a):Int)+2*(x.1:Int)+1) a.length/\(Le 1 1/\Le x.1 x.1/\U8 x.1 1 16)/\W9 (1:Int) 2/\Lt 1 2/\R3 .i64 ((2:Int)+2*(↑(T4 a):Int)+2*(x.1:Int)+2)/\R3 .i64 ((x.1:Int)+1)/\∃(y:Up (k8 a)),((a=a/\(0=0/\2=2)/\(2:Int)+2*(↑(T4 a):Int)+2*(x.1:Int)+2=2+2*(↑(T4 a):Int)+2*(y.1:Int)/\(1:Int)=1/\(↑(k8 a):Int)=(↑(k8 a):Int)/\(x.1:Int)+1=(y.1:Int)/\True)/\(T4 a=T4 a/\Z7 (T4 a) (W8 a 1) (W8 a 1))/\(x.1+1=y.1/\Z7 (x.1+1) (X4 (W8 a (2+2*T4 a)) x.1 λ(k:Nat)=>List.take 2 (List.drop (k*2) [Ji (IntKind.i64.wrap (↑(a.getD ((2:Int)+2*(↑(T4 a):Int)+2*(x.1:Int)).toNat (0:UInt8)).toNat:Int)),Ji (IntKind.i64.wrap (↑(a.getD ((2:Int)+2*(↑(T4 a):Int)+2*(x.1:Int)+1).toNat (0:UInt8)).toNat:Int))])) (W8 a (2+2*T4 a)))/\(2=2/\wJ (o5 [some 0,some 4,some 2]) 2 (setRow (λ(r:Nat)=>match r with|0=>[T.osl 0 0 (T4 a)]|x_1=>[T.osl 1 0 x.1]) 1 0 [T.osl 4 0 (x.1+1)]) λ(r:Nat)=>match r with|0=>[T.osl 0 0 (T4 a)]|x=>[T.osl 1 0 y.1])/\True)/\Lt (k8 a-y.1) (k8 a-x.1))/\(decide ((x.1:Int)<(↑(k8 a):Int))=false->R3 .i64 2/\(false=true->(decide ((2:Int)+2*(↑(T4 a):Int)+2*(x.1:Int)≥(a.length:Int))=true->W9 (0:Int) 2/\Lt 0 2/\W9 (1:Int) 2/\Lt 1 2/\(Le (0+T4 a) (T4 a)/\Le (0+x.1) x.1)/\(T4 a=vV a/\Z7 (T4 a) (W8 a 1) (W8 a 1))/\(x.1=zO a/\Z7 x.1 (W8 a (2+2*T4 a)) (W8 a (2+2*T4 a)))/\false=tX a/\True)/\(decide ((2:Int)+2*(↑(T4 a):Int)+2*(x.1:Int)≥(a.length:Int))=false->W9 ((2:Int)+2*(↑(T4 a):Int)+2*(x.1:Int)) a.length/\R3 .i64 ((2:Int)+2*(↑(T4 a):Int)+2*(x.1:Int)+1)/\R3 .i64 ((2:Int)*IntKind.i64.wrap (↑(a.getD ((2:Int)+2*(↑(T4 a):Int)+2*(x.1:Int)).toNat (0:UInt8)).toNat:Int))/\R3 .i64 ((2:Int)+2*(↑(T4 a):Int)+2*(x.1:Int)+1+2*IntKind.i64.wrap (↑(a.getD ((2:Int)+2*(↑(T4 a):Int)+2*(x.1:Int)).toNat (0:UInt8)).toNat:Int))/\(decide ((2:Int)+2*(↑(T4 a):Int)+2*(x.1:Int)+1+2*IntKind.i64.wrap (↑(a.getD ((2:Int)+2*(↑(T4 a):Int)+2*(x.1:Int)).toNat (0:UInt8)).toNat:Int)>(a.length:Int))=true->W9 (0:Int) 2/\Lt 0 2/\W9 (1:Int) 2/\Lt 1 2/\(Le (0+T4 a) (T4 a)/\Le (0+x.1) x.1)/\(T4 a=vV a/\Z7 (T4 a) (W8 a 1) (W8 a 1))/\(x.1=zO a/\Z7 x.1 (W8 a (2+2*T4 a)) (W8 a (2+2*T4 a)))/\false=tX a/\True)/\(decide ((2:Int)+2*(↑(T4 a):Int)+2*(x.1:Int)+1+2*IntKind.i64.wrap (↑(a.getD ((2:Int)+2*(↑(T4 a):Int)+2*(x.1:Int)).toNat (0:UInt8)).toNat:Int)>(a.length:Int))=false->(∃(x_1:Up (k8 a)),(a=a/\(0=0/\2=2)/\(2:Int)+2*(↑(T4 a):Int)+2*(x.1:Int)+1=2+2*(↑(T4 a):Int)+2*(x_1.val:Int)/\(2:Int)=1/\IntKind.i64.wrap (↑(a.getD ((2:Int)+2*(↑(T4 a):Int)+2*(x.1:Int)).toNat (0:UInt8)).toNat:Int)=(↑(k8 a):Int)/\0=(x_1.val:Int)/\True)/\(T4 a=T4 a/\Z7 (T4 a) (W8 a 1) (W8 a 1))/\(x.1=x_1.val/\Z7 x.1 (W8 a (2+2*T4 a)) (W8 a (2+2*T4 a)))/\(2=2/\wJ (o5 [some 0,some 1,some 2]) 2 (λ(r:Nat)=>match r with|0=>[T.osl 0 0 (T4 a)]|x_2=>[T.osl 1 0 x.1]) λ(r:Nat)=>match r with|0=>[T.osl 0 0 (T4 a)]|x=>[T.osl 1 0 x_1.val])/\True)/\∀(x:Up (k8 a)),(decide ((x.1:Int)<(↑(k8 a):Int))=true->W9 (1:Int) 2/\Lt 1 2/\W9 ((2:Int)+2*(↑(T4 a):Int)+2*(x.1:Int)) a.length/\R3 .i64 ((2:Int)+2*(↑(T4 a):Int)+2*(x.1:Int)+1)/\W9 ((2:Int)+2*(↑(T4 a):Int)+2*(x.1:Int)+1) a.length/\(Le 1 1/\Le x.1 x.1/\U8 x.1 1 16)/\W9 (1:Int) 2/\Lt 1 2/\R3 .i64 ((2:Int)+2*(↑(T4 a):Int)+2*(x.1:Int)+2)/\R3 .i64 ((x.1:Int)+1)/\∃(y:Up (k8 a)),((a=a/\(0=0/\2=2)/\(2:Int)+2*(↑(T4 a):Int)+2*(x.1:Int)+2=2+2*(↑(T4 a):Int)+2*(y.1:Int)/\(1:Int)=1/\(↑(k8 a):Int)=(↑(k8 a):Int)/\(x.1:Int)+1=(y.1:Int)/\True)/\(T4 a=T4 a/\Z7 (T4 a) (W8 a 1) (W8 a 1))/\(x.1+1=y.1/\Z7 (x.1+1) (X4 (W8 a (2+2*T4 a)) x.1 λ(k:Nat)=>List.take 2 (List.drop (k*2) [Ji (IntKind.i64.wrap (↑(a.getD ((2:Int)+2*(↑(T4 a):Int)+2*(x.1:Int)).toNat (0:UInt8)).toNat:Int)),Ji (IntKind.i64.wrap (↑(a.getD ((2:Int)+2*(↑(T4 a):Int)+2*(x.1:Int)+1).toNat (0:UInt8)).toNat:Int))])) (W8 a (2+2*T4 a)))/\(2=2/\wJ (o5 [some 0,some 4,some 2]) 2 (setRow (λ(r:Nat)=>match r with|0=>[T.osl 0 0 (T4 a)]|x_1=>[T.osl 1 0 x.1]) 1 0 [T.osl 4 0 (x.1+1)]) λ(r:Nat)=>match r with|0=>[T.osl 0 0 (T4 a)]|x=>[T.osl 1 0 y.1])/\True)/\Lt (k8 a-y.1) (k8 a-x.1))/\(decide ((x.1:Int)<(↑(k8 a):Int))=false->R3 .i64 2/\False))))/\(false=false->W9 (0:Int) 2/\Lt 0 2/\W9 (1:Int) 2/\Lt 1 2/\(Le (0+T4 a) (T4 a)/\Le (0+x.1) x.1)/\(T4 a=vV a/\Z7 (T4 a) (W8 a 1) (W8 a 1))/\(x.1=zO a/\Z7 x.1 (W8 a (2+2*T4 a)) (W8 a (2+2*T4 a)))/\((2:Int)+2*(↑(T4 a):Int)+2*(x.1:Int)==(a.length:Int))=tX a/\True)))))/\(true=false->W9 (0:Int) 2/\Lt 0 2/\W9 (1:Int) 2/\Lt 1 2/\(Le (0+x.1) x.1/\Le 0 0)/\(x.1=vV a/\Z7 x.1 (W8 a 1) (W8 a 1))/\(0=zO a/\Z7 0 (W8 a 0) (W8 a (2+2*T4 a)))/\((1:Int)+2*(x.1:Int)==(a.length:Int))=tX a/\True)))))/\(true=false->W9 (0:Int) 2/\Lt 0 2/\W9 (1:Int) 2/\Lt 1 2/\(Le 0 0/\Le 0 0)/\(0=vV a/\Z7 0 (λ(k:Nat)=>List.take 2 (List.drop (k*2) [])) (W8 a 1))/\(0=zO a/\Z7 0 (λ(k:Nat)=>List.take 2 (List.drop (k*2) [])) (W8 a (2+2*T4 a)))/\((0:Int)==(a.length:Int))=tX a/\True)) ?_
 simp only[l0,W9,Lt,Le,U8,uP];simp only[h0];refine⟨λ_=>⟨λhz=>?_,λhz=>?_⟩,λh=>F7⟩
 ·have hz':¬0<a.length:=by simp at hz;simp[hz]
  refine⟨Z9,Z9,Z9,Z9,Z9,⟨by simp[vV,hz'],none0 _ _⟩,⟨by simp[zO,hz'],none0 _ _⟩,by simp[tX,hz'],trivial⟩
 have hz':0<a.length:=by simp at hz;exact List.length_pos_iff.2 hz
 refine⟨⟨Z9,Z9⟩,Z9,Z9,Z9,λhgt=>?_,λhle=>?_⟩
 ·have hgt':¬1+2*T4 a<=a.length:=by simp at hgt;omega
  have hgt'':¬1+2*T4 a<a.length:=Z9
  refine⟨Z9,Z9,Z9,Z9,Z9,⟨by simp[vV,hgt'],none0 _ _⟩,⟨by simp[zO,hgt''],none0 _ _⟩,by simp[tX,hgt''],trivial⟩
 have hle':1+2*T4 a<=a.length:=by simp at hle;omega
 have e0:vV a=T4 a:=by simp[vV,hz',hle']
 refine⟨⟨⟨0,N5 _⟩,⟨trivial,⟨trivial,trivial⟩,rfl,trivial,trivial,rfl,trivial⟩,⟨rfl,none0 _ _⟩,⟨trivial,none0 _ _⟩,⟨trivial,two rfl rfl⟩,trivial⟩,λx=>⟨λhx=>?_,λhx=>?_⟩⟩
 ·have hx':x.1<T4 a:=by simpa using hx
  rw[show(1+2*(x.1:Int)).toNat=1+2*x.1 by omega,show(1+2*(x.1:Int)+1).toNat=1+2*x.1+1 by omega]
  refine⟨Z9,Z9,Z9,Z9,Z9,Z9,Z9,Z9,Z9,Z9,⟨x.1+1,hx'⟩,⟨⟨trivial,⟨trivial,trivial⟩,M3,trivial,trivial,M3,trivial⟩,⟨rfl,lT 1 _⟩,⟨trivial,none0 _ _⟩,⟨trivial,two rfl rfl⟩,trivial⟩,M3⟩
 have hx':x.1=T4 a:=by have:=x.2;simp at hx;omega
 rw[hx',t0,h1];refine⟨Z9,λ_=>⟨λhz1=>?_,λhz1=>⟨?_,Z9,Z9,Z9,λhg1=>?_,λhl1=>?_⟩⟩,λh=>F7⟩
 ·have hz1':¬1+2*T4 a<a.length:=by simp at hz1;omega
  refine⟨Z9,Z9,Z9,Z9,Z9,⟨e0.symm,refl0 _ _⟩,⟨by simp[zO,hz1'],none0 _ _⟩,by simp[tX,hz1'],trivial⟩
 ·simp at hz1;omega
 ·have hz1':1+2*T4 a<a.length:=by simp at hz1;omega
  have hg1':¬2+2*T4 a+2*k8 a<=a.length:=by simp at hg1;omega
  have hg1'':¬2+2*T4 a+2*k8 a=a.length:=Z9
  refine⟨Z9,Z9,Z9,Z9,Z9,⟨e0.symm,refl0 _ _⟩,⟨by simp[zO,hg1'],none0 _ _⟩,by simp[tX,hg1''],trivial⟩
 have hz1':1+2*T4 a<a.length:=by simp at hz1;omega
 have hl1':2+2*T4 a+2*k8 a<=a.length:=by simp at hl1;omega
 have e1:zO a=k8 a:=by simp[zO,hz',hz1',hl1']
 refine⟨⟨⟨0,N5 _⟩,⟨trivial,⟨trivial,trivial⟩,M3,trivial,rfl,rfl,trivial⟩,⟨rfl,refl0 _ _⟩,⟨rfl,none0 _ _⟩,⟨trivial,two rfl rfl⟩,trivial⟩,λy=>⟨λhy=>?_,λhy=>?_⟩⟩
 ·have hy':y.1<k8 a:=by simpa using hy
  rw[show(2+2*(T4 a:Int)+2*(y.1:Int)).toNat=2+2*T4 a+2*y.1 by omega,show(2+2*(T4 a:Int)+2*(y.1:Int)+1).toNat=2+2*T4 a+2*y.1+1 by omega]
  refine⟨Z9,Z9,Z9,Z9,Z9,Z9,Z9,Z9,Z9,Z9,⟨y.1+1,hy'⟩,⟨⟨trivial,⟨trivial,trivial⟩,M3,trivial,trivial,M3,trivial⟩,⟨trivial,refl0 _ _⟩,⟨rfl,lT _ _⟩,⟨trivial,two rfl rfl⟩,trivial⟩,M3⟩
 have hy':y.1=k8 a:=by have:=y.2;simp at hy;omega
 rw[hy'];refine⟨Z9,(λh=>F7),λ_=>⟨Z9,Z9,Z9,Z9,Z9,⟨e0.symm,refl0 _ _⟩,⟨e1.symm,refl0 _ _⟩,?_,trivial⟩⟩
 unfold tX;rw[Bool.eq_iff_iff,beq_iff_eq,q8];omega
def xN(a:Bz)(A:Nat)(l hi lsn:Int)(i:Nat):Bool:=
 !V9 (s5 a (A+2*i)) l hi|| !V9 (s5 a (A+2*i+1)) 1 (lsn-1)||(decide ((i:Int)>0)&&decide (s5 a (A+2*(i-1))≥s5 a (A+2*i)))
def ckS(a:Bz)(lsn:Int):Bool:=
 tX a&&decide (vV a<=8)&&decide (zO a<=10)&& !anyI (vV a) (xN a 1 0 7 lsn)&& !anyI (zO a) (xN a (2+2*T4 a) 1 60 lsn)
def b9u(a:Bz)(n:Int):Prop:=a.length<1000000000000/\ -1000000000000<=n/\n<=1000000000000
def a0a:List T->Option (T×Option Prop)
 | [.agg [.int .i64 e,.int .i64 l,.int .i64 t,.int .i64 k,.int .i64 p,.int .i64 n,.int .i64 g,.int .i64 s,.str b,.str a]]=>some (.bool (ckS a l),some (b9u a l))
 |_=>none
def b4O:Con:=.pure a0a
def b1s(r:Rec):Nat->Ann
 |1=>.one (V5 (zO r.a) (xN r.a (2+2*T4 r.a) 1 60 r.l)) (λx=>⟨[(1,.ref 0 0 0),(4,.sl 2 (zO r.a) (W8 r.a (2+2*T4 r.a))),(7,Ji x.1)],[some (.arr true 1000000 10 1 λ_=>r.ts)]⟩) (λx=>zO r.a-x.1) [.arr 0] [.arr 0] (λ_=>Z3)
 |_=>.none
def b1Y(r:Rec):Nat->Ann
 |0=>.one (V5 (vV r.a) (xN r.a 1 0 7 r.l)) (λx=>⟨[(1,.ref 0 0 0),(3,.sl 2 (vV r.a) (W8 r.a 1)),(4,.sl 2 (zO r.a) (W8 r.a (2+2*T4 r.a))),(6,Ji x.1)],[some (.arr true 1000000 10 1 λ_=>r.ts)]⟩) (λx=>vV r.a-x.1) [.arr 0] [.arr 0] (λ_=>b1s r)
 |_=>.none
theorem b2w(r:Rec)(h:
let pg:=(W8 r.a (2+2*T4 r.a));let pd:=(0=0/\0=0);let d:=(vV r.a=vV r.a/\Z7 (vV r.a) (W8 r.a 1) (W8 r.a 1));let v:=(zO r.a=zO r.a/\Z7 (zO r.a) pg pg);  L7 r.a.length/\br (!tX r.a||decide ((↑(vV r.a):Int)>8)||decide ((↑(zO r.a):Int)>10)) (false=ckS r.a r.l) ((∃(x:V5 (vV r.a) (xN r.a 1 (0:Int) (7:Int) r.l)),(pd/\d/\v/\0=(x.1:Int)/\True)/\(1=1/\Z7 1 (λ(x:Nat)=>[Ji r.e,Ji r.l,Ji r.t,Ji r.k,Ji r.p,Ji r.n,Ji r.g,Ji r.s,T.str r.b,T.str r.a]) λ(x:Nat)=>[Ji r.e,Ji r.l,Ji r.t,Ji r.k,Ji r.p,Ji r.n,Ji r.g,Ji r.s,T.str r.b,T.str r.a])/\True)/\∀(x:V5 (vV r.a) (xN r.a 1 (0:Int) (7:Int) r.l)),let w:=(x.1:Int);let pe:=(s5 r.a (1+2*w.toNat+1));let pc:=(s5 r.a (1+2*w.toNat));let m:=(!V9 pc (0:Int) (7:Int));let z:=(!V9 pc (0:Int) (7:Int)|| !V9 pe (1:Int) (r.l-1));let pa:=(z=false->decide (w>0)=true->W9 (0:Int) 2);bd (w<(↑(vV r.a):Int)) (W9 w (vV r.a)/\W9 (0:Int) 2/\(m=false->W9 w (vV r.a))/\(m=false->W9 (1:Int) 2)/\(m=false->Ri (r.l-1))/\(z=false->decide (w>0)=true->Ri (w-1))/\(z=false->decide (w>0)=true->W9 (w-1) (vV r.a))/\pa/\(z=false->decide (w>0)=true->W9 w (vV r.a))/\pa/\br (!V9 pc (0:Int) (7:Int)|| !V9 pe (1:Int) (r.l-1)||decide (w>0)&&decide (s5 r.a (1+2*(w-1).toNat)≥s5 r.a (1+2*w.toNat))) (false=ckS r.a r.l) (Ri (w+1)/\∃(y:V5 (vV r.a) (xN r.a 1 (0:Int) (7:Int) r.l)),((pd/\d/\v/\w+1=(y.1:Int)/\True)/\(1=1/\Z7 1 (λ(x:Nat)=>[Ji r.e,Ji r.l,Ji r.t,Ji r.k,Ji r.p,Ji r.n,Ji r.g,Ji r.s,T.str r.b,T.str r.a]) λ(x:Nat)=>[Ji r.e,Ji r.l,Ji r.t,Ji r.k,Ji r.p,Ji r.n,Ji r.g,Ji r.s,T.str r.b,T.str r.a])/\True)/\Lt (vV r.a-y.1) (vV r.a-x.1))) ((∃(x:V5 (zO r.a) (xN r.a (2+2*T4 r.a) (1:Int) (60:Int) r.l)),(pd/\v/\0=(x.1:Int)/\True)/\(1=1/\Z7 1 (λ(x:Nat)=>[Ji r.e,Ji r.l,Ji r.t,Ji r.k,Ji r.p,Ji r.n,Ji r.g,Ji r.s,T.str r.b,T.str r.a]) λ(x:Nat)=>[Ji r.e,Ji r.l,Ji r.t,Ji r.k,Ji r.p,Ji r.n,Ji r.g,Ji r.s,T.str r.b,T.str r.a])/\True)/\∀(x:V5 (zO r.a) (xN r.a (2+2*T4 r.a) (1:Int) (60:Int) r.l)),let u:=(x.1:Int);let pf:=(2+2*T4 r.a+2*u.toNat);let c:=(s5 r.a (2+2*T4 r.a+2*u.toNat+1));let f:=(s5 r.a (2+2*T4 r.a+2*(u-1).toNat)≥s5 r.a pf);let j:=(s5 r.a pf);let i:=(!V9 j (1:Int) (60:Int));let q:=(!V9 j (1:Int) (60:Int)|| !V9 c (1:Int) (r.l-1));let pb:=(q=false->decide (u>0)=true->W9 (0:Int) 2);bd (u<(↑(zO r.a):Int)) (W9 u (zO r.a)/\W9 (0:Int) 2/\(i=false->W9 u (zO r.a))/\(i=false->W9 (1:Int) 2)/\(i=false->Ri (r.l-1))/\(q=false->decide (u>0)=true->Ri (u-1))/\(q=false->decide (u>0)=true->W9 (u-1) (zO r.a))/\pb/\(q=false->decide (u>0)=true->W9 u (zO r.a))/\pb/\((!V9 j (1:Int) (60:Int)||!V9 c (1:Int) (r.l-1)||decide (u>0)&&decide f)=true->false=ckS r.a r.l)/\((!V9 j (1:Int) (60:Int)|| !V9 c (1:Int) (r.l-1)||decide (u>0)&&decide f)=false->Ri (u+1)/\∃(y:V5 (zO r.a) (xN r.a (2+2*T4 r.a) (1:Int) (60:Int) r.l)),((pd/\v/\u+1=(y.1:Int)/\True)/\(1=1/\Z7 1 (λ(x:Nat)=>[Ji r.e,Ji r.l,Ji r.t,Ji r.k,Ji r.p,Ji r.n,Ji r.g,Ji r.s,T.str r.b,T.str r.a]) λ(x:Nat)=>[Ji r.e,Ji r.l,Ji r.t,Ji r.k,Ji r.p,Ji r.n,Ji r.g,Ji r.s,T.str r.b,T.str r.a])/\True)/\Lt (zO r.a-y.1) (zO r.a-x.1))) (true=ckS r.a r.l)))):
  V3 prog 256 [.agg r.ts] (.bool (ckS r.a r.l)):=
 U6 (gC a06 (gC A2 gN)) func256 (b1Y r) h
theorem b0D(a:Bz)(A:Nat)(l hi lsn:Int)(i:Nat):
  xN a A l hi lsn i=(!V9 (s5 a (A+2*(i:Int).toNat)) l hi|| !V9 (s5 a (A+2*(i:Int).toNat+1)) 1 (lsn-1)||(decide ((i:Int)>0)&&decide (s5 a (A+2*((i:Int)-1).toNat)≥s5 a (A+2*(i:Int).toNat)))):=by
 unfold xN;rw[E4,show((i:Int)-1).toNat=i-1 by omega]
theorem a89:GK 256 b4O:=gk func256<|by
 intro args res p h hp;unfold a0a at h;split at h
 case h_2=>cases h
 rename_i e l t k p n g s b a;simp only[X0,U5] at h;obtain⟨rfl,rfl⟩:=h;obtain⟨hn,hl1,hl2⟩:b9u a l:=hp;have q0:vV a<=a.length:=by unfold vV;split<;>omega
 have q1:zO a<=a.length:=by unfold zO;split<;>omega
 have r0:∀(n:Nat) (row:Nat->List T),Z7 n row row:=λn row i hi=>rfl
 refine b2w ⟨e,l,t,k,p,n,g,s,b,a⟩ ?_
 simp only[Rec.e,Rec.l,Rec.t,Rec.k,Rec.p,Rec.n,Rec.g,Rec.s,Rec.b,Rec.a];refine⟨hn,λhb=>?_,λhb=>⟨⟨F9,⟨⟨v6,v6⟩,⟨v6,r0 _ _⟩,⟨v6,r0 _ _⟩,v6,trivial⟩,⟨v6,r0 _ _⟩,trivial⟩,λx=>⟨λhc=>?_,λhc=>?_⟩⟩⟩
 ·unfold ckS;simp only[nV,wA,q8] at hb;rcases hb with(hb|hb)|hb
  ·rw[hb];rfl
  ·rw[show decide (vV a<=8)=false from tQ Z9];simp
  ·rw[show decide (zO a<=10)=false from tQ Z9];simp
 ·have hlt:=Y2 hc;have i2:W9 0 2:=⟨Z9,Z9⟩
  have i2':W9 1 2:=⟨Z9,Z9⟩
  rw[←b0D];refine⟨Y6 hlt,i2,λ_=>Y6 hlt,λ_=>i2',λ_=>Z4 Z9,λ_ _=>Z4 Z9,λ_ hh=>?_,λ_ _=>i2,λ_ _=>Y6 hlt,λ_ _=>i2,λhp=>?_,λhp=>⟨W4 hlt Z9,x.succ hlt hp,⟨⟨⟨v6,v6⟩,⟨v6,r0 _ _⟩,⟨v6,r0 _ _⟩,v6,trivial⟩,⟨v6,r0 _ _⟩,trivial⟩,V5.ext_lt hlt⟩⟩
  ·have:=G6 hh;exact⟨Z9,Z9⟩
  ·have:anyI (vV a) (xN a 1 0 7 l)=true:=R9.2 ⟨x.1,hlt,hp⟩;simp[ckS,this]
 ·have hge:=Y0 hc;have g0:anyI (vV a) (xN a 1 0 7 l)=false:=by
   rw[Bool.eq_false_iff,ne_eq,R9];rintro⟨i,hi,h⟩;rw[x.2.2 i Z9] at h
   cases h
  refine⟨⟨F9,⟨⟨v6,v6⟩,⟨v6,r0 _ _⟩,v6,trivial⟩,⟨v6,r0 _ _⟩,trivial⟩,λy=>⟨λhc=>?_,λhc=>?_⟩⟩
  ·have hlt:=Y2 hc;have i2:W9 0 2:=⟨Z9,Z9⟩
   have i2':W9 1 2:=⟨Z9,Z9⟩
   rw[←b0D];refine⟨Y6 hlt,i2,λ_=>Y6 hlt,λ_=>i2',λ_=>Z4 Z9,λ_ _=>Z4 Z9,λ_ hh=>?_,λ_ _=>i2,λ_ _=>Y6 hlt,λ_ _=>i2,λhp=>?_,λhp=>⟨W4 hlt Z9,y.succ hlt hp,⟨⟨⟨v6,v6⟩,⟨v6,r0 _ _⟩,v6,trivial⟩,⟨v6,r0 _ _⟩,trivial⟩,V5.ext_lt hlt⟩⟩
   ·have:=G6 hh;exact⟨Z9,Z9⟩
   ·have:anyI (zO a) (xN a (2+2*T4 a) 1 60 l)=true:=R9.2 ⟨y.1,hlt,hp⟩;simp[ckS,this]
  ·have hge:=Y0 hc;have g1:anyI (zO a) (xN a (2+2*T4 a) 1 60 l)=false:=by
    rw[Bool.eq_false_iff,ne_eq,R9];rintro⟨i,hi,h⟩;rw[y.2.2 i Z9] at h
    cases h
   simp only[wU,wX,uI] at hb;unfold ckS;rw[g0,g1,hb.1.1,show decide (vV a<=8)=true from mR Z9,show decide (zO a<=10)=true from mR Z9]
   rfl
theorem qL(l:Bz)(k:Nat):numR (l.drop k)=s5 l k:=by
 unfold numR s5;simp[P4]
theorem b9F(l:Bz)(k i:Nat):s5 (l.drop k) i=s5 l (k+i):=by
 unfold s5;simp[P4]
theorem a75(l:Bz)(k:Nat):0<=s5 l k:=by unfold s5;omega
def a3L(l:Bz)(o:Int)(i:Nat):Int:=if i=0 then o-1 else s5 l (1+2*(i-1))
def okP(l:Bz)(o hi lsn:Int)(i:Nat):Bool:=V9 (s5 l (1+2*i)) (a3L l o i+1) hi&&V9 (s5 l (2+2*i)) 1 (lsn-1)
theorem c41(most lo hi lsn:Int)(l:Bz)(fl:Bool)(i:Nat):
  RdSt.go hi lsn (uM most lo l fl) i=⟨l.drop (1+2*i),fl||decide (l.length<1+2*i),decide (numR l<=most)&&(List.range i).all (okP l lo hi lsn),a3L l lo i⟩:=by
 induction i with
 |zero=>
  simp only[RdSt.go,uM,a3L,if_true,List.range_zero,List.all_nil,Bool.and_true,Nat.mul_zero,Nat.add_zero];cases l<;>simp
 |succ i ih=>
  simp only[RdSt.go];rw[ih];simp only[RdSt.step];have e1:((l.drop (1+2*i)).drop 1).drop 1=l.drop (1+2*(i+1)):=by
   rw[List.drop_drop,List.drop_drop];congr 1
  have e2:numR ((l.drop (1+2*i)).drop 1)=s5 l (2+2*i):=by
   rw[List.drop_drop,qL];congr 1
   omega
  have e3:a3L l lo (i+1)=numR (l.drop (1+2*i)):=by
   rw[qL];simp[a3L]
  have e4:(List.range (i+1)).all (okP l lo hi lsn)=((List.range i).all (okP l lo hi lsn)&&okP l lo hi lsn i):=by
   rw[List.range_succ,List.all_append];simp
  rw[e1,e2,e3,e4,qL];congr 1
  ·have:(l.drop (1+2*i)).isEmpty=decide (l.length<=1+2*i):=by
    rw[Bool.eq_iff_iff];simp
   have h2:((l.drop (1+2*i)).drop 1).isEmpty=decide (l.length<=1+2*i+1):=by
    rw[Bool.eq_iff_iff];simp
   rw[this,h2,Bool.or_assoc,Bool.or_assoc];congr 1
   rw[Bool.eq_iff_iff];simp;omega
  ·unfold okP;rw[Bool.and_assoc,Bool.and_assoc]
theorem b1d{n:Nat}{p q:Nat->Bool}(h:∀i,p i= !q i):(List.range n).all p= !anyI n q:=by
 unfold anyI;rw[List.not_any_eq_all_not];congr 1
 funext i
 rw[h i]
theorem b0p(l:Bz)(o hi lsn:Int)(d:o=0∨o=1)(i:Nat):okP l o hi lsn i= !xN l 1 o hi lsn i:=by
 have B:=a75 l (1+2*(i-1));have b2:=a75 l (1+2*i);unfold okP xN a3L V9;rw[show 1+2*i+1=2+2*i by omega]
 rw[Bool.eq_iff_iff];by_cases h:i=0
 ·subst h;simp
 ·simp[h];omega
theorem b4G(a:Bz)(k:Nat)(l hi lsn:Int)(i:Nat):xN (a.drop k) 1 l hi lsn i=xN a (k+1) l hi lsn i:=by
 unfold xN;simp only[b9F];rw[show k+(1+2*i)=k+1+2*i by omega,show k+(1+2*i+1)=k+1+2*i+1 by omega,show k+(1+2*(i-1))=k+1+2*(i-1) by omega]
theorem c59(a:Bz)(lsn:Int):a4F a lsn=ckS a lsn:=by
 have n0:(numR a).toNat=T4 a:=by simp[numR,T4,s5]
 have n0':numR a=(T4 a:Int):=by have:=r9 a;omega
 have n1:numR (a.drop (1+2*T4 a))=(k8 a:Int):=by rw[qL];have:=a75 a (1+2*T4 a);simp[k8];omega
 have n1':(numR (a.drop (1+2*T4 a))).toNat=k8 a:=Z9
 have E1:N7 8 0 7 lsn a false=⟨a.drop (1+2*T4 a),decide (a.length<1+2*T4 a),decide ((T4 a:Int)<=8)&& !anyI (T4 a) (xN a 1 0 7 lsn),a3L a 0 (T4 a)⟩:=by
  unfold N7;rw[c41,n0,n0',b1d (b0p a 0 7 lsn (.inl rfl)),Bool.false_or]
 have E2:N7 10 1 60 lsn (a.drop (1+2*T4 a)) (decide (a.length<1+2*T4 a))=⟨a.drop (2+2*T4 a+2*k8 a),decide (a.length<2+2*T4 a+2*k8 a),decide ((k8 a:Int)<=10)&& !anyI (k8 a) (xN a (2+2*T4 a) 1 60 lsn),a3L (a.drop (1+2*T4 a)) 1 (k8 a)⟩:=by
  unfold N7;rw[c41,n1',n1,b1d (b0p (a.drop (1+2*T4 a)) 1 60 lsn (.inr rfl))];congr 1
  ·rw[List.drop_drop];congr 1;omega
  ·rw[Bool.eq_iff_iff];simp;omega
  ·congr 2
   unfold anyI;congr 1
   funext i
   rw[b4G];congr 1
   omega
 unfold a4F;rw[E1];simp only;rw[E2];simp only;have hE:(a.drop (2+2*T4 a+2*k8 a)).isEmpty=decide (a.length<=2+2*T4 a+2*k8 a):=by rw[Bool.eq_iff_iff];simp
 rw[hE];by_cases hr:0<a.length/\1+2*T4 a<a.length/\2+2*T4 a+2*k8 a=a.length
 ·have c0:vV a=T4 a:=by unfold vV;rw[if_pos ⟨hr.1,Z9⟩]
  have c1:zO a=k8 a:=by unfold zO;rw[if_pos ⟨hr.1,hr.2.1,Z9⟩]
  unfold ckS;rw[show tX a=true from mR hr,c0,c1]
  rw[show decide (a.length<1+2*T4 a)=false from tQ Z9,show decide (a.length<2+2*T4 a+2*k8 a)=false from tQ Z9,show decide (a.length<=2+2*T4 a+2*k8 a)=true from mR Z9]
  rw[show decide ((T4 a:Int)<=8)=decide (T4 a<=8) from decide_eq_decide.2 Z9,show decide ((k8 a:Int)<=10)=decide (k8 a<=10) from decide_eq_decide.2 Z9]
  generalize anyI (T4 a) _=x;generalize anyI (k8 a) _=y;generalize decide (T4 a<=8)=u;generalize decide (k8 a<=10)=v;cases x<;>cases y<;>cases u<;>cases v<;>rfl
 ·have:ckS a lsn=false:=by
   unfold ckS;rw[show tX a=false from tQ hr]
   rfl
  rw[this];by_cases h1:a.length<2+2*T4 a+2*k8 a
  ·rw[show decide (a.length<2+2*T4 a+2*k8 a)=true from mR h1]
   simp
  ·have h2:¬a.length<=2+2*T4 a+2*k8 a:=by omega
   rw[show decide (a.length<=2+2*T4 a+2*k8 a)=false from tQ h2]
   simp
def jR:List T->Option (T×Option Prop)
 | [.agg [.int .i64 e,.int .i64 l,.int .i64 t,.int .i64 k,.int .i64 p,.int .i64 n,.int .i64 g,.int .i64 s,.str b,.str a]]=>some (.bool (P0 ⟨e,l,t,k,p,n,g,s,b,a⟩),some (L7 a.length))
 |_=>none
def a5A:Con:=.pure jR
theorem a4A(r:Rec)(x:Bool)(h:
let q:=((r.b.length:Int)>30);  ((!V9 r.e (1:Int) (60:Int)|| !V9 r.l (1:Int) (60:Int)|| !V9 r.k (1:Int) (6:Int))=false->Ri (r.l-1))/\((!V9 r.e (1:Int) (60:Int)|| !V9 r.l (1:Int) (60:Int)|| !V9 r.k (1:Int) (6:Int)|| !V9 r.p (0:Int) (r.l-1))=false->Ri (r.l-1))/\((!V9 r.e (1:Int) (60:Int)|| !V9 r.l (1:Int) (60:Int)|| !V9 r.k (1:Int) (6:Int)|| !V9 r.p (0:Int) (r.l-1)|| !V9 r.n (0:Int) (r.l-1)|| !V9 r.g (0:Int) (7:Int)|| !V9 r.s (0:Int) (3:Int)||decide q)=true->false=x)/\((!V9 r.e (1:Int) (60:Int)|| !V9 r.l (1:Int) (60:Int)||!V9 r.k (1:Int) (6:Int)|| !V9 r.p (0:Int) (r.l-1)|| !V9 r.n (0:Int) (r.l-1)|| !V9 r.g (0:Int) (7:Int)|| !V9 r.s (0:Int) (3:Int)||decide q)=false->br (r.k==6) (((r.t==0&&r.p==0&&r.n==0&&r.g==0&&r.s==0&&r.b==[])=true->b9u r.a r.l)/\(r.t==0&&r.p==0&&r.n==0&&r.g==0&&r.s==0&&r.b==[]&&ckS r.a r.l)=x) (br (!V9 r.t (1:Int) (60:Int)||decide ((r.a.length:Int)>30)) (false=x) (br (!(r.k==2||r.k==3)&&(r.g !=0||r.s !=0|| !r.b==[]|| !r.a==[])||r.k !=3&&r.n !=0||r.k==3&& !r.b==[]) (false=x) (((r.k==1)==(r.p==0))=x))))):
  V3 prog 158 [.agg r.ts] (.bool x):=
 U6 (gC a89 (gC A2 gN)) func158 Z3 h
theorem c8F{p k a b:Int}:((k==b)=(p==a))↔(k=b↔p=a):=by
 rw[Bool.eq_iff_iff,beq_iff_eq,beq_iff_eq]
theorem lU:GK 158 a5A:=gk func158<|by
 intro args res p h hp;unfold jR at h;split at h
 case h_2=>cases h
 rename_i e l t k p n g s b a;simp only[X0,U5] at h;obtain⟨rfl,rfl⟩:=h;have hp:a.length<1000000000000:=hp;refine a4A ⟨e,l,t,k,p,n,g,s,b,a⟩ _ ?_
 simp only[Rec.e,Rec.l,Rec.t,Rec.k,Rec.p,Rec.n,Rec.g,Rec.s,Rec.b,Rec.a];have hr:∀{q:Bool},(!V9 e 1 60|| !V9 l 1 60||q)=false->R3 .i64 (l-1):=by
  intro q h;simp only[wU,wX,V9,I4,q8] at h;exact Z4 Z9
 refine⟨hr,λh=>hr (q:= !V9 k 1 6|| !V9 p 0 (l-1)) (by rw[←h];simp[Bool.or_assoc]),λh=>?_,λh=>?_⟩
 ·refine(uR ?_).symm
  simp only[nV,wA,V9,Bool.and_eq_false_iff,uI,q8] at h;unfold zK;simp only;omega
 simp only[wU,wX,V9,I4,q8,uI] at h;by_cases h6:k=6
 ·subst h6;refine⟨λ_=>⟨λ_=>⟨hp,Z9,Z9⟩,qM ?_⟩,λh=>L6⟩
  rw[Q4,←c59];simp only[zK,q8,I4,beq_iff_eq,true_and,and_true];constructor
  ·rintro⟨⟨⟨⟨⟨⟨rfl,rfl⟩,rfl⟩,rfl⟩,rfl⟩,rfl⟩,hc⟩;simp[hc];omega
  ·rintro⟨_,_,_,_,_,_,_,_,_,_,_,_,_,_,_,hh,_⟩;obtain⟨rfl,rfl,rfl,rfl,rfl,rfl,hc⟩:=hh trivial;simp[hc]
 refine⟨λh=>absurd x8 h6,λ_=>⟨λhb=>?_,λhb=>⟨λhc=>?_,λhc=>qM ?_⟩⟩⟩
 ·refine(uR ?_).symm
  simp[V9] at hb;unfold zK;simp only;omega
 ·refine(uR ?_).symm
  unfold zK;simp only;rintro⟨_,_,_,_,_,_,_,_,_,_,_,_,_,_,_,_,hh⟩;obtain⟨c1,c2,c3,c4,c5,c6,c7⟩:=hh h6;simp only[nV,I4,wA,wU,beq_iff_eq,bne_iff_ne,beq_eq_false_iff_ne] at hc;rcases hc with(⟨⟨x2,x3⟩,hc⟩|⟨x3,hn⟩)|⟨x3,hn⟩
  ·obtain⟨d1,d2,d3,d4⟩:=c4 x2 x3;rcases hc with((hc|hc)|hc)|hc
   ·exact hc d1
   ·exact hc d2
   ·exact hc d3
   ·exact hc d4
  ·exact hn (c5 x3)
  ·exact hn (c6 x3)
 ·rw[Q4];simp only[zK,c8F,true_and,and_true,beq_iff_eq];simp[V9] at hb hc;constructor
  ·intro hk;refine⟨Z9,Z9,Z9,Z9,Z9,Z9,Z9,Z9,Z9,Z9,Z9,Z9,Z9,Z9,Z9,λh=>absurd h h6,λ_=>⟨Z9,Z9,Z9,λx2 x3=>?_,λx3=>?_,λx3=>?_,hk⟩⟩
   ·have:=hc.1.1 x2 x3;exact⟨this.1.1.1,this.1.1.2,this.1.2,this.2⟩
   ·exact hc.1.2 x3
   ·exact hc.2 x3
  ·rintro⟨_,_,_,_,_,_,_,_,_,_,_,_,_,_,_,_,hh⟩;exact(hh h6).2.2.2.2.2.2
def rem(l:Int)(n:Nat):Int:=if 0<=l-n then l-n else-1
def y9(n:Int):Prop:=0<=n/\n<=1048576
def N9(r:Rec):Nat:=r.b.length+r.a.length
def b4i(r:Rec):Prop:=r.b.length<=9223372036854775807/\r.a.length<=9223372036854775807
def b0j:Rl:=⟨Rec×Int,λx=>[.agg x.1.ts,Ji x.2],λx=>Ji (rem x.2 (N9 x.1)),λx=>y9 x.2/\b4i x.1⟩
def c3n:Con:=.rel b0j
theorem I7{l:Int}{n:Nat}(h:l<n):rem l n= -1:=by unfold rem;rw[if_neg Z9]
theorem C9{l:Int}{n:Nat}(h:(n:Int)<=l):rem l n=l-n:=by unfold rem;rw[if_pos Z9]
theorem b7x:GK 155 c3n:=gk func155<|by
 rintro⟨r,l⟩ ⟨⟨g,f⟩,B,A⟩;simp only at g f B A;refine U6 gN func155 Z3 (α:=let q:=(r.a.length:Int);let p:=(r.b.length:Int);R3 .i64 (l- p)/\(decide (l- p<0)=true->(-1:Int)=rem l (N9 r))/\(decide (l- p<0)=false->R3 .i64 (l- p- q)/\(decide (l- p- q<0)=true->(-1:Int)=rem l (N9 r))/\(decide (l- p- q<0)=false->l- p- q=rem l (N9 r)))) ?_
 simp only[l0,q8,uI];have e:((N9 r:Nat):Int)=r.b.length+r.a.length:=by unfold N9;omega
 refine⟨Z9,λh=>(I7 Z9).symm,λh=>⟨Z9,λd=>(I7 Z9).symm,λd=>?_⟩⟩
 rw[C9 Z9]
 omega
def V4{α:Type}(f:α->Nat)(L:List α)(n:Nat):Nat->Nat
 |0=>n
 |i+1=>V4 f L n i+(L[i]?.map f).getD 0
def S3{α:Type}(f:α->Nat)(L:List α):Nat:=V4 f L L.length L.length
def a3m:Rl:=⟨List Rec×Int,λx=>[zH x.1,Ji x.2],λx=>Ji (rem x.2 (S3 N9 x.1)),λx=>y9 x.2/\x.1.length<=9223372036854775807/\∀r ∈ x.1,b4i r⟩
def b88:Con:=.rel a3m
def b9f(L:List Rec)(l:Int):Nat->Ann
 |0=>.one {i:Nat//i<=L.length/\(V4 N9 L L.length i:Int)<=l} (λx=>⟨[(0,zH L),(1,Ji (l-V4 N9 L L.length x.1)),(5,Ji x.1)],[]⟩) (λx=>L.length-x.1) [] [] (λ_=>Z3)
 |_=>.none
theorem zP{α:Type}(f:α->Nat)(L:List α)(n:Nat){i:Nat}(d:α)(h:i<L.length):V4 f L n (i+1)=V4 f L n i+f (L.getD i d):=by
 simp[V4,P4,I3 h]
theorem x5{α:Type}(f:α->Nat)(L:List α)(n:Nat):∀{i j:Nat},i<=j->V4 f L n i<=V4 f L n j:=by
 intro i j h;induction h with
 |refl=>exact U9 _
 |step _ I=>simp only[V4];omega
theorem b3V:GK 68 b88:=gk func68<|by
 rintro⟨L,left⟩ ⟨⟨d,f⟩,N,B⟩;simp only at d f B N;have R:∀(n:Nat) (row:Nat->List T),Z7 n row row:=λn row i hi=>rfl
 have M:∀i,i<=L.length->V4 N9 L L.length i<=S3 N9 L:=λi hi=>x5 _ _ _ hi
 have z:V4 N9 L L.length 0=L.length:=rfl;refine U6 (gC b7x gN) func68 (b9f L left) (α:=let r:=(L.length:Int);R3 .i64 (left- r)/\(decide (left- r<0)=true->(-1:Int)=rem left (S3 N9 L))/\(decide (left- r<0)=false->(∃(x:{i:Nat//i<=L.length/\(↑(V4 N9 L L.length i):Int)<=left}),((Z0 Y1 L L)/\left- r=left- (↑(V4 N9 L L.length x.1):Int)/\0=(x.1:Int)/\True)/\True)/\∀(x:{i:Nat//i<=L.length/\(↑(V4 N9 L L.length i):Int)<=left}),let u:=(↑(V4 N9 L L.length x.1):Int);let z:=(x.1:Int);let q:=(L.getD z.toNat dz);(decide (z<r)=true->W9 z L.length/\∃(X:b0j.ι),let v:=(rem X.2 (N9 X.1)<0);(((q.e=X.1.e/\q.l=X.1.l/\q.t=X.1.t/\q.k=X.1.k/\q.p=X.1.p/\q.n=X.1.n/\q.g=X.1.g/\q.s=X.1.s/\q.b=X.1.b/\q.a=X.1.a/\True)/\left- u=X.2/\True)/\y9 X.2/\b4i X.1)/\(decide v=true->(-1:Int)=rem left (S3 N9 L))/\(decide v=false->R3 .i64 (z+1)/\∃(y:{i:Nat//i<=L.length/\(↑(V4 N9 L L.length i):Int)<=left}),(((Z0 Y1 L L)/\rem X.2 (N9 X.1)=left- (↑(V4 N9 L L.length y.1):Int)/\z+1=(y.1:Int)/\True)/\True)/\Lt (L.length-y.1) (L.length-x.1)))/\(decide (z<r)=false->left- u=rem left (S3 N9 L)))) ?_
 simp only[l0,q8,uI];refine⟨Z9,λh=>(I7 a9m).symm,λh=>⟨⟨⟨0,N5 _,Z9⟩,⟨⟨S7,R _ _⟩,by simp only[z],rfl,trivial⟩,trivial⟩,λx=>⟨λC=>?_,λC=>?_⟩⟩⟩
 ·have hlt:x.1<L.length:=by omega
  have hx:=x.2;have o:=zP N9 L L.length dz hlt;have j:=M (x.1+1) hlt;have r:=B _ (dJ hlt);refine⟨Y6 hlt,⟨L.getD x.1 dz,left- (V4 N9 L L.length x.1:Int)⟩,⟨⟨⟨rfl,rfl,rfl,rfl,rfl,rfl,rfl,rfl,rfl,rfl,trivial⟩,rfl,trivial⟩,⟨M3,M3⟩,r⟩,λhr=>?_,λhr=>⟨Z9,⟨x.1+1,hlt,?_⟩,⟨⟨⟨S7,R _ _⟩,?_,M3,trivial⟩,trivial⟩,V5.ext_lt hlt⟩⟩
  ·simp only at hr;by_cases hq:(N9 (L.getD x.1 dz):Int)<=left- (V4 N9 L L.length x.1:Int)
   ·rw[C9 hq] at hr;omega
   ·exact(I7 Z9).symm
  ·simp only at hr;by_cases hq:(N9 (L.getD x.1 dz):Int)<=left- (V4 N9 L L.length x.1:Int)
   ·omega
   ·rw[I7 Z9] at hr
    omega
  ·simp only at hr ⊢;by_cases hq:(N9 (L.getD x.1 dz):Int)<=left- (V4 N9 L L.length x.1:Int)
   ·rw[C9 hq];omega
   ·rw[I7 Z9] at hr
    omega
 ·have hx:=x.2;have he:x.1=L.length:=by omega
  rw[he] at hx ⊢;exact(C9 hx.2).symm
def a92:Rl:=⟨Rec,λr=>[.agg r.ts],λr=>.agg r.ts,λ_=>True⟩
def c2f:Con:=.rel a92
theorem c0F(r:Rec)(h:
  r.e=r.e/\r.l=r.l/\r.t=r.t/\r.k=r.k/\r.p=r.p/\r.n=r.n/\r.g=r.g/\r.s=r.s/\r.b=r.b/\r.a=r.a/\True):
  V3 prog 175 [.agg r.ts] (.agg r.ts):=
 U6 gN func175 Z3 h
theorem b5R:GK 175 c2f:=gk func175<|λr _=>c0F r ⟨rfl,rfl,rfl,rfl,rfl,rfl,rfl,rfl,rfl,rfl,trivial⟩
def H4{α:Type}(d z:α)(L:List α)(i j:Nat):α:=if j<i then L.getD j d else z
def M8:Rec:=⟨0,0,0,0,0,0,0,0,[],[]⟩
def b5W(L:List Rec):Nat->Ann
 |0=>.one (Up L.length) (λx=>⟨[(0,zH L),(3,.osl 0 0 L.length),(4,Ji x.1)],[some (.arr true 0 10 L.length λj=>(H4 dz M8 L x.1 j).ts)]⟩) (λx=>L.length-x.1) [.arr 0] [.arr 0] (λ_=>Z3)
 |_=>.none
theorem E8{row:Nat->List T}{i k:Nat}{cs:List T}(h:cs.length=(row k).length):setRow row i 0 cs k=match Nat.beq k i with|true=>cs|false=>row k:=by
 rw[i5 Z9]
 cases Nat.beq k i
 ·rfl
 ·simp[h]
theorem b4J{α:Type}{d z:α}{L:List α}{i j:Nat}:H4 d z L (i+1) j=if j=i then L.getD j d else H4 d z L i j:=by
 unfold H4;by_cases h:j=i
 ·subst h;simp
 ·by_cases h2:j<i
  ·rw[if_pos Z9,if_neg h,if_pos h2]
  ·rw[if_neg Z9,if_neg h,if_neg h2]
theorem c2z{α:Type}(ts:α->List T)(m:Nat)(M:∀a,(ts a).length=m)(d z:α)(L:List α)(i j:Nat):
  setRow (λj=>ts (H4 d z L i j)) (0+(i:Int).toNat) 0 (ts (L.getD i d)) j=ts (H4 d z L (i+1) j):=by
 rw[E8 (by rw[M,M]),b4J,show 0+(i:Int).toNat=i by omega]
 by_cases I:j=i
 ·subst I;rw[if_pos rfl,show Nat.beq j j=true from by simp]
 ·rw[if_neg I,show Nat.beq j i=false from Bool.eq_false_iff.2 λh=>I (G0 h)]
def b0s:Rl:=⟨Rec,λr=>[.agg r.ts,.agg r.ts],λ_=>.bool true,λ_=>True⟩
def c0P:Con:=.rel b0s
theorem b57:GK 192 c0P:=gk func192<|by
 intro r _;refine U6 gN func192 Z3 (α:=((r.e !=r.e)=true->false=true)/\((r.e !=r.e)=false->((r.l !=r.l)=true->false=true)/\((r.l !=r.l)=false->((r.t !=r.t)=true->false=true)/\((r.t !=r.t)=false->((r.k !=r.k)=true->false=true)/\((r.k !=r.k)=false->((r.p !=r.p)=true->false=true)/\((r.p !=r.p)=false->((r.n !=r.n)=true->false=true)/\((r.n !=r.n)=false->((r.g !=r.g)=true->false=true)/\((r.g !=r.g)=false->((r.s !=r.s)=true->false=true)/\((r.s !=r.s)=false->((!r.b==r.b)=true->false=true)/\((!r.b==r.b)=false->((!r.a==r.a)=true->false=true)/\((!r.a==r.a)=false->true=true))))))))))) ?_
 simp
def a4u:Rl:=⟨List Rec,λL=>[zH L,zH L],λ_=>.bool true,λL=>L.length<=1048576⟩
def b9L:Con:=.rel a4u
def b73(L:List Rec):Nat->Ann
 |0=>.one (Up L.length) (λx=>⟨[(0,zH L),(1,zH L),(5,Ji x.1)],[]⟩) (λx=>L.length-x.1) [] [] (λ_=>Z3)
 |_=>.none
theorem b2O:GK 101 b9L:=gk func101<|by
 intro L f;have f:L.length<=1048576:=f;have r:∀(n:Nat) (row:Nat->List T),Z7 n row row:=λn row i hi=>rfl
 refine U6 (gC b57 gN) func101 (b73 L) (α:=let v:=(L.length:Int);let u:=(Z0 Y1 L L);br (v !=v) (false=true) ((∃(x:Up L.length),(u/\u/\0=(x.1:Int)/\True)/\True)/\∀(x:Up L.length),let z:=(x.1:Int);let q:=(L.getD z.toNat dz);bd (z<v) (W9 z L.length/\W9 z L.length/\∃(X:b0s.ι),let r:=(q.e=X.e/\q.l=X.l/\q.t=X.t/\q.k=X.k/\q.p=X.p/\q.n=X.n/\q.g=X.g/\q.s=X.s/\q.b=X.b/\q.a=X.a/\True);((r/\r/\True)/\True)/\br false (false=true) (Ri (z+1)/\∃(y:Up L.length),((u/\u/\z+1=(y.1:Int)/\True)/\True)/\Lt (L.length-y.1) (L.length-x.1))) (true=true))) ⟨λh=>L6,λ_=>⟨⟨⟨0,N5 _⟩,⟨⟨S7,r _ _⟩,⟨S7,r _ _⟩,rfl,trivial⟩,trivial⟩,λx=>⟨λC=>?_,λ_=>rfl⟩⟩⟩
 have d:=Y2 C;exact⟨Y6 d,Y6 d,L.getD x.1 dz,⟨⟨⟨rfl,rfl,rfl,rfl,rfl,rfl,rfl,rfl,rfl,rfl,trivial⟩,⟨rfl,rfl,rfl,rfl,rfl,rfl,rfl,rfl,rfl,rfl,trivial⟩,trivial⟩,trivial⟩,λh=>h,λ_=>⟨W4 d Z9,⟨x.1+1,d⟩,⟨⟨⟨S7,r _ _⟩,⟨S7,r _ _⟩,M3,trivial⟩,trivial⟩,V5.ext_lt d⟩⟩
end
end Go.Proofs.YtpdnnhnfongoeaaGreat
