/- A part of the proof. -/
import Derived.Test.YtcobnbfhkpbokaaGreatRows
import Derived.Test.YtcobnbfhkpbokaaGreatSS13
import Derived.Laws.BitsLemmas
namespace Go.Proofs.YtcobnbfhkpbokaaGreat
set_option maxRecDepth 100000
open Go.SS Go.Proofs.Tryz
variable{p:Prop}
noncomputable section
abbrev Ji(n:Int):T:=.int .i64 n
abbrev dz:=@default
theorem a9i(h:p:=by show(1:Int)<=(e.s.L.length:Int)+1;omega):p:=h
theorem a9D(h:p:=by show(e.s.L.length:Int)+1<=_;rw[n];exact Int.le_refl _):p:=h
def Y5:Nat->Ann:=λ_=>.none
theorem a87:prog.follows .mixedOrders=true:=J1
theorem leB{a b:Nat}(h:Nat.ble a b=true):a<=b:=yQ h
theorem c3B:B6 prog []:=λ_ h=>G3
theorem b4i:∀x ∈ ([]:I1),Q2 prog x.1:=λ_ h=>G3
theorem c0H{f:FuncId}{c:Con}{G:I1}(h:a5C prog f c)(k:B6 prog G):B6 prog ((f,c)::G):=λx X=>by
 rcases vT.1 X with rfl|X
 ·exact h
 ·exact k x X
theorem b0L{f:FuncId}{c:Con}{G:I1}(h:Q2 prog f)(k:∀x ∈ G,Q2 prog x.1):∀x ∈ (f,c)::G,Q2 prog x.1:=λx X=>by
 rcases vT.1 X with rfl|X
 ·exact h
 ·exact k x X
def GG(G:I1):Prop:=B6 prog G/\∀x ∈ G,Q2 prog x.1
theorem gN:GG []:=⟨c3B,b4i⟩
abbrev br(b:Bool)(p q:Prop):Prop:=(b=true->p)/\(b=false->q)
abbrev bd(c:Prop)[Decidable c](p q:Prop):Prop:=br (decide c) p q
abbrev Up(n:Nat):Type:={i:Nat//i<=n}
abbrev Ri(n:Int):Prop:=O1 .i64 n
abbrev tk(n:Nat)(l:List T)(k:Nat):List T:=List.take n (List.drop (k*n) l)
abbrev T8(p:Prop):Prop:=True/\True/\True/\True/\True/\True/\True/\True/\p
abbrev oo(p:Prop):Prop:=1=1/\1=1/\p
def xZ:List Lk:=[.box 0,.box 1]
def kP:List (List Lk):=[[.box 0,.arr 1,.arr 2,.arr 3,.arr 4,.arr 5,.arr 6,.arr 7,.arr 8,.cel 0 0,.cel 0 1,.cel 0 3,.cel 0 5,.cel 0 7,.cel 0 10,.cel 0 11,.cel 0 12]]
def c7X:List Lk:=[.box 0,.arr 1,.arr 2,.arr 3,.arr 4,.arr 5,.arr 6,.arr 7,.arr 8,.cel 0 0,.cel 0 1,.cel 0 3,.cel 0 5,.cel 0 7,.cel 0 10,.cel 0 11,.cel 0 12]
def dD:List Lk:=[.arr 0,.box 1]
def a5O:List Lk:=[.box 0,.arr 1]
def a8i:List Lk:=[.box 0,.arr 1,.arr 2,.arr 3,.arr 4,.arr 5,.arr 6,.arr 7,.arr 8,.box 9,.box 10,.box 11,.box 12,.cel 0 0,.cel 0 1,.cel 0 3,.cel 0 5,.cel 0 7,.cel 0 10,.cel 0 11,.cel 0 12]
def b8p:List Lk:=[.box 0,.at_ 7,.at_ 8]
def c4b:List (List Lk):=[[.arr 1],[.nilS 0 [] 0 2,.arr 0]]
def c7W:List Lk:=[.nilS 0 [] 0 2,.arr 0]
def c6I:List Lk:=[.arr 2,.arr 3,.arr 4,.arr 5,.arr 6]
def c1O:List Lk:=[.box 0,.arr 1,.arr 2,.arr 3,.arr 4,.arr 5,.arr 8]
def c2b:List Lk:=[.box 0,.arr 1,.arr 2,.arr 3,.arr 4,.arr 5,.arr 6]
def c1w:List Lk:=[.box 0,.arr 1,.arr 2,.arr 3,.arr 4,.arr 5]
def c1F:List Lk:=[.box 0,.arr 1,.arr 2,.arr 3,.arr 4,.arr 5,.arr 7,.arr 8]
def c10:List Lk:=[.box 0,.arr 1,.arr 2,.arr 3,.arr 4,.arr 5,.arr 2,.arr 3]
def c2q:List Lk:=[.box 0,.box 1,.box 5,.arr 2,.arr 3,.arr 4]
def c2f:List Lk:=[.box 0,.box 1,.box 2,.arr 3,.arr 4,.arr 5]
def c1T:List (List Lk):=[[.box 0,.arr 1,.arr 2,.arr 3,.arr 4,.arr 5,.arr 6,.arr 7,.arr 5],[.box 0,.arr 1,.arr 2,.arr 3,.arr 4,.arr 5,.arr 2,.arr 3,.arr 7],[.box 0,.arr 1,.arr 2,.arr 3,.arr 4,.arr 5,.arr 2,.arr 3,.arr 5]]
def c7U:List Lk:=[.box 0,.arr 1,.arr 2,.arr 3,.arr 4,.arr 5,.arr 6,.arr 7,.arr 5]
def c7S:List Lk:=[.box 0,.arr 1,.arr 2,.arr 3,.arr 4,.arr 5,.arr 2,.arr 3,.arr 7]
def c7V:List Lk:=[.box 0,.arr 1,.arr 2,.arr 3,.arr 4,.arr 5,.arr 2,.arr 3,.arr 5]
def c1U:List (List Lk):=[[.box 0,.arr 1,.arr 2,.arr 3,.arr 4,.arr 5,.arr 7,.arr 8,.arr 9]]
def c7T:List Lk:=[.box 0,.arr 1,.arr 2,.arr 3,.arr 4,.arr 5,.arr 7,.arr 8,.arr 9]
def c2l:List Lk:=[.box 0,.arr 1,.arr 2,.arr 3,.arr 4,.arr 5,.arr 6,.arr 7,.arr 8,.box 9,.at_ 5]
def GK(f:FuncId)(c:Con):Prop:=a5C prog f c/\Q2 prog f
theorem gk{f:FuncId}{c:Con}{fn:Func}(h:prog.funcs[f]? =some fn)(k:a5C prog f c)(a:(fn.name== "runtime.NumGoroutine")=false:=by kernel_rfl)(b:fn.body.isNone=false:=by kernel_rfl):GK f c:=⟨k,fn,h,a,b⟩
theorem gC{f:FuncId}{c:Con}{G:I1}(h:GK f c)(r:GG G):GG ((f,c)::G):=⟨c0H h.1 r.1,b0L h.2 r.2⟩
theorem R1{G:I1}{f:FuncId}{fn:Func}{args:List T}{res:T}(g:GG G)(F:prog.funcs[f]? =some fn)(A:Nat->Ann){α:Prop}(h:α)(B:fn.body=some (fn.body.getD .skip):=by kernel_rfl)(n:Nat.ble args.length fn.ntmps=true:=by kernel_rfl)(e:α=c5H prog G fn.ntmps fn.results.toList (fn.body.getD .skip) args res A:=by kernel_rfl):U5 prog f args res:=
 c6d a87 g.1 g.2 F B (leB n) A (Eq.mp e h)
theorem c1I{q r:Sort _}{a:q}{b:r}:a=a/\b=b:=⟨rfl,rfl⟩
theorem c2s{q:Sort _}{a:q}{n:Nat}{r:Nat->List T}:a=a/\Z7 n r r:=⟨rfl,λ_ _=>rfl⟩
theorem c7L{q0:Sort _}{a0:q0}{q1:Sort _}{a1:q1}:a0=a0/\a1=a1/\True:=⟨rfl,rfl,trivial⟩
theorem c7r:True/\True:=⟨trivial,trivial⟩
theorem r9{G:I1}{f:FuncId}{fn:Func}{args:List T}{H Hres:Y4}{res:T}(g:GG G)(F:prog.funcs[f]? =some fn)(A:Nat->Ann)(lk:List (List Lk)){α:Prop}(h:α)(B:fn.body=some (fn.body.getD .skip):=by kernel_rfl)(n:Nat.ble args.length fn.ntmps=true:=by kernel_rfl)(e:α=c2p prog G fn.ntmps fn.results.toList (fn.body.getD .skip) args H res Hres A lk:=by kernel_rfl):G8 prog f args H res Hres:=
 c3f a87 g.1 g.2 F B (leB n) A lk (Eq.mp e h)
theorem vcE{G:I1}{f:FuncId}{fn:Func}{args:List T}{H Hres:Y4}{bs:List Bool}{res:T}(g:GG G)(F:prog.funcs[f]? =some fn)(A:Nat->Ann){α:Prop}(h:α)(B:fn.body=some (fn.body.getD .skip):=by kernel_rfl)(n:Nat.ble args.length fn.ntmps=true:=by kernel_rfl)(e:α=c2m prog G fn.ntmps fn.results.toList (fn.body.getD .skip) args H bs res Hres A:=by kernel_rfl)(l:H.length=bs.length:=by rfl):G8 prog f args H res Hres:=
 c28 a87 g.1 g.2 F B (leB n) l A (Eq.mp e h)
abbrev Z3{α:Type}(row:List α->Nat->List T)(A B:List α):Prop:=A.length=B.length/\Z7 A.length (row A) (row B)
theorem Z1{n:Int}(h: -9223372036854775808<=n/\n<=9223372036854775807):O1 .i64 n:=by
 unfold O1;simp only[IntKind.min,IntKind.max,IntKind.bits,IntKind.signed];simp;omega
theorem c00(n:Int):O1 .i64 n↔(-9223372036854775808<=n/\n<=9223372036854775807):=by
 unfold O1;simp only[IntKind.min,IntKind.max,IntKind.bits,IntKind.signed];simp
theorem uW(x:UInt8):IntKind.i64.wrap (x.toNat:Int)=x.toNat:=by
 have:=x.toNat_lt;rw[IntKind.wrap_i64];omega
def o4(n:Int):Prop:= -1000000000000000<=n/\n<=1000000000000000
theorem a8K(h:p:=by unfold o4;dsimp only;omega):p:=h
def V8(n l hi:Int):Bool:=decide (l<=n)&&decide (n<=hi)
def rP:List T->Option (T×Option Prop)
 | [.int .i64 n,.int .i64 lo,.int .i64 hi]=>some (.bool (V8 n lo hi),none)
 |_=>none
def b3h:Con:=.pure rP
theorem b22(n l hi:Int)(h:
  (decide (l<=n)&&decide (n<=hi))=V8 n l hi):
  U5 prog 57 [Ji n,Ji l,Ji hi] (.bool (V8 n l hi)):=
 R1 gN func57 Y5 h
theorem P1:GK 57 b3h:=gk func57<|by
 intro args res p h hp;unfold rP at h;split at h
 ·simp only[W9,T6] at h;obtain⟨rfl,rfl⟩:=h;exact b22 _ _ _ rfl
 ·cases h
def c1g:Con:=.pure rP
theorem c0l(n l hi:Int)(h:
  (decide (l<=n)&&decide (n<=hi))=V8 n l hi):
  U5 prog 81 [Ji n,Ji l,Ji hi] (.bool (V8 n l hi)):=
 R1 gN func81 Y5 h
theorem C0:GK 81 c1g:=gk func81<|by
 intro args res p h hp;unfold rP at h;split at h
 ·simp only[W9,T6] at h;obtain⟨rfl,rfl⟩:=h;exact c0l _ _ _ rfl
 ·cases h
def a0y:List T->Option (T×Option Prop)
 | [.int .i64 n,.int .i64 m]=>some (.bool (decide (0<=n)&&decide (n<m)),some (o4 m))
 |_=>none
def b0O:Con:=.pure a0y
theorem b0R(n m:Int)(h:
  Ri (m-1)/\V8 n (0:Int) (m-1)=(decide (0<=n)&&decide (n<m))):
  U5 prog 102 [Ji n,Ji m] (.bool (decide (0<=n)&&decide (n<m))):=
 R1 (gC P1 gN) func102 Y5 h
theorem tV:GK 102 b0O:=gk func102<|by
 intro args res p h hp;unfold a0y at h;split at h
 ·simp only[W9,T6] at h;obtain⟨rfl,rfl⟩:=h;have hp:o4 _:=hp;unfold o4 at hp;refine b0R _ _ ⟨Z1 Z9,?_⟩
  unfold V8;congr 1
  exact decide_eq_decide.2 Z9
 ·cases h
def big(l:Bz)(n:Int):Bool:=decide (n>(l.length:Int))
def S7(l:Bz)(n:Int):Bz:=if big l n then List.replicate n.toNat 0 else l.take n.toNat
def Q3(l:Bz)(n:Int):Bz:=if big l n then l else l.drop n.toNat
def rdr(l:Bz)(fl:Bool):Option Ob:=some (.arr true 1000000 2 1 λ_=>[.bys l,.bool fl])
def r8(n:Int):Prop:=0<=n/\n<140737488355328
theorem jD{ty:TypeId}{row:Nat->List T}{l:Bz}{fl:Bool}(h:row 0=[.bys l,.bool fl]):b9P [some (.arr true ty 2 1 row)] [rdr l fl]:=
 ⟨.rows _ _ _ _ _ _ _ λi hi=>by(obtain rfl:i=0:=by omega);exact h,trivial⟩
def b4J:List T->Y4->Option (T×Y4×Option Prop)
 | [.ref 0 0 0,.int .i64 n],[some (.arr true _ 2 1 row)]=>match row 0 with
  | [.bys l,.bool fl]=>some (.bys (S7 l n),[rdr (Q3 l n) (fl||big l n)],some (r8 n))
  |_=>none
 |_,_=>none
def c5g:Con:=.eff b4J
theorem rD:GK 222 c5g:=gk func222<|by
 intro args H res H' p h hp;unfold b4J at h;split at h
 ·rename_i n ty row;split at h
  ·rename_i l fl hrow;simp only[W9,T6] at h;obtain⟨rfl,rfl,rfl⟩:=h;obtain⟨h0,h1⟩:r8 n:=hp;refine rU (jD hrow) ?_
   refine vcE gN func222 Y5 (bs:=[true]) (α:=let p:=(List.replicate n.toNat (0:UInt8));bd (n>(l.length:Int)) ((Nn n/\LeI n n/\mB 1 n.toNat 140737488355328/\Lt n.toNat 9223372036854775808)/\Le (0+n.toNat) p.length/\List.take n.toNat (List.drop 0 p)=S7 l n/\(oo (l=Q3 l n/\true=(fl||big l n)/\True))/\True) (lY n l.length/\lY n l.length/\List.take n.toNat l=S7 l n/\(oo (List.drop n.toNat l=Q3 l n/\fl=(fl||big l n)/\True))/\True)) ⟨λhb=>?_,λhb=>?_⟩
   ·have hbig:big l n=true:=hb;refine⟨⟨h0,Int.le_refl _,a5n,H3⟩,by unfold Le;simp,?_,⟨rfl,rfl,?_,?_,trivial⟩,trivial⟩
    ·simp[S7,hbig]
    ·simp[Q3,hbig]
    ·simp[hbig]
   ·have hbig:big l n=false:=hb;have hle:n<=l.length:=by simpa[big] using hbig
    refine⟨⟨h0,hle⟩,⟨h0,hle⟩,?_,⟨rfl,rfl,?_,?_,trivial⟩,trivial⟩
    ·simp[S7,hbig]
    ·simp[Q3,hbig]
    ·simp[hbig]
  ·cases h
 ·cases h
def numR(l:Bz):Int:=(l.getD 0 0).toNat
def c17:List T->Y4->Option (T×Y4×Option Prop)
 | [.ref 0 0 0],[some (.arr true _ 2 1 row)]=>match row 0 with
  | [.bys l,.bool fl]=>some (.int .i64 (numR l),[rdr (l.drop 1) (fl||l.isEmpty)],none)
  |_=>none
 |_,_=>none
def c7e:Con:=.eff c17
theorem eR:GK 201 c7e:=gk func201<|by
 intro args H res H' p h hp;unfold c17 at h;split at h
 ·rename_i ty row;split at h
  ·rename_i l fl hrow;simp only[W9,T6] at h;obtain⟨rfl,rfl,rfl⟩:=h;refine rU (jD hrow) ?_
   refine vcE (gC rD gN) func201 Y5 (bs:=[true]) (α:=r8 (1:Int)/\V3 (0:Int) (S7 l (1:Int)).length/\IntKind.i64.wrap (↑((S7 l (1:Int)).getD 0 (0:UInt8)).toNat:Int)=numR l/\(1=1/\1=1/\Q3 l 1=List.drop 1 l/\(fl||big l (1:Int))=(fl||l.isEmpty)/\True)/\True) ?_
   have e:∀x:UInt8,IntKind.i64.wrap (x.toNat:Int)=x.toNat:=λx=>by
    have:=x.toNat_lt;rw[IntKind.wrap_i64];omega
   have d:IntKind.i64.wrap 0=0:=U4
   cases l with
   |nil=>refine⟨⟨Z9,Z9⟩,by simp[V3,S7,big],?_,⟨rfl,rfl,?_,?_,trivial⟩,trivial⟩<;>simp[S7,Q3,big,numR,d]
   |cons a l=>
    have B:big (a::l) 1=false:=by simp[big];omega
    refine⟨⟨Z9,Z9⟩,by simp[V3,S7,B],?_,⟨rfl,rfl,?_,?_,trivial⟩,trivial⟩<;>simp[S7,Q3,B,numR,e]
  ·cases h
 ·cases h
def a2Y:List T->Option (T×Option Prop)
 | [.bref [.bys l,.bool fl]]=>some (.bool (!fl&&l.isEmpty),none)
 |_=>none
def b3O:Con:=.pure a2Y
theorem rK:GK 203 b3O:=gk func203<|by
 intro args res p h hp;unfold a2Y at h;split at h
 ·rename_i l fl;simp only[W9,T6] at h;obtain⟨rfl,rfl⟩:=h;refine R1 gN func203 Y5 (α:=(!fl&&(l.length:Int)==0)=(!fl&&l.isEmpty)) ?_
  cases l with
  |nil=>simp
  |cons a l=>
   have:((((a::l).length:Nat):Int)==0)=false:=by simp;omega
   rw[this];simp
 ·cases h
structure RdSt where
 l:Bz
 fl:Bool
 ok:Bool
 bef:Int
def RdSt.step(hi lsn:Int)(s:RdSt):RdSt:=
 ⟨(s.l.drop 1).drop 1,(s.fl||s.l.isEmpty)||(s.l.drop 1).isEmpty,s.ok&&V8 (numR s.l) (s.bef+1) hi&&V8 (numR (s.l.drop 1)) 1 (lsn-1),numR s.l⟩
def RdSt.go(hi lsn:Int)(s:RdSt):Nat->RdSt
 |0=>s
 |n+1=>RdSt.step hi lsn (RdSt.go hi lsn s n)
def uS(t o:Int)(l:Bz)(fl:Bool):RdSt:=⟨l.drop 1,fl||l.isEmpty,decide (numR l<=t),o-1⟩
def N3(t o hi lsn:Int)(l:Bz)(fl:Bool):RdSt:=RdSt.go hi lsn (uS t o l fl) (numR l).toNat
def Okb(l lsn:Int):Prop:= -1000000000000<=l/\l<=1000000000000/\ -1000000000000<=lsn/\lsn<=1000000000000
def jO:List T->Y4->Option (T×Y4×Option Prop)
 | [.ref 0 0 0,.int .i64 most,.int .i64 lo,.int .i64 hi,.int .i64 lsn],[some (.arr true _ 2 1 row)]=>match row 0 with
  | [.bys l,.bool fl]=>some (.bool ((N3 most lo hi lsn l fl).ok&& !(N3 most lo hi lsn l fl).fl),[rdr (N3 most lo hi lsn l fl).l (N3 most lo hi lsn l fl).fl],some (Okb lo lsn))
  |_=>none
 |_,_=>none
def a5k:Con:=.eff jO
def I25(t o hi lsn:Int)(l:Bz)(fl:Bool)(x:Up ((numR l).toNat)):Sy:=
 ⟨[(0,.ref 0 0 0),(3,Ji hi),(4,Ji lsn),(12,.bool (RdSt.go hi lsn (uS t o l fl) x.1).ok),(13,Ji (RdSt.go hi lsn (uS t o l fl) x.1).bef),(23,Ji (numR l)),(24,Ji x.1)],
  [rdr (RdSt.go hi lsn (uS t o l fl) x.1).l (RdSt.go hi lsn (uS t o l fl) x.1).fl]⟩
def A25(t o hi lsn:Int)(l:Bz)(fl:Bool):Nat->Ann
 |0=>.one (Up ((numR l).toNat)) (I25 t o hi lsn l fl) (λx=>(numR l).toNat-x.1) [.box 0] [.box 0] (λ_=>Y5)
 |_=>.none
theorem r6(l:Bz):0<=numR l/\numR l<=255:=by
 unfold numR;have:=(l.getD 0 0).toNat_lt;omega
theorem c2G(hi lsn o t:Int)(l:Bz)(fl:Bool)(h: -1000000000000<=o/\o<=1000000000000)(n:Nat):
  -2000000000000<=(RdSt.go hi lsn (uS t o l fl) n).bef/\(RdSt.go hi lsn (uS t o l fl) n).bef<=2000000000000:=by
 cases n with
 |zero=>simp only[RdSt.go,uS];omega
 |succ n=>
  simp only[RdSt.go,RdSt.step];have:=r6 (RdSt.go hi lsn (uS t o l fl) n).l;omega
theorem a04:GK 234 a5k:=gk func234<|by
 intro args H res H' p h hp;unfold jO at h;split at h
 ·rename_i most lo hi lsn ty row;split at h
  ·rename_i l fl hrow;simp only[W9,T6] at h;obtain⟨rfl,rfl,rfl⟩:=h;obtain⟨q1,q2,q3,q4⟩:Okb lo lsn:=hp;refine rU (jD hrow) ?_
   refine vcE (gC eR (gC P1 gN)) func234 (A25 most lo hi lsn l fl) (bs:=[true]) (α:=let u:=(N3 most lo hi lsn l fl);let q:=(uS most lo l fl);O1 .i64 (lo-1)/\(∃(x:Up ((numR l).toNat)),let r:=(RdSt.go hi lsn q x.1);((0=0/\0=0)/\hi=hi/\lsn=lsn/\decide (numR l<=most)=r.ok/\lo-1=r.bef/\numR l=numR l/\0=(x.1:Int)/\True)/\(1=1/\1=1/\List.drop 1 l=r.l/\(fl||l.isEmpty)=r.fl/\True)/\True)/\∀(x:Up ((numR l).toNat)),let w:=(x.1:Int);let p:=(RdSt.go hi lsn q x.1);let j:=(p.bef+1);let v:=(List.drop 1 p.l);(decide (w<numR l)=true->(p.ok=true->O1 .i64 j)/\((p.ok&&V8 (numR p.l) j hi)=true->O1 .i64 (lsn-1))/\O1 .i64 (w+1)/\∃(y:Up ((numR l).toNat)),let z:=(RdSt.go hi lsn q y.1);(((0=0/\0=0)/\hi=hi/\lsn=lsn/\(p.ok&&V8 (numR p.l) j hi&&V8 (numR v) (1:Int) (lsn-1))=z.ok/\numR p.l=z.bef/\numR l=numR l/\w+1=(y.1:Int)/\True)/\(1=1/\1=1/\List.drop 1 v=z.l/\(p.fl||p.l.isEmpty||v.isEmpty)=z.fl/\True)/\True)/\Lt ((numR l).toNat-y.1) ((numR l).toNat-x.1))/\(decide (w<numR l)=false->(p.ok&& ! p.fl)=(u.ok&& ! u.fl)/\(1=1/\1=1/\p.l=u.l/\p.fl=u.fl/\True)/\True)) ?_
   have n:=r6 l;refine⟨Z1 Z9,⟨⟨0,L8 _⟩,⟨⟨rfl,rfl⟩,rfl,rfl,rfl,rfl,rfl,rfl,trivial⟩,⟨rfl,rfl,rfl,rfl,trivial⟩,trivial⟩,λx=>⟨λhc=>⟨λ_=>Z1 ?_,λ_=>Z1 Z9,Z1 ?_,?_⟩,λhc=>?_⟩⟩
   ·have:=c2G hi lsn lo most l fl ⟨q1,q2⟩ x.1;omega
   ·have:=x.2;omega
   ·have hlt:(x.1:Int)<numR l:=B3 hc;refine⟨⟨x.1+1,Z9⟩,⟨⟨⟨rfl,rfl⟩,rfl,rfl,rfl,rfl,rfl,W6,trivial⟩,⟨rfl,rfl,rfl,rfl,trivial⟩,trivial⟩,?_⟩
    unfold Lt;simp only;omega
   ·have hge:¬ (x.1:Int)<numR l:=k5 hc;have hx:=x.2;have he:x.1=(numR l).toNat:=by omega
    unfold N3;rw[he];exact⟨rfl,⟨rfl,rfl,rfl,rfl,trivial⟩,trivial⟩
  ·cases h
 ·cases h
def a4E(a:Bz)(lsn:Int):Bool:=
 (N3 8 0 7 lsn a false).ok&& !(N3 8 0 7 lsn a false).fl&&((N3 10 1 60 lsn (N3 8 0 7 lsn a false).l (N3 8 0 7 lsn a false).fl).ok&& !(N3 10 1 60 lsn (N3 8 0 7 lsn a false).l (N3 8 0 7 lsn a false).fl).fl)&&
  (!(N3 10 1 60 lsn (N3 8 0 7 lsn a false).l (N3 8 0 7 lsn a false).fl).fl&&(N3 10 1 60 lsn (N3 8 0 7 lsn a false).l (N3 8 0 7 lsn a false).fl).l.isEmpty)
def a1E(a:Bz)(lsn:Int):Prop:=a.length<140737488355329/\ -1000000000000<=lsn/\lsn<=1000000000000
def aK:List T->Option (T×Option Prop)
 | [.str a,.int .i64 lsn]=>some (.bool (a4E a lsn),some (a1E a lsn))
 |_=>none
def b2S:Con:=.pure aK
theorem a7U:GK 194 b2S:=gk func194<|by
 intro args res p h hp;unfold aK at h;split at h
 ·rename_i a lsn;simp only[W9,T6] at h;obtain⟨rfl,rfl⟩:=h;obtain⟨f,d,e⟩:a1E a lsn:=hp;exact R1 (gC a04 (gC rK gN)) func194 Y5 (α:=let q:=(N3 (8:Int) (0:Int) (7:Int) lsn a false);let p:=(N3 (10:Int) (1:Int) (60:Int) lsn q.l q.fl);Lt a.length 140737488355329/\Okb (0:Int) lsn/\Okb (1:Int) lsn/\(q.ok&& ! q.fl&&(p.ok&& ! p.fl)&&(! p.fl&&p.l.isEmpty))=a4E a lsn) ⟨f,⟨Z9,Z9,d,e⟩,⟨Z9,Z9,d,e⟩,rfl⟩
 ·cases h
structure Rec where
 (e l t k p n g s:Int) (b a:Bz)
 deriving Inhabited
def Rec.ts(r:Rec):List T:=[Ji r.e,Ji r.l,Ji r.t,Ji r.k,Ji r.p,Ji r.n,Ji r.g,Ji r.s,.str r.b,.str r.a]
def D0(r:Rec):Prop:=
 1<=r.e/\r.e<=60/\1<=r.l/\r.l<=60/\1<=r.k/\r.k<=6/\0<=r.p/\r.p<=r.l-1/\0<=r.n/\r.n<=r.l-1/\0<=r.g/\r.g<=7/\0<=r.s/\r.s<=3/\r.b.length<=30/\
 (r.k=6->r.t=0/\r.p=0/\r.n=0/\r.g=0/\r.s=0/\r.b=[]/\a4E r.a r.l=true)/\
 (r.k≠6->1<=r.t/\r.t<=60/\r.a.length<=30/\(r.k≠2->r.k≠3->r.g=0/\r.s=0/\r.b=[]/\r.a=[])/\(r.k≠3->r.n=0)/\(r.k=3->r.b=[])/\(r.k=1↔r.p=0))
noncomputable instance(r:Rec):Decidable (D0 r):=Classical.propDecidable _
def O9(r:Rec):Bool:=decide (D0 r)
theorem R6(r:Rec):O9 r=true↔D0 r:=decide_eq_true_iff
theorem uZ{r:Rec}(h:¬D0 r):O9 r=false:=tH h
def b2q(l:Bz):Prop:=l.length<140737488355329
def fC:List T->Option (T×Option Prop)
 | [.agg [.int .i64 e,.int .i64 l,.int .i64 t,.int .i64 k,.int .i64 p,.int .i64 n,.int .i64 g,.int .i64 s,.str b,.str a]]=>some (.bool (O9 ⟨e,l,t,k,p,n,g,s,b,a⟩),some (b2q a))
 |_=>none
def a2Q:Con:=.pure fC
theorem a27(r:Rec)(x:Bool)(h:
let c:=((r.a.length:Int)>30);let f:=((r.b.length:Int)>30);let m:=(!V8 r.e (1:Int) (60:Int)|| !V8 r.l (1:Int) (60:Int));let j:=(true&&(true&&(true&&(true&&(true&&(r.n==0&&true))))));let w:=(decide (0<=r.g)&&decide (r.g<8)&&(decide (0<=r.s)&&decide (r.s<4)));let y:=(true&&(true&&(true&&(true&&(true&&(true&&(true&&(true&&(r.b==[]&&true)))))))));let v:=(true&&(true&&(true&&(true&&(true&&(r.n==0&&(r.g==0&&(r.s==0&&(r.b==[]&&true)))))))));let u:=(true&&(true&&(true&&(true&&(true&&(r.n==0&&(r.g==0&&(r.s==0&&(r.b==[]&&(r.a==[]&&true))))))))));let z:=(((V8 r.k (1:Int) (5:Int)&&u&&V8 r.t (1:Int) (60:Int))=true->Ri (r.l-1))/\(V8 r.k (1:Int) (5:Int)&&u&&V8 r.t (1:Int) (60:Int)&&V8 r.p (0:Int) (r.l-1)&&(r.p==0)==(r.k==1))=x);let q:=(o4 (8:Int)/\((decide (0<=r.g)&&decide (r.g<8))=true->o4 (4:Int))/\((! w||decide f||decide c)=false->(r.k==3)=true->Ri (r.l-1))/\br (! w||decide f||decide c||r.k==3&& !V8 r.n (0:Int) (r.l-1)) (false=x) (br (r.k==2) (((V8 r.k (1:Int) (5:Int)&&j&&V8 r.t (1:Int) (60:Int))=true->Ri (r.l-1))/\(V8 r.k (1:Int) (5:Int)&&j&&V8 r.t (1:Int) (60:Int)&&V8 r.p (0:Int) (r.l-1)&&(r.p==0)==(r.k==1))=x) (((V8 r.k (1:Int) (5:Int)&&y&&V8 r.t (1:Int) (60:Int))=true->Ri (r.l-1))/\(V8 r.k (1:Int) (5:Int)&&y&&V8 r.t (1:Int) (60:Int)&&V8 r.p (0:Int) (r.l-1)&&(r.p==0)==(r.k==1))=x)));  (m=true->false=x)/\(m=false->br (r.k==6) (((r.t==0&&r.p==0&&v)=true->a1E r.a r.l)/\(r.t==0&&r.p==0&&v&&a4E r.a r.l)=x) (br (r.k==2) (br (r.k==2) q z) (br (r.k==3) q z)))):
  U5 prog 129 [.agg r.ts] (.bool x):=
 R1 (gC a7U (gC P1 (gC tV gN))) func129 Y5 h
theorem c4y{p k a b:Int}:((p==a)=(k==b))↔(k=b↔p=a):=by
 rw[Bool.eq_iff_iff,beq_iff_eq,beq_iff_eq];exact Iff.comm
theorem rG{a b:Bool}(h:a=true↔b=true):a=b:=by cases a<;>cases b<;>simp_all
theorem tW:GK 129 a2Q:=gk func129<|by
 intro args res p h hp;unfold fC at h;split at h
 ·rename_i e l t k p n g s b a;simp only[W9,T6] at h;obtain⟨rfl,rfl⟩:=h;have hp:a.length<140737488355329:=hp;refine a27 ⟨e,l,t,k,p,n,g,s,b,a⟩ _ ?_
  simp only[Rec.e,Rec.l,Rec.t,Rec.k,Rec.p,Rec.n,Rec.g,Rec.s,Rec.b,Rec.a];have s8:o4 8:=by unfold o4;omega
  have s4:o4 4:=by unfold o4;omega
  refine⟨λh=>?_,λh=>?_⟩
  ·refine(uZ ?_).symm
   simp only[qY,wG,V8,Bool.and_eq_false_iff,qW] at h;unfold D0;simp only;omega
  simp only[zY,yL,V8,M1,g7] at h;have hr:O1 .i64 (l-1):=Z1 Z9
  have hs:a1E a l:=⟨hp,Z9,Z9⟩
  by_cases h6:k=6
  ·subst h6;refine⟨λ_=>⟨λ_=>hs,rG ?_⟩,λh=>I8⟩
   rw[R6];simp only[D0,g7,M1,beq_iff_eq,true_and,and_true];constructor
   ·rintro⟨⟨⟨rfl,rfl⟩,rfl,rfl,rfl,rfl⟩,C⟩;simp[C];omega
   ·rintro⟨_,_,_,_,_,_,_,_,_,_,_,_,_,_,_,hh,_⟩;obtain⟨rfl,rfl,rfl,rfl,rfl,rfl,C⟩:=hh trivial;simp[C]
  refine⟨λh=>absurd F6 h6,λ_=>?_⟩
  by_cases h2:k=2
  ·subst h2;refine⟨λ_=>⟨λ_=>⟨s8,λ_=>s4,λ_ h=>I8,λhb=>?_,λhb=>⟨λ_=>⟨λ_=>hr,rG ?_⟩,λh=>I8⟩⟩,λh=>I8⟩,λh=>I8⟩
   ·refine(uZ ?_).symm
    simp only[qY,wG,V8,Bool.and_eq_false_iff,qW,g7,M1] at hb;unfold D0;simp only;simp at hb;omega
   ·simp[V8] at hb;rw[R6];simp only[D0,g7,M1,beq_iff_eq,true_and,and_true,V8,c4y];simp;omega
  by_cases h3:k=3
  ·subst h3;refine⟨λh=>I8,λ_=>⟨λ_=>⟨s8,λ_=>s4,λ_ _=>hr,λhb=>?_,λhb=>⟨λh=>I8,λ_=>⟨λ_=>hr,rG ?_⟩⟩⟩,λh=>I8⟩⟩
   ·refine(uZ ?_).symm
    unfold D0;simp only;simp[V8] at hb;omega
   ·simp[V8] at hb;rw[R6];simp only[D0,g7,M1,beq_iff_eq,true_and,and_true,V8,c4y];by_cases hbn:b=[]
    ·subst hbn;simp;omega
    ·simp[hbn]
  ·refine⟨λh=>absurd F6 h2,λ_=>⟨λh=>absurd F6 h3,λ_=>⟨λ_=>hr,rG ?_⟩⟩⟩
   rw[R6];simp only[D0,g7,M1,beq_iff_eq,true_and,and_true,V8,c4y];constructor
   ·intro hh;have hb:b.length=0:=by simp[hh.1.1.1.2.2.2.2.1]
    have X:a.length=0:=by simp[hh.1.1.1.2.2.2.2.2]
    simp[h2,h3,h6,hh.1.1.1.2.2.2.2.1,hh.1.1.1.2.2.2.2.2] at hh ⊢;omega
   ·intro hh;obtain⟨V,W,M,O,N,U,I,z,R,d,i,u,v,A,j,_,hh⟩:=hh;obtain⟨F,b2,L,r,B,J,Q⟩:=hh h6;obtain⟨f,c2,o,x⟩:=r h2 h3;have q:=B h3;simp[f,c2,o,x,q];omega
 ·cases h
def S5(n:Nat)(p:Nat->Bool):Int:=match(List.range n).find? p with|some i=>(i:Int)|none=> -1
theorem O8{n:Nat}{p:Nat->Bool}{i:Nat}(hi:i<n)(hp:p i=true)(h:∀j,j<i->p j=false):S5 n p=i:=by
 have:(List.range n).find? p=some i:=by
  rw[List.find?_range_eq_some]
  exact⟨hp,List.mem_range.2 hi,λj J=>by simp[h j J]⟩
 unfold S5;rw[this]
theorem L5{n:Nat}{p:Nat->Bool}(h:∀j,j<n->p j=false):S5 n p= -1:=by
 have:(List.range n).find? p=none:=by
  rw[List.find?_range_eq_none]
  intro j J;simp[h j J]
 unfold S5;rw[this]
def anyI(n:Nat)(p:Nat->Bool):Bool:=(List.range n).any p
theorem C5(n:Nat)(p:Nat->Bool):decide (S5 n p≥0)=anyI n p:=by
 unfold S5 anyI;cases h:(List.range n).find? p with
 |none=>
  rw[List.find?_eq_none] at h
  have:(List.range n).any p=false:=by
   rw[List.any_eq_false];exact h
  rw[this];rfl
 |some i=>
  have d:=List.find?_some h
  have e:=List.mem_of_find?_eq_some h
  have:(List.range n).any p=true:=List.any_eq_true.2 ⟨i,e,d⟩;rw[this];simp
theorem R2{n:Nat}{p:Nat->Bool}:anyI n p=true↔∃i,i<n/\p i=true:=by
 unfold anyI;simp
def V2(n:Nat)(p:Nat->Bool):Type:={i:Nat//i<=n/\∀j,j<i->p j=false}
theorem V2.ext_lt{n:Nat}{i:Nat}(h:i<n):Lt (n- (i+1)) (n-i):=by unfold Lt;omega
theorem X3{i n:Nat}(h:decide ((i:Int)<(n:Int))=false):n<=i:=F6
theorem Y0{i n:Nat}(h:decide ((i:Int)<(n:Int))=true):i<n:=F6
theorem X9{i n:Nat}(h:i<n):V3 (i:Int) n:=⟨Z9,Z9⟩
theorem V4{i n:Nat}(h:i<n)(N:n<1000000000000000):O1 .i64 ((i:Int)+1):=Z1 Z9
def E7{n:Nat}{p:Nat->Bool}:V2 n p:=⟨0,L8 _,λj h=>absurd h (J2 j)⟩
def V2.succ{n:Nat}{p:Nat->Bool}(x:V2 n p)(h:x.1<n)(hp:p x.1=false):V2 n p:=
 ⟨x.1+1,h,λj J=>by rcases Nat.lt_or_ge j x.1 with h1|h1;exact x.2.2 j h1;(obtain rfl:j=x.1:=by omega);exact hp⟩
theorem J0(h:p:=by simp only[V2.succ];omega):p:=h
def Y6(L:List Rec)(i:Nat):List T:=(L.getD i dz).ts
def pB(L:List Rec):T:=.sl 10 L.length (Y6 L)
def yR(r:Rec):Bool:=decide (r.l>60)
def qK:List T->Option (T×Option Prop)
 | [.agg [.int .i64 e,.int .i64 l,.int .i64 t,.int .i64 k,.int .i64 p,.int .i64 n,.int .i64 g,.int .i64 s,.str b,.str a]]=>some (.bool (yR ⟨e,l,t,k,p,n,g,s,b,a⟩),none)
 |_=>none
def cJ:Con:=.pure qK
theorem bG(r:Rec)(h:
  decide (r.l>60)=yR r):
  U5 prog 167 [.agg r.ts] (.bool (yR r)):=
 R1 gN func167 Y5 h
theorem cW:GK 167 cJ:=gk func167<|by
 intro args res p h hp;unfold qK at h;split at h
 ·simp only[W9,T6] at h;obtain⟨rfl,rfl⟩:=h;exact bG ⟨_,_,_,_,_,_,_,_,_,_⟩ rfl
 ·cases h
def fnT(f:Nat):T:=.v (.func (.func f) #[] #[])
def M3(n:Nat):Prop:=n<1000000000000
theorem vY(h:p:=by unfold M3;dsimp only;omega):p:=h
theorem pX(h:p:=by unfold M3;omega):p:=h
def a4R:Rl:=⟨List Rec,λL=>[pB L,fnT 167],λL=>.int .i64 (S5 L.length λi=>yR (L.getD i dz)),λL=>M3 L.length⟩
def b5s:Con:=.rel a4R
def b4O(L:List Rec):Nat->Ann
 |0=>.one (V2 L.length λi=>yR (L.getD i dz)) (λx=>⟨[(0,pB L),(1,fnT 167),(7,Ji L.length),(8,Ji x.1)],[]⟩) (λx=>L.length-x.1) [] [] (λ_=>Y5)
 |_=>.none
theorem b1I:GK 221 b5s:=gk func221<|by
 intro L d;have d:L.length<1000000000000:=d;refine R1 (gC cW gN) func221 (b4O L) (α:=let u:=(Fn.func 167);let r:=(L.length:Int);(∃(x:V2 L.length λ(i:Nat)=>yR (L.getD i dz)),((Z3 Y6 L L)/\Value.func u #[] #[]=Value.func u #[] #[]/\r=r/\0=(x.1:Int)/\True)/\True)/\∀(x:V2 L.length λ(i:Nat)=>yR (L.getD i dz)),let z:=(x.1:Int);let q:=(L.getD z.toNat dz);bd (z<r) (V3 z L.length/\br (yR (Rec.mk q.e q.l q.t q.k q.p q.n q.g q.s q.b q.a)) (z=S5 L.length λ(i:Nat)=>yR (L.getD i dz)) (Ri (z+1)/\∃(y:V2 L.length λ(i:Nat)=>yR (L.getD i dz)),(((Z3 Y6 L L)/\Value.func u #[] #[]=Value.func u #[] #[]/\r=r/\z+1=(y.1:Int)/\True)/\True)/\Lt (L.length-y.1) (L.length-x.1))) ((-1:Int)=S5 L.length λ(i:Nat)=>yR (L.getD i dz))) ⟨⟨E7,⟨⟨rfl,λ_ _=>rfl⟩,rfl,rfl,rfl,trivial⟩,trivial⟩,λx=>⟨λC=>?_,λC=>?_⟩⟩
 ·have h:=Y0 C;refine⟨X9 h,λhp=>(O8 h hp x.2.2).symm,λhp=>⟨V4 h Z9,x.succ h hp,⟨⟨⟨rfl,λ_ _=>rfl⟩,rfl,rfl,rfl,trivial⟩,trivial⟩,V2.ext_lt h⟩⟩
 ·have f:=X3 C;exact(L5 λj J=>x.2.2 j Z9).symm
def a5F:Rl:=⟨List Rec,λL=>[pB L,fnT 167],λL=>.bool (anyI L.length λi=>yR (L.getD i dz)),λL=>M3 L.length⟩
def b33:Con:=.rel a5F
theorem b1C:GK 166 b33:=gk func166<|by
 intro L h;exact R1 (gC b1I gN) func166 Y5 (α:=∃(x:a4R.ι),(((Z3 Y6 L x)/\Value.func (Fn.func 167) #[] #[]=Value.func (Fn.func 167) #[] #[]/\True)/\M3 (x.length))/\decide ((S5 (x.length) λ(i:Nat)=>yR (List.getD x i dz))≥(0:Int))=anyI L.length λ(i:Nat)=>yR (L.getD i dz)) ⟨L,⟨⟨⟨rfl,λ_ _=>rfl⟩,rfl,trivial⟩,h⟩,C5 _ _⟩
def a2x(L:List Rec)(i:Nat):Bool:= !O9 (L.getD i dz)||(L.getD i dz).l !=(i:Int)+1
def zO(L:List Rec):Bool:= !anyI L.length (a2x L)
def c0s(L:List Rec):Prop:=L.length<1000000000000/\∀r ∈ L,r.a.length<140737488355329
def mH:Rl:=⟨List Rec,λL=>[pB L],λL=>.bool (zO L),c0s⟩
def a1A:Con:=.rel mH
def a1Z(L:List Rec):Nat->Ann
 |0=>.one (V2 L.length (a2x L)) (λx=>⟨[(0,pB L),(5,pB L),(6,Ji L.length),(7,Ji x.1)],[]⟩) (λx=>L.length-x.1) [] [] (λ_=>Y5)
 |_=>.none
theorem G9{L:List Rec}:zO L=true↔∀i,i<L.length->O9 (L.getD i dz)=true/\(L.getD i dz).l=(i:Int)+1:=by
 unfold zO;rw[wG,Bool.eq_false_iff,ne_eq,R2];constructor
 ·intro h i hi;have:¬a2x L i=true:=λhb=>h ⟨i,hi,hb⟩
  simpa[a2x] using this
 ·rintro h ⟨i,hi,hb⟩;have:=h i hi;unfold a2x at hb;rw[this.1,this.2] at hb;simp at hb
theorem a5a{L:List Rec}{i:Nat}(h:i<L.length):L.getD i dz ∈ L:=by
 rw[Q8,I9 h]
 exact List.getElem_mem h
theorem aZ:GK 99 a1A:=gk func99<|by
 intro L o;obtain⟨N,hb⟩:c0s L:=o;refine R1 (gC tW (gC b1C gN)) func99 (a1Z L) (α:=let v:=(Z3 Y6 L L);let z:=(L.length:Int);(∃(x:V2 L.length (a2x L)),(v/\v/\z=z/\0=(x.1:Int)/\True)/\True)/\∀(x:V2 L.length (a2x L)),let r:=(x.1:Int);let q:=(L.getD r.toNat dz);let u:=(Rec.mk q.e q.l q.t q.k q.p q.n q.g q.s q.b q.a);bd (r<z) (V3 r L.length/\b2q q.a/\((!O9 u)=false->Ri (r+1))/\br (!O9 u||q.l !=r+1) (false=zO L) (Ri (r+1)/\∃(y:V2 L.length (a2x L)),((v/\v/\z=z/\r+1=(y.1:Int)/\True)/\True)/\Lt (L.length-y.1) (L.length-x.1))) (∃(x:a5F.ι),(((Z3 Y6 L x)/\Value.func (Fn.func 167) #[] #[]=Value.func (Fn.func 167) #[] #[]/\True)/\M3 (x.length))/\(!anyI (x.length) λ(i:Nat)=>yR (List.getD x i dz))=zO L)) ⟨⟨E7,⟨⟨rfl,λ_ _=>rfl⟩,⟨rfl,λ_ _=>rfl⟩,rfl,rfl,trivial⟩,trivial⟩,λx=>⟨λhc=>?_,λhc=>?_⟩⟩
 ·have hlt:=Y0 hc;refine⟨X9 hlt,hb _ (a5a hlt),λ_=>V4 hlt Z9,λhp=>?_,λhp=>⟨V4 hlt Z9,x.succ hlt hp,⟨⟨⟨rfl,λ_ _=>rfl⟩,⟨rfl,λ_ _=>rfl⟩,rfl,rfl,trivial⟩,trivial⟩,V2.ext_lt hlt⟩⟩
  have:anyI L.length (a2x L)=true:=R2.2 ⟨x.1,hlt,hp⟩;simp[zO,this]
 ·have j:=X3 hc;have d:zO L=true:=by
   unfold zO;rw[wG,Bool.eq_false_iff,ne_eq,R2];rintro⟨i,hi,h⟩;rw[x.2.2 i Z9] at h
   cases h
  refine⟨L,⟨⟨⟨rfl,λ_ _=>rfl⟩,rfl,trivial⟩,N⟩,?_⟩
  rw[d,wG,Bool.eq_false_iff,ne_eq,R2];rintro⟨i,hi,h⟩;have q:=(R6 _).1 (G9.1 d i hi).1;obtain⟨_,_,_,f,_⟩:=q;have:¬ (L.getD i dz).l>60:=Z9
  simp[yR] at h;simp at this;omega
def r7(a:Bz)(i:Nat):Int:=((a.getD i 0).toNat:Int)
def W8(a:Bz)(A:Nat)(r:Nat):List T:=[Ji (r7 a (A+2*r)),Ji (r7 a (A+2*r+1))]
def S6(a:Bz):Nat:=(r7 a 0).toNat
def k4(a:Bz):Nat:=(r7 a (1+2*S6 a)).toNat
def wA(a:Bz):Nat:=if 0<a.length/\1+2*S6 a<=a.length then S6 a else 0
def zF(a:Bz):Nat:=if 0<a.length/\1+2*S6 a<a.length/\2+2*S6 a+2*k4 a<=a.length then k4 a else 0
def uI(a:Bz):Bool:=decide (0<a.length/\1+2*S6 a<a.length/\2+2*S6 a+2*k4 a=a.length)
def c7f(a:Bz):T:=.tup [.sl 2 (wA a) (W8 a 1),.sl 2 (zF a) (W8 a (2+2*S6 a)),.bool (uI a)]
def b8N(n:Nat)(row:Nat->List T):Option Ob:=some (.arr true 0 2 n row)
def c2A(e d n N:Nat):Option Ob:=some (.arr false 0 1 2 λr=>match r with|0=>[.osl e 0 n]|_=>[.osl d 0 N])
def a4l(a:Bz):Nat->Ann
 |0=>.unr 3 (λm=>fun
  |1=>match m with
   |2=>.one (Up (S6 a)) (λx=>⟨[(0,.str a),(5,.osl 2 0 2),(6,Ji (1+2*x.1)),(7,Ji 0),(8,Ji (S6 a)),(9,Ji x.1)],[b8N x.1 (W8 a 1),b8N 0 (W8 a 0),c2A 0 1 x.1 0]⟩) (λx=>S6 a-x.1) [.arr 0,.arr 1,.ren 2] [.arr 4,.arr 1,.ren 2] (λ_=>Y5)
   |_=>.one (Up (k4 a)) (λx=>⟨[(0,.str a),(5,.osl 2 0 2),(6,Ji (2+2*S6 a+2*x.1)),(7,Ji 1),(8,Ji (k4 a)),(9,Ji x.1)],[b8N (S6 a) (W8 a 1),b8N x.1 (W8 a (2+2*S6 a)),c2A 0 1 (S6 a) x.1]⟩) (λx=>k4 a-x.1) [.arr 0,.arr 1,.ren 2] [.arr 0,.arr 4,.ren 2] (λ_=>Y5)
  |_=>.none)
 |_=>.none
def jS:List T->Option (T×Option Prop)
 | [.str a]=>some (c7f a,some (M3 a.length))
 |_=>none
def a3g:Con:=.pure jS
theorem P4{row row':Nat->List T}{n i:Nat}(h:i<n):X6 row n row' i=row i:=by
 unfold X6;rw[show Nat.blt i n=true from by simp[Nat.blt];omega]
theorem P5{row row':Nat->List T}{n i:Nat}(h:n<=i):X6 row n row' i=row' (i-n):=by
 unfold X6;rw[show Nat.blt i n=false from Bool.eq_false_iff.2 λB=>by have:=yQ B;omega]
theorem a08:GK 244 a3g:=gk func244<|by
 intro args res p h hp;unfold jS at h;split at h
 case h_2=>cases h
 rename_i a;simp only[W9,T6] at h;obtain⟨rfl,rfl⟩:=h;have hp:a.length<1000000000000:=hp;have h0:((a.getD 0 0).toNat:Int)=(S6 a:Int):=by simp[S6,r7]
 have h1:((a.getD (1+2*S6 a) 0).toNat:Int)=(k4 a:Int):=by simp[k4,r7]
 have b0:S6 a<=255:=by have:=(a.getD 0 0).toNat_lt;omega
 have b1:k4 a<=255:=by have:=(a.getD (1+2*S6 a) 0).toNat_lt;omega
 have t0:(1+2*(S6 a:Int)).toNat=1+2*S6 a:=Z9
 have none0:∀row row':Nat->List T,Z7 0 row row':=λrow row' i hi=>absurd hi (J2 i)
 have refl0:∀(n:Nat) (row:Nat->List T),Z7 n row row:=λn row i hi=>rfl
 have aY:∀(at0 i:Nat),Z7 (i+1) (X6 (W8 a at0) i λk=>List.take 2 (List.drop (k*2) [Ji ((a.getD (at0+2*i) 0).toNat:Int),Ji ((a.getD (at0+2*i+1) 0).toNat:Int)])) (W8 a at0):=by
  intro at0 i j hj;by_cases hlt:j<i
  ·rw[P4 hlt]
  ·obtain rfl:j=i:=by omega
   rw[P5 (U9 _),j_i];rfl
 have two:∀{ρ:Nat->Option Nat} {row row':Nat->List T},N5 (R8 ρ 6) (row' 0)=some (row 0)->N5 (R8 ρ 6) (row' 1)=some (row 1)->wO ρ 2 row row':=by
  intro ρ row row' e0 e1 i hi;rcases Nat.lt_or_ge i 1 with h|h
  ·obtain rfl:i=0:=by omega
   exact e0
  ·obtain rfl:i=1:=by omega
   exact e1
 refine R1 gN func244 (a4l a) (α:=(true=true->(decide ((0:Int)≥(a.length:Int))=true->V3 (0:Int) 2/\Lt 0 2/\V3 (1:Int) 2/\Lt 1 2/\(Le 0 0/\Le 0 0)/\(0=wA a/\Z7 0 (tk 2 []) (W8 a 1))/\(0=zF a/\Z7 0 (tk 2 []) (W8 a (2+2*S6 a)))/\false=uI a/\True)/\(decide ((0:Int)≥(a.length:Int))=false->V3 (0:Int) a.length/\O1 .i64 1/\O1 .i64 ((2:Int)*IntKind.i64.wrap (↑(a.getD 0 (0:UInt8)).toNat:Int))/\O1 .i64 ((1:Int)+2*IntKind.i64.wrap (↑(a.getD 0 (0:UInt8)).toNat:Int))/\(decide ((1:Int)+2*IntKind.i64.wrap (↑(a.getD 0 (0:UInt8)).toNat:Int)>(a.length:Int))=true->V3 (0:Int) 2/\Lt 0 2/\V3 (1:Int) 2/\Lt 1 2/\(Le 0 0/\Le 0 0)/\(0=wA a/\Z7 0 (tk 2 []) (W8 a 1))/\(0=zF a/\Z7 0 (tk 2 []) (W8 a (2+2*S6 a)))/\false=uI a/\True)/\(decide ((1:Int)+2*IntKind.i64.wrap (↑(a.getD 0 (0:UInt8)).toNat:Int)>(a.length:Int))=false->(∃(x:Up (S6 a)),(a=a/\(0=0/\2=2)/\(1:Int)=1+2*(x.1:Int)/\(0:Int)=0/\IntKind.i64.wrap (↑(a.getD 0 (0:UInt8)).toNat:Int)=(↑(S6 a):Int)/\0=(x.1:Int)/\True)/\(0=x.1/\Z7 0 (tk 2 []) (W8 a 1))/\(0=0/\Z7 0 (tk 2 []) (W8 a 0))/\(2=2/\wO (m8 [some 0,some 1,some 2]) 2 (tk 1 [T.osl 0 0 0,T.osl 1 0 0]) λ(r:Nat)=>match r with|0=>[T.osl 0 0 x.1]|x=>[T.osl 1 0 0])/\True)/\∀(x:Up (S6 a)),(decide ((x.1:Int)<(↑(S6 a):Int))=true->V3 (0:Int) 2/\Lt 0 2/\V3 ((1:Int)+2*(x.1:Int)) a.length/\O1 .i64 ((1:Int)+2*(x.1:Int)+1)/\V3 ((1:Int)+2*(x.1:Int)+1) a.length/\(Le 1 1/\Le x.1 x.1/\U2 x.1 1 16)/\V3 (0:Int) 2/\Lt 0 2/\O1 .i64 ((1:Int)+2*(x.1:Int)+2)/\O1 .i64 ((x.1:Int)+1)/\∃(y:Up (S6 a)),((a=a/\(0=0/\2=2)/\(1:Int)+2*(x.1:Int)+2=1+2*(y.1:Int)/\(0:Int)=0/\(↑(S6 a):Int)=(↑(S6 a):Int)/\(x.1:Int)+1=(y.1:Int)/\True)/\(x.1+1=y.1/\Z7 (x.1+1) (X6 (W8 a 1) x.1 (tk 2 [Ji (IntKind.i64.wrap (↑(a.getD ((1:Int)+2*(x.1:Int)).toNat (0:UInt8)).toNat:Int)),Ji (IntKind.i64.wrap (↑(a.getD ((1:Int)+2*(x.1:Int)+1).toNat (0:UInt8)).toNat:Int))])) (W8 a 1))/\(0=0/\Z7 0 (W8 a 0) (W8 a 0))/\(2=2/\wO (m8 [some 4,some 1,some 2]) 2 (setRow (λ(r:Nat)=>match r with|0=>[T.osl 0 0 x.1]|x=>[T.osl 1 0 0]) 0 0 [T.osl 4 0 (x.1+1)]) λ(r:Nat)=>match r with|0=>[T.osl 0 0 y.1]|x=>[T.osl 1 0 0])/\True)/\Lt (S6 a-y.1) (S6 a-x.1))/\(decide ((x.1:Int)<(↑(S6 a):Int))=false->O1 .i64 1/\(true=true->(decide ((1:Int)+2*(x.1:Int)≥(a.length:Int))=true->V3 (0:Int) 2/\Lt 0 2/\V3 (1:Int) 2/\Lt 1 2/\(Le (0+x.1) x.1/\Le 0 0)/\(x.1=wA a/\Z7 x.1 (W8 a 1) (W8 a 1))/\(0=zF a/\Z7 0 (W8 a 0) (W8 a (2+2*S6 a)))/\false=uI a/\True)/\(decide ((1:Int)+2*(x.1:Int)≥(a.length:Int))=false->V3 ((1:Int)+2*(x.1:Int)) a.length/\O1 .i64 ((1:Int)+2*(x.1:Int)+1)/\O1 .i64 ((2:Int)*IntKind.i64.wrap (↑(a.getD ((1:Int)+2*(x.1:Int)).toNat (0:UInt8)).toNat:Int))/\O1 .i64 ((1:Int)+2*(x.1:Int)+1+2*IntKind.i64.wrap (↑(a.getD ((1:Int)+2*(x.1:Int)).toNat (0:UInt8)).toNat:Int))/\(decide ((1:Int)+2*(x.1:Int)+1+2*IntKind.i64.wrap (↑(a.getD ((1:Int)+2*(x.1:Int)).toNat (0:UInt8)).toNat:Int)>(a.length:Int))=true->V3 (0:Int) 2/\Lt 0 2/\V3 (1:Int) 2/\Lt 1 2/\(Le (0+x.1) x.1/\Le 0 0)/\(x.1=wA a/\Z7 x.1 (W8 a 1) (W8 a 1))/\(0=zF a/\Z7 0 (W8 a 0) (W8 a (2+2*S6 a)))/\false=uI a/\True)/\(decide ((1:Int)+2*(x.1:Int)+1+2*IntKind.i64.wrap (↑(a.getD ((1:Int)+2*(x.1:Int)).toNat (0:UInt8)).toNat:Int)>(a.length:Int))=false->(∃(x_1:Up (k4 a)),(a=a/\(0=0/\2=2)/\(1:Int)+2*(x.1:Int)+1=2+2*(↑(S6 a):Int)+2*(x_1.val:Int)/\(1:Int)=1/\IntKind.i64.wrap (↑(a.getD ((1:Int)+2*(x.1:Int)).toNat (0:UInt8)).toNat:Int)=(↑(k4 a):Int)/\0=(x_1.val:Int)/\True)/\(x.1=S6 a/\Z7 x.1 (W8 a 1) (W8 a 1))/\(0=x_1.val/\Z7 0 (W8 a 0) (W8 a (2+2*S6 a)))/\(2=2/\wO (m8 [some 0,some 1,some 2]) 2 (λ(r:Nat)=>match r with|0=>[T.osl 0 0 x.1]|x=>[T.osl 1 0 0]) λ(r:Nat)=>match r with|0=>[T.osl 0 0 (S6 a)]|x=>[T.osl 1 0 x_1.val])/\True)/\∀(x:Up (k4 a)),(decide ((x.1:Int)<(↑(k4 a):Int))=true->V3 (1:Int) 2/\Lt 1 2/\V3 ((2:Int)+2*(↑(S6 a):Int)+2*(x.1:Int)) a.length/\O1 .i64 ((2:Int)+2*(↑(S6 a):Int)+2*(x.1:Int)+1)/\V3 ((2:Int)+2*(↑(S6 a):Int)+2*(x.1:Int)+1) a.length/\(Le 1 1/\Le x.1 x.1/\U2 x.1 1 16)/\V3 (1:Int) 2/\Lt 1 2/\O1 .i64 ((2:Int)+2*(↑(S6 a):Int)+2*(x.1:Int)+2)/\O1 .i64 ((x.1:Int)+1)/\∃(y:Up (k4 a)),((a=a/\(0=0/\2=2)/\(2:Int)+2*(↑(S6 a):Int)+2*(x.1:Int)+2=2+2*(↑(S6 a):Int)+2*(y.1:Int)/\(1:Int)=1/\(↑(k4 a):Int)=(↑(k4 a):Int)/\(x.1:Int)+1=(y.1:Int)/\True)/\(S6 a=S6 a/\Z7 (S6 a) (W8 a 1) (W8 a 1))/\(x.1+1=y.1/\Z7 (x.1+1) (X6 (W8 a (2+2*S6 a)) x.1 (tk 2 [Ji (IntKind.i64.wrap (↑(a.getD ((2:Int)+2*(↑(S6 a):Int)+2*(x.1:Int)).toNat (0:UInt8)).toNat:Int)),Ji (IntKind.i64.wrap (↑(a.getD ((2:Int)+2*(↑(S6 a):Int)+2*(x.1:Int)+1).toNat (0:UInt8)).toNat:Int))])) (W8 a (2+2*S6 a)))/\(2=2/\wO (m8 [some 0,some 4,some 2]) 2 (setRow (λ(r:Nat)=>match r with|0=>[T.osl 0 0 (S6 a)]|x_1=>[T.osl 1 0 x.1]) 1 0 [T.osl 4 0 (x.1+1)]) λ(r:Nat)=>match r with|0=>[T.osl 0 0 (S6 a)]|x=>[T.osl 1 0 y.1])/\True)/\Lt (k4 a-y.1) (k4 a-x.1))/\(decide ((x.1:Int)<(↑(k4 a):Int))=false->O1 .i64 2/\(false=true->(decide ((2:Int)+2*(↑(S6 a):Int)+2*(x.1:Int)≥(a.length:Int))=true->V3 (0:Int) 2/\Lt 0 2/\V3 (1:Int) 2/\Lt 1 2/\(Le (0+S6 a) (S6 a)/\Le (0+x.1) x.1)/\(S6 a=wA a/\Z7 (S6 a) (W8 a 1) (W8 a 1))/\(x.1=zF a/\Z7 x.1 (W8 a (2+2*S6 a)) (W8 a (2+2*S6 a)))/\false=uI a/\True)/\(decide ((2:Int)+2*(↑(S6 a):Int)+2*(x.1:Int)≥(a.length:Int))=false->V3 ((2:Int)+2*(↑(S6 a):Int)+2*(x.1:Int)) a.length/\O1 .i64 ((2:Int)+2*(↑(S6 a):Int)+2*(x.1:Int)+1)/\O1 .i64 ((2:Int)*IntKind.i64.wrap (↑(a.getD ((2:Int)+2*(↑(S6 a):Int)+2*(x.1:Int)).toNat (0:UInt8)).toNat:Int))/\O1 .i64 ((2:Int)+2*(↑(S6 a):Int)+2*(x.1:Int)+1+2*IntKind.i64.wrap (↑(a.getD ((2:Int)+2*(↑(S6 a):Int)+2*(x.1:Int)).toNat (0:UInt8)).toNat:Int))/\(decide ((2:Int)+2*(↑(S6 a):Int)+2*(x.1:Int)+1+2*IntKind.i64.wrap (↑(a.getD ((2:Int)+2*(↑(S6 a):Int)+2*(x.1:Int)).toNat (0:UInt8)).toNat:Int)>(a.length:Int))=true->V3 (0:Int) 2/\Lt 0 2/\V3 (1:Int) 2/\Lt 1 2/\(Le (0+S6 a) (S6 a)/\Le (0+x.1) x.1)/\(S6 a=wA a/\Z7 (S6 a) (W8 a 1) (W8 a 1))/\(x.1=zF a/\Z7 x.1 (W8 a (2+2*S6 a)) (W8 a (2+2*S6 a)))/\false=uI a/\True)/\(decide ((2:Int)+2*(↑(S6 a):Int)+2*(x.1:Int)+1+2*IntKind.i64.wrap (↑(a.getD ((2:Int)+2*(↑(S6 a):Int)+2*(x.1:Int)).toNat (0:UInt8)).toNat:Int)>(a.length:Int))=false->(∃(x_1:Up (k4 a)),(a=a/\(0=0/\2=2)/\(2:Int)+2*(↑(S6 a):Int)+2*(x.1:Int)+1=2+2*(↑(S6 a):Int)+2*(x_1.val:Int)/\(2:Int)=1/\IntKind.i64.wrap (↑(a.getD ((2:Int)+2*(↑(S6 a):Int)+2*(x.1:Int)).toNat (0:UInt8)).toNat:Int)=(↑(k4 a):Int)/\0=(x_1.val:Int)/\True)/\(S6 a=S6 a/\Z7 (S6 a) (W8 a 1) (W8 a 1))/\(x.1=x_1.val/\Z7 x.1 (W8 a (2+2*S6 a)) (W8 a (2+2*S6 a)))/\(2=2/\wO (m8 [some 0,some 1,some 2]) 2 (λ(r:Nat)=>match r with|0=>[T.osl 0 0 (S6 a)]|x_2=>[T.osl 1 0 x.1]) λ(r:Nat)=>match r with|0=>[T.osl 0 0 (S6 a)]|x=>[T.osl 1 0 x_1.val])/\True)/\∀(x:Up (k4 a)),(decide ((x.1:Int)<(↑(k4 a):Int))=true->V3 (1:Int) 2/\Lt 1 2/\V3 ((2:Int)+2*(↑(S6 a):Int)+2*(x.1:Int)) a.length/\O1 .i64 ((2:Int)+2*(↑(S6 a):Int)+2*(x.1:Int)+1)/\V3 ((2:Int)+2*(↑(S6 a):Int)+2*(x.1:Int)+1) a.length/\(Le 1 1/\Le x.1 x.1/\U2 x.1 1 16)/\V3 (1:Int) 2/\Lt 1 2/\O1 .i64 ((2:Int)+2*(↑(S6 a):Int)+2*(x.1:Int)+2)/\O1 .i64 ((x.1:Int)+1)/\∃(y:Up (k4 a)),((a=a/\(0=0/\2=2)/\(2:Int)+2*(↑(S6 a):Int)+2*(x.1:Int)+2=2+2*(↑(S6 a):Int)+2*(y.1:Int)/\(1:Int)=1/\(↑(k4 a):Int)=(↑(k4 a):Int)/\(x.1:Int)+1=(y.1:Int)/\True)/\(S6 a=S6 a/\Z7 (S6 a) (W8 a 1) (W8 a 1))/\(x.1+1=y.1/\Z7 (x.1+1) (X6 (W8 a (2+2*S6 a)) x.1 (tk 2 [Ji (IntKind.i64.wrap (↑(a.getD ((2:Int)+2*(↑(S6 a):Int)+2*(x.1:Int)).toNat (0:UInt8)).toNat:Int)),Ji (IntKind.i64.wrap (↑(a.getD ((2:Int)+2*(↑(S6 a):Int)+2*(x.1:Int)+1).toNat (0:UInt8)).toNat:Int))])) (W8 a (2+2*S6 a)))/\(2=2/\wO (m8 [some 0,some 4,some 2]) 2 (setRow (λ(r:Nat)=>match r with|0=>[T.osl 0 0 (S6 a)]|x_1=>[T.osl 1 0 x.1]) 1 0 [T.osl 4 0 (x.1+1)]) λ(r:Nat)=>match r with|0=>[T.osl 0 0 (S6 a)]|x=>[T.osl 1 0 y.1])/\True)/\Lt (k4 a-y.1) (k4 a-x.1))/\(decide ((x.1:Int)<(↑(k4 a):Int))=false->O1 .i64 2/\False))))/\(false=false->V3 (0:Int) 2/\Lt 0 2/\V3 (1:Int) 2/\Lt 1 2/\(Le (0+S6 a) (S6 a)/\Le (0+x.1) x.1)/\(S6 a=wA a/\Z7 (S6 a) (W8 a 1) (W8 a 1))/\(x.1=zF a/\Z7 x.1 (W8 a (2+2*S6 a)) (W8 a (2+2*S6 a)))/\((2:Int)+2*(↑(S6 a):Int)+2*(x.1:Int)==(a.length:Int))=uI a/\True)))))/\(true=false->V3 (0:Int) 2/\Lt 0 2/\V3 (1:Int) 2/\Lt 1 2/\(Le (0+x.1) x.1/\Le 0 0)/\(x.1=wA a/\Z7 x.1 (W8 a 1) (W8 a 1))/\(0=zF a/\Z7 0 (W8 a 0) (W8 a (2+2*S6 a)))/\((1:Int)+2*(x.1:Int)==(a.length:Int))=uI a/\True)))))/\(true=false->V3 (0:Int) 2/\Lt 0 2/\V3 (1:Int) 2/\Lt 1 2/\(Le 0 0/\Le 0 0)/\(0=wA a/\Z7 0 (tk 2 []) (W8 a 1))/\(0=zF a/\Z7 0 (tk 2 []) (W8 a (2+2*S6 a)))/\((0:Int)==(a.length:Int))=uI a/\True)) ?_
 simp only[c00,V3,Lt,Le,U2,uW];simp only[h0];refine⟨λ_=>⟨λhz=>?_,λhz=>?_⟩,λh=>G3⟩
 ·have hz':¬0<a.length:=by simp at hz;simp[hz]
  refine⟨Z9,Z9,Z9,Z9,Z9,⟨by simp[wA,hz'],none0 _ _⟩,⟨by simp[zF,hz'],none0 _ _⟩,by simp[uI,hz'],trivial⟩
 have hz':0<a.length:=by simp at hz;exact List.length_pos_iff.2 hz
 refine⟨⟨Z9,Z9⟩,Z9,Z9,Z9,λhgt=>?_,λhle=>?_⟩
 ·have hgt':¬1+2*S6 a<=a.length:=by simp at hgt;omega
  have hgt'':¬1+2*S6 a<a.length:=Z9
  refine⟨Z9,Z9,Z9,Z9,Z9,⟨by simp[wA,hgt'],none0 _ _⟩,⟨by simp[zF,hgt''],none0 _ _⟩,by simp[uI,hgt''],trivial⟩
 have hle':1+2*S6 a<=a.length:=by simp at hle;omega
 have e0:wA a=S6 a:=by simp[wA,hz',hle']
 refine⟨⟨⟨0,L8 _⟩,⟨trivial,⟨trivial,trivial⟩,rfl,trivial,trivial,rfl,trivial⟩,⟨rfl,none0 _ _⟩,⟨trivial,none0 _ _⟩,⟨trivial,two rfl rfl⟩,trivial⟩,λx=>⟨λhx=>?_,λhx=>?_⟩⟩
 ·have hx':x.1<S6 a:=by simpa using hx
  rw[show(1+2*(x.1:Int)).toNat=1+2*x.1 by omega,show(1+2*(x.1:Int)+1).toNat=1+2*x.1+1 by omega]
  refine⟨Z9,Z9,Z9,Z9,Z9,Z9,Z9,Z9,Z9,Z9,⟨x.1+1,hx'⟩,⟨⟨trivial,⟨trivial,trivial⟩,D9,trivial,trivial,D9,trivial⟩,⟨rfl,aY 1 _⟩,⟨trivial,none0 _ _⟩,⟨trivial,two rfl rfl⟩,trivial⟩,D9⟩
 have hx':x.1=S6 a:=by have:=x.2;simp at hx;omega
 rw[hx',t0,h1];refine⟨Z9,λ_=>⟨λhz1=>?_,λhz1=>⟨?_,Z9,Z9,Z9,λhg1=>?_,λhl1=>?_⟩⟩,λh=>G3⟩
 ·have hz1':¬1+2*S6 a<a.length:=by simp at hz1;omega
  refine⟨Z9,Z9,Z9,Z9,Z9,⟨e0.symm,refl0 _ _⟩,⟨by simp[zF,hz1'],none0 _ _⟩,by simp[uI,hz1'],trivial⟩
 ·simp at hz1;omega
 ·have hz1':1+2*S6 a<a.length:=by simp at hz1;omega
  have hg1':¬2+2*S6 a+2*k4 a<=a.length:=by simp at hg1;omega
  have hg1'':¬2+2*S6 a+2*k4 a=a.length:=Z9
  refine⟨Z9,Z9,Z9,Z9,Z9,⟨e0.symm,refl0 _ _⟩,⟨by simp[zF,hg1'],none0 _ _⟩,by simp[uI,hg1''],trivial⟩
 have hz1':1+2*S6 a<a.length:=by simp at hz1;omega
 have hl1':2+2*S6 a+2*k4 a<=a.length:=by simp at hl1;omega
 have e1:zF a=k4 a:=by simp[zF,hz',hz1',hl1']
 refine⟨⟨⟨0,L8 _⟩,⟨trivial,⟨trivial,trivial⟩,D9,trivial,rfl,rfl,trivial⟩,⟨rfl,refl0 _ _⟩,⟨rfl,none0 _ _⟩,⟨trivial,two rfl rfl⟩,trivial⟩,λy=>⟨λhy=>?_,λhy=>?_⟩⟩
 ·have hy':y.1<k4 a:=by simpa using hy
  rw[show(2+2*(S6 a:Int)+2*(y.1:Int)).toNat=2+2*S6 a+2*y.1 by omega,show(2+2*(S6 a:Int)+2*(y.1:Int)+1).toNat=2+2*S6 a+2*y.1+1 by omega]
  refine⟨Z9,Z9,Z9,Z9,Z9,Z9,Z9,Z9,Z9,Z9,⟨y.1+1,hy'⟩,⟨⟨trivial,⟨trivial,trivial⟩,D9,trivial,trivial,D9,trivial⟩,⟨trivial,refl0 _ _⟩,⟨rfl,aY _ _⟩,⟨trivial,two rfl rfl⟩,trivial⟩,D9⟩
 have hy':y.1=k4 a:=by have:=y.2;simp at hy;omega
 rw[hy'];refine⟨Z9,(λh=>G3),λ_=>⟨Z9,Z9,Z9,Z9,Z9,⟨e0.symm,refl0 _ _⟩,⟨e1.symm,refl0 _ _⟩,?_,trivial⟩⟩
 unfold uI;rw[Bool.eq_iff_iff,beq_iff_eq,g7];omega
def xL(a:Bz)(A:Nat)(l hi lsn:Int)(i:Nat):Bool:=
 !V8 (r7 a (A+2*i)) l hi|| !V8 (r7 a (A+2*i+1)) 1 (lsn-1)||(decide ((i:Int)>0)&&decide (r7 a (A+2*(i-1))≥r7 a (A+2*i)))
def ckS(a:Bz)(lsn:Int):Bool:=
 uI a&&decide (wA a<=8)&&decide (zF a<=10)&& !anyI (wA a) (xL a 1 0 7 lsn)&& !anyI (zF a) (xL a (2+2*S6 a) 1 60 lsn)
def b7t(a:Bz)(n:Int):Prop:=a.length<1000000000000/\ -1000000000000<=n/\n<=1000000000000
def a0a:List T->Option (T×Option Prop)
 | [.agg [.int .i64 e,.int .i64 l,.int .i64 t,.int .i64 k,.int .i64 p,.int .i64 n,.int .i64 g,.int .i64 s,.str b,.str a]]=>some (.bool (ckS a l),some (b7t a l))
 |_=>none
def b3o:Con:=.pure a0a
def b0I(r:Rec):Nat->Ann
 |1=>.one (V2 (zF r.a) (xL r.a (2+2*S6 r.a) 1 60 r.l)) (λx=>⟨[(1,.ref 0 0 0),(4,.sl 2 (zF r.a) (W8 r.a (2+2*S6 r.a))),(7,Ji x.1)],[some (.arr true 1000000 10 1 λ_=>r.ts)]⟩) (λx=>zF r.a-x.1) [.arr 0] [.arr 0] (λ_=>Y5)
 |_=>.none
def b06(r:Rec):Nat->Ann
 |0=>.one (V2 (wA r.a) (xL r.a 1 0 7 r.l)) (λx=>⟨[(1,.ref 0 0 0),(3,.sl 2 (wA r.a) (W8 r.a 1)),(4,.sl 2 (zF r.a) (W8 r.a (2+2*S6 r.a))),(6,Ji x.1)],[some (.arr true 1000000 10 1 λ_=>r.ts)]⟩) (λx=>wA r.a-x.1) [.arr 0] [.arr 0] (λ_=>b0I r)
 |_=>.none
theorem b1u(r:Rec)(h:
let ph:=(false=ckS r.a r.l);let pg:=(W8 r.a (2+2*S6 r.a));let pd:=(0=0/\0=0);let d:=(wA r.a=wA r.a/\Z7 (wA r.a) (W8 r.a 1) (W8 r.a 1));let v:=(zF r.a=zF r.a/\Z7 (zF r.a) pg pg);  M3 r.a.length/\br (!uI r.a||decide ((↑(wA r.a):Int)>8)||decide ((↑(zF r.a):Int)>10)) ph ((∃(x:V2 (wA r.a) (xL r.a 1 (0:Int) (7:Int) r.l)),(pd/\d/\v/\0=(x.1:Int)/\True)/\(1=1/\Z7 1 (λ(x:Nat)=>[Ji r.e,Ji r.l,Ji r.t,Ji r.k,Ji r.p,Ji r.n,Ji r.g,Ji r.s,T.str r.b,T.str r.a]) λ(x:Nat)=>[Ji r.e,Ji r.l,Ji r.t,Ji r.k,Ji r.p,Ji r.n,Ji r.g,Ji r.s,T.str r.b,T.str r.a])/\True)/\∀(x:V2 (wA r.a) (xL r.a 1 (0:Int) (7:Int) r.l)),let w:=(x.1:Int);let pe:=(r7 r.a (1+2*w.toNat+1));let pc:=(r7 r.a (1+2*w.toNat));let m:=(!V8 pc (0:Int) (7:Int));let z:=(!V8 pc (0:Int) (7:Int)|| !V8 pe (1:Int) (r.l-1));let pa:=(z=false->decide (w>0)=true->V3 (0:Int) 2);bd (w<(↑(wA r.a):Int)) (V3 w (wA r.a)/\V3 (0:Int) 2/\(m=false->V3 w (wA r.a))/\(m=false->V3 (1:Int) 2)/\(m=false->Ri (r.l-1))/\(z=false->decide (w>0)=true->Ri (w-1))/\(z=false->decide (w>0)=true->V3 (w-1) (wA r.a))/\pa/\(z=false->decide (w>0)=true->V3 w (wA r.a))/\pa/\br (!V8 pc (0:Int) (7:Int)|| !V8 pe (1:Int) (r.l-1)||decide (w>0)&&decide (r7 r.a (1+2*(w-1).toNat)≥r7 r.a (1+2*w.toNat))) ph (Ri (w+1)/\∃(y:V2 (wA r.a) (xL r.a 1 (0:Int) (7:Int) r.l)),((pd/\d/\v/\w+1=(y.1:Int)/\True)/\(1=1/\Z7 1 (λ(x:Nat)=>[Ji r.e,Ji r.l,Ji r.t,Ji r.k,Ji r.p,Ji r.n,Ji r.g,Ji r.s,T.str r.b,T.str r.a]) λ(x:Nat)=>[Ji r.e,Ji r.l,Ji r.t,Ji r.k,Ji r.p,Ji r.n,Ji r.g,Ji r.s,T.str r.b,T.str r.a])/\True)/\Lt (wA r.a-y.1) (wA r.a-x.1))) ((∃(x:V2 (zF r.a) (xL r.a (2+2*S6 r.a) (1:Int) (60:Int) r.l)),(pd/\v/\0=(x.1:Int)/\True)/\(1=1/\Z7 1 (λ(x:Nat)=>[Ji r.e,Ji r.l,Ji r.t,Ji r.k,Ji r.p,Ji r.n,Ji r.g,Ji r.s,T.str r.b,T.str r.a]) λ(x:Nat)=>[Ji r.e,Ji r.l,Ji r.t,Ji r.k,Ji r.p,Ji r.n,Ji r.g,Ji r.s,T.str r.b,T.str r.a])/\True)/\∀(x:V2 (zF r.a) (xL r.a (2+2*S6 r.a) (1:Int) (60:Int) r.l)),let u:=(x.1:Int);let pf:=(2+2*S6 r.a+2*u.toNat);let c:=(r7 r.a (2+2*S6 r.a+2*u.toNat+1));let f:=(r7 r.a (2+2*S6 r.a+2*(u-1).toNat)≥r7 r.a pf);let j:=(r7 r.a pf);let i:=(!V8 j (1:Int) (60:Int));let q:=(!V8 j (1:Int) (60:Int)|| !V8 c (1:Int) (r.l-1));let pb:=(q=false->decide (u>0)=true->V3 (0:Int) 2);bd (u<(↑(zF r.a):Int)) (V3 u (zF r.a)/\V3 (0:Int) 2/\(i=false->V3 u (zF r.a))/\(i=false->V3 (1:Int) 2)/\(i=false->Ri (r.l-1))/\(q=false->decide (u>0)=true->Ri (u-1))/\(q=false->decide (u>0)=true->V3 (u-1) (zF r.a))/\pb/\(q=false->decide (u>0)=true->V3 u (zF r.a))/\pb/\((!V8 j (1:Int) (60:Int)||!V8 c (1:Int) (r.l-1)||decide (u>0)&&decide f)=true->false=ckS r.a r.l)/\((!V8 j (1:Int) (60:Int)|| !V8 c (1:Int) (r.l-1)||decide (u>0)&&decide f)=false->Ri (u+1)/\∃(y:V2 (zF r.a) (xL r.a (2+2*S6 r.a) (1:Int) (60:Int) r.l)),((pd/\v/\u+1=(y.1:Int)/\True)/\(1=1/\Z7 1 (λ(x:Nat)=>[Ji r.e,Ji r.l,Ji r.t,Ji r.k,Ji r.p,Ji r.n,Ji r.g,Ji r.s,T.str r.b,T.str r.a]) λ(x:Nat)=>[Ji r.e,Ji r.l,Ji r.t,Ji r.k,Ji r.p,Ji r.n,Ji r.g,Ji r.s,T.str r.b,T.str r.a])/\True)/\Lt (zF r.a-y.1) (zF r.a-x.1))) (true=ckS r.a r.l)))):
  U5 prog 213 [.agg r.ts] (.bool (ckS r.a r.l)):=
 R1 (gC a08 (gC C0 gN)) func213 (b06 r) h
theorem a9W(a:Bz)(A:Nat)(l hi lsn:Int)(i:Nat):
  xL a A l hi lsn i=(!V8 (r7 a (A+2*(i:Int).toNat)) l hi|| !V8 (r7 a (A+2*(i:Int).toNat+1)) 1 (lsn-1)||(decide ((i:Int)>0)&&decide (r7 a (A+2*((i:Int)-1).toNat)≥r7 a (A+2*(i:Int).toNat)))):=by
 unfold xL;rw[C8,show((i:Int)-1).toNat=i-1 by omega]
theorem a8w:GK 213 b3o:=gk func213<|by
 intro args res p h hp;unfold a0a at h;split at h
 case h_2=>cases h
 rename_i e l t k p n g s b a;simp only[W9,T6] at h;obtain⟨rfl,rfl⟩:=h;obtain⟨hn,hl1,hl2⟩:b7t a l:=hp;have q0:wA a<=a.length:=by unfold wA;split<;>omega
 have q1:zF a<=a.length:=by unfold zF;split<;>omega
 have r0:∀(n:Nat) (row:Nat->List T),Z7 n row row:=λn row i hi=>rfl
 refine b1u ⟨e,l,t,k,p,n,g,s,b,a⟩ ?_
 simp only[Rec.e,Rec.l,Rec.t,Rec.k,Rec.p,Rec.n,Rec.g,Rec.s,Rec.b,Rec.a];refine⟨hn,λhb=>?_,λhb=>⟨⟨E7,⟨⟨v4,v4⟩,⟨v4,r0 _ _⟩,⟨v4,r0 _ _⟩,v4,trivial⟩,⟨v4,r0 _ _⟩,trivial⟩,λx=>⟨λhc=>?_,λhc=>?_⟩⟩⟩
 ·unfold ckS;simp only[qY,wG,g7] at hb;rcases hb with(hb|hb)|hb
  ·rw[hb];rfl
  ·rw[show decide (wA a<=8)=false from tH Z9];simp
  ·rw[show decide (zF a<=10)=false from tH Z9];simp
 ·have hlt:=Y0 hc;have i2:V3 0 2:=⟨Z9,Z9⟩
  have i2':V3 1 2:=⟨Z9,Z9⟩
  rw[←a9W];refine⟨X9 hlt,i2,λ_=>X9 hlt,λ_=>i2',λ_=>Z1 Z9,λ_ _=>Z1 Z9,λ_ hh=>?_,λ_ _=>i2,λ_ _=>X9 hlt,λ_ _=>i2,λhp=>?_,λhp=>⟨V4 hlt Z9,x.succ hlt hp,⟨⟨⟨v4,v4⟩,⟨v4,r0 _ _⟩,⟨v4,r0 _ _⟩,v4,trivial⟩,⟨v4,r0 _ _⟩,trivial⟩,V2.ext_lt hlt⟩⟩
  ·have:=B3 hh;exact⟨Z9,Z9⟩
  ·have:anyI (wA a) (xL a 1 0 7 l)=true:=R2.2 ⟨x.1,hlt,hp⟩;simp[ckS,this]
 ·have hge:=X3 hc;have g0:anyI (wA a) (xL a 1 0 7 l)=false:=by
   rw[Bool.eq_false_iff,ne_eq,R2];rintro⟨i,hi,h⟩;rw[x.2.2 i Z9] at h
   cases h
  refine⟨⟨E7,⟨⟨v4,v4⟩,⟨v4,r0 _ _⟩,v4,trivial⟩,⟨v4,r0 _ _⟩,trivial⟩,λy=>⟨λhc=>?_,λhc=>?_⟩⟩
  ·have hlt:=Y0 hc;have i2:V3 0 2:=⟨Z9,Z9⟩
   have i2':V3 1 2:=⟨Z9,Z9⟩
   rw[←a9W];refine⟨X9 hlt,i2,λ_=>X9 hlt,λ_=>i2',λ_=>Z1 Z9,λ_ _=>Z1 Z9,λ_ hh=>?_,λ_ _=>i2,λ_ _=>X9 hlt,λ_ _=>i2,λhp=>?_,λhp=>⟨V4 hlt Z9,y.succ hlt hp,⟨⟨⟨v4,v4⟩,⟨v4,r0 _ _⟩,v4,trivial⟩,⟨v4,r0 _ _⟩,trivial⟩,V2.ext_lt hlt⟩⟩
   ·have:=B3 hh;exact⟨Z9,Z9⟩
   ·have:anyI (zF a) (xL a (2+2*S6 a) 1 60 l)=true:=R2.2 ⟨y.1,hlt,hp⟩;simp[ckS,this]
  ·have hge:=X3 hc;have g1:anyI (zF a) (xL a (2+2*S6 a) 1 60 l)=false:=by
    rw[Bool.eq_false_iff,ne_eq,R2];rintro⟨i,hi,h⟩;rw[y.2.2 i Z9] at h
    cases h
   simp only[zY,yL,qW] at hb;unfold ckS;rw[g0,g1,hb.1.1,show decide (wA a<=8)=true from pH Z9,show decide (zF a<=10)=true from pH Z9]
   rfl
theorem rF(l:Bz)(k:Nat):numR (l.drop k)=r7 l k:=by
 unfold numR r7;simp[Q8]
theorem b7F(l:Bz)(k i:Nat):r7 (l.drop k) i=r7 l (k+i):=by
 unfold r7;simp[Q8]
theorem a7K(l:Bz)(k:Nat):0<=r7 l k:=by unfold r7;omega
def a3H(l:Bz)(o:Int)(i:Nat):Int:=if i=0 then o-1 else r7 l (1+2*(i-1))
def okP(l:Bz)(o hi lsn:Int)(i:Nat):Bool:=V8 (r7 l (1+2*i)) (a3H l o i+1) hi&&V8 (r7 l (2+2*i)) 1 (lsn-1)
theorem c2v(most lo hi lsn:Int)(l:Bz)(fl:Bool)(i:Nat):
  RdSt.go hi lsn (uS most lo l fl) i=⟨l.drop (1+2*i),fl||decide (l.length<1+2*i),decide (numR l<=most)&&(List.range i).all (okP l lo hi lsn),a3H l lo i⟩:=by
 induction i with
 |zero=>
  simp only[RdSt.go,uS,a3H,if_true,List.range_zero,List.all_nil,Bool.and_true,Nat.mul_zero,Nat.add_zero];cases l<;>simp
 |succ i ih=>
  simp only[RdSt.go];rw[ih];simp only[RdSt.step];have e1:((l.drop (1+2*i)).drop 1).drop 1=l.drop (1+2*(i+1)):=by
   rw[List.drop_drop,List.drop_drop];congr 1
  have e2:numR ((l.drop (1+2*i)).drop 1)=r7 l (2+2*i):=by
   rw[List.drop_drop,rF];congr 1
   omega
  have e3:a3H l lo (i+1)=numR (l.drop (1+2*i)):=by
   rw[rF];simp[a3H]
  have e4:(List.range (i+1)).all (okP l lo hi lsn)=((List.range i).all (okP l lo hi lsn)&&okP l lo hi lsn i):=by
   rw[List.range_succ,List.all_append];simp
  rw[e1,e2,e3,e4,rF];congr 1
  ·have:(l.drop (1+2*i)).isEmpty=decide (l.length<=1+2*i):=by
    rw[Bool.eq_iff_iff];simp
   have h2:((l.drop (1+2*i)).drop 1).isEmpty=decide (l.length<=1+2*i+1):=by
    rw[Bool.eq_iff_iff];simp
   rw[this,h2,Bool.or_assoc,Bool.or_assoc];congr 1
   rw[Bool.eq_iff_iff];simp;omega
  ·unfold okP;rw[Bool.and_assoc,Bool.and_assoc]
theorem b0s{n:Nat}{p q:Nat->Bool}(h:∀i,p i= !q i):(List.range n).all p= !anyI n q:=by
 unfold anyI;rw[List.not_any_eq_all_not];congr 1
 funext i
 rw[h i]
theorem a9J(l:Bz)(o hi lsn:Int)(d:o=0∨o=1)(i:Nat):okP l o hi lsn i= !xL l 1 o hi lsn i:=by
 have B:=a7K l (1+2*(i-1));have b2:=a7K l (1+2*i);unfold okP xL a3H V8;rw[show 1+2*i+1=2+2*i by omega]
 rw[Bool.eq_iff_iff];by_cases h:i=0
 ·subst h;simp
 ·simp[h];omega
theorem b3g(a:Bz)(k:Nat)(l hi lsn:Int)(i:Nat):xL (a.drop k) 1 l hi lsn i=xL a (k+1) l hi lsn i:=by
 unfold xL;simp only[b7F];rw[show k+(1+2*i)=k+1+2*i by omega,show k+(1+2*i+1)=k+1+2*i+1 by omega,show k+(1+2*(i-1))=k+1+2*(i-1) by omega]
theorem c3K(a:Bz)(lsn:Int):a4E a lsn=ckS a lsn:=by
 have n0:(numR a).toNat=S6 a:=by simp[numR,S6,r7]
 have n0':numR a=(S6 a:Int):=by have:=r6 a;omega
 have n1:numR (a.drop (1+2*S6 a))=(k4 a:Int):=by rw[rF];have:=a7K a (1+2*S6 a);simp[k4];omega
 have n1':(numR (a.drop (1+2*S6 a))).toNat=k4 a:=Z9
 have E1:N3 8 0 7 lsn a false=⟨a.drop (1+2*S6 a),decide (a.length<1+2*S6 a),decide ((S6 a:Int)<=8)&& !anyI (S6 a) (xL a 1 0 7 lsn),a3H a 0 (S6 a)⟩:=by
  unfold N3;rw[c2v,n0,n0',b0s (a9J a 0 7 lsn (.inl rfl)),Bool.false_or]
 have E2:N3 10 1 60 lsn (a.drop (1+2*S6 a)) (decide (a.length<1+2*S6 a))=⟨a.drop (2+2*S6 a+2*k4 a),decide (a.length<2+2*S6 a+2*k4 a),decide ((k4 a:Int)<=10)&& !anyI (k4 a) (xL a (2+2*S6 a) 1 60 lsn),a3H (a.drop (1+2*S6 a)) 1 (k4 a)⟩:=by
  unfold N3;rw[c2v,n1',n1,b0s (a9J (a.drop (1+2*S6 a)) 1 60 lsn (.inr rfl))];congr 1
  ·rw[List.drop_drop];congr 1;omega
  ·rw[Bool.eq_iff_iff];simp;omega
  ·congr 2
   unfold anyI;congr 1
   funext i
   rw[b3g];congr 1
   omega
 unfold a4E;rw[E1];simp only;rw[E2];simp only;have hE:(a.drop (2+2*S6 a+2*k4 a)).isEmpty=decide (a.length<=2+2*S6 a+2*k4 a):=by rw[Bool.eq_iff_iff];simp
 rw[hE];by_cases hr:0<a.length/\1+2*S6 a<a.length/\2+2*S6 a+2*k4 a=a.length
 ·have c0:wA a=S6 a:=by unfold wA;rw[if_pos ⟨hr.1,Z9⟩]
  have c1:zF a=k4 a:=by unfold zF;rw[if_pos ⟨hr.1,hr.2.1,Z9⟩]
  unfold ckS;rw[show uI a=true from pH hr,c0,c1]
  rw[show decide (a.length<1+2*S6 a)=false from tH Z9,show decide (a.length<2+2*S6 a+2*k4 a)=false from tH Z9,show decide (a.length<=2+2*S6 a+2*k4 a)=true from pH Z9]
  rw[show decide ((S6 a:Int)<=8)=decide (S6 a<=8) from decide_eq_decide.2 Z9,show decide ((k4 a:Int)<=10)=decide (k4 a<=10) from decide_eq_decide.2 Z9]
  generalize anyI (S6 a) _=x;generalize anyI (k4 a) _=y;generalize decide (S6 a<=8)=u;generalize decide (k4 a<=10)=v;cases x<;>cases y<;>cases u<;>cases v<;>rfl
 ·have:ckS a lsn=false:=by
   unfold ckS;rw[show uI a=false from tH hr]
   rfl
  rw[this];by_cases h1:a.length<2+2*S6 a+2*k4 a
  ·rw[show decide (a.length<2+2*S6 a+2*k4 a)=true from pH h1]
   simp
  ·have h2:¬a.length<=2+2*S6 a+2*k4 a:=by omega
   rw[show decide (a.length<=2+2*S6 a+2*k4 a)=false from tH h2]
   simp
def kB:List T->Option (T×Option Prop)
 | [.agg [.int .i64 e,.int .i64 l,.int .i64 t,.int .i64 k,.int .i64 p,.int .i64 n,.int .i64 g,.int .i64 s,.str b,.str a]]=>some (.bool (O9 ⟨e,l,t,k,p,n,g,s,b,a⟩),some (M3 a.length))
 |_=>none
def a5x:Con:=.pure kB
theorem a4x(r:Rec)(x:Bool)(h:
let q:=((r.b.length:Int)>30);  ((!V8 r.e (1:Int) (60:Int)|| !V8 r.l (1:Int) (60:Int)|| !V8 r.k (1:Int) (6:Int))=false->Ri (r.l-1))/\((!V8 r.e (1:Int) (60:Int)|| !V8 r.l (1:Int) (60:Int)|| !V8 r.k (1:Int) (6:Int)|| !V8 r.p (0:Int) (r.l-1))=false->Ri (r.l-1))/\((!V8 r.e (1:Int) (60:Int)|| !V8 r.l (1:Int) (60:Int)|| !V8 r.k (1:Int) (6:Int)|| !V8 r.p (0:Int) (r.l-1)|| !V8 r.n (0:Int) (r.l-1)|| !V8 r.g (0:Int) (7:Int)|| !V8 r.s (0:Int) (3:Int)||decide q)=true->false=x)/\((!V8 r.e (1:Int) (60:Int)|| !V8 r.l (1:Int) (60:Int)||!V8 r.k (1:Int) (6:Int)|| !V8 r.p (0:Int) (r.l-1)|| !V8 r.n (0:Int) (r.l-1)|| !V8 r.g (0:Int) (7:Int)|| !V8 r.s (0:Int) (3:Int)||decide q)=false->br (r.k==6) (((r.t==0&&r.p==0&&r.n==0&&r.g==0&&r.s==0&&r.b==[])=true->b7t r.a r.l)/\(r.t==0&&r.p==0&&r.n==0&&r.g==0&&r.s==0&&r.b==[]&&ckS r.a r.l)=x) (br (!V8 r.t (1:Int) (60:Int)||decide ((r.a.length:Int)>30)) (false=x) (br (!(r.k==2||r.k==3)&&(r.g !=0||r.s !=0|| !r.b==[]|| !r.a==[])||r.k !=3&&r.n !=0||r.k==3&& !r.b==[]) (false=x) (((r.k==1)==(r.p==0))=x))))):
  U5 prog 150 [.agg r.ts] (.bool x):=
 R1 (gC a8w (gC C0 gN)) func150 Y5 h
theorem c6H{p k a b:Int}:((k==b)=(p==a))↔(k=b↔p=a):=by
 rw[Bool.eq_iff_iff,beq_iff_eq,beq_iff_eq]
theorem mG:GK 150 a5x:=gk func150<|by
 intro args res p h hp;unfold kB at h;split at h
 case h_2=>cases h
 rename_i e l t k p n g s b a;simp only[W9,T6] at h;obtain⟨rfl,rfl⟩:=h;have hp:a.length<1000000000000:=hp;refine a4x ⟨e,l,t,k,p,n,g,s,b,a⟩ _ ?_
 simp only[Rec.e,Rec.l,Rec.t,Rec.k,Rec.p,Rec.n,Rec.g,Rec.s,Rec.b,Rec.a];have hr:∀{q:Bool},(!V8 e 1 60|| !V8 l 1 60||q)=false->O1 .i64 (l-1):=by
  intro q h;simp only[zY,yL,V8,M1,g7] at h;exact Z1 Z9
 refine⟨hr,λh=>hr (q:= !V8 k 1 6|| !V8 p 0 (l-1)) (by rw[←h];simp[Bool.or_assoc]),λh=>?_,λh=>?_⟩
 ·refine(uZ ?_).symm
  simp only[qY,wG,V8,Bool.and_eq_false_iff,qW,g7] at h;unfold D0;simp only;omega
 simp only[zY,yL,V8,M1,g7,qW] at h;by_cases h6:k=6
 ·subst h6;refine⟨λ_=>⟨λ_=>⟨hp,Z9,Z9⟩,rG ?_⟩,λh=>I8⟩
  rw[R6,←c3K];simp only[D0,g7,M1,beq_iff_eq,true_and,and_true];constructor
  ·rintro⟨⟨⟨⟨⟨⟨rfl,rfl⟩,rfl⟩,rfl⟩,rfl⟩,rfl⟩,hc⟩;simp[hc];omega
  ·rintro⟨_,_,_,_,_,_,_,_,_,_,_,_,_,_,_,hh,_⟩;obtain⟨rfl,rfl,rfl,rfl,rfl,rfl,hc⟩:=hh trivial;simp[hc]
 refine⟨λh=>absurd F6 h6,λ_=>⟨λhb=>?_,λhb=>⟨λhc=>?_,λhc=>rG ?_⟩⟩⟩
 ·refine(uZ ?_).symm
  simp[V8] at hb;unfold D0;simp only;omega
 ·refine(uZ ?_).symm
  unfold D0;simp only;rintro⟨_,_,_,_,_,_,_,_,_,_,_,_,_,_,_,_,hh⟩;obtain⟨c1,c2,c3,c4,c5,c6,c7⟩:=hh h6;simp only[qY,M1,wG,zY,beq_iff_eq,bne_iff_ne,beq_eq_false_iff_ne] at hc;rcases hc with(⟨⟨x2,x3⟩,hc⟩|⟨x3,hn⟩)|⟨x3,hn⟩
  ·obtain⟨d1,d2,d3,d4⟩:=c4 x2 x3;rcases hc with((hc|hc)|hc)|hc
   ·exact hc d1
   ·exact hc d2
   ·exact hc d3
   ·exact hc d4
  ·exact hn (c5 x3)
  ·exact hn (c6 x3)
 ·rw[R6];simp only[D0,c6H,true_and,and_true,beq_iff_eq];simp[V8] at hb hc;constructor
  ·intro hk;refine⟨Z9,Z9,Z9,Z9,Z9,Z9,Z9,Z9,Z9,Z9,Z9,Z9,Z9,Z9,Z9,λh=>absurd h h6,λ_=>⟨Z9,Z9,Z9,λx2 x3=>?_,λx3=>?_,λx3=>?_,hk⟩⟩
   ·have:=hc.1.1 x2 x3;exact⟨this.1.1.1,this.1.1.2,this.1.2,this.2⟩
   ·exact hc.1.2 x3
   ·exact hc.2 x3
  ·rintro⟨_,_,_,_,_,_,_,_,_,_,_,_,_,_,_,_,hh⟩;exact(hh h6).2.2.2.2.2.2
def rem(l:Int)(n:Nat):Int:=if 0<=l-n then l-n else-1
theorem zQ{row:Nat->List T}{i k:Nat}{cs:List T}(h:cs.length=(row k).length):setRow row i 0 cs k=match Nat.beq k i with|true=>cs|false=>row k:=by
 rw[c8 Z9]
 cases Nat.beq k i
 ·rfl
 ·simp[h]
def a4o:Rl:=⟨List Rec,λL=>[pB L,pB L],λ_=>.bool true,λL=>L.length<=1048576⟩
theorem b7B{a b:Nat}(h:a<4294967296)(B:b<4294967296):a ^^^ b<4294967296:=Nat.xor_lt_two_pow (n:=32) h B
theorem b7f{a b:Nat}(h:b<4294967296):a&&&b<4294967296:=Nat.and_lt_two_pow (n:=32) a h
theorem c0t{a b:Nat}(h:a<4294967296)(B:b<4294967296):a|||b<4294967296:=Nat.or_lt_two_pow (n:=32) h B
theorem vI{k:IntKind}(d:k= .i64∨k= .u32){n:Nat}(h:n<4294967296):(BitVec.ofInt k.bits (n:Int)).toNat=n:=by
 rw[BitVec.ofInt_natCast,BitVec.toNat_ofNat];refine Nat.mod_eq_of_lt ?_
 rcases d with rfl|rfl
 ·exact Nat.lt_trans h U4
 ·exact h
theorem tM{k:IntKind}(h:k= .i64∨k= .u32){n:Nat}(N:n<4294967296):k.wrap (n:Int)=n:=by
 rcases h with rfl|rfl
 ·rw[IntKind.wrap_i64];omega
 ·rw[IntKind.wrap_u32];omega
theorem kW{k:IntKind}(h:k= .i64∨k= .u32){a b:Nat}(A:a<4294967296)(B:b<4294967296):bits .xor k (a:Int) (b:Int)=((a ^^^ b:Nat):Int):=by
 show k.wrap ((BitVec.ofInt k.bits (a:Int) ^^^ BitVec.ofInt k.bits (b:Int)).toNat:Int)=_;rw[BitVec.toNat_xor,vI h A,vI h B,tM h (b7B A B)]
theorem c2Z{k:IntKind}(h:k= .i64∨k= .u32){a b:Nat}(A:a<4294967296)(B:b<4294967296):bits .and k (a:Int) (b:Int)=((a&&&b:Nat):Int):=by
 show k.wrap ((BitVec.ofInt k.bits (a:Int)&&&BitVec.ofInt k.bits (b:Int)).toNat:Int)=_;rw[BitVec.toNat_and,vI h A,vI h B,tM h (b7f B)]
theorem c63{k:IntKind}(h:k= .i64∨k= .u32){a b:Nat}(A:a<4294967296)(B:b<4294967296):bits .or k (a:Int) (b:Int)=((a|||b:Nat):Int):=by
 show k.wrap ((BitVec.ofInt k.bits (a:Int)|||BitVec.ofInt k.bits (b:Int)).toNat:Int)=_;rw[BitVec.toNat_or,vI h A,vI h B,tM h (c0t A B)]
def a1X(r:Nat):Nat:=(r/2) ^^^ (r % 2*3988292384)
def N8(r c:Nat):Nat->Nat
 |0=>r ^^^ c
 |k+1=>a1X (N8 r c k)
def J3(l:Bz):Nat->Nat
 |0=>4294967295
 |i+1=>N8 (J3 l i) (l.getD i 0).toNat 8
def j3(l:Bz):Nat:=J3 l l.length ^^^ 4294967295
theorem b1q{r:Nat}(h:r<4294967296):a1X r<4294967296:=by
 have:r % 2*3988292384<2 ^ 32:=by have:=Nat.mod_lt r (show 0<2 by decide);omega
 exact Nat.xor_lt_two_pow (n:=32) Z9 this
theorem tP{r c:Nat}(h:r<4294967296)(C:c<256):∀k,N8 r c k<4294967296
 |0=>Nat.xor_lt_two_pow (n:=32) Z9 Z9
 |k+1=>b1q (tP h C k)
theorem m6(l:Bz)(i:Nat):(l.getD i 0).toNat<256:=(l.getD i 0).toNat_lt
theorem vM(l:Bz):∀i,J3 l i<4294967296
 |0=>show 4294967295<4294967296 by decide
 |i+1=>tP (vM l i) (m6 l i) 8
theorem a1Q(l:Bz):j3 l<4294967296:=Nat.xor_lt_two_pow (n:=32) (vM l _) U4
def v5(l:Bz):Prop:=l.length<=1000000000
theorem a0v(h:p:=by unfold v5;omega):p:=h
def uJ(k:IntKind):Rl:=⟨Bz,λl=>[.bys l],λl=>.int k (j3 l),v5⟩
def a62:Con:=.rel (uJ .i64)
def b0M:Con:=.rel (uJ .u32)
def a6X(l:Bz):Nat->Ann
 |0=>.one (Up l.length) (λx=>⟨[(0,.bys l),(3,Ji (J3 l x.1)),(4,Ji x.1)],[]⟩) (λx=>l.length-x.1) [] [] (λx=>fun
  |1=>.one {k:Nat//k<=8} (λy=>⟨[(0,.bys l),(3,Ji (N8 (J3 l x.1) (l.getD x.1 0).toNat y.1)),(4,Ji x.1),(5,Ji y.1)],[]⟩) (λy=>8-y.1) [] [] (λ_=>Y5)
  |_=>.none)
 |_=>.none
def b2B(l:Bz):Nat->Ann
 |0=>.one (Up l.length) (λx=>⟨[(3,.int .u32 (J3 l x.1)),(6,.bys l),(7,Ji l.length),(8,Ji x.1)],[]⟩) (λx=>l.length-x.1) [] [] (λx=>fun
  |1=>.one {k:Nat//k<=8} (λy=>⟨[(3,.int .u32 (N8 (J3 l x.1) (l.getD x.1 0).toNat y.1)),(6,.bys l),(7,Ji l.length),(8,Ji x.1),(16,Ji y.1)],[]⟩) (λy=>8-y.1) [] [] (λ_=>Y5)
  |_=>.none)
 |_=>.none
theorem a9q{k:IntKind}(d:k= .i64∨k= .u32){r:Nat}(h:r<4294967296):bits .and k (r:Int) 1=((r % 2:Nat):Int):=by
 rw[show(1:Int)=((1:Nat):Int) from rfl,c2Z d h U4,Nat.and_one_is_mod]
theorem c1K(r:Nat):(r:Int).fdiv 2=((r/2:Nat):Int):=by
 rw[Int.fdiv_eq_ediv_of_nonneg _ Z9]
 omega
theorem kC:GK 253 a62:=gk func253<|by
 intro(l:Bz) (hl:l.length<=1000000000);have k1:IntKind.i64= .i64∨IntKind.i64= .u32:=.inl rfl;refine R1 gN func253 (a6X l) (α:=(∃(x:Up l.length),(l=l/\4294967295=(↑(J3 l x.1):Int)/\0=(x.1:Int)/\True)/\True)/\∀(x:Up l.length),let u:=(J3 l x.1);let r:=(l.getD x.1 (0:UInt8)).toNat;let q:=(x.1:Int);bd (q<(l.length:Int)) (V3 q l.length/\(∃(X:{k:Nat//k<=8}),(l=l/\bits BinOp.xor IntKind.i64 (↑u:Int) (IntKind.i64.wrap (↑(l.getD q.toNat (0:UInt8)).toNat:Int))=(↑(N8 u r X.val):Int)/\q=q/\0=(X.val:Int)/\True)/\True)/\∀(X:{k:Nat//k<=8}),let v:=(X.val:Int);let p:=(↑(N8 u r X.val):Int);let z:=(bits BinOp.and IntKind.i64 p (1:Int)*3988292384);bd (v<8) (Nn (1:Int)/\Ri z/\Ri (v+1)/\∃(y:{k:Nat//k<=8}),((l=l/\bits BinOp.xor IntKind.i64 (p.fdiv (2:Int)) z=(↑(N8 u r y.1):Int)/\q=q/\v+1=(y.1:Int)/\True)/\True)/\Lt (8-y.1) (8-X.val)) (Ri (q+1)/\∃(y:Up l.length),((l=l/\p=(↑(J3 l y.1):Int)/\q+1=(y.1:Int)/\True)/\True)/\Lt (l.length-y.1) (l.length-x.1))) (bits BinOp.xor IntKind.i64 (↑u:Int) 4294967295=(↑(j3 l):Int))) ⟨⟨⟨0,L8 _⟩,⟨rfl,rfl,rfl,trivial⟩,trivial⟩,λx=>⟨λhc=>?_,λhc=>?_⟩⟩
 ·have hlt:=Y0 hc;have hr:=vM l x.1;have hb:=m6 l x.1;refine⟨X9 hlt,⟨⟨0,Z9⟩,⟨rfl,?_,rfl,rfl,trivial⟩,trivial⟩,λy=>⟨λhd=>?_,λhd=>?_⟩⟩
  ·rw[C8,tM k1 Z9,kW k1 hr Z9]
   rfl
  ·have hy:y.1<8:=by have:=B3 hd;omega
   have q:=tP hr hb y.1;have h:N8 (J3 l x.1) (l.getD x.1 0).toNat y.1 % 2*3988292384<4294967296:=by have:=Nat.mod_lt (N8 (J3 l x.1) (l.getD x.1 0).toNat y.1) (show 0<2 by decide);omega
   rw[a9q k1 q,c1K,show((N8 (J3 l x.1) (l.getD x.1 0).toNat y.1 % 2:Nat):Int)*3988292384=((N8 (J3 l x.1) (l.getD x.1 0).toNat y.1 % 2*3988292384:Nat):Int) by omega,kW k1 Z9 h]
   refine⟨tJ,Z1 Z9,Z1 Z9,⟨y.1+1,hy⟩,⟨⟨rfl,rfl,rfl,D9,trivial⟩,trivial⟩,mY⟩
  ·have hy:y.1=8:=by have:=y.2;have:=k5 hd;omega
   refine⟨V4 hlt Z9,⟨x.1+1,hlt⟩,⟨⟨rfl,?_,D9,trivial⟩,trivial⟩,V2.ext_lt hlt⟩
   rw[hy];rfl
 ·have hx:x.1=l.length:=by have:=x.2;have:=X3 hc;omega
  rw[hx,show(4294967295:Int)=((4294967295:Nat):Int) from rfl,kW k1 (vM l _) U4]
  rfl
theorem oY:GK 180 b0M:=gk func180<|by
 intro(l:Bz) (hl:l.length<=1000000000);have k1:IntKind.u32= .i64∨IntKind.u32= .u32:=.inr rfl;refine R1 gN func180 (b2B l) (α:=let q:=(l.length:Int);(∃(x:Up l.length),(4294967295=(↑(J3 l x.1):Int)/\l=l/\q=q/\0=(x.1:Int)/\True)/\True)/\∀(x:Up l.length),let u:=(J3 l x.1);let z:=(l.getD x.1 (0:UInt8)).toNat;let r:=(x.1:Int);bd (r<q) (V3 r l.length/\(∃(X:{k:Nat//k<=8}),(bits BinOp.xor IntKind.u32 (↑u:Int) (IntKind.u32.wrap (↑(l.getD r.toNat (0:UInt8)).toNat:Int))=(↑(N8 u z X.val):Int)/\l=l/\q=q/\r=r/\0=(X.val:Int)/\True)/\True)/\∀(X:{k:Nat//k<=8}),let v:=(X.val:Int);let p:=(↑(N8 u z X.val):Int);bd (v<8) (br (bits BinOp.and IntKind.u32 p (1:Int)==1) (Nn (1:Int)/\Ri (v+1)/\∃(y:{k:Nat//k<=8}),((bits BinOp.xor IntKind.u32 (p.fdiv (2:Int)) 3988292384=(↑(N8 u z y.1):Int)/\l=l/\q=q/\r=r/\v+1=(y.1:Int)/\True)/\True)/\Lt (8-y.1) (8-X.val)) (Nn (1:Int)/\Ri (v+1)/\∃(y:{k:Nat//k<=8}),((p.fdiv 2=(↑(N8 u z y.1):Int)/\l=l/\q=q/\r=r/\v+1=(y.1:Int)/\True)/\True)/\Lt (8-y.1) (8-X.val))) (Ri (r+1)/\∃(y:Up l.length),((p=(↑(J3 l y.1):Int)/\l=l/\q=q/\r+1=(y.1:Int)/\True)/\True)/\Lt (l.length-y.1) (l.length-x.1))) (bits BinOp.xor IntKind.u32 (↑u:Int) 4294967295=(↑(j3 l):Int))) ⟨⟨⟨0,L8 _⟩,⟨rfl,rfl,rfl,rfl,trivial⟩,trivial⟩,λx=>⟨λhc=>?_,λhc=>?_⟩⟩
 ·have hlt:=Y0 hc;have hr:=vM l x.1;have hb:=m6 l x.1;refine⟨X9 hlt,⟨⟨0,Z9⟩,⟨?_,rfl,rfl,rfl,rfl,trivial⟩,trivial⟩,λy=>⟨λhd=>?_,λhd=>?_⟩⟩
  ·rw[C8,tM k1 Z9,kW k1 hr Z9]
   rfl
  ·have hy:y.1<8:=by have:=B3 hd;omega
   have h:=tP hr hb y.1;rw[a9q k1 h,c1K];refine⟨λho=>⟨tJ,Z1 Z9,⟨y.1+1,hy⟩,⟨⟨?_,rfl,rfl,rfl,D9,trivial⟩,trivial⟩,mY⟩,
    λho=>⟨tJ,Z1 Z9,⟨y.1+1,hy⟩,⟨⟨?_,rfl,rfl,rfl,D9,trivial⟩,trivial⟩,mY⟩⟩
   ·have ho:N8 (J3 l x.1) (l.getD x.1 0).toNat y.1 % 2=1:=by rw[beq_iff_eq] at ho;omega
    rw[show(3988292384:Int)=((3988292384:Nat):Int) from rfl,kW k1 Z9 U4]
    simp only[N8,a1X,ho,Nat.one_mul]
   ·have ho:N8 (J3 l x.1) (l.getD x.1 0).toNat y.1 % 2=0:=by
     have:¬ ((N8 (J3 l x.1) (l.getD x.1 0).toNat y.1 % 2:Nat):Int)=1:=by simpa using ho
     omega
    simp only[N8,a1X,ho,Nat.zero_mul,Nat.xor_zero]
  ·have hy:y.1=8:=by have:=y.2;have:=k5 hd;omega
   refine⟨V4 hlt Z9,⟨x.1+1,hlt⟩,⟨⟨?_,rfl,rfl,D9,trivial⟩,trivial⟩,V2.ext_lt hlt⟩
   rw[hy];rfl
 ·have hx:x.1=l.length:=by have:=x.2;have:=X3 hc;omega
  rw[hx,show(4294967295:Int)=((4294967295:Nat):Int) from rfl,kW k1 (vM l _) U4]
  rfl
def j6(l:Bz):Nat->Nat
 |0=>0
 |i+1=>j6 l i*256+(l.getD i 0).toNat
def be(l:Bz):Nat:=j6 l l.length
def mX(l:Bz):Prop:=l.length<=4
def a5A:Rl:=⟨Bz,λl=>[.bys l],λl=>Ji (be l),mX⟩
def c6Q:Con:=.rel a5A
def iX:Rl:=⟨Bz,λl=>[.str l],λl=>Ji (be l),mX⟩
def b9i:Con:=.rel iX
def b8P(l:Bz):Nat->Ann
 |0=>.one (Up l.length) (λx=>⟨[(0,.str l),(3,Ji (j6 l x.1)),(4,Ji x.1)],[]⟩) (λx=>l.length-x.1) [] [] (λ_=>Y5)
 |_=>.none
def c6u(l:Bz):Nat->Ann
 |0=>.one (Up l.length) (λx=>⟨[(3,Ji (j6 l x.1)),(6,.bys l),(7,Ji l.length),(8,Ji x.1)],[]⟩) (λx=>l.length-x.1) [] [] (λ_=>Y5)
 |_=>.none
def b66(n:Nat):Nat->Ann
 |0=>.unr n (λ_=>Y5)
 |_=>.none
def z7(n:Nat):Bz:=[P9 (IntKind.u8.wrap ((n:Int).fdiv 16777216)),P9 (IntKind.u8.wrap ((n:Int).fdiv 65536)),P9 (IntKind.u8.wrap ((n:Int).fdiv 256)),P9 (IntKind.u8.wrap ((n:Int).fdiv 1))]
def wZ(n:Nat):Bz:=[P9 (IntKind.u8.wrap ((n:Int).fdiv 256)),P9 (IntKind.u8.wrap ((n:Int).fdiv 1))]
theorem N9(x:Int):O1 .u8 (IntKind.u8.wrap x):=by
 rw[IntKind.wrap_u8];unfold O1 IntKind.min IntKind.max IntKind.signed IntKind.bits;have:=Int.emod_nonneg x (show(256:Int)≠0 by decide)
 have:=Int.emod_lt_of_pos x (show(0:Int)<256 by decide)
 simp;omega
theorem i8(n:Int):O1 .u8 n↔(0<=n/\n<=255):=by
 unfold O1 IntKind.min IntKind.max IntKind.signed IntKind.bits;simp
def iB:Rl:=⟨Nat×Bool,λx=>[Ji x.1,Ji (match x.2 with|true=>4|false=>2)],λx=>.bys (match x.2 with|true=>z7 x.1|false=>wZ x.1),λ_=>True⟩
def a5v:Con:=.rel iB
theorem mM:GK 265 a5v:=gk func265<|by
 rintro⟨n,b⟩ _;cases b
 ·refine R1 gN func265 (b66 3) (α:=let r:=(List.map P9 []);let q:=(n:Int).fdiv;let p:=(List.take 0 r++List.take 1 (List.drop 0 (List.map P9 [IntKind.u8.wrap (q (256:Int))])));O1 .i64 1/\(true=true->O1 .i64 8/\Nn (8:Int)/\O1 IntKind.u8 (IntKind.u8.wrap (q (256:Int)))/\(Le 1 1/\Le 0 0/\U2 0 1 1)/\O1 .i64 0/\(true=true->O1 .i64 0/\Nn (0:Int)/\O1 IntKind.u8 (IntKind.u8.wrap (q (1:Int)))/\(Le (0+1) 1/\Le (0+1) 1/\U2 (0+1) 1 1)/\O1 .i64 (-1:Int)/\(false=true->O1 .i64 (-8:Int)/\Nn (18446744073709551608:Int)/\O1 IntKind.u8 (IntKind.u8.wrap (q (18446744073709551616:Int)))/\(Le (0+1) 1/\Le (0+1+1) 2/\U2 (0+1+1) 1 1)/\O1 .i64 (-2:Int)/\False)/\(false=false->Le 2 2/\List.take (0+1+1) (List.drop 0 (List.take (0+1) p++List.take 1 (List.drop 0 (List.map P9 [IntKind.u8.wrap (q (1:Int))]))))=wZ n))/\(true=false->Le 1 1/\List.take (0+1) (List.drop 0 p)=wZ n))/\(true=false->Le 0 0/\List.take 0 (List.drop 0 r)=wZ n)) ?_
  simp[Z1,N9,Nn,Le,U2,wZ]
 ·refine R1 gN func265 (b66 5) (α:=let w:=(List.map P9 []);let v:=(0+1+1+1+1);let u:=(0+1+1+1);let z:=(n:Int).fdiv;let y:=(z (16777216:Int));let q:=(List.take 0 w++List.take 1 (List.drop 0 (List.map P9 [IntKind.u8.wrap y])));let p:=(List.take (0+1) q++List.take 1 (List.drop 0 (List.map P9 [IntKind.u8.wrap (z (65536:Int))])));let r:=(List.take (0+1+1) p++List.take 1 (List.drop 0 (List.map P9 [IntKind.u8.wrap (z (256:Int))])));O1 .i64 3/\(true=true->O1 .i64 24/\Nn (24:Int)/\O1 IntKind.u8 (IntKind.u8.wrap y)/\(Le 1 1/\Le 0 0/\U2 0 1 1)/\O1 .i64 2/\(true=true->O1 .i64 16/\Nn (16:Int)/\O1 IntKind.u8 (IntKind.u8.wrap (z (65536:Int)))/\(Le (0+1) 1/\Le (0+1) 1/\U2 (0+1) 1 1)/\O1 .i64 1/\(true=true->O1 .i64 8/\Nn (8:Int)/\O1 IntKind.u8 (IntKind.u8.wrap (z (256:Int)))/\(Le (0+1) 1/\Le (0+1+1) 2/\U2 (0+1+1) 1 1)/\O1 .i64 0/\(true=true->O1 .i64 0/\Nn (0:Int)/\O1 IntKind.u8 (IntKind.u8.wrap (z (1:Int)))/\(Le (0+1) 1/\Le u 3/\U2 u 1 1)/\O1 .i64 (-1:Int)/\(false=true->O1 .i64 (-8:Int)/\Nn (18446744073709551608:Int)/\O1 IntKind.u8 (IntKind.u8.wrap (z (18446744073709551616:Int)))/\(Le (0+1) 1/\Le v 4/\U2 v 1 1)/\O1 .i64 (-2:Int)/\False)/\(false=false->Le 4 4/\List.take v (List.drop 0 (List.take u r++List.take 1 (List.drop 0 (List.map P9 [IntKind.u8.wrap (z (1:Int))]))))=z7 n))/\(true=false->Le 3 3/\List.take u (List.drop 0 r)=z7 n))/\(true=false->Le 2 2/\List.take (0+1+1) (List.drop 0 p)=z7 n))/\(true=false->Le 1 1/\List.take (0+1) (List.drop 0 q)=z7 n))/\(true=false->Le 0 0/\List.take 0 (List.drop 0 w)=z7 n)) ?_
  simp[Z1,N9,Nn,Le,U2,z7]
theorem zM(l:Bz)(i:Nat):IntKind.i64.wrap ((l.getD i 0).toNat:Int)=((l.getD i 0).toNat:Int):=uW _
theorem a2j(l:Bz):∀i,j6 l i<256 ^ i
 |0=>by simp[j6]
 |i+1=>by
  have h:=a2j l i;have d:=m6 l i;simp only[j6,Nat.pow_succ];omega
theorem a4B(l:Bz){i:Nat}(h:i<=4):j6 l i<4294967296:=
 xC (a2j l i) (Nat.pow_le_pow_right (n:=256) U4 h)
theorem a4m(l:Bz){i:Nat}(h:i<4):j6 l i<16777216:=
 xC (a2j l i) (Nat.pow_le_pow_right (n:=256) U4 (show i<=3 by omega))
theorem cN:GK 242 b9i:=gk func242<|by
 intro(l:Bz) (hl:l.length<=4);refine R1 gN func242 (b8P l) (α:=(∃(x:Up l.length),(l=l/\0=(↑(j6 l x.1):Int)/\0=(x.1:Int)/\True)/\True)/\∀(x:Up l.length),let r:=(x.1:Int);let q:=(↑(l.getD r.toNat (0:UInt8)).toNat:Int);let p:=(↑(j6 l x.1):Int);bd (r<(l.length:Int)) (Ri (p*256)/\V3 r l.length/\Ri (p*256+IntKind.i64.wrap q)/\Ri (r+1)/\∃(y:Up l.length),((l=l/\p*256+IntKind.i64.wrap q=(↑(j6 l y.1):Int)/\r+1=(y.1:Int)/\True)/\True)/\Lt (l.length-y.1) (l.length-x.1)) (p=(↑(be l):Int))) ⟨⟨⟨0,L8 _⟩,⟨rfl,rfl,rfl,trivial⟩,trivial⟩,λx=>⟨λhc=>?_,λhc=>?_⟩⟩
 ·have hlt:=Y0 hc;have hb:=m6 l x.1;have hr:=a4m l (show x.1<4 by omega)
  rw[C8,zM];refine⟨Z1 Z9,X9 hlt,Z1 Z9,V4 hlt Z9,⟨x.1+1,hlt⟩,⟨⟨rfl,?_,D9,trivial⟩,trivial⟩,V2.ext_lt hlt⟩
  simp only[j6];omega
 ·have hx:x.1=l.length:=by have:=x.2;have:=X3 hc;omega
  rw[hx];rfl
theorem a2E:GK 199 c6Q:=gk func199<|by
 intro(l:Bz) (hl:l.length<=4);refine R1 gN func199 (c6u l) (α:=let p:=(l.length:Int);(∃(x:Up l.length),(0=(↑(j6 l x.1):Int)/\l=l/\p=p/\0=(x.1:Int)/\True)/\True)/\∀(x:Up l.length),let r:=(↑(j6 l x.1):Int);let q:=(x.1:Int);bd (q<p) (V3 q l.length/\Nn (8:Int)/\Ri (q+1)/\∃(y:Up l.length),((bits BinOp.or IntKind.i64 (IntKind.i64.wrap (r*256)) (IntKind.i64.wrap (↑(l.getD q.toNat (0:UInt8)).toNat:Int))=(↑(j6 l y.1):Int)/\l=l/\p=p/\q+1=(y.1:Int)/\True)/\True)/\Lt (l.length-y.1) (l.length-x.1)) (r=(↑(be l):Int))) ⟨⟨⟨0,L8 _⟩,⟨rfl,rfl,rfl,rfl,trivial⟩,trivial⟩,λx=>⟨λhc=>?_,λhc=>?_⟩⟩
 ·have hlt:=Y0 hc;have hb:=m6 l x.1;have hr:=a4m l (show x.1<4 by omega)
  rw[C8,zM,show((j6 l x.1:Nat):Int)*256=((j6 l x.1*256:Nat):Int) by omega,tM (.inl rfl) Z9,c63 (.inl rfl) Z9 Z9]
  refine⟨X9 hlt,tJ,V4 hlt Z9,⟨x.1+1,hlt⟩,⟨⟨?_,rfl,rfl,D9,trivial⟩,trivial⟩,V2.ext_lt hlt⟩
  have:=Nat.two_pow_add_eq_or_of_lt (i:=8) (b:=(l.getD x.1 0).toNat) hb (j6 l x.1);rw[show j6 l x.1*256=2 ^ 8*j6 l x.1 by omega,←this]
  simp only[j6];omega
 ·have hx:x.1=l.length:=by have:=x.2;have:=X3 hc;omega
  rw[hx];rfl
def R3(b:Bz):Bool:=decide (4<=b.length)&&j3 (b.take (b.length-4))==be (b.drop (b.length-4))
def X0(b:Bz):Bz:=if R3 b then b.take (b.length-4) else[]
def tR:Rl:=⟨Bz,λb=>[.bys b],λb=>.tup [.bys (X0 b),.bool (R3 b)],v5⟩
def a6L:Con:=.rel tR
def a40:Rl:=⟨Bz,λb=>[.str b],λb=>.tup [.str (X0 b),.bool (R3 b)],v5⟩
def a3N:Con:=.rel a40
theorem sW:GK 131 a6L:=gk func131<|by
 intro(b:Bz) (hl:b.length<=1000000000);have hd:∀{p:Prop},(decide ((b.length:Int)-4<0)=false->p)↔(4<=b.length->p):=λ{p}=>⟨λh g=>h (tH Z9),λh g=>h a25⟩
 refine R1 (gC oY (gC a2E gN)) func131 Y5 (α:=let p:=(b.length:Int);let z:=(p-4).toNat;let r:=(decide (p-4<0)=false->lY (p-4) b.length);O1 .i64 (p-4)/\r/\∃(x:(uJ IntKind.u32).ι),(decide (p-4<0)=false->(List.take z b=x/\True)/\v5 x)/\r/\∃(X:a5A.ι),let q:=(decide (p-4<0)||IntKind.i64.wrap (↑(j3 x):Int) !=(↑(be X):Int));(decide (p-4<0)=false->(List.drop z b=X/\True)/\mX X)/\(q=true->X0 b=[]/\false=R3 b/\True)/\(q=false->lY (p-4) b.length/\List.take z b=X0 b/\true=R3 b/\True)) ?_
 refine⟨Z1 Z9,hd.2 λd=>⟨Z9,Z9⟩,b.take (b.length-4),hd.2 ?_,hd.2 λd=>⟨Z9,Z9⟩,b.drop (b.length-4),hd.2 ?_,?_⟩
 ·exact λd=>⟨⟨a8V,trivial⟩,by unfold v5;simp;omega⟩
 ·exact λd=>⟨⟨a8V,trivial⟩,by unfold mX;simp;omega⟩
 have e:(decide ((b.length:Int)-4<0)||IntKind.i64.wrap (j3 (b.take (b.length-4)):Int) !=(be (b.drop (b.length-4)):Int))= !R3 b:=by
  rw[tM (.inl rfl) (a1Q _)];unfold R3;rw[Bool.eq_iff_iff];simp;omega
 rw[e];refine⟨λh=>?_,λh=>?_⟩
 ·have h:R3 b=false:=by simpa using h
  exact⟨by simp[X0,h],h.symm,trivial⟩
 ·have h:R3 b=true:=by simpa using h
  have d:4<=b.length:=by simp[R3] at h;exact h.1
  exact⟨⟨Z9,Z9⟩,by rw[show((b.length:Int)-4).toNat=b.length-4 by omega];simp[X0,h],h.symm,trivial⟩
theorem nK:GK 240 a3N:=gk func240<|by
 intro(b:Bz) (hl:b.length<=1000000000);have hd:∀{p:Prop},(decide ((b.length:Int)-4<0)=false->p)↔(4<=b.length->p):=λ{p}=>⟨λh g=>h (tH Z9),λh g=>h a25⟩
 refine R1 (gC kC (gC cN gN)) func240 Y5 (α:=let p:=(b.length:Int);let z:=(p-4).toNat;let r:=(decide (p-4<0)=false->lY (p-4) b.length);O1 .i64 (p-4)/\r/\(decide (p-4<0)=false->Lt (List.take z b).length 140737488355329)/\∃(x:(uJ IntKind.i64).ι),(decide (p-4<0)=false->(List.take z b=x/\True)/\v5 x)/\r/\∃(X:iX.ι),let q:=(decide (p-4<0)||(↑(j3 x):Int) !=(↑(be X):Int));(decide (p-4<0)=false->(List.drop z b=X/\True)/\mX X)/\(q=true->[]=X0 b/\false=R3 b/\True)/\(q=false->lY (p-4) b.length/\List.take z b=X0 b/\true=R3 b/\True)) ?_
 refine⟨Z1 Z9,hd.2 λd=>⟨Z9,Z9⟩,hd.2 λd=>by unfold Lt;simp;omega,b.take (b.length-4),hd.2 ?_,hd.2 λd=>⟨Z9,Z9⟩,b.drop (b.length-4),hd.2 ?_,?_⟩
 ·exact λd=>⟨⟨a8V,trivial⟩,by unfold v5;simp;omega⟩
 ·exact λd=>⟨⟨a8V,trivial⟩,by unfold mX;simp;omega⟩
 have e:(decide ((b.length:Int)-4<0)||(j3 (b.take (b.length-4)):Int) !=(be (b.drop (b.length-4)):Int))= !R3 b:=by
  unfold R3;rw[Bool.eq_iff_iff];simp;omega
 rw[e];refine⟨λh=>?_,λh=>?_⟩
 ·have h:R3 b=false:=by simpa using h
  exact⟨by simp[X0,h],h.symm,trivial⟩
 ·have h:R3 b=true:=by simpa using h
  have d:4<=b.length:=by simp[R3] at h;exact h.1
  exact⟨⟨Z9,Z9⟩,by rw[show((b.length:Int)-4).toNat=b.length-4 by omega];simp[X0,h],h.symm,trivial⟩
def Z6(L:List (Bz))(i:Nat):List T:=[.str (L.getD i [])]
def yC(L:List (Bz)):T:=.sl 1 L.length (Z6 L)
def u5(L:List (Bz)):Option Ob:=some (.arr true 0 1 L.length (Z6 L))
structure Fst where
 l:Bz
 fl:Bool
 out:List (Bz)
def Fst.step(s:Fst):Fst:=⟨Q3 (s.l.drop 1) (numR s.l),(s.fl||s.l.isEmpty)||big (s.l.drop 1) (numR s.l),s.out++[S7 (s.l.drop 1) (numR s.l)]⟩
def Fst.go(s:Fst):Nat->Fst
 |0=>s
 |n+1=>Fst.step (Fst.go s n)
def fs0(l:Bz)(fl:Bool):Fst:=⟨l.drop 1,fl||l.isEmpty,[]⟩
def F3(l:Bz)(fl:Bool)(i:Nat):Fst:=Fst.go (fs0 l fl) i
def T4(l:Bz)(fl:Bool):Fst:=F3 l fl (numR l).toNat
theorem uR(l:Bz)(fl:Bool):∀i,(F3 l fl i).out.length=i
 |0=>rfl
 |i+1=>by
  have:=uR l fl i;simp only[F3] at this ⊢;simp[Fst.go,Fst.step,this]
def a3I:List T->Y4->Option (T×Y4×Option Prop)
 | [.ref 0 0 0],[some (.arr true _ 2 1 row)]=>match row 0 with
  | [.bys l,.bool fl]=>some (yC (T4 l fl).out,[rdr (T4 l fl).l (T4 l fl).fl],none)
  |_=>none
 |_,_=>none
def b7S:Con:=.eff a3I
def a5d(l:Bz)(fl:Bool):Nat->Ann
 |0=>.one (Up ((numR l).toNat)) (λx=>⟨[(0,.ref 0 0 0),(3,.osl 1 0 (F3 l fl x.1).out.length),(6,Ji (numR l)),(7,Ji x.1)],[rdr (F3 l fl x.1).l (F3 l fl x.1).fl,u5 (F3 l fl x.1).out]⟩) (λx=>(numR l).toNat-x.1) a5O [.box 0,.arr 3] (λ_=>Y5)
 |_=>.none
def xM(t:Bz):Nat->Option (Nat×List (Bz))
 |0=>some (1,[])
 |i+1=>match xM t i with
  |some (p,out)=>if p<t.length/\p+1+(t.getD p 0).toNat<=t.length then some (p+1+(t.getD p 0).toNat,out++[List.drop (p+1) (List.take (p+1+(t.getD p 0).toNat) t)]) else none
  |none=>none
def C1(t:Bz):Nat:=(t.getD 0 0).toNat
def P3(t:Bz):Option (List (Bz)):=if t.length=0∨C1 t>100 then none else match xM t (C1 t) with
 |some (p,out)=>if p=t.length then some out else none
 |none=>none
def aD:Rl:=⟨Bz,λt=>[.str t],λt=>.tup [yC ((P3 t).getD []),.bool (P3 t).isSome],v5⟩
def b2p:Con:=.rel aD
def b81(t:Bz):Type:={x:Nat×Nat×List (Bz)//x.1<=C1 t/\xM t x.1=some x.2}
def b1e(t:Bz):Nat->Ann
 |0=>.one (b81 t) (λx=>⟨[(0,.str t),(4,.osl 0 0 x.1.2.2.length),(5,Ji x.1.2.1),(6,Ji (C1 t-x.1.1:Int))],[u5 x.1.2.2]⟩) (λx=>C1 t-x.1.1) [.arr 0] [.arr 2] (λ_=>Y5)
 |_=>.none
theorem qN(row row':Nat->List T):Z7 0 row row':=λi hi=>absurd hi (J2 i)
theorem W2(n:Nat)(row:Nat->List T):Z7 n row row:=λi _=>rfl
theorem a2B(L:List (Bz))(s:Bz):Z7 (L.length+1) (X6 (Z6 L) L.length λk=>List.take 1 (List.drop (k*1) [T.str s])) (Z6 (L++[s])):=by
 intro i hi;by_cases h:i<L.length
 ·rw[P4 h];simp[Z6,tI h]
 ·obtain rfl:i=L.length:=by omega
  rw[P5 (U9 _),j_i];simp[Z6]
theorem aS:GK 202 b7S:=gk func202<|by
 intro args H res H' p h hp;unfold a3I at h;split at h
 ·rename_i ty row;split at h
  ·rename_i l fl hrow;simp only[W9,T6] at h;obtain⟨rfl,rfl,rfl⟩:=h;refine rU (jD hrow) ?_
   have N:=r6 l;refine vcE (gC eR (gC rD gN)) func202 (a5d l fl) (bs:=[true]) (α:=let j:=(T4 l fl);(∃(x:Up ((numR l).toNat)),let q:=(F3 l fl x.1);((0=0/\0=0)/\(0=0/\0=q.out.length)/\numR l=numR l/\0=(x.1:Int)/\True)/\(oo (List.drop 1 l=q.l/\(fl||l.isEmpty)=q.fl/\True))/\(0=q.out.length/\Z7 0 (tk 1 []) (Z6 q.out))/\True)/\∀(x:Up ((numR l).toNat)),let w:=(x.1:Int);let p:=(F3 l fl x.1);let v:=(numR p.l);let u:=(List.drop 1 p.l);let z:=p.out.length;bd (w<numR l) (r8 v/\(Le 1 1/\Le p.out.length z/\U2 p.out.length 1 16)/\Ri (w+1)/\∃(y:Up ((numR l).toNat)),let r:=(F3 l fl y.1);(((0=0/\0=0)/\(0=0/\z+1=r.out.length)/\numR l=numR l/\w+1=(y.1:Int)/\True)/\(oo (Q3 u v=r.l/\(p.fl||p.l.isEmpty||big u v)=r.fl/\True))/\(z+1=r.out.length/\Z7 (z+1) (X6 (Z6 p.out) p.out.length (tk 1 [T.str (S7 u v)])) (Z6 r.out))/\True)/\Lt ((numR l).toNat-y.1) ((numR l).toNat-x.1)) (Le (0+z) z/\(Z3 Z6 p.out j.out)/\(oo (p.l=j.l/\p.fl=j.fl/\True))/\True)) ⟨⟨⟨0,L8 _⟩,⟨⟨rfl,rfl⟩,⟨rfl,rfl⟩,rfl,rfl,trivial⟩,⟨rfl,rfl,rfl,rfl,trivial⟩,⟨rfl,qN _ _⟩,trivial⟩,λx=>⟨λhc=>?_,λhc=>?_⟩⟩
   ·have t:(x.1:Int)<numR l:=B3 hc;have n:=uR l fl x.1;have M:=r6 (F3 l fl x.1).l;refine⟨⟨M.1,Z9⟩,⟨U9 _,U9 _,Z9,Z9⟩,Z1 Z9,⟨x.1+1,Z9⟩,⟨⟨⟨rfl,rfl⟩,⟨rfl,(congrArg (· +1) n).trans (uR l fl (x.1+1)).symm⟩,rfl,D9,trivial⟩,⟨rfl,rfl,rfl,rfl,trivial⟩,⟨(congrArg (· +1) n).trans (uR l fl (x.1+1)).symm,a2B _ _⟩,trivial⟩,mY⟩
   ·have hge:¬ (x.1:Int)<numR l:=k5 hc;have hx:=x.2;have he:x.1=(numR l).toNat:=by omega
    rw[he];exact⟨C9,⟨rfl,W2 _ _⟩,⟨rfl,rfl,rfl,rfl,trivial⟩,trivial⟩
  ·cases h
 ·cases h
theorem fZ{t:Bz}:∀{i:Nat} {x:Nat×List (Bz)},xM t i=some x->x.2.length=i
 |0,x,h=>by simp only[xM,W9] at h;subst h;rfl
 |i+1,x,h=>by
  simp only[xM] at h;split at h
  ·rename_i p out ho;split at h
   ·simp only[W9] at h;subst h;simp[fZ ho]
   ·cases h
  ·cases h
theorem a88{t:Bz}{i p:Nat}{out:List (Bz)}(h:xM t i=some (p,out)):xM t (i+1)=if p<t.length/\p+1+(t.getD p 0).toNat<=t.length then some (p+1+(t.getD p 0).toNat,out++[List.drop (p+1) (List.take (p+1+(t.getD p 0).toNat) t)]) else none:=by
 simp only[xM,h]
theorem a1y{t:Bz}{i:Nat}(h:xM t i=none):∀j,xM t (i+j)=none
 |0=>h
 |j+1=>by
  have:=a1y h j;rw[show i+(j+1)=(i+j)+1 by omega]
  simp only[xM,this]
theorem fV:GK 241 b2p:=gk func241<|by
 intro(t:Bz) (hl:t.length<=1000000000);have B:=m6 t;have N:((t.getD 0 0).toNat:Int)=(C1 t:Int):=rfl;have d:(t==[])=false->0<t.length:=λh=>List.length_pos_iff.2 F6
 refine R1 gN func241 (b1e t) (α:=let n:=((P3 t).getD []);let k:=(↑(t.getD 0 (0:UInt8)).toNat:Int);let w:=(↑(C1 t):Int);let v:=(t.length:Int);let r:=(Le 0 0/\(0=n.length/\Z7 0 (tk 1 []) (Z6 n))/\false=(P3 t).isSome/\True);((t==[])=false->V3 (0:Int) t.length)/\br (t==[]||decide (k>100)) r (V3 (0:Int) t.length/\(∃(x:b81 t),let f:=x.1.2;(t=t/\(0=0/\0=f.2.length)/\1=(f.1:Int)/\IntKind.i64.wrap k=w- (x.1.1:Int)/\True)/\(0=f.2.length/\Z7 0 (tk 1 []) (Z6 f.2))/\True)/\∀(x:b81 t),let m:=x.1;let a:=(m.1:Int);let z:=m.2.2.length;let q:=(m.2.1:Int);let p:=(↑(t.getD q.toNat (0:UInt8)).toNat:Int);let j:=(1+IntKind.i64.wrap p);let u:=(q+1+IntKind.i64.wrap p);bd (w- a>0) ((decide (q≥v)=false->Ri (q+1))/\(decide (q≥v)=false->V3 q t.length)/\(decide (q≥v)=false->Ri u)/\br (decide (q≥v)||decide (q+1+IntKind.i64.wrap p>v)) r (V3 q t.length/\Ri (q+1)/\Ri (q+1)/\Ri u/\b0W (q+1) u t.length/\(Le 1 1/\Le m.2.2.length z/\U2 m.2.2.length 1 16)/\Ri j/\Ri (q+j)/\Ri (w- a-1)/\∃(y:b81 t),let g:=y.1;((t=t/\(0=0/\z+1=g.2.2.length)/\q+j=(g.2.1:Int)/\w- a-1=w- (g.1:Int)/\True)/\(z+1=g.2.2.length/\Z7 (z+1) (X6 (Z6 m.2.2) m.2.2.length (tk 1 [T.str (List.drop (q+1).toNat (List.take u.toNat t))])) (Z6 g.2.2))/\True)/\Lt (C1 t-g.1) (C1 t-m.1))) (br (q !=v) r (Le (0+z) z/\(Z3 Z6 m.2.2 n)/\true=(P3 t).isSome/\True)))) ⟨λh=>⟨Z9,by have:=d h;omega⟩,λh=>?_,λh=>?_⟩
 ·have n:P3 t=none:=by
   unfold P3;rw[if_pos];simp only[qY,beq_iff_eq,g7] at h;rcases h with h|h
   ·exact .inl cZ
   ·exact .inr Z9
  rw[n];exact⟨U9 _,⟨rfl,qN _ _⟩,rfl,trivial⟩
 simp only[zY,qW] at h;have e:0<t.length:=d h.1;have l:P3 t=match xM t (C1 t) with
  |some (p,out)=>if p=t.length then some out else none
  |none=>none:=by
  unfold P3;rw[if_neg Z9]
 refine⟨⟨Z9,Z9⟩,⟨⟨(0,1,[]),L8 _,rfl⟩,⟨rfl,⟨rfl,rfl⟩,rfl,by rw[zM,N];simp,trivial⟩,⟨rfl,qN _ _⟩,trivial⟩,λx=>?_⟩
 obtain⟨⟨i,p,out⟩,hi,X⟩:=x;simp only at hi X ⊢;have f:out.length=i:=fZ X;rw[C8,zM];have j:=B p;refine⟨λhc=>?_,λhc=>?_⟩
 ·have hlt:i<C1 t:=by have:=B3 hc;omega
  have hst:=a88 X;refine⟨λg=>Z1 a25,λg=>⟨Z9,a25⟩,λg=>Z1 a25,λg=>?_,λg=>?_⟩
  ·have n:P3 t=none:=by
    rw[if_neg (by simp only[qY,g7] at g;omega)] at hst
    rw[l];have:=a1y hst (C1 t- (i+1));rw[show i+1+(C1 t- (i+1))=C1 t by omega] at this
    rw[this]
   rw[n];exact⟨U9 _,⟨rfl,qN _ _⟩,rfl,trivial⟩
  ·simp only[zY,qW] at g;rw[if_pos Z9] at hst
   refine⟨⟨Z9,Z9⟩,Z1 Z9,Z1 Z9,Z1 Z9,⟨Z9,Z9,Z9⟩,⟨U9 _,U9 _,Z9,Z9⟩,Z1 Z9,Z1 Z9,Z1 Z9,
    ⟨(i+1,_,_),hlt,hst⟩,⟨⟨x1,⟨x1,W6⟩,D9,D9,trivial⟩,⟨W6,?_⟩,trivial⟩,mY⟩
   rw[show((p:Int)+1).toNat=p+1 by omega,show((p:Int)+1+((t.getD p 0).toNat:Int)).toNat=p+1+(t.getD p 0).toNat by omega]
   exact a2B _ _
 ·have he:i=C1 t:=by have:=k5 hc;omega
  subst he;rw[X] at l;simp only at l;refine⟨λg=>?_,λg=>?_⟩
  ·have n:P3 t=none:=by
    rw[l,if_neg (by simp only[bne_iff_ne,ne_eq] at g;omega)]
   rw[n];exact⟨U9 _,⟨rfl,qN _ _⟩,rfl,trivial⟩
  ·have n:P3 t=some out:=by
    rw[l,if_pos (by simp only[bne_eq_false_iff_eq] at g;omega)]
   rw[n];exact⟨C9,⟨rfl,W2 _ _⟩,rfl,trivial⟩
end
end Go.Proofs.YtcobnbfhkpbokaaGreat
