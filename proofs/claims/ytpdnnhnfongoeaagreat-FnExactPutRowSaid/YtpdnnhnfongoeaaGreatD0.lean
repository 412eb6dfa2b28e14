/- A part of the proof. -/
import Derived.Test.YtpdnnhnfongoeaaGreatRows
import Derived.Test.YtpdnnhnfongoeaaGreatSS15
namespace Go.Proofs.YtpdnnhnfongoeaaGreat
set_option maxRecDepth 100000
open Go.SS Go.Proofs.Tryz
noncomputable section
abbrev Ji(n:Int):T:=.int .i64 n
abbrev dz:=@default
def Z3:Nat->Ann:=λ_=>.none
def a9M:prog.follows .mixedOrders=true:=R5
def leB{a b:Nat}(h:Nat.ble a b=true):a<=b:=yH h
def c6l:B6 prog []:=λ_ h=>F3
def b5S:∀x ∈ ([]:H6),Q6 prog x.1:=λ_ h=>F3
def c3h{f:FuncId}{c:Con}{G:H6}(h:a5O prog f c)(k:B6 prog G):B6 prog ((f,c)::G):=λx X=>by
 rcases vN.1 X with rfl|X
 ·exact h
 ·exact k x X
def b1A{f:FuncId}{c:Con}{G:H6}(h:Q6 prog f)(k:∀x ∈ G,Q6 prog x.1):∀x ∈ (f,c)::G,Q6 prog x.1:=λx X=>by
 rcases vN.1 X with rfl|X
 ·exact h
 ·exact k x X
def GG(G:H6):Prop:=B6 prog G/\∀x ∈ G,Q6 prog x.1
def gN:GG []:=⟨c6l,b5S⟩
abbrev br(b:Bool)(p q:Prop):Prop:=(b=true->p)/\(b=false->q)
abbrev bd(c:Prop)[Decidable c](p q:Prop):Prop:=br (decide c) p q
abbrev Up(n:Nat):Type:={i:Nat//i<=n}
abbrev Ri(n:Int):Prop:=R2 .i64 n
def pZ:List (List Lk):=[[.arr 0]]
def iQ:List Lk:=[.box 0,.box 1]
def cG:List Lk:=[.arr 0,.box 1]
def aW:List (List Lk):=[[.box 0,.arr 1,.arr 2,.arr 3,.arr 4,.arr 5,.arr 6,.arr 7,.arr 8,.cel 0 0,.cel 0 1,.cel 0 3,.cel 0 5,.cel 0 7,.cel 0 10,.cel 0 11,.cel 0 12]]
def c95:List Lk:=[.box 0,.arr 1,.arr 2,.arr 3,.arr 4,.arr 5,.arr 6,.arr 7,.arr 8,.cel 0 0,.cel 0 1,.cel 0 3,.cel 0 5,.cel 0 7,.cel 0 10,.cel 0 11,.cel 0 12]
def a8R:List Lk:=[.box 0,.arr 1,.arr 2,.arr 3,.arr 4,.arr 5,.arr 6,.arr 7,.arr 8,.box 9,.box 10,.box 11,.box 12,.cel 0 0,.cel 0 1,.cel 0 3,.cel 0 5,.cel 0 7,.cel 0 10,.cel 0 11,.cel 0 12]
def b5o:List Lk:=[.box 0,.arr 1]
def b7V:List Lk:=[.box 0,.at_ 5]
def b7n:List Lk:=[.box 0,.box 1,.box 2,.cel 2 0,.cel 2 1]
def c2R:List Lk:=[.box 0,.at_ 7,.at_ 8]
def b6z:List (List Lk):=[[.arr 1],[.nilS 0 [] 0 2,.arr 0]]
def c92:List Lk:=[.nilS 0 [] 0 2,.arr 0]
def c4n:List Lk:=[.arr 2,.arr 3,.arr 4,.arr 5,.arr 6]
def c4t:List Lk:=[.box 0,.arr 1,.arr 2,.arr 3,.arr 4,.arr 5,.arr 8]
def c4M:List Lk:=[.box 0,.arr 1,.arr 2,.arr 3,.arr 4,.arr 5,.arr 6]
def c5g:List Lk:=[.box 0,.arr 1,.arr 2,.arr 3,.arr 4,.arr 5]
def c41:List Lk:=[.box 0,.arr 1,.arr 2,.arr 3,.arr 4,.arr 5,.arr 7,.arr 8]
def c4D:List Lk:=[.box 0,.arr 1,.arr 2,.arr 3,.arr 4,.arr 5,.arr 2,.arr 3]
def c4I:List Lk:=[.box 0,.box 1,.box 5,.arr 2,.arr 3,.arr 4]
def c4m:List Lk:=[.box 0,.box 1,.box 2,.arr 3,.arr 4,.arr 5]
def c42:List (List Lk):=[[.box 0,.arr 1,.arr 2,.arr 3,.arr 4,.arr 5,.arr 6,.arr 7,.arr 5],[.box 0,.arr 1,.arr 2,.arr 3,.arr 4,.arr 5,.arr 2,.arr 3,.arr 7],[.box 0,.arr 1,.arr 2,.arr 3,.arr 4,.arr 5,.arr 2,.arr 3,.arr 5]]
def c91:List Lk:=[.box 0,.arr 1,.arr 2,.arr 3,.arr 4,.arr 5,.arr 6,.arr 7,.arr 5]
def c9Y:List Lk:=[.box 0,.arr 1,.arr 2,.arr 3,.arr 4,.arr 5,.arr 2,.arr 3,.arr 7]
def c93:List Lk:=[.box 0,.arr 1,.arr 2,.arr 3,.arr 4,.arr 5,.arr 2,.arr 3,.arr 5]
def c4q:List (List Lk):=[[.box 0,.arr 1,.arr 2,.arr 3,.arr 4,.arr 5,.arr 7,.arr 8,.arr 9]]
def c9Z:List Lk:=[.box 0,.arr 1,.arr 2,.arr 3,.arr 4,.arr 5,.arr 7,.arr 8,.arr 9]
def c5m:List Lk:=[.arr 0,.arr 1,.box 2,.box 3,.at_ 5]
def c4Z:List Lk:=[.box 0,.box 1,.box 2,.cel 2 0,.cel 2 1,.at_ 13,.box 6,.box 7]
def c5q:List Lk:=[.box 0,.arr 1,.arr 2,.arr 3,.arr 4,.arr 5,.arr 6,.arr 7,.arr 8,.box 9,.at_ 5]
def GK(f:FuncId)(c:Con):Prop:=a5O prog f c/\Q6 prog f
def gk{f:FuncId}{c:Con}{fn:Func}(h:prog.funcs[f]? =some fn)(k:a5O prog f c)(a:(fn.name== "runtime.NumGoroutine")=false:=by kernel_rfl)(b:fn.body.isNone=false:=by kernel_rfl):GK f c:=⟨k,fn,h,a,b⟩
def gC{f:FuncId}{c:Con}{G:H6}(h:GK f c)(r:GG G):GG ((f,c)::G):=⟨c3h h.1 r.1,b1A h.2 r.2⟩
def U5{G:H6}{f:FuncId}{fn:Func}{args:List T}{res:T}(g:GG G)(F:prog.funcs[f]? =some fn)(A:Nat->Ann){α:Prop}(h:α)(B:fn.body=some (fn.body.getD .skip):=by kernel_rfl)(n:Nat.ble args.length fn.ntmps=true:=by kernel_rfl)(e:α=c8j prog G fn.ntmps fn.results.toList (fn.body.getD .skip) args res A:=by kernel_rfl):V4 prog f args res:=
 c8M a9M g.1 g.2 F B (leB n) A (Eq.mp e h)
def c90{q r:Sort _}{a:q}{b:r}:a=a/\b=b:=⟨rfl,rfl⟩
def c94{q:Sort _}{a:q}{n:Nat}{r:Nat->List T}:a=a/\Z7 n r r:=⟨rfl,λ_ _=>rfl⟩
def c9W:True/\True:=⟨trivial,trivial⟩
def c9F{q0:Sort _}{a0:q0}:a0=a0/\True:=⟨rfl,trivial⟩
def C6{G:H6}{f:FuncId}{fn:Func}{args:List T}{H Hres:X9}{res:T}(g:GG G)(F:prog.funcs[f]? =some fn)(A:Nat->Ann)(lk:List (List Lk)){α:Prop}(h:α)(B:fn.body=some (fn.body.getD .skip):=by kernel_rfl)(n:Nat.ble args.length fn.ntmps=true:=by kernel_rfl)(e:α=c5f prog G fn.ntmps fn.results.toList (fn.body.getD .skip) args H res Hres A lk:=by kernel_rfl):G3 prog f args H res Hres:=
 c52 a9M g.1 g.2 F B (leB n) A lk (Eq.mp e h)
def vcE{G:H6}{f:FuncId}{fn:Func}{args:List T}{H Hres:X9}{bs:List Bool}{res:T}(g:GG G)(F:prog.funcs[f]? =some fn)(A:Nat->Ann){α:Prop}(h:α)(B:fn.body=some (fn.body.getD .skip):=by kernel_rfl)(n:Nat.ble args.length fn.ntmps=true:=by kernel_rfl)(e:α=c5c prog G fn.ntmps fn.results.toList (fn.body.getD .skip) args H bs res Hres A:=by kernel_rfl)(l:H.length=bs.length:=by rfl):G3 prog f args H res Hres:=
 c5W a9M g.1 g.2 F B (leB n) l A (Eq.mp e h)
abbrev Z0{α:Type}(row:List α->Nat->List T)(A B:List α):Prop:=A.length=B.length/\Z7 A.length (row A) (row B)
def Z4{n:Int}(h: -9223372036854775808<=n/\n<=9223372036854775807):R2 .i64 n:=by
 unfold R2;simp only[IntKind.min,IntKind.max,IntKind.bits,IntKind.signed];simp;omega
def k7(n:Int):R2 .i64 n↔(-9223372036854775808<=n/\n<=9223372036854775807):=by
 unfold R2;simp only[IntKind.min,IntKind.max,IntKind.bits,IntKind.signed];simp
def uN(x:UInt8):IntKind.i64.wrap (x.toNat:Int)=x.toNat:=by
 have:=x.toNat_lt;rw[IntKind.wrap_i64];omega
def m5(n:Int):Prop:= -1000000000000000<=n/\n<=1000000000000000
def b7f{p:Prop}(h:p:=by unfold m5;dsimp only;omega):p:=h
def V6(n l hi:Int):Bool:=decide (l<=n)&&decide (n<=hi)
def qU:List T->Option (T×Option Prop)
 | [.int .i64 n,.int .i64 lo,.int .i64 hi]=>some (.bool (V6 n lo hi),none)
 |_=>none
def b4I:Con:=.pure qU
def b4v(n l hi:Int)(h:
  (decide (l<=n)&&decide (n<=hi))=V6 n l hi):
  V4 prog 91 [Ji n,Ji l,Ji hi] (.bool (V6 n l hi)):=
 U5 gN func91 Z3 h
def O1:GK 91 b4I:=gk func91<|by
 intro args res p h hp;unfold qU at h;split at h
 ·simp only[X0,U4] at h;obtain⟨rfl,rfl⟩:=h;exact b4v _ _ _ rfl
 ·cases h
def c3X:Con:=.pure qU
def c2Q(n l hi:Int)(h:
  (decide (l<=n)&&decide (n<=hi))=V6 n l hi):
  V4 prog 33 [Ji n,Ji l,Ji hi] (.bool (V6 n l hi)):=
 U5 gN func33 Z3 h
def z9:GK 33 c3X:=gk func33<|by
 intro args res p h hp;unfold qU at h;split at h
 ·simp only[X0,U4] at h;obtain⟨rfl,rfl⟩:=h;exact c2Q _ _ _ rfl
 ·cases h
def a0C:List T->Option (T×Option Prop)
 | [.int .i64 n,.int .i64 m]=>some (.bool (decide (0<=n)&&decide (n<m)),some (m5 m))
 |_=>none
def b1D:Con:=.pure a0C
def b1H(n m:Int)(h:
  Ri (m-1)/\V6 n (0:Int) (m-1)=(decide (0<=n)&&decide (n<m))):
  V4 prog 229 [Ji n,Ji m] (.bool (decide (0<=n)&&decide (n<m))):=
 U5 (gC O1 gN) func229 Z3 h
def tK:GK 229 b1D:=gk func229<|by
 intro args res p h hp;unfold a0C at h;split at h
 ·simp only[X0,U4] at h;obtain⟨rfl,rfl⟩:=h;have hp:m5 _:=hp;unfold m5 at hp;refine b1H _ _ ⟨Z4 Z9,?_⟩
  unfold V6;congr 1
  exact decide_eq_decide.2 Z9
 ·cases h
def big(l:Bz)(n:Int):Bool:=decide (n>(l.length:Int))
def T4(l:Bz)(n:Int):Bz:=if big l n then List.replicate n.toNat 0 else l.take n.toNat
def Q8(l:Bz)(n:Int):Bz:=if big l n then l else l.drop n.toNat
def rdr(l:Bz)(fl:Bool):Option Ob:=some (.arr true 1000000 2 1 λ_=>[.bys l,.bool fl])
def r8(n:Int):Prop:=0<=n/\n<140737488355328
def iP{ty:TypeId}{row:Nat->List T}{l:Bz}{fl:Bool}(h:row 0=[.bys l,.bool fl]):c2a [some (.arr true ty 2 1 row)] [rdr l fl]:=
 ⟨.rows _ _ _ _ _ _ _ λi hi=>by(obtain rfl:i=0:=by omega);exact h,trivial⟩
def b6o:List T->X9->Option (T×X9×Option Prop)
 | [.ref 0 0 0,.int .i64 n],[some (.arr true _ 2 1 row)]=>match row 0 with
  | [.bys l,.bool fl]=>some (.bys (T4 l n),[rdr (Q8 l n) (fl||big l n)],some (r8 n))
  |_=>none
 |_,_=>none
def c7U:Con:=.eff b6o
def qI:GK 335 c7U:=gk func335<|by
 intro args H res H' p h hp;unfold b6o at h;split at h
 ·rename_i n ty row;split at h
  ·rename_i l fl hrow;simp only[X0,U4] at h;obtain⟨rfl,rfl,rfl⟩:=h;obtain⟨h0,h1⟩:r8 n:=hp;refine qZ (iP hrow) ?_
   refine vcE gN func335 Z3 (bs:=[true]) (α:=let p:=(List.replicate n.toNat (0:UInt8));bd (n>(l.length:Int)) ((Nn n/\LeI n n/\yO 1 n.toNat 140737488355328/\Lt n.toNat 9223372036854775808)/\Le (0+n.toNat) p.length/\List.take n.toNat (List.drop 0 p)=T4 l n/\(1=1/\1=1/\l=Q8 l n/\true=(fl||big l n)/\True)/\True) (jX n l.length/\jX n l.length/\List.take n.toNat l=T4 l n/\(1=1/\1=1/\List.drop n.toNat l=Q8 l n/\fl=(fl||big l n)/\True)/\True)) ⟨λhb=>?_,λhb=>?_⟩
   ·have hbig:big l n=true:=hb;refine⟨⟨h0,Int.le_refl _,sX,Q2⟩,by unfold Le;simp,?_,⟨rfl,rfl,?_,?_,trivial⟩,trivial⟩
    ·simp[T4,hbig]
    ·simp[Q8,hbig]
    ·simp[hbig]
   ·have hbig:big l n=false:=hb;have hle:n<=l.length:=by simpa[big] using hbig
    refine⟨⟨h0,hle⟩,⟨h0,hle⟩,?_,⟨rfl,rfl,?_,?_,trivial⟩,trivial⟩
    ·simp[T4,hbig]
    ·simp[Q8,hbig]
    ·simp[hbig]
  ·cases h
 ·cases h
def numR(l:Bz):Int:=(l.getD 0 0).toNat
def c4V:List T->X9->Option (T×X9×Option Prop)
 | [.ref 0 0 0],[some (.arr true _ 2 1 row)]=>match row 0 with
  | [.bys l,.bool fl]=>some (.int .i64 (numR l),[rdr (l.drop 1) (fl||l.isEmpty)],none)
  |_=>none
 |_,_=>none
def c9z:Con:=.eff c4V
def eI:GK 321 c9z:=gk func321<|by
 intro args H res H' p h hp;unfold c4V at h;split at h
 ·rename_i ty row;split at h
  ·rename_i l fl hrow;simp only[X0,U4] at h;obtain⟨rfl,rfl,rfl⟩:=h;refine qZ (iP hrow) ?_
   refine vcE (gC qI gN) func321 Z3 (bs:=[true]) (α:=r8 (1:Int)/\W9 (0:Int) (T4 l (1:Int)).length/\IntKind.i64.wrap (↑((T4 l (1:Int)).getD 0 (0:UInt8)).toNat:Int)=numR l/\(1=1/\1=1/\Q8 l 1=List.drop 1 l/\(fl||big l (1:Int))=(fl||l.isEmpty)/\True)/\True) ?_
   have e:∀x:UInt8,IntKind.i64.wrap (x.toNat:Int)=x.toNat:=λx=>by
    have:=x.toNat_lt;rw[IntKind.wrap_i64];omega
   have d:IntKind.i64.wrap 0=0:=M4
   cases l with
   |nil=>refine⟨⟨Z9,Z9⟩,by simp[W9,T4,big],?_,⟨rfl,rfl,?_,?_,trivial⟩,trivial⟩<;>simp[T4,Q8,big,numR,d]
   |cons a l=>
    have B:big (a::l) 1=false:=by simp[big];omega
    refine⟨⟨Z9,Z9⟩,by simp[W9,T4,B],?_,⟨rfl,rfl,?_,?_,trivial⟩,trivial⟩<;>simp[T4,Q8,B,numR,e]
  ·cases h
 ·cases h
def a29:List T->Option (T×Option Prop)
 | [.bref [.bys l,.bool fl]]=>some (.bool (!fl&&l.isEmpty),none)
 |_=>none
def b5h:Con:=.pure a29
def qP:GK 323 b5h:=gk func323<|by
 intro args res p h hp;unfold a29 at h;split at h
 ·rename_i l fl;simp only[X0,U4] at h;obtain⟨rfl,rfl⟩:=h;refine U5 gN func323 Z3 (α:=(!fl&&(l.length:Int)==0)=(!fl&&l.isEmpty)) ?_
  cases l with
  |nil=>simp
  |cons a l=>
   have:((((a::l).length:Nat):Int)==0)=false:=by simp;omega
   rw[this];simp
 ·cases h
structure RdSt where
 l:Bz
 fl:Bool
 ok:Bool
 bef:Int
def RdSt.step(hi lsn:Int)(s:RdSt):RdSt:=
 ⟨(s.l.drop 1).drop 1,(s.fl||s.l.isEmpty)||(s.l.drop 1).isEmpty,s.ok&&V6 (numR s.l) (s.bef+1) hi&&V6 (numR (s.l.drop 1)) 1 (lsn-1),numR s.l⟩
def RdSt.go(hi lsn:Int)(s:RdSt):Nat->RdSt
 |0=>s
 |n+1=>RdSt.step hi lsn (RdSt.go hi lsn s n)
def uK(t o:Int)(l:Bz)(fl:Bool):RdSt:=⟨l.drop 1,fl||l.isEmpty,decide (numR l<=t),o-1⟩
def N6(t o hi lsn:Int)(l:Bz)(fl:Bool):RdSt:=RdSt.go hi lsn (uK t o l fl) (numR l).toNat
def Okb(l lsn:Int):Prop:= -1000000000000<=l/\l<=1000000000000/\ -1000000000000<=lsn/\lsn<=1000000000000
def jB:List T->X9->Option (T×X9×Option Prop)
 | [.ref 0 0 0,.int .i64 most,.int .i64 lo,.int .i64 hi,.int .i64 lsn],[some (.arr true _ 2 1 row)]=>match row 0 with
  | [.bys l,.bool fl]=>some (.bool ((N6 most lo hi lsn l fl).ok&& !(N6 most lo hi lsn l fl).fl),[rdr (N6 most lo hi lsn l fl).l (N6 most lo hi lsn l fl).fl],some (Okb lo lsn))
  |_=>none
 |_,_=>none
def a5t:Con:=.eff jB
def I25(t o hi lsn:Int)(l:Bz)(fl:Bool)(x:Up ((numR l).toNat)):Sy:=
 ⟨[(0,.ref 0 0 0),(3,Ji hi),(4,Ji lsn),(12,.bool (RdSt.go hi lsn (uK t o l fl) x.1).ok),(13,Ji (RdSt.go hi lsn (uK t o l fl) x.1).bef),(23,Ji (numR l)),(24,Ji x.1)],
  [rdr (RdSt.go hi lsn (uK t o l fl) x.1).l (RdSt.go hi lsn (uK t o l fl) x.1).fl]⟩
def A25(t o hi lsn:Int)(l:Bz)(fl:Bool):Nat->Ann
 |0=>.one (Up ((numR l).toNat)) (I25 t o hi lsn l fl) (λx=>(numR l).toNat-x.1) [.box 0] [.box 0] (λ_=>Z3)
 |_=>.none
def r6(l:Bz):0<=numR l/\numR l<=255:=by
 unfold numR;have:=(l.getD 0 0).toNat_lt;omega
def c5x(hi lsn o t:Int)(l:Bz)(fl:Bool)(h: -1000000000000<=o/\o<=1000000000000)(n:Nat):
  -2000000000000<=(RdSt.go hi lsn (uK t o l fl) n).bef/\(RdSt.go hi lsn (uK t o l fl) n).bef<=2000000000000:=by
 cases n with
 |zero=>simp only[RdSt.go,uK];omega
 |succ n=>
  simp only[RdSt.go,RdSt.step];have:=r6 (RdSt.go hi lsn (uK t o l fl) n).l;omega
def a06:GK 370 a5t:=gk func370<|by
 intro args H res H' p h hp;unfold jB at h;split at h
 ·rename_i most lo hi lsn ty row;split at h
  ·rename_i l fl hrow;simp only[X0,U4] at h;obtain⟨rfl,rfl,rfl⟩:=h;obtain⟨q1,q2,q3,q4⟩:Okb lo lsn:=hp;refine qZ (iP hrow) ?_
   refine vcE (gC eI (gC O1 gN)) func370 (A25 most lo hi lsn l fl) (bs:=[true]) (α:=let u:=(N6 most lo hi lsn l fl);let q:=(uK most lo l fl);R2 .i64 (lo-1)/\(∃(x:Up ((numR l).toNat)),let r:=(RdSt.go hi lsn q x.1);((0=0/\0=0)/\hi=hi/\lsn=lsn/\decide (numR l<=most)=r.ok/\lo-1=r.bef/\numR l=numR l/\0=(x.1:Int)/\True)/\(1=1/\1=1/\List.drop 1 l=r.l/\(fl||l.isEmpty)=r.fl/\True)/\True)/\∀(x:Up ((numR l).toNat)),let w:=(x.1:Int);let p:=(RdSt.go hi lsn q x.1);let v:=(List.drop 1 p.l);(decide (w<numR l)=true->(p.ok=true->R2 .i64 (p.bef+1))/\((p.ok&&V6 (numR p.l) (p.bef+1) hi)=true->R2 .i64 (lsn-1))/\R2 .i64 (w+1)/\∃(y:Up ((numR l).toNat)),let z:=(RdSt.go hi lsn q y.1);(((0=0/\0=0)/\hi=hi/\lsn=lsn/\(p.ok&&V6 (numR p.l) (p.bef+1) hi&&V6 (numR v) (1:Int) (lsn-1))=z.ok/\numR p.l=z.bef/\numR l=numR l/\w+1=(y.1:Int)/\True)/\(1=1/\1=1/\List.drop 1 v=z.l/\(p.fl||p.l.isEmpty||v.isEmpty)=z.fl/\True)/\True)/\Lt ((numR l).toNat-y.1) ((numR l).toNat-x.1))/\(decide (w<numR l)=false->(p.ok&& ! p.fl)=(u.ok&& ! u.fl)/\(1=1/\1=1/\p.l=u.l/\p.fl=u.fl/\True)/\True)) ?_
   have n:=r6 l;refine⟨Z4 Z9,⟨⟨0,N4 _⟩,⟨⟨rfl,rfl⟩,rfl,rfl,rfl,rfl,rfl,rfl,trivial⟩,⟨rfl,rfl,rfl,rfl,trivial⟩,trivial⟩,λx=>⟨λhc=>⟨λ_=>Z4 ?_,λ_=>Z4 Z9,Z4 ?_,?_⟩,λhc=>?_⟩⟩
   ·have:=c5x hi lsn lo most l fl ⟨q1,q2⟩ x.1;omega
   ·have:=x.2;omega
   ·have hlt:(x.1:Int)<numR l:=G7 hc;refine⟨⟨x.1+1,Z9⟩,⟨⟨⟨rfl,rfl⟩,rfl,rfl,rfl,rfl,rfl,W7,trivial⟩,⟨rfl,rfl,rfl,rfl,trivial⟩,trivial⟩,?_⟩
    unfold Lt;simp only;omega
   ·have hge:¬ (x.1:Int)<numR l:=r9 hc;have hx:=x.2;have he:x.1=(numR l).toNat:=by omega
    unfold N6;rw[he];exact⟨rfl,⟨rfl,rfl,rfl,rfl,trivial⟩,trivial⟩
  ·cases h
 ·cases h
def a4M(a:Bz)(lsn:Int):Bool:=
 (N6 8 0 7 lsn a false).ok&& !(N6 8 0 7 lsn a false).fl&&((N6 10 1 60 lsn (N6 8 0 7 lsn a false).l (N6 8 0 7 lsn a false).fl).ok&& !(N6 10 1 60 lsn (N6 8 0 7 lsn a false).l (N6 8 0 7 lsn a false).fl).fl)&&
  (!(N6 10 1 60 lsn (N6 8 0 7 lsn a false).l (N6 8 0 7 lsn a false).fl).fl&&(N6 10 1 60 lsn (N6 8 0 7 lsn a false).l (N6 8 0 7 lsn a false).fl).l.isEmpty)
def a1J(a:Bz)(lsn:Int):Prop:=a.length<140737488355329/\ -1000000000000<=lsn/\lsn<=1000000000000
def aL:List T->Option (T×Option Prop)
 | [.str a,.int .i64 lsn]=>some (.bool (a4M a lsn),some (a1J a lsn))
 |_=>none
def b4i:Con:=.pure aL
def a8m:GK 339 b4i:=gk func339<|by
 intro args res p h hp;unfold aL at h;split at h
 ·rename_i a lsn;simp only[X0,U4] at h;obtain⟨rfl,rfl⟩:=h;obtain⟨f,d,e⟩:a1J a lsn:=hp;exact U5 (gC a06 (gC qP gN)) func339 Z3 (α:=let q:=(N6 (8:Int) (0:Int) (7:Int) lsn a false);let p:=(N6 (10:Int) (1:Int) (60:Int) lsn q.l q.fl);Lt a.length 140737488355329/\Okb (0:Int) lsn/\Okb (1:Int) lsn/\(q.ok&& ! q.fl&&(p.ok&& ! p.fl)&&(! p.fl&&p.l.isEmpty))=a4M a lsn) ⟨f,⟨Z9,Z9,d,e⟩,⟨Z9,Z9,d,e⟩,rfl⟩
 ·cases h
structure Rec where
 (e l t k p n g s:Int) (b a:Bz)
 deriving Inhabited
def Rec.ts(r:Rec):List T:=[Ji r.e,Ji r.l,Ji r.t,Ji r.k,Ji r.p,Ji r.n,Ji r.g,Ji r.s,.str r.b,.str r.a]
def zG(r:Rec):Prop:=
 1<=r.e/\r.e<=60/\1<=r.l/\r.l<=60/\1<=r.k/\r.k<=6/\0<=r.p/\r.p<=r.l-1/\0<=r.n/\r.n<=r.l-1/\0<=r.g/\r.g<=7/\0<=r.s/\r.s<=3/\r.b.length<=30/\
 (r.k=6->r.t=0/\r.p=0/\r.n=0/\r.g=0/\r.s=0/\r.b=[]/\a4M r.a r.l=true)/\
 (r.k≠6->1<=r.t/\r.t<=60/\r.a.length<=30/\(r.k≠2->r.k≠3->r.g=0/\r.s=0/\r.b=[]/\r.a=[])/\(r.k≠3->r.n=0)/\(r.k=3->r.b=[])/\(r.k=1↔r.p=0))
noncomputable instance(r:Rec):Decidable (zG r):=Classical.propDecidable _
def O9(r:Rec):Bool:=decide (zG r)
def Q4(r:Rec):O9 r=true↔zG r:=decide_eq_true_iff
def uP{r:Rec}(h:¬zG r):O9 r=false:=tQ h
def b3I(l:Bz):Prop:=l.length<140737488355329
def eR:List T->Option (T×Option Prop)
 | [.agg [.int .i64 e,.int .i64 l,.int .i64 t,.int .i64 k,.int .i64 p,.int .i64 n,.int .i64 g,.int .i64 s,.str b,.str a]]=>some (.bool (O9 ⟨e,l,t,k,p,n,g,s,b,a⟩),some (b3I a))
 |_=>none
def a2X:Con:=.pure eR
def a3j(r:Rec)(x:Bool)(h:
let c:=((r.a.length:Int)>30);let f:=((r.b.length:Int)>30);let m:=(!V6 r.e (1:Int) (60:Int)|| !V6 r.l (1:Int) (60:Int));let j:=(true&&(true&&(true&&(true&&(true&&(r.n==0&&true))))));let w:=(decide (0<=r.g)&&decide (r.g<8)&&(decide (0<=r.s)&&decide (r.s<4)));let y:=(true&&(true&&(true&&(true&&(true&&(true&&(true&&(true&&(r.b==[]&&true)))))))));let v:=(true&&(true&&(true&&(true&&(true&&(r.n==0&&(r.g==0&&(r.s==0&&(r.b==[]&&true)))))))));let u:=(true&&(true&&(true&&(true&&(true&&(r.n==0&&(r.g==0&&(r.s==0&&(r.b==[]&&(r.a==[]&&true))))))))));let z:=(((V6 r.k (1:Int) (5:Int)&&u&&V6 r.t (1:Int) (60:Int))=true->Ri (r.l-1))/\(V6 r.k (1:Int) (5:Int)&&u&&V6 r.t (1:Int) (60:Int)&&V6 r.p (0:Int) (r.l-1)&&(r.p==0)==(r.k==1))=x);let q:=(m5 (8:Int)/\((decide (0<=r.g)&&decide (r.g<8))=true->m5 (4:Int))/\((! w||decide f||decide c)=false->(r.k==3)=true->Ri (r.l-1))/\br (! w||decide f||decide c||r.k==3&& !V6 r.n (0:Int) (r.l-1)) (false=x) (br (r.k==2) (((V6 r.k (1:Int) (5:Int)&&j&&V6 r.t (1:Int) (60:Int))=true->Ri (r.l-1))/\(V6 r.k (1:Int) (5:Int)&&j&&V6 r.t (1:Int) (60:Int)&&V6 r.p (0:Int) (r.l-1)&&(r.p==0)==(r.k==1))=x) (((V6 r.k (1:Int) (5:Int)&&y&&V6 r.t (1:Int) (60:Int))=true->Ri (r.l-1))/\(V6 r.k (1:Int) (5:Int)&&y&&V6 r.t (1:Int) (60:Int)&&V6 r.p (0:Int) (r.l-1)&&(r.p==0)==(r.k==1))=x)));  (m=true->false=x)/\(m=false->br (r.k==6) (((r.t==0&&r.p==0&&v)=true->a1J r.a r.l)/\(r.t==0&&r.p==0&&v&&a4M r.a r.l)=x) (br (r.k==2) (br (r.k==2) q z) (br (r.k==3) q z)))):
  V4 prog 283 [.agg r.ts] (.bool x):=
 U5 (gC a8m (gC O1 (gC tK gN))) func283 Z3 h
def c7h{p k a b:Int}:((p==a)=(k==b))↔(k=b↔p=a):=by
 rw[Bool.eq_iff_iff,beq_iff_eq,beq_iff_eq];exact Iff.comm
def qL{a b:Bool}(h:a=true↔b=true):a=b:=by cases a<;>cases b<;>simp_all
def tL:GK 283 a2X:=gk func283<|by
 intro args res p h hp;unfold eR at h;split at h
 ·rename_i e l t k p n g s b a;simp only[X0,U4] at h;obtain⟨rfl,rfl⟩:=h;have hp:a.length<140737488355329:=hp;refine a3j ⟨e,l,t,k,p,n,g,s,b,a⟩ _ ?_
  simp only[Rec.e,Rec.l,Rec.t,Rec.k,Rec.p,Rec.n,Rec.g,Rec.s,Rec.b,Rec.a];have s8:m5 8:=by unfold m5;omega
  have s4:m5 4:=by unfold m5;omega
  refine⟨λh=>?_,λh=>?_⟩
  ·refine(uP ?_).symm
   simp only[nT,vZ,V6,Bool.and_eq_false_iff,uH] at h;unfold zG;simp only;omega
  simp only[wS,wU,V6,J5,o8] at h;have hr:R2 .i64 (l-1):=Z4 Z9
  have hs:a1J a l:=⟨hp,Z9,Z9⟩
  by_cases h6:k=6
  ·subst h6;refine⟨λ_=>⟨λ_=>hs,qL ?_⟩,λh=>L4⟩
   rw[Q4];simp only[zG,o8,J5,beq_iff_eq,true_and,and_true];constructor
   ·rintro⟨⟨⟨rfl,rfl⟩,rfl,rfl,rfl,rfl⟩,C⟩;simp[C];omega
   ·rintro⟨_,_,_,_,_,_,_,_,_,_,_,_,_,_,_,hh,_⟩;obtain⟨rfl,rfl,rfl,rfl,rfl,rfl,C⟩:=hh trivial;simp[C]
  refine⟨λh=>absurd x5 h6,λ_=>?_⟩
  by_cases h2:k=2
  ·subst h2;refine⟨λ_=>⟨λ_=>⟨s8,λ_=>s4,λ_ h=>L4,λhb=>?_,λhb=>⟨λ_=>⟨λ_=>hr,qL ?_⟩,λh=>L4⟩⟩,λh=>L4⟩,λh=>L4⟩
   ·refine(uP ?_).symm
    simp only[nT,vZ,V6,Bool.and_eq_false_iff,uH,o8,J5] at hb;unfold zG;simp only;simp at hb;omega
   ·simp[V6] at hb;rw[Q4];simp only[zG,o8,J5,beq_iff_eq,true_and,and_true,V6,c7h];simp;omega
  by_cases h3:k=3
  ·subst h3;refine⟨λh=>L4,λ_=>⟨λ_=>⟨s8,λ_=>s4,λ_ _=>hr,λhb=>?_,λhb=>⟨λh=>L4,λ_=>⟨λ_=>hr,qL ?_⟩⟩⟩,λh=>L4⟩⟩
   ·refine(uP ?_).symm
    unfold zG;simp only;simp[V6] at hb;omega
   ·simp[V6] at hb;rw[Q4];simp only[zG,o8,J5,beq_iff_eq,true_and,and_true,V6,c7h];by_cases hbn:b=[]
    ·subst hbn;simp;omega
    ·simp[hbn]
  ·refine⟨λh=>absurd x5 h2,λ_=>⟨λh=>absurd x5 h3,λ_=>⟨λ_=>hr,qL ?_⟩⟩⟩
   rw[Q4];simp only[zG,o8,J5,beq_iff_eq,true_and,and_true,V6,c7h];constructor
   ·intro hh;have hb:b.length=0:=by simp[hh.1.1.1.2.2.2.2.1]
    have X:a.length=0:=by simp[hh.1.1.1.2.2.2.2.2]
    simp[h2,h3,h6,hh.1.1.1.2.2.2.2.1,hh.1.1.1.2.2.2.2.2] at hh ⊢;omega
   ·intro hh;obtain⟨V,W,M,O,N,U,I,z,R,d,i,u,v,A,j,_,hh⟩:=hh;obtain⟨F,b2,L,r,B,J,Q⟩:=hh h6;obtain⟨f,c2,o,x⟩:=r h2 h3;have q:=B h3;simp[f,c2,o,x,q];omega
 ·cases h
def S6(n:Nat)(p:Nat->Bool):Int:=match(List.range n).find? p with|some i=>(i:Int)|none=> -1
def N9{n:Nat}{p:Nat->Bool}{i:Nat}(hi:i<n)(hp:p i=true)(h:∀j,j<i->p j=false):S6 n p=i:=by
 have:(List.range n).find? p=some i:=by
  rw[List.find?_range_eq_some]
  exact⟨hp,List.mem_range.2 hi,λj J=>by simp[h j J]⟩
 unfold S6;rw[this]
def K2{n:Nat}{p:Nat->Bool}(h:∀j,j<n->p j=false):S6 n p= -1:=by
 have:(List.range n).find? p=none:=by
  rw[List.find?_range_eq_none]
  intro j J;simp[h j J]
 unfold S6;rw[this]
def anyI(n:Nat)(p:Nat->Bool):Bool:=(List.range n).any p
def C9(n:Nat)(p:Nat->Bool):decide (S6 n p≥0)=anyI n p:=by
 unfold S6 anyI;cases h:(List.range n).find? p with
 |none=>
  rw[List.find?_eq_none] at h
  have:(List.range n).any p=false:=by
   rw[List.any_eq_false];exact h
  rw[this];rfl
 |some i=>
  have d:=List.find?_some h
  have e:=List.mem_of_find?_eq_some h
  have:(List.range n).any p=true:=List.any_eq_true.2 ⟨i,e,d⟩;rw[this];simp
def R9{n:Nat}{p:Nat->Bool}:anyI n p=true↔∃i,i<n/\p i=true:=by
 unfold anyI;simp
def V5(n:Nat)(p:Nat->Bool):Type:={i:Nat//i<=n/\∀j,j<i->p j=false}
def V5.ext_lt{n:Nat}{i:Nat}(h:i<n):Lt (n- (i+1)) (n-i):=by unfold Lt;omega
def Y0{i n:Nat}(h:decide ((i:Int)<(n:Int))=false):n<=i:=x5
def Y2{i n:Nat}(h:decide ((i:Int)<(n:Int))=true):i<n:=x5
def Y6{i n:Nat}(h:i<n):W9 (i:Int) n:=⟨Z9,Z9⟩
def W2{i n:Nat}(h:i<n)(N:n<1000000000000000):R2 .i64 ((i:Int)+1):=Z4 Z9
def F4{n:Nat}{p:Nat->Bool}:V5 n p:=⟨0,N4 _,λj h=>absurd h (D2 j)⟩
def V5.succ{n:Nat}{p:Nat->Bool}(x:V5 n p)(h:x.1<n)(hp:p x.1=false):V5 n p:=
 ⟨x.1+1,h,λj J=>by rcases Nat.lt_or_ge j x.1 with h1|h1;exact x.2.2 j h1;(obtain rfl:j=x.1:=by omega);exact hp⟩
def I9{p:Prop}(h:p:=by simp only[V5.succ];omega):p:=h
def Y1(L:List Rec)(i:Nat):List T:=(L.getD i dz).ts
def zE(L:List Rec):T:=.sl 10 L.length (Y1 L)
def yV(r:Rec):Bool:=decide (r.l>60)
def pW:List T->Option (T×Option Prop)
 | [.agg [.int .i64 e,.int .i64 l,.int .i64 t,.int .i64 k,.int .i64 p,.int .i64 n,.int .i64 g,.int .i64 s,.str b,.str a]]=>some (.bool (yV ⟨e,l,t,k,p,n,g,s,b,a⟩),none)
 |_=>none
def bY:Con:=.pure pW
def bC(r:Rec)(h:
  decide (r.l>60)=yV r):
  V4 prog 309 [.agg r.ts] (.bool (yV r)):=
 U5 gN func309 Z3 h
def cN:GK 309 bY:=gk func309<|by
 intro args res p h hp;unfold pW at h;split at h
 ·simp only[X0,U4] at h;obtain⟨rfl,rfl⟩:=h;exact bC ⟨_,_,_,_,_,_,_,_,_,_⟩ rfl
 ·cases h
def fnT(f:Nat):T:=.v (.func (.func f) #[] #[])
def L9(n:Nat):Prop:=n<1000000000000
def rU{p:Prop}(h:p:=by unfold L9;dsimp only;omega):p:=h
def sV{p:Prop}(h:p:=by unfold L9;omega):p:=h
def a41:Rl:=⟨List Rec,λL=>[zE L,fnT 309],λL=>.int .i64 (S6 L.length λi=>yV (L.getD i dz)),λL=>L9 L.length⟩
def b7s:Con:=.rel a41
def b6t(L:List Rec):Nat->Ann
 |0=>.one (V5 L.length λi=>yV (L.getD i dz)) (λx=>⟨[(0,zE L),(1,fnT 309),(7,Ji L.length),(8,Ji x.1)],[]⟩) (λx=>L.length-x.1) [] [] (λ_=>Z3)
 |_=>.none
def b2T:GK 360 b7s:=gk func360<|by
 intro L d;have d:L.length<1000000000000:=d;refine U5 (gC cN gN) func360 (b6t L) (α:=let u:=(Fn.func 309);let r:=(L.length:Int);(∃(x:V5 L.length λ(i:Nat)=>yV (L.getD i dz)),((Z0 Y1 L L)/\Value.func u #[] #[]=Value.func u #[] #[]/\r=r/\0=(x.1:Int)/\True)/\True)/\∀(x:V5 L.length λ(i:Nat)=>yV (L.getD i dz)),let z:=(x.1:Int);let q:=(L.getD z.toNat dz);bd (z<r) (W9 z L.length/\br (yV (Rec.mk q.e q.l q.t q.k q.p q.n q.g q.s q.b q.a)) (z=S6 L.length λ(i:Nat)=>yV (L.getD i dz)) (Ri (z+1)/\∃(y:V5 L.length λ(i:Nat)=>yV (L.getD i dz)),(((Z0 Y1 L L)/\Value.func u #[] #[]=Value.func u #[] #[]/\r=r/\z+1=(y.1:Int)/\True)/\True)/\Lt (L.length-y.1) (L.length-x.1))) ((-1:Int)=S6 L.length λ(i:Nat)=>yV (L.getD i dz))) ⟨⟨F4,⟨⟨rfl,λ_ _=>rfl⟩,rfl,rfl,rfl,trivial⟩,trivial⟩,λx=>⟨λC=>?_,λC=>?_⟩⟩
 ·have h:=Y2 C;refine⟨Y6 h,λhp=>(N9 h hp x.2.2).symm,λhp=>⟨W2 h Z9,x.succ h hp,⟨⟨⟨rfl,λ_ _=>rfl⟩,rfl,rfl,rfl,trivial⟩,trivial⟩,V5.ext_lt h⟩⟩
 ·have f:=Y0 C;exact(K2 λj J=>x.2.2 j Z9).symm
def a5R:Rl:=⟨List Rec,λL=>[zE L,fnT 309],λL=>.bool (anyI L.length λi=>yV (L.getD i dz)),λL=>L9 L.length⟩
def b5C:Con:=.rel a5R
def b2L:GK 308 b5C:=gk func308<|by
 intro L h;exact U5 (gC b2T gN) func308 Z3 (α:=∃(x:a41.ι),(((Z0 Y1 L x)/\Value.func (Fn.func 309) #[] #[]=Value.func (Fn.func 309) #[] #[]/\True)/\L9 (x.length))/\decide ((S6 (x.length) λ(i:Nat)=>yV (List.getD x i dz))≥(0:Int))=anyI L.length λ(i:Nat)=>yV (L.getD i dz)) ⟨L,⟨⟨⟨rfl,λ_ _=>rfl⟩,rfl,trivial⟩,h⟩,C9 _ _⟩
def a2B(L:List Rec)(i:Nat):Bool:= !O9 (L.getD i dz)||(L.getD i dz).l !=(i:Int)+1
def yW(L:List Rec):Bool:= !anyI L.length (a2B L)
def c2X(L:List Rec):Prop:=L.length<1000000000000/\∀r ∈ L,r.a.length<140737488355329
def lU:Rl:=⟨List Rec,λL=>[zE L],λL=>.bool (yW L),c2X⟩
def a1D:Con:=.rel lU
def a13(L:List Rec):Nat->Ann
 |0=>.one (V5 L.length (a2B L)) (λx=>⟨[(0,zE L),(5,zE L),(6,Ji L.length),(7,Ji x.1)],[]⟩) (λx=>L.length-x.1) [] [] (λ_=>Z3)
 |_=>.none
def C4{L:List Rec}:yW L=true↔∀i,i<L.length->O9 (L.getD i dz)=true/\(L.getD i dz).l=(i:Int)+1:=by
 unfold yW;rw[vZ,Bool.eq_false_iff,ne_eq,R9];constructor
 ·intro h i hi;have:¬a2B L i=true:=λhb=>h ⟨i,hi,hb⟩
  simpa[a2B] using this
 ·rintro h ⟨i,hi,hb⟩;have:=h i hi;unfold a2B at hb;rw[this.1,this.2] at hb;simp at hb
def dE{L:List Rec}{i:Nat}(h:i<L.length):L.getD i dz ∈ L:=by
 rw[P4,I1 h]
 exact List.getElem_mem h
def aX:GK 227 a1D:=gk func227<|by
 intro L o;obtain⟨N,hb⟩:c2X L:=o;refine U5 (gC tL (gC b2L gN)) func227 (a13 L) (α:=let v:=(Z0 Y1 L L);let z:=(L.length:Int);(∃(x:V5 L.length (a2B L)),(v/\v/\z=z/\0=(x.1:Int)/\True)/\True)/\∀(x:V5 L.length (a2B L)),let r:=(x.1:Int);let q:=(L.getD r.toNat dz);let u:=(Rec.mk q.e q.l q.t q.k q.p q.n q.g q.s q.b q.a);bd (r<z) (W9 r L.length/\b3I q.a/\((!O9 u)=false->Ri (r+1))/\br (!O9 u||q.l !=r+1) (false=yW L) (Ri (r+1)/\∃(y:V5 L.length (a2B L)),((v/\v/\z=z/\r+1=(y.1:Int)/\True)/\True)/\Lt (L.length-y.1) (L.length-x.1))) (∃(x:a5R.ι),(((Z0 Y1 L x)/\Value.func (Fn.func 309) #[] #[]=Value.func (Fn.func 309) #[] #[]/\True)/\L9 (x.length))/\(!anyI (x.length) λ(i:Nat)=>yV (List.getD x i dz))=yW L)) ⟨⟨F4,⟨⟨rfl,λ_ _=>rfl⟩,⟨rfl,λ_ _=>rfl⟩,rfl,rfl,trivial⟩,trivial⟩,λx=>⟨λhc=>?_,λhc=>?_⟩⟩
 ·have hlt:=Y2 hc;refine⟨Y6 hlt,hb _ (dE hlt),λ_=>W2 hlt Z9,λhp=>?_,λhp=>⟨W2 hlt Z9,x.succ hlt hp,⟨⟨⟨rfl,λ_ _=>rfl⟩,⟨rfl,λ_ _=>rfl⟩,rfl,rfl,trivial⟩,trivial⟩,V5.ext_lt hlt⟩⟩
  have:anyI L.length (a2B L)=true:=R9.2 ⟨x.1,hlt,hp⟩;simp[yW,this]
 ·have j:=Y0 hc;have d:yW L=true:=by
   unfold yW;rw[vZ,Bool.eq_false_iff,ne_eq,R9];rintro⟨i,hi,h⟩;rw[x.2.2 i Z9] at h
   cases h
  refine⟨L,⟨⟨⟨rfl,λ_ _=>rfl⟩,rfl,trivial⟩,N⟩,?_⟩
  rw[d,vZ,Bool.eq_false_iff,ne_eq,R9];rintro⟨i,hi,h⟩;have q:=(Q4 _).1 (C4.1 d i hi).1;obtain⟨_,_,_,f,_⟩:=q;have:¬ (L.getD i dz).l>60:=Z9
  simp[yV] at h;simp at this;omega
def r7(a:Bz)(i:Nat):Int:=((a.getD i 0).toNat:Int)
def W8(a:Bz)(A:Nat)(r:Nat):List T:=[Ji (r7 a (A+2*r)),Ji (r7 a (A+2*r+1))]
def T3(a:Bz):Nat:=(r7 a 0).toNat
def k5(a:Bz):Nat:=(r7 a (1+2*T3 a)).toNat
def vU(a:Bz):Nat:=if 0<a.length/\1+2*T3 a<=a.length then T3 a else 0
def zK(a:Bz):Nat:=if 0<a.length/\1+2*T3 a<a.length/\2+2*T3 a+2*k5 a<=a.length then k5 a else 0
def tX(a:Bz):Bool:=decide (0<a.length/\1+2*T3 a<a.length/\2+2*T3 a+2*k5 a=a.length)
def c9A(a:Bz):T:=.tup [.sl 2 (vU a) (W8 a 1),.sl 2 (zK a) (W8 a (2+2*T3 a)),.bool (tX a)]
def c04(n:Nat)(row:Nat->List T):Option Ob:=some (.arr true 0 2 n row)
def c5p(e d n N:Nat):Option Ob:=some (.arr false 0 1 2 λr=>match r with|0=>[.osl e 0 n]|_=>[.osl d 0 N])
def a4y(a:Bz):Nat->Ann
 |0=>.unr 3 (λm=>fun
  |1=>match m with
   |2=>.one (Up (T3 a)) (λx=>⟨[(0,.str a),(5,.osl 2 0 2),(6,Ji (1+2*x.1)),(7,Ji 0),(8,Ji (T3 a)),(9,Ji x.1)],[c04 x.1 (W8 a 1),c04 0 (W8 a 0),c5p 0 1 x.1 0]⟩) (λx=>T3 a-x.1) [.arr 0,.arr 1,.ren 2] [.arr 4,.arr 1,.ren 2] (λ_=>Z3)
   |_=>.one (Up (k5 a)) (λx=>⟨[(0,.str a),(5,.osl 2 0 2),(6,Ji (2+2*T3 a+2*x.1)),(7,Ji 1),(8,Ji (k5 a)),(9,Ji x.1)],[c04 (T3 a) (W8 a 1),c04 x.1 (W8 a (2+2*T3 a)),c5p 0 1 (T3 a) x.1]⟩) (λx=>k5 a-x.1) [.arr 0,.arr 1,.ren 2] [.arr 0,.arr 4,.ren 2] (λ_=>Z3)
  |_=>.none)
 |_=>.none
def jE:List T->Option (T×Option Prop)
 | [.str a]=>some (c9A a,some (L9 a.length))
 |_=>none
def a3u:Con:=.pure jE
theorem M8{row row':Nat->List T}{n i:Nat}(h:i<n):X4 row n row' i=row i:=by
 unfold X4;rw[show Nat.blt i n=true from by simp[Nat.blt];omega]
theorem N3{row row':Nat->List T}{n i:Nat}(h:n<=i):X4 row n row' i=row' (i-n):=by
 unfold X4;rw[show Nat.blt i n=false from Bool.eq_false_iff.2 λB=>by have:=yH B;omega]
def a1c:GK 219 a3u:=gk func219<|by
 intro args res p h hp;unfold jE at h;split at h
 case h_2=>cases h
 rename_i a;simp only[X0,U4] at h;obtain⟨rfl,rfl⟩:=h;have hp:a.length<1000000000000:=hp;have h0:((a.getD 0 0).toNat:Int)=(T3 a:Int):=by simp[T3,r7]
 have h1:((a.getD (1+2*T3 a) 0).toNat:Int)=(k5 a:Int):=by simp[k5,r7]
 have b0:T3 a<=255:=by have:=(a.getD 0 0).toNat_lt;omega
 have b1:k5 a<=255:=by have:=(a.getD (1+2*T3 a) 0).toNat_lt;omega
 have t0:(1+2*(T3 a:Int)).toNat=1+2*T3 a:=Z9
 have none0:∀row row':Nat->List T,Z7 0 row row':=λrow row' i hi=>absurd hi (D2 i)
 have refl0:∀(n:Nat) (row:Nat->List T),Z7 n row row:=λn row i hi=>rfl
 have lR:∀(at0 i:Nat),Z7 (i+1) (X4 (W8 a at0) i λk=>List.take 2 (List.drop (k*2) [Ji ((a.getD (at0+2*i) 0).toNat:Int),Ji ((a.getD (at0+2*i+1) 0).toNat:Int)])) (W8 a at0):=by
  intro at0 i j hj;by_cases hlt:j<i
  ·rw[M8 hlt]
  ·obtain rfl:j=i:=by omega
   rw[N3 (U9 _),j_h];rfl
 have two:∀{ρ:Nat->Option Nat} {row row':Nat->List T},O0 (S8 ρ 6) (row' 0)=some (row 0)->O0 (S8 ρ 6) (row' 1)=some (row 1)->wI ρ 2 row row':=by
  intro ρ row row' e0 e1 i hi;rcases Nat.lt_or_ge i 1 with h|h
  ·obtain rfl:i=0:=by omega
   exact e0
  ·obtain rfl:i=1:=by omega
   exact e1
 refine U5 gN func219 (a4y a) (α:=(true=true->(decide ((0:Int)≥(a.length:Int))=true->W9 (0:Int) 2/\Lt 0 2/\W9 (1:Int) 2/\Lt 1 2/\(Le 0 0/\Le 0 0)/\(0=vU a/\Z7 0 (λ(k:Nat)=>List.take 2 (List.drop (k*2) [])) (W8 a 1))/\(0=zK a/\Z7 0 (λ(k:Nat)=>List.take 2 (List.drop (k*2) [])) (W8 a (2+2*T3 a)))/\false=tX a/\True)/\(decide ((0:Int)≥(a.length:Int))=false->W9 (0:Int) a.length/\R2 .i64 1/\R2 .i64 ((2:Int)*IntKind.i64.wrap (↑(a.getD 0 (0:UInt8)).toNat:Int))/\R2 .i64 ((1:Int)+2*IntKind.i64.wrap (↑(a.getD 0 (0:UInt8)).toNat:Int))/\(decide ((1:Int)+2*IntKind.i64.wrap (↑(a.getD 0 (0:UInt8)).toNat:Int)>(a.length:Int))=true->W9 (0:Int) 2/\Lt 0 2/\W9 (1:Int) 2/\Lt 1 2/\(Le 0 0/\Le 0 0)/\(0=vU a/\Z7 0 (λ(k:Nat)=>List.take 2 (List.drop (k*2) [])) (W8 a 1))/\(0=zK a/\Z7 0 (λ(k:Nat)=>List.take 2 (List.drop (k*2) [])) (W8 a (2+2*T3 a)))/\false=tX a/\True)/\(decide ((1:Int)+2*IntKind.i64.wrap (↑(a.getD 0 (0:UInt8)).toNat:Int)>(a.length:Int))=false->(∃(x:Up (T3 a)),(a=a/\(0=0/\2=2)/\(1:Int)=1+2*(x.1:Int)/\(0:Int)=0/\IntKind.i64.wrap (↑(a.getD 0 (0:UInt8)).toNat:Int)=(↑(T3 a):Int)/\0=(x.1:Int)/\True)/\(0=x.1/\Z7 0 (λ(k:Nat)=>List.take 2 (List.drop (k*2) [])) (W8 a 1))/\(0=0/\Z7 0 (λ(k:Nat)=>List.take 2 (List.drop (k*2) [])) (W8 a 0))/\(2=2/\wI (m9 [some 0,some 1,some 2]) 2 (λ(k:Nat)=>List.take 1 (List.drop (k*1) [T.osl 0 0 0,T.osl 1 0 0])) λ(r:Nat)=>match r with|0=>[T.osl 0 0 x.1]|x=>[T.osl 1 0 0])/\True)/\∀(x:Up (T3 a)),(decide ((x.1:Int)<(↑(T3 a):Int))=true->W9 (0:Int) 2/\Lt 0 2/\W9 ((1:Int)+2*(x.1:Int)) a.length/\R2 .i64 ((1:Int)+2*(x.1:Int)+1)/\W9 ((1:Int)+2*(x.1:Int)+1) a.length/\(Le 1 1/\Le x.1 x.1/\U8 x.1 1 16)/\W9 (0:Int) 2/\Lt 0 2/\R2 .i64 ((1:Int)+2*(x.1:Int)+2)/\R2 .i64 ((x.1:Int)+1)/\∃(y:Up (T3 a)),((a=a/\(0=0/\2=2)/\(1:Int)+2*(x.1:Int)+2=1+2*(y.1:Int)/\(0:Int)=0/\(↑(T3 a):Int)=(↑(T3 a):Int)/\(x.1:Int)+1=(y.1:Int)/\True)/\(x.1+1=y.1/\Z7 (x.1+1) (X4 (W8 a 1) x.1 λ(k:Nat)=>List.take 2 (List.drop (k*2) [Ji (IntKind.i64.wrap (↑(a.getD ((1:Int)+2*(x.1:Int)).toNat (0:UInt8)).toNat:Int)),Ji (IntKind.i64.wrap (↑(a.getD ((1:Int)+2*(x.1:Int)+1).toNat (0:UInt8)).toNat:Int))])) (W8 a 1))/\(0=0/\Z7 0 (W8 a 0) (W8 a 0))/\(2=2/\wI (m9 [some 4,some 1,some 2]) 2 (setRow (λ(r:Nat)=>match r with|0=>[T.osl 0 0 x.1]|x=>[T.osl 1 0 0]) 0 0 [T.osl 4 0 (x.1+1)]) λ(r:Nat)=>match r with|0=>[T.osl 0 0 y.1]|x=>[T.osl 1 0 0])/\True)/\Lt (T3 a-y.1) (T3 a-x.1))/\(decide ((x.1:Int)<(↑(T3 a):Int))=false->R2 .i64 1/\(true=true->(decide ((1:Int)+2*(x.1:Int)≥(a.length:Int))=true->W9 (0:Int) 2/\Lt 0 2/\W9 (1:Int) 2/\Lt 1 2/\(Le (0+x.1) x.1/\Le 0 0)/\(x.1=vU a/\Z7 x.1 (W8 a 1) (W8 a 1))/\(0=zK a/\Z7 0 (W8 a 0) (W8 a (2+2*T3 a)))/\false=tX a/\True)/\(decide ((1:Int)+2*(x.1:Int)≥(a.length:Int))=false->W9 ((1:Int)+2*(x.1:Int)) a.length/\R2 .i64 ((1:Int)+2*(x.1:Int)+1)/\R2 .i64 ((2:Int)*IntKind.i64.wrap (↑(a.getD ((1:Int)+2*(x.1:Int)).toNat (0:UInt8)).toNat:Int))/\R2 .i64 ((1:Int)+2*(x.1:Int)+1+2*IntKind.i64.wrap (↑(a.getD ((1:Int)+2*(x.1:Int)).toNat (0:UInt8)).toNat:Int))/\(decide ((1:Int)+2*(x.1:Int)+1+2*IntKind.i64.wrap (↑(a.getD ((1:Int)+2*(x.1:Int)).toNat (0:UInt8)).toNat:Int)>(a.length:Int))=true->W9 (0:Int) 2/\Lt 0 2/\W9 (1:Int) 2/\Lt 1 2/\(Le (0+x.1) x.1/\Le 0 0)/\(x.1=vU a/\Z7 x.1 (W8 a 1) (W8 a 1))/\(0=zK a/\Z7 0 (W8 a 0) (W8 a (2+2*T3 a)))/\false=tX a/\True)/\(decide ((1:Int)+2*(x.1:Int)+1+2*IntKind.i64.wrap (↑(a.getD ((1:Int)+2*(x.1:Int)).toNat (0:UInt8)).toNat:Int)>(a.length:Int))=false->(∃(x_1:Up (k5 a)),(a=a/\(0=0/\2=2)/\(1:Int)+2*(x.1:Int)+1=2+2*(↑(T3 a):Int)+2*(x_1.val:Int)/\(1:Int)=1/\IntKind.i64.wrap (↑(a.getD ((1:Int)+2*(x.1:Int)).toNat (0:UInt8)).toNat:Int)=(↑(k5 a):Int)/\0=(x_1.val:Int)/\True)/\(x.1=T3 a/\Z7 x.1 (W8 a 1) (W8 a 1))/\(0=x_1.val/\Z7 0 (W8 a 0) (W8 a (2+2*T3 a)))/\(2=2/\wI (m9 [some 0,some 1,some 2]) 2 (λ(r:Nat)=>match r with|0=>[T.osl 0 0 x.1]|x=>[T.osl 1 0 0]) λ(r:Nat)=>match r with|0=>[T.osl 0 0 (T3 a)]|x=>[T.osl 1 0 x_1.val])/\True)/\∀(x:Up (k5 a)),(decide ((x.1:Int)<(↑(k5 a):Int))=true->W9 (1:Int) 2/\Lt 1 2/\W9 ((2:Int)+2*(↑(T3 a):Int)+2*(x.1:Int)) a.length/\R2 .i64 ((2:Int)+2*(↑(T3 a):Int)+2*(x.1:Int)+1)/\W9 ((2:Int)+2*(↑(T3 a):Int)+2*(x.1:Int)+1) a.length/\(Le 1 1/\Le x.1 x.1/\U8 x.1 1 16)/\W9 (1:Int) 2/\Lt 1 2/\R2 .i64 ((2:Int)+2*(↑(T3 a):Int)+2*(x.1:Int)+2)/\R2 .i64 ((x.1:Int)+1)/\∃(y:Up (k5 a)),((a=a/\(0=0/\2=2)/\(2:Int)+2*(↑(T3 a):Int)+2*(x.1:Int)+2=2+2*(↑(T3 a):Int)+2*(y.1:Int)/\(1:Int)=1/\(↑(k5 a):Int)=(↑(k5 a):Int)/\(x.1:Int)+1=(y.1:Int)/\True)/\(T3 a=T3 a/\Z7 (T3 a) (W8 a 1) (W8 a 1))/\(x.1+1=y.1/\Z7 (x.1+1) (X4 (W8 a (2+2*T3 a)) x.1 λ(k:Nat)=>List.take 2 (List.drop (k*2) [Ji (IntKind.i64.wrap (↑(a.getD ((2:Int)+2*(↑(T3 a):Int)+2*(x.1:Int)).toNat (0:UInt8)).toNat:Int)),Ji (IntKind.i64.wrap (↑(a.getD ((2:Int)+2*(↑(T3 a):Int)+2*(x.1:Int)+1).toNat (0:UInt8)).toNat:Int))])) (W8 a (2+2*T3 a)))/\(2=2/\wI (m9 [some 0,some 4,some 2]) 2 (setRow (λ(r:Nat)=>match r with|0=>[T.osl 0 0 (T3 a)]|x_1=>[T.osl 1 0 x.1]) 1 0 [T.osl 4 0 (x.1+1)]) λ(r:Nat)=>match r with|0=>[T.osl 0 0 (T3 a)]|x=>[T.osl 1 0 y.1])/\True)/\Lt (k5 a-y.1) (k5 a-x.1))/\(decide ((x.1:Int)<(↑(k5 a):Int))=false->R2 .i64 2/\(false=true->(decide ((2:Int)+2*(↑(T3 a):Int)+2*(x.1:Int)≥(a.length:Int))=true->W9 (0:Int) 2/\Lt 0 2/\W9 (1:Int) 2/\Lt 1 2/\(Le (0+T3 a) (T3 a)/\Le (0+x.1) x.1)/\(T3 a=vU a/\Z7 (T3 a) (W8 a 1) (W8 a 1))/\(x.1=zK a/\Z7 x.1 (W8 a (2+2*T3 a)) (W8 a (2+2*T3 a)))/\false=tX a/\True)/\(decide ((2:Int)+2*(↑(T3 a):Int)+2*(x.1:Int)≥(a.length:Int))=false->W9 ((2:Int)+2*(↑(T3 a):Int)+2*(x.1:Int)) a.length/\R2 .i64 ((2:Int)+2*(↑(T3 a):Int)+2*(x.1:Int)+1)/\R2 .i64 ((2:Int)*IntKind.i64.wrap (↑(a.getD ((2:Int)+2*(↑(T3 a):Int)+2*(x.1:Int)).toNat (0:UInt8)).toNat:Int))/\R2 .i64 ((2:Int)+2*(↑(T3 a):Int)+2*(x.1:Int)+1+2*IntKind.i64.wrap (↑(a.getD ((2:Int)+2*(↑(T3 a):Int)+2*(x.1:Int)).toNat (0:UInt8)).toNat:Int))/\(decide ((2:Int)+2*(↑(T3 a):Int)+2*(x.1:Int)+1+2*IntKind.i64.wrap (↑(a.getD ((2:Int)+2*(↑(T3 a):Int)+2*(x.1:Int)).toNat (0:UInt8)).toNat:Int)>(a.length:Int))=true->W9 (0:Int) 2/\Lt 0 2/\W9 (1:Int) 2/\Lt 1 2/\(Le (0+T3 a) (T3 a)/\Le (0+x.1) x.1)/\(T3 a=vU a/\Z7 (T3 a) (W8 a 1) (W8 a 1))/\(x.1=zK a/\Z7 x.1 (W8 a (2+2*T3 a)) (W8 a (2+2*T3 a)))/\false=tX a/\True)/\(decide ((2:Int)+2*(↑(T3 a):Int)+2*(x.1:Int)+1+2*IntKind.i64.wrap (↑(a.getD ((2:Int)+2*(↑(T3 a):Int)+2*(x.1:Int)).toNat (0:UInt8)).toNat:Int)>(a.length:Int))=false->(∃(x_1:Up (k5 a)),(a=a/\(0=0/\2=2)/\(2:Int)+2*(↑(T3 a):Int)+2*(x.1:Int)+1=2+2*(↑(T3 a):Int)+2*(x_1.val:Int)/\(2:Int)=1/\IntKind.i64.wrap (↑(a.getD ((2:Int)+2*(↑(T3 a):Int)+2*(x.1:Int)).toNat (0:UInt8)).toNat:Int)=(↑(k5 a):Int)/\0=(x_1.val:Int)/\True)/\(T3 a=T3 a/\Z7 (T3 a) (W8 a 1) (W8 a 1))/\(x.1=x_1.val/\Z7 x.1 (W8 a (2+2*T3 a)) (W8 a (2+2*T3 a)))/\(2=2/\wI (m9 [some 0,some 1,some 2]) 2 (λ(r:Nat)=>match r with|0=>[T.osl 0 0 (T3 a)]|x_2=>[T.osl 1 0 x.1]) λ(r:Nat)=>match r with|0=>[T.osl 0 0 (T3 a)]|x=>[T.osl 1 0 x_1.val])/\True)/\∀(x:Up (k5 a)),(decide ((x.1:Int)<(↑(k5 a):Int))=true->W9 (1:Int) 2/\Lt 1 2/\W9 ((2:Int)+2*(↑(T3 a):Int)+2*(x.1:Int)) a.length/\R2 .i64 ((2:Int)+2*(↑(T3 a):Int)+2*(x.1:Int)+1)/\W9 ((2:Int)+2*(↑(T3 a):Int)+2*(x.1:Int)+1) a.length/\(Le 1 1/\Le x.1 x.1/\U8 x.1 1 16)/\W9 (1:Int) 2/\Lt 1 2/\R2 .i64 ((2:Int)+2*(↑(T3 a):Int)+2*(x.1:Int)+2)/\R2 .i64 ((x.1:Int)+1)/\∃(y:Up (k5 a)),((a=a/\(0=0/\2=2)/\(2:Int)+2*(↑(T3 a):Int)+2*(x.1:Int)+2=2+2*(↑(T3 a):Int)+2*(y.1:Int)/\(1:Int)=1/\(↑(k5 a):Int)=(↑(k5 a):Int)/\(x.1:Int)+1=(y.1:Int)/\True)/\(T3 a=T3 a/\Z7 (T3 a) (W8 a 1) (W8 a 1))/\(x.1+1=y.1/\Z7 (x.1+1) (X4 (W8 a (2+2*T3 a)) x.1 λ(k:Nat)=>List.take 2 (List.drop (k*2) [Ji (IntKind.i64.wrap (↑(a.getD ((2:Int)+2*(↑(T3 a):Int)+2*(x.1:Int)).toNat (0:UInt8)).toNat:Int)),Ji (IntKind.i64.wrap (↑(a.getD ((2:Int)+2*(↑(T3 a):Int)+2*(x.1:Int)+1).toNat (0:UInt8)).toNat:Int))])) (W8 a (2+2*T3 a)))/\(2=2/\wI (m9 [some 0,some 4,some 2]) 2 (setRow (λ(r:Nat)=>match r with|0=>[T.osl 0 0 (T3 a)]|x_1=>[T.osl 1 0 x.1]) 1 0 [T.osl 4 0 (x.1+1)]) λ(r:Nat)=>match r with|0=>[T.osl 0 0 (T3 a)]|x=>[T.osl 1 0 y.1])/\True)/\Lt (k5 a-y.1) (k5 a-x.1))/\(decide ((x.1:Int)<(↑(k5 a):Int))=false->R2 .i64 2/\False))))/\(false=false->W9 (0:Int) 2/\Lt 0 2/\W9 (1:Int) 2/\Lt 1 2/\(Le (0+T3 a) (T3 a)/\Le (0+x.1) x.1)/\(T3 a=vU a/\Z7 (T3 a) (W8 a 1) (W8 a 1))/\(x.1=zK a/\Z7 x.1 (W8 a (2+2*T3 a)) (W8 a (2+2*T3 a)))/\((2:Int)+2*(↑(T3 a):Int)+2*(x.1:Int)==(a.length:Int))=tX a/\True)))))/\(true=false->W9 (0:Int) 2/\Lt 0 2/\W9 (1:Int) 2/\Lt 1 2/\(Le (0+x.1) x.1/\Le 0 0)/\(x.1=vU a/\Z7 x.1 (W8 a 1) (W8 a 1))/\(0=zK a/\Z7 0 (W8 a 0) (W8 a (2+2*T3 a)))/\((1:Int)+2*(x.1:Int)==(a.length:Int))=tX a/\True)))))/\(true=false->W9 (0:Int) 2/\Lt 0 2/\W9 (1:Int) 2/\Lt 1 2/\(Le 0 0/\Le 0 0)/\(0=vU a/\Z7 0 (λ(k:Nat)=>List.take 2 (List.drop (k*2) [])) (W8 a 1))/\(0=zK a/\Z7 0 (λ(k:Nat)=>List.take 2 (List.drop (k*2) [])) (W8 a (2+2*T3 a)))/\((0:Int)==(a.length:Int))=tX a/\True)) ?_
 simp only[k7,W9,Lt,Le,U8,uN];simp only[h0];refine⟨λ_=>⟨λhz=>?_,λhz=>?_⟩,λh=>F3⟩
 ·have hz':¬0<a.length:=by simp at hz;simp[hz]
  refine⟨Z9,Z9,Z9,Z9,Z9,⟨by simp[vU,hz'],none0 _ _⟩,⟨by simp[zK,hz'],none0 _ _⟩,by simp[tX,hz'],trivial⟩
 have hz':0<a.length:=by simp at hz;exact List.length_pos_iff.2 hz
 refine⟨⟨Z9,Z9⟩,Z9,Z9,Z9,λhgt=>?_,λhle=>?_⟩
 ·have hgt':¬1+2*T3 a<=a.length:=by simp at hgt;omega
  have hgt'':¬1+2*T3 a<a.length:=Z9
  refine⟨Z9,Z9,Z9,Z9,Z9,⟨by simp[vU,hgt'],none0 _ _⟩,⟨by simp[zK,hgt''],none0 _ _⟩,by simp[tX,hgt''],trivial⟩
 have hle':1+2*T3 a<=a.length:=by simp at hle;omega
 have e0:vU a=T3 a:=by simp[vU,hz',hle']
 refine⟨⟨⟨0,N4 _⟩,⟨trivial,⟨trivial,trivial⟩,rfl,trivial,trivial,rfl,trivial⟩,⟨rfl,none0 _ _⟩,⟨trivial,none0 _ _⟩,⟨trivial,two rfl rfl⟩,trivial⟩,λx=>⟨λhx=>?_,λhx=>?_⟩⟩
 ·have hx':x.1<T3 a:=by simpa using hx
  rw[show(1+2*(x.1:Int)).toNat=1+2*x.1 by omega,show(1+2*(x.1:Int)+1).toNat=1+2*x.1+1 by omega]
  refine⟨Z9,Z9,Z9,Z9,Z9,Z9,Z9,Z9,Z9,Z9,⟨x.1+1,hx'⟩,⟨⟨trivial,⟨trivial,trivial⟩,M0,trivial,trivial,M0,trivial⟩,⟨rfl,lR 1 _⟩,⟨trivial,none0 _ _⟩,⟨trivial,two rfl rfl⟩,trivial⟩,M0⟩
 have hx':x.1=T3 a:=by have:=x.2;simp at hx;omega
 rw[hx',t0,h1];refine⟨Z9,λ_=>⟨λhz1=>?_,λhz1=>⟨?_,Z9,Z9,Z9,λhg1=>?_,λhl1=>?_⟩⟩,λh=>F3⟩
 ·have hz1':¬1+2*T3 a<a.length:=by simp at hz1;omega
  refine⟨Z9,Z9,Z9,Z9,Z9,⟨e0.symm,refl0 _ _⟩,⟨by simp[zK,hz1'],none0 _ _⟩,by simp[tX,hz1'],trivial⟩
 ·simp at hz1;omega
 ·have hz1':1+2*T3 a<a.length:=by simp at hz1;omega
  have hg1':¬2+2*T3 a+2*k5 a<=a.length:=by simp at hg1;omega
  have hg1'':¬2+2*T3 a+2*k5 a=a.length:=Z9
  refine⟨Z9,Z9,Z9,Z9,Z9,⟨e0.symm,refl0 _ _⟩,⟨by simp[zK,hg1'],none0 _ _⟩,by simp[tX,hg1''],trivial⟩
 have hz1':1+2*T3 a<a.length:=by simp at hz1;omega
 have hl1':2+2*T3 a+2*k5 a<=a.length:=by simp at hl1;omega
 have e1:zK a=k5 a:=by simp[zK,hz',hz1',hl1']
 refine⟨⟨⟨0,N4 _⟩,⟨trivial,⟨trivial,trivial⟩,M0,trivial,rfl,rfl,trivial⟩,⟨rfl,refl0 _ _⟩,⟨rfl,none0 _ _⟩,⟨trivial,two rfl rfl⟩,trivial⟩,λy=>⟨λhy=>?_,λhy=>?_⟩⟩
 ·have hy':y.1<k5 a:=by simpa using hy
  rw[show(2+2*(T3 a:Int)+2*(y.1:Int)).toNat=2+2*T3 a+2*y.1 by omega,show(2+2*(T3 a:Int)+2*(y.1:Int)+1).toNat=2+2*T3 a+2*y.1+1 by omega]
  refine⟨Z9,Z9,Z9,Z9,Z9,Z9,Z9,Z9,Z9,Z9,⟨y.1+1,hy'⟩,⟨⟨trivial,⟨trivial,trivial⟩,M0,trivial,trivial,M0,trivial⟩,⟨trivial,refl0 _ _⟩,⟨rfl,lR _ _⟩,⟨trivial,two rfl rfl⟩,trivial⟩,M0⟩
 have hy':y.1=k5 a:=by have:=y.2;simp at hy;omega
 rw[hy'];refine⟨Z9,(λh=>F3),λ_=>⟨Z9,Z9,Z9,Z9,Z9,⟨e0.symm,refl0 _ _⟩,⟨e1.symm,refl0 _ _⟩,?_,trivial⟩⟩
 unfold tX;rw[Bool.eq_iff_iff,beq_iff_eq,o8];omega
def xJ(a:Bz)(A:Nat)(l hi lsn:Int)(i:Nat):Bool:=
 !V6 (r7 a (A+2*i)) l hi|| !V6 (r7 a (A+2*i+1)) 1 (lsn-1)||(decide ((i:Int)>0)&&decide (r7 a (A+2*(i-1))≥r7 a (A+2*i)))
def ckS(a:Bz)(lsn:Int):Bool:=
 tX a&&decide (vU a<=8)&&decide (zK a<=10)&& !anyI (vU a) (xJ a 1 0 7 lsn)&& !anyI (zK a) (xJ a (2+2*T3 a) 1 60 lsn)
def b9C(a:Bz)(n:Int):Prop:=a.length<1000000000000/\ -1000000000000<=n/\n<=1000000000000
def a0e:List T->Option (T×Option Prop)
 | [.agg [.int .i64 e,.int .i64 l,.int .i64 t,.int .i64 k,.int .i64 p,.int .i64 n,.int .i64 g,.int .i64 s,.str b,.str a]]=>some (.bool (ckS a l),some (b9C a l))
 |_=>none
def b4P:Con:=.pure a0e
def b1u(r:Rec):Nat->Ann
 |1=>.one (V5 (zK r.a) (xJ r.a (2+2*T3 r.a) 1 60 r.l)) (λx=>⟨[(1,.ref 0 0 0),(4,.sl 2 (zK r.a) (W8 r.a (2+2*T3 r.a))),(7,Ji x.1)],[some (.arr true 1000000 10 1 λ_=>r.ts)]⟩) (λx=>zK r.a-x.1) [.arr 0] [.arr 0] (λ_=>Z3)
 |_=>.none
def b10(r:Rec):Nat->Ann
 |0=>.one (V5 (vU r.a) (xJ r.a 1 0 7 r.l)) (λx=>⟨[(1,.ref 0 0 0),(3,.sl 2 (vU r.a) (W8 r.a 1)),(4,.sl 2 (zK r.a) (W8 r.a (2+2*T3 r.a))),(6,Ji x.1)],[some (.arr true 1000000 10 1 λ_=>r.ts)]⟩) (λx=>vU r.a-x.1) [.arr 0] [.arr 0] (λ_=>b1u r)
 |_=>.none
def b2y(r:Rec)(h:
let pg:=(W8 r.a (2+2*T3 r.a));let pd:=(0=0/\0=0);let d:=(vU r.a=vU r.a/\Z7 (vU r.a) (W8 r.a 1) (W8 r.a 1));let v:=(zK r.a=zK r.a/\Z7 (zK r.a) pg pg);  L9 r.a.length/\br (!tX r.a||decide ((↑(vU r.a):Int)>8)||decide ((↑(zK r.a):Int)>10)) (false=ckS r.a r.l) ((∃(x:V5 (vU r.a) (xJ r.a 1 (0:Int) (7:Int) r.l)),(pd/\d/\v/\0=(x.1:Int)/\True)/\(1=1/\Z7 1 (λ(x:Nat)=>[Ji r.e,Ji r.l,Ji r.t,Ji r.k,Ji r.p,Ji r.n,Ji r.g,Ji r.s,T.str r.b,T.str r.a]) λ(x:Nat)=>[Ji r.e,Ji r.l,Ji r.t,Ji r.k,Ji r.p,Ji r.n,Ji r.g,Ji r.s,T.str r.b,T.str r.a])/\True)/\∀(x:V5 (vU r.a) (xJ r.a 1 (0:Int) (7:Int) r.l)),let w:=(x.1:Int);let pe:=(r7 r.a (1+2*w.toNat+1));let pc:=(r7 r.a (1+2*w.toNat));let m:=(!V6 pc (0:Int) (7:Int));let z:=(!V6 pc (0:Int) (7:Int)|| !V6 pe (1:Int) (r.l-1));let pa:=(z=false->decide (w>0)=true->W9 (0:Int) 2);bd (w<(↑(vU r.a):Int)) (W9 w (vU r.a)/\W9 (0:Int) 2/\(m=false->W9 w (vU r.a))/\(m=false->W9 (1:Int) 2)/\(m=false->Ri (r.l-1))/\(z=false->decide (w>0)=true->Ri (w-1))/\(z=false->decide (w>0)=true->W9 (w-1) (vU r.a))/\pa/\(z=false->decide (w>0)=true->W9 w (vU r.a))/\pa/\br (!V6 pc (0:Int) (7:Int)|| !V6 pe (1:Int) (r.l-1)||decide (w>0)&&decide (r7 r.a (1+2*(w-1).toNat)≥r7 r.a (1+2*w.toNat))) (false=ckS r.a r.l) (Ri (w+1)/\∃(y:V5 (vU r.a) (xJ r.a 1 (0:Int) (7:Int) r.l)),((pd/\d/\v/\w+1=(y.1:Int)/\True)/\(1=1/\Z7 1 (λ(x:Nat)=>[Ji r.e,Ji r.l,Ji r.t,Ji r.k,Ji r.p,Ji r.n,Ji r.g,Ji r.s,T.str r.b,T.str r.a]) λ(x:Nat)=>[Ji r.e,Ji r.l,Ji r.t,Ji r.k,Ji r.p,Ji r.n,Ji r.g,Ji r.s,T.str r.b,T.str r.a])/\True)/\Lt (vU r.a-y.1) (vU r.a-x.1))) ((∃(x:V5 (zK r.a) (xJ r.a (2+2*T3 r.a) (1:Int) (60:Int) r.l)),(pd/\v/\0=(x.1:Int)/\True)/\(1=1/\Z7 1 (λ(x:Nat)=>[Ji r.e,Ji r.l,Ji r.t,Ji r.k,Ji r.p,Ji r.n,Ji r.g,Ji r.s,T.str r.b,T.str r.a]) λ(x:Nat)=>[Ji r.e,Ji r.l,Ji r.t,Ji r.k,Ji r.p,Ji r.n,Ji r.g,Ji r.s,T.str r.b,T.str r.a])/\True)/\∀(x:V5 (zK r.a) (xJ r.a (2+2*T3 r.a) (1:Int) (60:Int) r.l)),let u:=(x.1:Int);let pf:=(2+2*T3 r.a+2*u.toNat);let c:=(r7 r.a (2+2*T3 r.a+2*u.toNat+1));let f:=(r7 r.a (2+2*T3 r.a+2*(u-1).toNat)≥r7 r.a pf);let j:=(r7 r.a pf);let i:=(!V6 j (1:Int) (60:Int));let q:=(!V6 j (1:Int) (60:Int)|| !V6 c (1:Int) (r.l-1));let pb:=(q=false->decide (u>0)=true->W9 (0:Int) 2);bd (u<(↑(zK r.a):Int)) (W9 u (zK r.a)/\W9 (0:Int) 2/\(i=false->W9 u (zK r.a))/\(i=false->W9 (1:Int) 2)/\(i=false->Ri (r.l-1))/\(q=false->decide (u>0)=true->Ri (u-1))/\(q=false->decide (u>0)=true->W9 (u-1) (zK r.a))/\pb/\(q=false->decide (u>0)=true->W9 u (zK r.a))/\pb/\((!V6 j (1:Int) (60:Int)||!V6 c (1:Int) (r.l-1)||decide (u>0)&&decide f)=true->false=ckS r.a r.l)/\((!V6 j (1:Int) (60:Int)|| !V6 c (1:Int) (r.l-1)||decide (u>0)&&decide f)=false->Ri (u+1)/\∃(y:V5 (zK r.a) (xJ r.a (2+2*T3 r.a) (1:Int) (60:Int) r.l)),((pd/\v/\u+1=(y.1:Int)/\True)/\(1=1/\Z7 1 (λ(x:Nat)=>[Ji r.e,Ji r.l,Ji r.t,Ji r.k,Ji r.p,Ji r.n,Ji r.g,Ji r.s,T.str r.b,T.str r.a]) λ(x:Nat)=>[Ji r.e,Ji r.l,Ji r.t,Ji r.k,Ji r.p,Ji r.n,Ji r.g,Ji r.s,T.str r.b,T.str r.a])/\True)/\Lt (zK r.a-y.1) (zK r.a-x.1))) (true=ckS r.a r.l)))):
  V4 prog 256 [.agg r.ts] (.bool (ckS r.a r.l)):=
 U5 (gC a1c (gC z9 gN)) func256 (b10 r) h
def b0F(a:Bz)(A:Nat)(l hi lsn:Int)(i:Nat):
  xJ a A l hi lsn i=(!V6 (r7 a (A+2*(i:Int).toNat)) l hi|| !V6 (r7 a (A+2*(i:Int).toNat+1)) 1 (lsn-1)||(decide ((i:Int)>0)&&decide (r7 a (A+2*((i:Int)-1).toNat)≥r7 a (A+2*(i:Int).toNat)))):=by
 unfold xJ;rw[E3,show((i:Int)-1).toNat=i-1 by omega]
def a9b:GK 256 b4P:=gk func256<|by
 intro args res p h hp;unfold a0e at h;split at h
 case h_2=>cases h
 rename_i e l t k p n g s b a;simp only[X0,U4] at h;obtain⟨rfl,rfl⟩:=h;obtain⟨hn,hl1,hl2⟩:b9C a l:=hp;have q0:vU a<=a.length:=by unfold vU;split<;>omega
 have q1:zK a<=a.length:=by unfold zK;split<;>omega
 have r0:∀(n:Nat) (row:Nat->List T),Z7 n row row:=λn row i hi=>rfl
 refine b2y ⟨e,l,t,k,p,n,g,s,b,a⟩ ?_
 simp only[Rec.e,Rec.l,Rec.t,Rec.k,Rec.p,Rec.n,Rec.g,Rec.s,Rec.b,Rec.a];refine⟨hn,λhb=>?_,λhb=>⟨⟨F4,⟨⟨v4,v4⟩,⟨v4,r0 _ _⟩,⟨v4,r0 _ _⟩,v4,trivial⟩,⟨v4,r0 _ _⟩,trivial⟩,λx=>⟨λhc=>?_,λhc=>?_⟩⟩⟩
 ·unfold ckS;simp only[nT,vZ,o8] at hb;rcases hb with(hb|hb)|hb
  ·rw[hb];rfl
  ·rw[show decide (vU a<=8)=false from tQ Z9];simp
  ·rw[show decide (zK a<=10)=false from tQ Z9];simp
 ·have hlt:=Y2 hc;have i2:W9 0 2:=⟨Z9,Z9⟩
  have i2':W9 1 2:=⟨Z9,Z9⟩
  rw[←b0F];refine⟨Y6 hlt,i2,λ_=>Y6 hlt,λ_=>i2',λ_=>Z4 Z9,λ_ _=>Z4 Z9,λ_ hh=>?_,λ_ _=>i2,λ_ _=>Y6 hlt,λ_ _=>i2,λhp=>?_,λhp=>⟨W2 hlt Z9,x.succ hlt hp,⟨⟨⟨v4,v4⟩,⟨v4,r0 _ _⟩,⟨v4,r0 _ _⟩,v4,trivial⟩,⟨v4,r0 _ _⟩,trivial⟩,V5.ext_lt hlt⟩⟩
  ·have:=G7 hh;exact⟨Z9,Z9⟩
  ·have:anyI (vU a) (xJ a 1 0 7 l)=true:=R9.2 ⟨x.1,hlt,hp⟩;simp[ckS,this]
 ·have hge:=Y0 hc;have g0:anyI (vU a) (xJ a 1 0 7 l)=false:=by
   rw[Bool.eq_false_iff,ne_eq,R9];rintro⟨i,hi,h⟩;rw[x.2.2 i Z9] at h
   cases h
  refine⟨⟨F4,⟨⟨v4,v4⟩,⟨v4,r0 _ _⟩,v4,trivial⟩,⟨v4,r0 _ _⟩,trivial⟩,λy=>⟨λhc=>?_,λhc=>?_⟩⟩
  ·have hlt:=Y2 hc;have i2:W9 0 2:=⟨Z9,Z9⟩
   have i2':W9 1 2:=⟨Z9,Z9⟩
   rw[←b0F];refine⟨Y6 hlt,i2,λ_=>Y6 hlt,λ_=>i2',λ_=>Z4 Z9,λ_ _=>Z4 Z9,λ_ hh=>?_,λ_ _=>i2,λ_ _=>Y6 hlt,λ_ _=>i2,λhp=>?_,λhp=>⟨W2 hlt Z9,y.succ hlt hp,⟨⟨⟨v4,v4⟩,⟨v4,r0 _ _⟩,v4,trivial⟩,⟨v4,r0 _ _⟩,trivial⟩,V5.ext_lt hlt⟩⟩
   ·have:=G7 hh;exact⟨Z9,Z9⟩
   ·have:anyI (zK a) (xJ a (2+2*T3 a) 1 60 l)=true:=R9.2 ⟨y.1,hlt,hp⟩;simp[ckS,this]
  ·have hge:=Y0 hc;have g1:anyI (zK a) (xJ a (2+2*T3 a) 1 60 l)=false:=by
    rw[Bool.eq_false_iff,ne_eq,R9];rintro⟨i,hi,h⟩;rw[y.2.2 i Z9] at h
    cases h
   simp only[wS,wU,uH] at hb;unfold ckS;rw[g0,g1,hb.1.1,show decide (vU a<=8)=true from mO Z9,show decide (zK a<=10)=true from mO Z9]
   rfl
def qK(l:Bz)(k:Nat):numR (l.drop k)=r7 l k:=by
 unfold numR r7;simp[P4]
def b9O(l:Bz)(k i:Nat):r7 (l.drop k) i=r7 l (k+i):=by
 unfold r7;simp[P4]
def a8a(l:Bz)(k:Nat):0<=r7 l k:=by unfold r7;omega
def a3S(l:Bz)(o:Int)(i:Nat):Int:=if i=0 then o-1 else r7 l (1+2*(i-1))
def okP(l:Bz)(o hi lsn:Int)(i:Nat):Bool:=V6 (r7 l (1+2*i)) (a3S l o i+1) hi&&V6 (r7 l (2+2*i)) 1 (lsn-1)
def c5j(most lo hi lsn:Int)(l:Bz)(fl:Bool)(i:Nat):
  RdSt.go hi lsn (uK most lo l fl) i=⟨l.drop (1+2*i),fl||decide (l.length<1+2*i),decide (numR l<=most)&&(List.range i).all (okP l lo hi lsn),a3S l lo i⟩:=by
 induction i with
 |zero=>
  simp only[RdSt.go,uK,a3S,if_true,List.range_zero,List.all_nil,Bool.and_true,Nat.mul_zero,Nat.add_zero];cases l<;>simp
 |succ i ih=>
  simp only[RdSt.go];rw[ih];simp only[RdSt.step];have e1:((l.drop (1+2*i)).drop 1).drop 1=l.drop (1+2*(i+1)):=by
   rw[List.drop_drop,List.drop_drop];congr 1
  have e2:numR ((l.drop (1+2*i)).drop 1)=r7 l (2+2*i):=by
   rw[List.drop_drop,qK];congr 1
   omega
  have e3:a3S l lo (i+1)=numR (l.drop (1+2*i)):=by
   rw[qK];simp[a3S]
  have e4:(List.range (i+1)).all (okP l lo hi lsn)=((List.range i).all (okP l lo hi lsn)&&okP l lo hi lsn i):=by
   rw[List.range_succ,List.all_append];simp
  rw[e1,e2,e3,e4,qK];congr 1
  ·have:(l.drop (1+2*i)).isEmpty=decide (l.length<=1+2*i):=by
    rw[Bool.eq_iff_iff];simp
   have h2:((l.drop (1+2*i)).drop 1).isEmpty=decide (l.length<=1+2*i+1):=by
    rw[Bool.eq_iff_iff];simp
   rw[this,h2,Bool.or_assoc,Bool.or_assoc];congr 1
   rw[Bool.eq_iff_iff];simp;omega
  ·unfold okP;rw[Bool.and_assoc,Bool.and_assoc]
def b1f{n:Nat}{p q:Nat->Bool}(h:∀i,p i= !q i):(List.range n).all p= !anyI n q:=by
 unfold anyI;rw[List.not_any_eq_all_not];congr 1
 funext i
 rw[h i]
def b0r(l:Bz)(o hi lsn:Int)(d:o=0∨o=1)(i:Nat):okP l o hi lsn i= !xJ l 1 o hi lsn i:=by
 have B:=a8a l (1+2*(i-1));have b2:=a8a l (1+2*i);unfold okP xJ a3S V6;rw[show 1+2*i+1=2+2*i by omega]
 rw[Bool.eq_iff_iff];by_cases h:i=0
 ·subst h;simp
 ·simp[h];omega
def b4H(a:Bz)(k:Nat)(l hi lsn:Int)(i:Nat):xJ (a.drop k) 1 l hi lsn i=xJ a (k+1) l hi lsn i:=by
 unfold xJ;simp only[b9O];rw[show k+(1+2*i)=k+1+2*i by omega,show k+(1+2*i+1)=k+1+2*i+1 by omega,show k+(1+2*(i-1))=k+1+2*(i-1) by omega]
def c6v(a:Bz)(lsn:Int):a4M a lsn=ckS a lsn:=by
 have n0:(numR a).toNat=T3 a:=by simp[numR,T3,r7]
 have n0':numR a=(T3 a:Int):=by have:=r6 a;omega
 have n1:numR (a.drop (1+2*T3 a))=(k5 a:Int):=by rw[qK];have:=a8a a (1+2*T3 a);simp[k5];omega
 have n1':(numR (a.drop (1+2*T3 a))).toNat=k5 a:=Z9
 have E1:N6 8 0 7 lsn a false=⟨a.drop (1+2*T3 a),decide (a.length<1+2*T3 a),decide ((T3 a:Int)<=8)&& !anyI (T3 a) (xJ a 1 0 7 lsn),a3S a 0 (T3 a)⟩:=by
  unfold N6;rw[c5j,n0,n0',b1f (b0r a 0 7 lsn (.inl rfl)),Bool.false_or]
 have E2:N6 10 1 60 lsn (a.drop (1+2*T3 a)) (decide (a.length<1+2*T3 a))=⟨a.drop (2+2*T3 a+2*k5 a),decide (a.length<2+2*T3 a+2*k5 a),decide ((k5 a:Int)<=10)&& !anyI (k5 a) (xJ a (2+2*T3 a) 1 60 lsn),a3S (a.drop (1+2*T3 a)) 1 (k5 a)⟩:=by
  unfold N6;rw[c5j,n1',n1,b1f (b0r (a.drop (1+2*T3 a)) 1 60 lsn (.inr rfl))];congr 1
  ·rw[List.drop_drop];congr 1;omega
  ·rw[Bool.eq_iff_iff];simp;omega
  ·congr 2
   unfold anyI;congr 1
   funext i
   rw[b4H];congr 1
   omega
 unfold a4M;rw[E1];simp only;rw[E2];simp only;have hE:(a.drop (2+2*T3 a+2*k5 a)).isEmpty=decide (a.length<=2+2*T3 a+2*k5 a):=by rw[Bool.eq_iff_iff];simp
 rw[hE];by_cases hr:0<a.length/\1+2*T3 a<a.length/\2+2*T3 a+2*k5 a=a.length
 ·have c0:vU a=T3 a:=by unfold vU;rw[if_pos ⟨hr.1,Z9⟩]
  have c1:zK a=k5 a:=by unfold zK;rw[if_pos ⟨hr.1,hr.2.1,Z9⟩]
  unfold ckS;rw[show tX a=true from mO hr,c0,c1]
  rw[show decide (a.length<1+2*T3 a)=false from tQ Z9,show decide (a.length<2+2*T3 a+2*k5 a)=false from tQ Z9,show decide (a.length<=2+2*T3 a+2*k5 a)=true from mO Z9]
  rw[show decide ((T3 a:Int)<=8)=decide (T3 a<=8) from decide_eq_decide.2 Z9,show decide ((k5 a:Int)<=10)=decide (k5 a<=10) from decide_eq_decide.2 Z9]
  generalize anyI (T3 a) _=x;generalize anyI (k5 a) _=y;generalize decide (T3 a<=8)=u;generalize decide (k5 a<=10)=v;cases x<;>cases y<;>cases u<;>cases v<;>rfl
 ·have:ckS a lsn=false:=by
   unfold ckS;rw[show tX a=false from tQ hr]
   rfl
  rw[this];by_cases h1:a.length<2+2*T3 a+2*k5 a
  ·rw[show decide (a.length<2+2*T3 a+2*k5 a)=true from mO h1]
   simp
  ·have h2:¬a.length<=2+2*T3 a+2*k5 a:=by omega
   rw[show decide (a.length<=2+2*T3 a+2*k5 a)=false from tQ h2]
   simp
def jN:List T->Option (T×Option Prop)
 | [.agg [.int .i64 e,.int .i64 l,.int .i64 t,.int .i64 k,.int .i64 p,.int .i64 n,.int .i64 g,.int .i64 s,.str b,.str a]]=>some (.bool (O9 ⟨e,l,t,k,p,n,g,s,b,a⟩),some (L9 a.length))
 |_=>none
def a5H:Con:=.pure jN
def a4H(r:Rec)(x:Bool)(h:
let q:=((r.b.length:Int)>30);  ((!V6 r.e (1:Int) (60:Int)|| !V6 r.l (1:Int) (60:Int)|| !V6 r.k (1:Int) (6:Int))=false->Ri (r.l-1))/\((!V6 r.e (1:Int) (60:Int)|| !V6 r.l (1:Int) (60:Int)|| !V6 r.k (1:Int) (6:Int)|| !V6 r.p (0:Int) (r.l-1))=false->Ri (r.l-1))/\((!V6 r.e (1:Int) (60:Int)|| !V6 r.l (1:Int) (60:Int)|| !V6 r.k (1:Int) (6:Int)|| !V6 r.p (0:Int) (r.l-1)|| !V6 r.n (0:Int) (r.l-1)|| !V6 r.g (0:Int) (7:Int)|| !V6 r.s (0:Int) (3:Int)||decide q)=true->false=x)/\((!V6 r.e (1:Int) (60:Int)|| !V6 r.l (1:Int) (60:Int)||!V6 r.k (1:Int) (6:Int)|| !V6 r.p (0:Int) (r.l-1)|| !V6 r.n (0:Int) (r.l-1)|| !V6 r.g (0:Int) (7:Int)|| !V6 r.s (0:Int) (3:Int)||decide q)=false->br (r.k==6) (((r.t==0&&r.p==0&&r.n==0&&r.g==0&&r.s==0&&r.b==[])=true->b9C r.a r.l)/\(r.t==0&&r.p==0&&r.n==0&&r.g==0&&r.s==0&&r.b==[]&&ckS r.a r.l)=x) (br (!V6 r.t (1:Int) (60:Int)||decide ((r.a.length:Int)>30)) (false=x) (br (!(r.k==2||r.k==3)&&(r.g !=0||r.s !=0|| !r.b==[]|| !r.a==[])||r.k !=3&&r.n !=0||r.k==3&& !r.b==[]) (false=x) (((r.k==1)==(r.p==0))=x))))):
  V4 prog 158 [.agg r.ts] (.bool x):=
 U5 (gC a9b (gC z9 gN)) func158 Z3 h
def c88{p k a b:Int}:((k==b)=(p==a))↔(k=b↔p=a):=by
 rw[Bool.eq_iff_iff,beq_iff_eq,beq_iff_eq]
def lS:GK 158 a5H:=gk func158<|by
 intro args res p h hp;unfold jN at h;split at h
 case h_2=>cases h
 rename_i e l t k p n g s b a;simp only[X0,U4] at h;obtain⟨rfl,rfl⟩:=h;have hp:a.length<1000000000000:=hp;refine a4H ⟨e,l,t,k,p,n,g,s,b,a⟩ _ ?_
 simp only[Rec.e,Rec.l,Rec.t,Rec.k,Rec.p,Rec.n,Rec.g,Rec.s,Rec.b,Rec.a];have hr:∀{q:Bool},(!V6 e 1 60|| !V6 l 1 60||q)=false->R2 .i64 (l-1):=by
  intro q h;simp only[wS,wU,V6,J5,o8] at h;exact Z4 Z9
 refine⟨hr,λh=>hr (q:= !V6 k 1 6|| !V6 p 0 (l-1)) (by rw[←h];simp[Bool.or_assoc]),λh=>?_,λh=>?_⟩
 ·refine(uP ?_).symm
  simp only[nT,vZ,V6,Bool.and_eq_false_iff,uH,o8] at h;unfold zG;simp only;omega
 simp only[wS,wU,V6,J5,o8,uH] at h;by_cases h6:k=6
 ·subst h6;refine⟨λ_=>⟨λ_=>⟨hp,Z9,Z9⟩,qL ?_⟩,λh=>L4⟩
  rw[Q4,←c6v];simp only[zG,o8,J5,beq_iff_eq,true_and,and_true];constructor
  ·rintro⟨⟨⟨⟨⟨⟨rfl,rfl⟩,rfl⟩,rfl⟩,rfl⟩,rfl⟩,hc⟩;simp[hc];omega
  ·rintro⟨_,_,_,_,_,_,_,_,_,_,_,_,_,_,_,hh,_⟩;obtain⟨rfl,rfl,rfl,rfl,rfl,rfl,hc⟩:=hh trivial;simp[hc]
 refine⟨λh=>absurd x5 h6,λ_=>⟨λhb=>?_,λhb=>⟨λhc=>?_,λhc=>qL ?_⟩⟩⟩
 ·refine(uP ?_).symm
  simp[V6] at hb;unfold zG;simp only;omega
 ·refine(uP ?_).symm
  unfold zG;simp only;rintro⟨_,_,_,_,_,_,_,_,_,_,_,_,_,_,_,_,hh⟩;obtain⟨c1,c2,c3,c4,c5,c6,c7⟩:=hh h6;simp only[nT,J5,vZ,wS,beq_iff_eq,bne_iff_ne,beq_eq_false_iff_ne] at hc;rcases hc with(⟨⟨x2,x3⟩,hc⟩|⟨x3,hn⟩)|⟨x3,hn⟩
  ·obtain⟨d1,d2,d3,d4⟩:=c4 x2 x3;rcases hc with((hc|hc)|hc)|hc
   ·exact hc d1
   ·exact hc d2
   ·exact hc d3
   ·exact hc d4
  ·exact hn (c5 x3)
  ·exact hn (c6 x3)
 ·rw[Q4];simp only[zG,c88,true_and,and_true,beq_iff_eq];simp[V6] at hb hc;constructor
  ·intro hk;refine⟨Z9,Z9,Z9,Z9,Z9,Z9,Z9,Z9,Z9,Z9,Z9,Z9,Z9,Z9,Z9,λh=>absurd h h6,λ_=>⟨Z9,Z9,Z9,λx2 x3=>?_,λx3=>?_,λx3=>?_,hk⟩⟩
   ·have:=hc.1.1 x2 x3;exact⟨this.1.1.1,this.1.1.2,this.1.2,this.2⟩
   ·exact hc.1.2 x3
   ·exact hc.2 x3
  ·rintro⟨_,_,_,_,_,_,_,_,_,_,_,_,_,_,_,_,hh⟩;exact(hh h6).2.2.2.2.2.2
def rem(l:Int)(n:Nat):Int:=if 0<=l-n then l-n else-1
def C3(n:Int):Prop:=0<=n/\n<=1048576
def N8(r:Rec):Nat:=r.b.length+r.a.length
def b4k(r:Rec):Prop:=r.b.length<=9223372036854775807/\r.a.length<=9223372036854775807
def b0l:Rl:=⟨Rec×Int,λx=>[.agg x.1.ts,Ji x.2],λx=>Ji (rem x.2 (N8 x.1)),λx=>C3 x.2/\b4k x.1⟩
def c3D:Con:=.rel b0l
def I7{l:Int}{n:Nat}(h:l<n):rem l n= -1:=by unfold rem;rw[if_neg Z9]
def D9{l:Int}{n:Nat}(h:(n:Int)<=l):rem l n=l-n:=by unfold rem;rw[if_pos Z9]
def b7E:GK 155 c3D:=gk func155<|by
 rintro⟨r,l⟩ ⟨⟨g,f⟩,B,A⟩;simp only at g f B A;refine U5 gN func155 Z3 (α:=let q:=(r.a.length:Int);let p:=(r.b.length:Int);R2 .i64 (l- p)/\(decide (l- p<0)=true->(-1:Int)=rem l (N8 r))/\(decide (l- p<0)=false->R2 .i64 (l- p- q)/\(decide (l- p- q<0)=true->(-1:Int)=rem l (N8 r))/\(decide (l- p- q<0)=false->l- p- q=rem l (N8 r)))) ?_
 simp only[k7,o8,uH];have e:((N8 r:Nat):Int)=r.b.length+r.a.length:=by unfold N8;omega
 refine⟨Z9,λh=>(I7 Z9).symm,λh=>⟨Z9,λd=>(I7 Z9).symm,λd=>?_⟩⟩
 rw[D9 Z9]
 omega
def V3{α:Type}(f:α->Nat)(L:List α)(n:Nat):Nat->Nat
 |0=>n
 |i+1=>V3 f L n i+(L[i]?.map f).getD 0
def S3{α:Type}(f:α->Nat)(L:List α):Nat:=V3 f L L.length L.length
def a3t:Rl:=⟨List Rec×Int,λx=>[zE x.1,Ji x.2],λx=>Ji (rem x.2 (S3 N8 x.1)),λx=>C3 x.2/\x.1.length<=9223372036854775807/\∀r ∈ x.1,b4k r⟩
def b9h:Con:=.rel a3t
def b9n(L:List Rec)(l:Int):Nat->Ann
 |0=>.one {i:Nat//i<=L.length/\(V3 N8 L L.length i:Int)<=l} (λx=>⟨[(0,zE L),(1,Ji (l-V3 N8 L L.length x.1)),(5,Ji x.1)],[]⟩) (λx=>L.length-x.1) [] [] (λ_=>Z3)
 |_=>.none
def zL{α:Type}(f:α->Nat)(L:List α)(n:Nat){i:Nat}(d:α)(h:i<L.length):V3 f L n (i+1)=V3 f L n i+f (L.getD i d):=by
 simp[V3,P4,I1 h]
def w8{α:Type}(f:α->Nat)(L:List α)(n:Nat):∀{i j:Nat},i<=j->V3 f L n i<=V3 f L n j:=by
 intro i j h;induction h with
 |refl=>exact U9 _
 |step _ I=>simp only[V3];omega
def b3X:GK 68 b9h:=gk func68<|by
 rintro⟨L,left⟩ ⟨⟨d,f⟩,N,B⟩;simp only at d f B N;have R:∀(n:Nat) (row:Nat->List T),Z7 n row row:=λn row i hi=>rfl
 have M:∀i,i<=L.length->V3 N8 L L.length i<=S3 N8 L:=λi hi=>w8 _ _ _ hi
 have z:V3 N8 L L.length 0=L.length:=rfl;refine U5 (gC b7E gN) func68 (b9n L left) (α:=let r:=(L.length:Int);R2 .i64 (left- r)/\(decide (left- r<0)=true->(-1:Int)=rem left (S3 N8 L))/\(decide (left- r<0)=false->(∃(x:{i:Nat//i<=L.length/\(↑(V3 N8 L L.length i):Int)<=left}),((Z0 Y1 L L)/\left- r=left- (↑(V3 N8 L L.length x.1):Int)/\0=(x.1:Int)/\True)/\True)/\∀(x:{i:Nat//i<=L.length/\(↑(V3 N8 L L.length i):Int)<=left}),let u:=(↑(V3 N8 L L.length x.1):Int);let z:=(x.1:Int);let q:=(L.getD z.toNat dz);(decide (z<r)=true->W9 z L.length/\∃(X:b0l.ι),let v:=(rem X.2 (N8 X.1)<0);(((q.e=X.1.e/\q.l=X.1.l/\q.t=X.1.t/\q.k=X.1.k/\q.p=X.1.p/\q.n=X.1.n/\q.g=X.1.g/\q.s=X.1.s/\q.b=X.1.b/\q.a=X.1.a/\True)/\left- u=X.2/\True)/\C3 X.2/\b4k X.1)/\(decide v=true->(-1:Int)=rem left (S3 N8 L))/\(decide v=false->R2 .i64 (z+1)/\∃(y:{i:Nat//i<=L.length/\(↑(V3 N8 L L.length i):Int)<=left}),(((Z0 Y1 L L)/\rem X.2 (N8 X.1)=left- (↑(V3 N8 L L.length y.1):Int)/\z+1=(y.1:Int)/\True)/\True)/\Lt (L.length-y.1) (L.length-x.1)))/\(decide (z<r)=false->left- u=rem left (S3 N8 L)))) ?_
 simp only[k7,o8,uH];refine⟨Z9,λh=>(I7 a9o).symm,λh=>⟨⟨⟨0,N4 _,Z9⟩,⟨⟨S7,R _ _⟩,by simp only[z],rfl,trivial⟩,trivial⟩,λx=>⟨λC=>?_,λC=>?_⟩⟩⟩
 ·have hlt:x.1<L.length:=by omega
  have hx:=x.2;have o:=zL N8 L L.length dz hlt;have j:=M (x.1+1) hlt;have r:=B _ (dE hlt);refine⟨Y6 hlt,⟨L.getD x.1 dz,left- (V3 N8 L L.length x.1:Int)⟩,⟨⟨⟨rfl,rfl,rfl,rfl,rfl,rfl,rfl,rfl,rfl,rfl,trivial⟩,rfl,trivial⟩,⟨M0,M0⟩,r⟩,λhr=>?_,λhr=>⟨Z9,⟨x.1+1,hlt,?_⟩,⟨⟨⟨S7,R _ _⟩,?_,M0,trivial⟩,trivial⟩,V5.ext_lt hlt⟩⟩
  ·simp only at hr;by_cases hq:(N8 (L.getD x.1 dz):Int)<=left- (V3 N8 L L.length x.1:Int)
   ·rw[D9 hq] at hr;omega
   ·exact(I7 Z9).symm
  ·simp only at hr;by_cases hq:(N8 (L.getD x.1 dz):Int)<=left- (V3 N8 L L.length x.1:Int)
   ·omega
   ·rw[I7 Z9] at hr
    omega
  ·simp only at hr ⊢;by_cases hq:(N8 (L.getD x.1 dz):Int)<=left- (V3 N8 L L.length x.1:Int)
   ·rw[D9 hq];omega
   ·rw[I7 Z9] at hr
    omega
 ·have hx:=x.2;have he:x.1=L.length:=by omega
  rw[he] at hx ⊢;exact(D9 hx.2).symm
def a94:Rl:=⟨Rec,λr=>[.agg r.ts],λr=>.agg r.ts,λ_=>True⟩
def c2s:Con:=.rel a94
def c0M(r:Rec)(h:
  r.e=r.e/\r.l=r.l/\r.t=r.t/\r.k=r.k/\r.p=r.p/\r.n=r.n/\r.g=r.g/\r.s=r.s/\r.b=r.b/\r.a=r.a/\True):
  V4 prog 175 [.agg r.ts] (.agg r.ts):=
 U5 gN func175 Z3 h
def b5V:GK 175 c2s:=gk func175<|λr _=>c0M r ⟨rfl,rfl,rfl,rfl,rfl,rfl,rfl,rfl,rfl,rfl,trivial⟩
def G6{α:Type}(d z:α)(L:List α)(i j:Nat):α:=if j<i then L.getD j d else z
def M6:Rec:=⟨0,0,0,0,0,0,0,0,[],[]⟩
def b50(L:List Rec):Nat->Ann
 |0=>.one (Up L.length) (λx=>⟨[(0,zE L),(3,.osl 0 0 L.length),(4,Ji x.1)],[some (.arr true 0 10 L.length λj=>(G6 dz M6 L x.1 j).ts)]⟩) (λx=>L.length-x.1) [.arr 0] [.arr 0] (λ_=>Z3)
 |_=>.none
def E6{row:Nat->List T}{i k:Nat}{cs:List T}(h:cs.length=(row k).length):setRow row i 0 cs k=match Nat.beq k i with|true=>cs|false=>row k:=by
 rw[g9 Z9]
 cases Nat.beq k i
 ·rfl
 ·simp[h]
def b4K{α:Type}{d z:α}{L:List α}{i j:Nat}:G6 d z L (i+1) j=if j=i then L.getD j d else G6 d z L i j:=by
 unfold G6;by_cases h:j=i
 ·subst h;simp
 ·by_cases h2:j<i
  ·rw[if_pos Z9,if_neg h,if_pos h2]
  ·rw[if_neg Z9,if_neg h,if_neg h2]
def c2M{α:Type}(ts:α->List T)(m:Nat)(M:∀a,(ts a).length=m)(d z:α)(L:List α)(i j:Nat):
  setRow (λj=>ts (G6 d z L i j)) (0+(i:Int).toNat) 0 (ts (L.getD i d)) j=ts (G6 d z L (i+1) j):=by
 rw[E6 (by rw[M,M]),b4K,show 0+(i:Int).toNat=i by omega]
 by_cases I:j=i
 ·subst I;rw[if_pos rfl,show Nat.beq j j=true from by simp]
 ·rw[if_neg I,show Nat.beq j i=false from Bool.eq_false_iff.2 λh=>I (F5 h)]
def b0u:Rl:=⟨Rec,λr=>[.agg r.ts,.agg r.ts],λ_=>.bool true,λ_=>True⟩
def c0Y:Con:=.rel b0u
def b6b:GK 192 c0Y:=gk func192<|by
 intro r _;refine U5 gN func192 Z3 (α:=((r.e !=r.e)=true->false=true)/\((r.e !=r.e)=false->((r.l !=r.l)=true->false=true)/\((r.l !=r.l)=false->((r.t !=r.t)=true->false=true)/\((r.t !=r.t)=false->((r.k !=r.k)=true->false=true)/\((r.k !=r.k)=false->((r.p !=r.p)=true->false=true)/\((r.p !=r.p)=false->((r.n !=r.n)=true->false=true)/\((r.n !=r.n)=false->((r.g !=r.g)=true->false=true)/\((r.g !=r.g)=false->((r.s !=r.s)=true->false=true)/\((r.s !=r.s)=false->((!r.b==r.b)=true->false=true)/\((!r.b==r.b)=false->((!r.a==r.a)=true->false=true)/\((!r.a==r.a)=false->true=true))))))))))) ?_
 simp
def a4B:Rl:=⟨List Rec,λL=>[zE L,zE L],λ_=>.bool true,λL=>L.length<=1048576⟩
def b9T:Con:=.rel a4B
def b8b(L:List Rec):Nat->Ann
 |0=>.one (Up L.length) (λx=>⟨[(0,zE L),(1,zE L),(5,Ji x.1)],[]⟩) (λx=>L.length-x.1) [] [] (λ_=>Z3)
 |_=>.none
def b2Q:GK 101 b9T:=gk func101<|by
 intro L f;have f:L.length<=1048576:=f;have r:∀(n:Nat) (row:Nat->List T),Z7 n row row:=λn row i hi=>rfl
 refine U5 (gC b6b gN) func101 (b8b L) (α:=let v:=(L.length:Int);let u:=(Z0 Y1 L L);br (v !=v) (false=true) ((∃(x:Up L.length),(u/\u/\0=(x.1:Int)/\True)/\True)/\∀(x:Up L.length),let z:=(x.1:Int);let q:=(L.getD z.toNat dz);bd (z<v) (W9 z L.length/\W9 z L.length/\∃(X:b0u.ι),let r:=(q.e=X.e/\q.l=X.l/\q.t=X.t/\q.k=X.k/\q.p=X.p/\q.n=X.n/\q.g=X.g/\q.s=X.s/\q.b=X.b/\q.a=X.a/\True);((r/\r/\True)/\True)/\br false (false=true) (Ri (z+1)/\∃(y:Up L.length),((u/\u/\z+1=(y.1:Int)/\True)/\True)/\Lt (L.length-y.1) (L.length-x.1))) (true=true))) ⟨λh=>L4,λ_=>⟨⟨⟨0,N4 _⟩,⟨⟨S7,r _ _⟩,⟨S7,r _ _⟩,rfl,trivial⟩,trivial⟩,λx=>⟨λC=>?_,λ_=>rfl⟩⟩⟩
 have d:=Y2 C;exact⟨Y6 d,Y6 d,L.getD x.1 dz,⟨⟨⟨rfl,rfl,rfl,rfl,rfl,rfl,rfl,rfl,rfl,rfl,trivial⟩,⟨rfl,rfl,rfl,rfl,rfl,rfl,rfl,rfl,rfl,rfl,trivial⟩,trivial⟩,trivial⟩,λh=>h,λ_=>⟨W2 d Z9,⟨x.1+1,d⟩,⟨⟨⟨S7,r _ _⟩,⟨S7,r _ _⟩,M0,trivial⟩,trivial⟩,V5.ext_lt d⟩⟩
end
end Go.Proofs.YtpdnnhnfongoeaaGreat
