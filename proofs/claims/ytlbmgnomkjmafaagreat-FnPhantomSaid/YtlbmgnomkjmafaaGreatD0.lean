/- A part of the proof. -/
import Derived.Test.YtlbmgnomkjmafaaGreatRows
import Derived.Test.YtlbmgnomkjmafaaGreatSS13
import Derived.Laws.BitsLemmas
namespace Go.Proofs.YtlbmgnomkjmafaaGreat
set_option maxRecDepth 100000
open Go.SS Go.Proofs.Tryz
variable{p:Prop}
noncomputable section
abbrev Ji(n:Int):T:=.int .i64 n
abbrev dz:=@default
def Y7:Nat->Ann:=λ_=>.none
theorem mixed:prog.follows .mixedOrders=true:=P9
theorem leB{a b:Nat}(h:Nat.ble a b=true):a<=b:=zT h
theorem c2P:D1 prog []:=λ_ h=>J4
theorem b3M:∀x ∈ ([]:I7),Q8 prog x.1:=λ_ h=>J4
theorem b96{f:FuncId}{c:Con}{G:I7}(h:a40 prog f c)(k:D1 prog G):D1 prog ((f,c)::G):=λx X=>by
 rcases xX.1 X with rfl|X
 ·exact h
 ·exact k x X
theorem b0f{f:FuncId}{c:Con}{G:I7}(h:Q8 prog f)(k:∀x ∈ G,Q8 prog x.1):∀x ∈ (f,c)::G,Q8 prog x.1:=λx X=>by
 rcases xX.1 X with rfl|X
 ·exact h
 ·exact k x X
def GG(G:I7):Prop:=D1 prog G/\∀x ∈ G,Q8 prog x.1
theorem gN:GG []:=⟨c2P,b3M⟩
abbrev br(b:Bool)(p q:Prop):Prop:=(b=true->p)/\(b=false->q)
abbrev bd(c:Prop)[Decidable c](p q:Prop):Prop:=br (decide c) p q
abbrev Up(n:Nat):Type:={i:Nat//i<=n}
abbrev Ri(n:Int):Prop:=P6 .i64 n
abbrev tk(n:Nat)(l:List T)(k:Nat):List T:=List.take n (List.drop (k*n) l)
abbrev T8(p:Prop):Prop:=True/\True/\True/\True/\True/\True/\True/\True/\p
abbrev oo(p:Prop):Prop:=1=1/\1=1/\p
def vO:List Lk:=[.box 0,.box 1]
def eI:List Lk:=[.arr 0,.box 1]
def cJ:List (List Lk):=[[.box 0,.arr 1,.arr 2,.arr 3,.arr 4,.arr 5,.arr 6,.arr 7,.arr 8,.cel 0 0,.cel 0 1,.cel 0 3,.cel 0 5,.cel 0 7,.cel 0 10,.cel 0 11,.cel 0 12]]
def c7b:List Lk:=[.box 0,.arr 1,.arr 2,.arr 3,.arr 4,.arr 5,.arr 6,.arr 7,.arr 8,.cel 0 0,.cel 0 1,.cel 0 3,.cel 0 5,.cel 0 7,.cel 0 10,.cel 0 11,.cel 0 12]
def b7u:List Lk:=[.box 0,.arr 1]
def c0p:List Lk:=[.box 0,.at_ 5]
def b7D:List Lk:=[.box 0,.at_ 7,.at_ 8]
def b89:List Lk:=[.box 0,.box 1,.arr 2,.arr 3,.arr 4,.arr 5,.arr 6,.arr 7,.arr 8,.arr 9,.cel 1 0,.cel 1 1,.cel 1 3,.cel 1 5,.cel 1 7,.cel 1 10,.cel 1 11,.cel 1 12,.at_ 6]
def b8U:List Lk:=[.box 0,.arr 1,.arr 2,.arr 3,.arr 4,.arr 5,.arr 6,.arr 7,.arr 8,.box 9,.box 10,.box 11,.box 12,.cel 0 0,.cel 0 1,.cel 0 3,.cel 0 5,.cel 0 7,.cel 0 10,.cel 0 11,.cel 0 12]
def c3R:List (List Lk):=[[.arr 1],[.nilS 0 [] 0 2,.arr 0]]
def c68:List Lk:=[.nilS 0 [] 0 2,.arr 0]
def c1C:List Lk:=[.arr 2,.arr 3,.arr 4,.arr 5,.arr 6]
def c0X:List Lk:=[.box 0,.arr 1,.arr 2,.arr 3,.arr 4,.arr 5,.arr 8]
def c04:List Lk:=[.box 0,.arr 1,.arr 2,.arr 3,.arr 4,.arr 5,.arr 6]
def c1n:List Lk:=[.box 0,.arr 1,.arr 2,.arr 3,.arr 4,.arr 5]
def c1N:List Lk:=[.box 0,.arr 1,.arr 2,.arr 3,.arr 4,.arr 5,.arr 7,.arr 8]
def c1D:List Lk:=[.box 0,.arr 1,.arr 2,.arr 3,.arr 4,.arr 5,.arr 2,.arr 3]
def c1g:List Lk:=[.box 0,.box 1,.box 5,.arr 2,.arr 3,.arr 4]
def c1m:List Lk:=[.box 0,.box 1,.box 2,.arr 3,.arr 4,.arr 5]
def c0W:List (List Lk):=[[.box 0,.arr 1,.arr 2,.arr 3,.arr 4,.arr 5,.arr 6,.arr 7,.arr 5],[.box 0,.arr 1,.arr 2,.arr 3,.arr 4,.arr 5,.arr 2,.arr 3,.arr 7],[.box 0,.arr 1,.arr 2,.arr 3,.arr 4,.arr 5,.arr 2,.arr 3,.arr 5]]
def c7a:List Lk:=[.box 0,.arr 1,.arr 2,.arr 3,.arr 4,.arr 5,.arr 6,.arr 7,.arr 5]
def c69:List Lk:=[.box 0,.arr 1,.arr 2,.arr 3,.arr 4,.arr 5,.arr 2,.arr 3,.arr 7]
def c66:List Lk:=[.box 0,.arr 1,.arr 2,.arr 3,.arr 4,.arr 5,.arr 2,.arr 3,.arr 5]
def c1I:List (List Lk):=[[.box 0,.arr 1,.arr 2,.arr 3,.arr 4,.arr 5,.arr 7,.arr 8,.arr 9]]
def c67:List Lk:=[.box 0,.arr 1,.arr 2,.arr 3,.arr 4,.arr 5,.arr 7,.arr 8,.arr 9]
def c01:List Lk:=[.arr 0,.arr 1,.box 2,.box 3,.at_ 5]
def c1T:List Lk:=[.box 0,.box 1,.box 2,.cel 2 0,.cel 2 1,.at_ 13,.box 6,.box 7]
def c1B:List Lk:=[.box 0,.arr 1,.arr 2,.arr 3,.arr 4,.arr 5,.arr 6,.arr 7,.arr 8,.box 9,.at_ 5]
def GK(f:FuncId)(c:Con):Prop:=a40 prog f c/\Q8 prog f
theorem gk{f:FuncId}{c:Con}{fn:Func}(h:prog.funcs[f]? =some fn)(k:a40 prog f c)(a:(fn.name== "runtime.NumGoroutine")=false:=by kernel_rfl)(b:fn.body.isNone=false:=by kernel_rfl):GK f c:=⟨k,fn,h,a,b⟩
theorem gC{f:FuncId}{c:Con}{G:I7}(h:GK f c)(r:GG G):GG ((f,c)::G):=⟨b96 h.1 r.1,b0f h.2 r.2⟩
theorem S2{G:I7}{f:FuncId}{fn:Func}{args:List T}{res:T}(g:GG G)(F:prog.funcs[f]? =some fn)(A:Nat->Ann){α:Prop}(h:α)(B:fn.body=some (fn.body.getD .skip):=by kernel_rfl)(n:Nat.ble args.length fn.ntmps=true:=by kernel_rfl)(e:α=c4Y prog G fn.ntmps fn.results.toList (fn.body.getD .skip) args res A:=by kernel_rfl):V2 prog f args res:=
 c5u mixed g.1 g.2 F B (leB n) A (Eq.mp e h)
theorem c06{q r:Sort _}{a:q}{b:r}:a=a/\b=b:=⟨rfl,rfl⟩
theorem c1O{q:Sort _}{a:q}{n:Nat}{r:Nat->List T}:a=a/\Z7 n r r:=⟨rfl,λ_ _=>rfl⟩
theorem c6Y{q0:Sort _}{a0:q0}{q1:Sort _}{a1:q1}:a0=a0/\a1=a1/\True:=⟨rfl,rfl,trivial⟩
theorem c6F:True/\True:=⟨trivial,trivial⟩
theorem w3{G:I7}{f:FuncId}{fn:Func}{args:List T}{H Hres:Y5}{res:T}(g:GG G)(F:prog.funcs[f]? =some fn)(A:Nat->Ann)(lk:List (List Lk)){α:Prop}(h:α)(B:fn.body=some (fn.body.getD .skip):=by kernel_rfl)(n:Nat.ble args.length fn.ntmps=true:=by kernel_rfl)(e:α=c1M prog G fn.ntmps fn.results.toList (fn.body.getD .skip) args H res Hres A lk:=by kernel_rfl):I8 prog f args H res Hres:=
 c2y mixed g.1 g.2 F B (leB n) A lk (Eq.mp e h)
theorem vcE{G:I7}{f:FuncId}{fn:Func}{args:List T}{H Hres:Y5}{bs:List Bool}{res:T}(g:GG G)(F:prog.funcs[f]? =some fn)(A:Nat->Ann){α:Prop}(h:α)(B:fn.body=some (fn.body.getD .skip):=by kernel_rfl)(n:Nat.ble args.length fn.ntmps=true:=by kernel_rfl)(e:α=c1J prog G fn.ntmps fn.results.toList (fn.body.getD .skip) args H bs res Hres A:=by kernel_rfl)(l:H.length=bs.length:=by rfl):I8 prog f args H res Hres:=
 c2p mixed g.1 g.2 F B (leB n) l A (Eq.mp e h)
abbrev Z2{α:Type}(row:List α->Nat->List T)(A B:List α):Prop:=A.length=B.length/\Z7 A.length (row A) (row B)
theorem Z3{n:Int}(h: -9223372036854775808<=n/\n<=9223372036854775807):P6 .i64 n:=by
 unfold P6;simp only[IntKind.min,IntKind.max,IntKind.bits,IntKind.signed];simp;omega
theorem c0n(n:Int):P6 .i64 n↔(-9223372036854775808<=n/\n<=9223372036854775807):=by
 unfold P6;simp only[IntKind.min,IntKind.max,IntKind.bits,IntKind.signed];simp
theorem rV(x:UInt8):IntKind.i64.wrap (x.toNat:Int)=x.toNat:=by
 have:=x.toNat_lt;rw[IntKind.wrap_i64];omega
def u3(n:Int):Prop:= -1000000000000000<=n/\n<=1000000000000000
theorem a8t(h:p:=by unfold u3;dsimp only;omega):p:=h
def V9(n l hi:Int):Bool:=decide (l<=n)&&decide (n<=hi)
def sG:List T->Option (T×Option Prop)
 | [.int .i64 n,.int .i64 lo,.int .i64 hi]=>some (.bool (V9 n lo hi),none)
 |_=>none
def b2N:Con:=.pure sG
theorem b2z(n l hi:Int)(h:
  (decide (l<=n)&&decide (n<=hi))=V9 n l hi):
  V2 prog 55 [Ji n,Ji l,Ji hi] (.bool (V9 n l hi)):=
 S2 gN func55 Y7 h
theorem P3:GK 55 b2N:=gk func55<|by
 intro args res p h hp;unfold sG at h;split at h
 ·simp only[X4,U1] at h;obtain⟨rfl,rfl⟩:=h;exact b2z _ _ _ rfl
 ·cases h
def c0G:Con:=.pure sG
theorem b9G(n l hi:Int)(h:
  (decide (l<=n)&&decide (n<=hi))=V9 n l hi):
  V2 prog 35 [Ji n,Ji l,Ji hi] (.bool (V9 n l hi)):=
 S2 gN func35 Y7 h
theorem B6:GK 35 c0G:=gk func35<|by
 intro args res p h hp;unfold sG at h;split at h
 ·simp only[X4,U1] at h;obtain⟨rfl,rfl⟩:=h;exact b9G _ _ _ rfl
 ·cases h
def aG:List T->Option (T×Option Prop)
 | [.int .i64 n,.int .i64 m]=>some (.bool (decide (0<=n)&&decide (n<m)),some (u3 m))
 |_=>none
def b0j:Con:=.pure aG
theorem b0m(n m:Int)(h:
  Ri (m-1)/\V9 n (0:Int) (m-1)=(decide (0<=n)&&decide (n<m))):
  V2 prog 96 [Ji n,Ji m] (.bool (decide (0<=n)&&decide (n<m))):=
 S2 (gC P3 gN) func96 Y7 h
theorem uS:GK 96 b0j:=gk func96<|by
 intro args res p h hp;unfold aG at h;split at h
 ·simp only[X4,U1] at h;obtain⟨rfl,rfl⟩:=h;have hp:u3 _:=hp;unfold u3 at hp;refine b0m _ _ ⟨Z3 Z9,?_⟩
  unfold V9;congr 1
  exact decide_eq_decide.2 Z9
 ·cases h
def big(l:Bz)(n:Int):Bool:=decide (n>(l.length:Int))
def T2(l:Bz)(n:Int):Bz:=if big l n then List.replicate n.toNat 0 else l.take n.toNat
def R0(l:Bz)(n:Int):Bz:=if big l n then l else l.drop n.toNat
def rdr(l:Bz)(fl:Bool):Option Ob:=some (.arr true 1000000 2 1 λ_=>[.bys l,.bool fl])
def w2(n:Int):Prop:=0<=n/\n<140737488355328
theorem kG{ty:TypeId}{row:Nat->List T}{l:Bz}{fl:Bool}(h:row 0=[.bys l,.bool fl]):b85 [some (.arr true ty 2 1 row)] [rdr l fl]:=
 ⟨.rows _ _ _ _ _ _ _ λi hi=>by(obtain rfl:i=0:=by omega);exact h,trivial⟩
def b4c:List T->Y5->Option (T×Y5×Option Prop)
 | [.ref 0 0 0,.int .i64 n],[some (.arr true _ 2 1 row)]=>match row 0 with
  | [.bys l,.bool fl]=>some (.bys (T2 l n),[rdr (R0 l n) (fl||big l n)],some (w2 n))
  |_=>none
 |_,_=>none
def c4y:Con:=.eff b4c
theorem rU:GK 152 c4y:=gk func152<|by
 intro args H res H' p h hp;unfold b4c at h;split at h
 ·rename_i n ty row;split at h
  ·rename_i l fl hrow;simp only[X4,U1] at h;obtain⟨rfl,rfl,rfl⟩:=h;obtain⟨h0,h1⟩:w2 n:=hp;refine sL (kG hrow) ?_
   refine vcE gN func152 Y7 (bs:=[true]) (α:=let p:=(List.replicate n.toNat (0:UInt8));bd (n>(l.length:Int)) ((Nn n/\LeI n n/\nI 1 n.toNat 140737488355328/\Lt n.toNat 9223372036854775808)/\Le (0+n.toNat) p.length/\List.take n.toNat (List.drop 0 p)=T2 l n/\(oo (l=R0 l n/\true=(fl||big l n)/\True))/\True) (iM n l.length/\iM n l.length/\List.take n.toNat l=T2 l n/\(oo (List.drop n.toNat l=R0 l n/\fl=(fl||big l n)/\True))/\True)) ⟨λhb=>?_,λhb=>?_⟩
   ·have hbig:big l n=true:=hb;refine⟨⟨h0,Int.le_refl _,a4j,I5⟩,by unfold Le;simp,?_,⟨rfl,rfl,?_,?_,trivial⟩,trivial⟩
    ·simp[T2,hbig]
    ·simp[R0,hbig]
    ·simp[hbig]
   ·have hbig:big l n=false:=hb;have hle:n<=l.length:=by simpa[big] using hbig
    refine⟨⟨h0,hle⟩,⟨h0,hle⟩,?_,⟨rfl,rfl,?_,?_,trivial⟩,trivial⟩
    ·simp[T2,hbig]
    ·simp[R0,hbig]
    ·simp[hbig]
  ·cases h
 ·cases h
def numR(l:Bz):Int:=(l.getD 0 0).toNat
def c1w:List T->Y5->Option (T×Y5×Option Prop)
 | [.ref 0 0 0],[some (.arr true _ 2 1 row)]=>match row 0 with
  | [.bys l,.bool fl]=>some (.int .i64 (numR l),[rdr (l.drop 1) (fl||l.isEmpty)],none)
  |_=>none
 |_,_=>none
def c6u:Con:=.eff c1w
theorem gE:GK 150 c6u:=gk func150<|by
 intro args H res H' p h hp;unfold c1w at h;split at h
 ·rename_i ty row;split at h
  ·rename_i l fl hrow;simp only[X4,U1] at h;obtain⟨rfl,rfl,rfl⟩:=h;refine sL (kG hrow) ?_
   refine vcE (gC rU gN) func150 Y7 (bs:=[true]) (α:=w2 (1:Int)/\V6 (0:Int) (T2 l (1:Int)).length/\IntKind.i64.wrap (↑((T2 l (1:Int)).getD 0 (0:UInt8)).toNat:Int)=numR l/\(1=1/\1=1/\R0 l 1=List.drop 1 l/\(fl||big l (1:Int))=(fl||l.isEmpty)/\True)/\True) ?_
   have e:∀x:UInt8,IntKind.i64.wrap (x.toNat:Int)=x.toNat:=λx=>by
    have:=x.toNat_lt;rw[IntKind.wrap_i64];omega
   have d:IntKind.i64.wrap 0=0:=W6
   cases l with
   |nil=>refine⟨⟨Z9,Z9⟩,by simp[V6,T2,big],?_,⟨rfl,rfl,?_,?_,trivial⟩,trivial⟩<;>simp[T2,R0,big,numR,d]
   |cons a l=>
    have B:big (a::l) 1=false:=by simp[big];omega
    refine⟨⟨Z9,Z9⟩,by simp[V6,T2,B],?_,⟨rfl,rfl,?_,?_,trivial⟩,trivial⟩<;>simp[T2,R0,B,numR,e]
  ·cases h
 ·cases h
def a2u:List T->Option (T×Option Prop)
 | [.bref [.bys l,.bool fl]]=>some (.bool (!fl&&l.isEmpty),none)
 |_=>none
def b3j:Con:=.pure a2u
theorem sC:GK 235 b3j:=gk func235<|by
 intro args res p h hp;unfold a2u at h;split at h
 ·rename_i l fl;simp only[X4,U1] at h;obtain⟨rfl,rfl⟩:=h;refine S2 gN func235 Y7 (α:=(!fl&&(l.length:Int)==0)=(!fl&&l.isEmpty)) ?_
  cases l with
  |nil=>simp
  |cons a l=>
   have:((((a::l).length:Nat):Int)==0)=false:=by simp;omega
   rw[this];simp
 ·cases h
structure RdSt where
 l:Bz
 fl:Bool
 ok:Bool
 bef:Int
def RdSt.step(hi lsn:Int)(s:RdSt):RdSt:=
 ⟨(s.l.drop 1).drop 1,(s.fl||s.l.isEmpty)||(s.l.drop 1).isEmpty,s.ok&&V9 (numR s.l) (s.bef+1) hi&&V9 (numR (s.l.drop 1)) 1 (lsn-1),numR s.l⟩
def RdSt.go(hi lsn:Int)(s:RdSt):Nat->RdSt
 |0=>s
 |n+1=>RdSt.step hi lsn (RdSt.go hi lsn s n)
def vQ(t o:Int)(l:Bz)(fl:Bool):RdSt:=⟨l.drop 1,fl||l.isEmpty,decide (numR l<=t),o-1⟩
def O1(t o hi lsn:Int)(l:Bz)(fl:Bool):RdSt:=RdSt.go hi lsn (vQ t o l fl) (numR l).toNat
def Okb(l lsn:Int):Prop:= -1000000000000<=l/\l<=1000000000000/\ -1000000000000<=lsn/\lsn<=1000000000000
def kS:List T->Y5->Option (T×Y5×Option Prop)
 | [.ref 0 0 0,.int .i64 most,.int .i64 lo,.int .i64 hi,.int .i64 lsn],[some (.arr true _ 2 1 row)]=>match row 0 with
  | [.bys l,.bool fl]=>some (.bool ((O1 most lo hi lsn l fl).ok&& !(O1 most lo hi lsn l fl).fl),[rdr (O1 most lo hi lsn l fl).l (O1 most lo hi lsn l fl).fl],some (Okb lo lsn))
  |_=>none
 |_,_=>none
def a4F:Con:=.eff kS
def I25(t o hi lsn:Int)(l:Bz)(fl:Bool)(x:Up ((numR l).toNat)):Sy:=
 ⟨[(0,.ref 0 0 0),(3,Ji hi),(4,Ji lsn),(12,.bool (RdSt.go hi lsn (vQ t o l fl) x.1).ok),(13,Ji (RdSt.go hi lsn (vQ t o l fl) x.1).bef),(23,Ji (numR l)),(24,Ji x.1)],
  [rdr (RdSt.go hi lsn (vQ t o l fl) x.1).l (RdSt.go hi lsn (vQ t o l fl) x.1).fl]⟩
def A25(t o hi lsn:Int)(l:Bz)(fl:Bool):Nat->Ann
 |0=>.one (Up ((numR l).toNat)) (I25 t o hi lsn l fl) (λx=>(numR l).toNat-x.1) [.box 0] [.box 0] (λ_=>Y7)
 |_=>.none
theorem u9(l:Bz):0<=numR l/\numR l<=255:=by
 unfold numR;have:=(l.getD 0 0).toNat_lt;omega
theorem c12(hi lsn o t:Int)(l:Bz)(fl:Bool)(h: -1000000000000<=o/\o<=1000000000000)(n:Nat):
  -2000000000000<=(RdSt.go hi lsn (vQ t o l fl) n).bef/\(RdSt.go hi lsn (vQ t o l fl) n).bef<=2000000000000:=by
 cases n with
 |zero=>simp only[RdSt.go,vQ];omega
 |succ n=>
  simp only[RdSt.go,RdSt.step];have:=u9 (RdSt.go hi lsn (vQ t o l fl) n).l;omega
theorem a0y:GK 272 a4F:=gk func272<|by
 intro args H res H' p h hp;unfold kS at h;split at h
 ·rename_i most lo hi lsn ty row;split at h
  ·rename_i l fl hrow;simp only[X4,U1] at h;obtain⟨rfl,rfl,rfl⟩:=h;obtain⟨q1,q2,q3,q4⟩:Okb lo lsn:=hp;refine sL (kG hrow) ?_
   refine vcE (gC gE (gC P3 gN)) func272 (A25 most lo hi lsn l fl) (bs:=[true]) (α:=let u:=(O1 most lo hi lsn l fl);let q:=(vQ most lo l fl);P6 .i64 (lo-1)/\(∃(x:Up ((numR l).toNat)),let r:=(RdSt.go hi lsn q x.1);((0=0/\0=0)/\hi=hi/\lsn=lsn/\decide (numR l<=most)=r.ok/\lo-1=r.bef/\numR l=numR l/\0=(x.1:Int)/\True)/\(1=1/\1=1/\List.drop 1 l=r.l/\(fl||l.isEmpty)=r.fl/\True)/\True)/\∀(x:Up ((numR l).toNat)),let w:=(x.1:Int);let p:=(RdSt.go hi lsn q x.1);let j:=(p.bef+1);let v:=(List.drop 1 p.l);(decide (w<numR l)=true->(p.ok=true->P6 .i64 j)/\((p.ok&&V9 (numR p.l) j hi)=true->P6 .i64 (lsn-1))/\P6 .i64 (w+1)/\∃(y:Up ((numR l).toNat)),let z:=(RdSt.go hi lsn q y.1);(((0=0/\0=0)/\hi=hi/\lsn=lsn/\(p.ok&&V9 (numR p.l) j hi&&V9 (numR v) (1:Int) (lsn-1))=z.ok/\numR p.l=z.bef/\numR l=numR l/\w+1=(y.1:Int)/\True)/\(1=1/\1=1/\List.drop 1 v=z.l/\(p.fl||p.l.isEmpty||v.isEmpty)=z.fl/\True)/\True)/\Lt ((numR l).toNat-y.1) ((numR l).toNat-x.1))/\(decide (w<numR l)=false->(p.ok&& ! p.fl)=(u.ok&& ! u.fl)/\(1=1/\1=1/\p.l=u.l/\p.fl=u.fl/\True)/\True)) ?_
   have n:=u9 l;refine⟨Z3 Z9,⟨⟨0,N7 _⟩,⟨⟨rfl,rfl⟩,rfl,rfl,rfl,rfl,rfl,rfl,trivial⟩,⟨rfl,rfl,rfl,rfl,trivial⟩,trivial⟩,λx=>⟨λhc=>⟨λ_=>Z3 ?_,λ_=>Z3 Z9,Z3 ?_,?_⟩,λhc=>?_⟩⟩
   ·have:=c12 hi lsn lo most l fl ⟨q1,q2⟩ x.1;omega
   ·have:=x.2;omega
   ·have hlt:(x.1:Int)<numR l:=D4 hc;refine⟨⟨x.1+1,Z9⟩,⟨⟨⟨rfl,rfl⟩,rfl,rfl,rfl,rfl,rfl,X3,trivial⟩,⟨rfl,rfl,rfl,rfl,trivial⟩,trivial⟩,?_⟩
    unfold Lt;simp only;omega
   ·have hge:¬ (x.1:Int)<numR l:=q8 hc;have hx:=x.2;have he:x.1=(numR l).toNat:=by omega
    unfold O1;rw[he];exact⟨rfl,⟨rfl,rfl,rfl,rfl,trivial⟩,trivial⟩
  ·cases h
 ·cases h
def a32(a:Bz)(lsn:Int):Bool:=
 (O1 8 0 7 lsn a false).ok&& !(O1 8 0 7 lsn a false).fl&&((O1 10 1 60 lsn (O1 8 0 7 lsn a false).l (O1 8 0 7 lsn a false).fl).ok&& !(O1 10 1 60 lsn (O1 8 0 7 lsn a false).l (O1 8 0 7 lsn a false).fl).fl)&&
  (!(O1 10 1 60 lsn (O1 8 0 7 lsn a false).l (O1 8 0 7 lsn a false).fl).fl&&(O1 10 1 60 lsn (O1 8 0 7 lsn a false).l (O1 8 0 7 lsn a false).fl).l.isEmpty)
def a09(a:Bz)(lsn:Int):Prop:=a.length<140737488355329/\ -1000000000000<=lsn/\lsn<=1000000000000
def bU:List T->Option (T×Option Prop)
 | [.str a,.int .i64 lsn]=>some (.bool (a32 a lsn),some (a09 a lsn))
 |_=>none
def b2p:Con:=.pure bU
theorem a7x:GK 230 b2p:=gk func230<|by
 intro args res p h hp;unfold bU at h;split at h
 ·rename_i a lsn;simp only[X4,U1] at h;obtain⟨rfl,rfl⟩:=h;obtain⟨f,d,e⟩:a09 a lsn:=hp;exact S2 (gC a0y (gC sC gN)) func230 Y7 (α:=let q:=(O1 (8:Int) (0:Int) (7:Int) lsn a false);let p:=(O1 (10:Int) (1:Int) (60:Int) lsn q.l q.fl);Lt a.length 140737488355329/\Okb (0:Int) lsn/\Okb (1:Int) lsn/\(q.ok&& ! q.fl&&(p.ok&& ! p.fl)&&(! p.fl&&p.l.isEmpty))=a32 a lsn) ⟨f,⟨Z9,Z9,d,e⟩,⟨Z9,Z9,d,e⟩,rfl⟩
 ·cases h
structure Rec where
 (e l t k p n g s:Int) (b a:Bz)
 deriving Inhabited
def Rec.ts(r:Rec):List T:=[Ji r.e,Ji r.l,Ji r.t,Ji r.k,Ji r.p,Ji r.n,Ji r.g,Ji r.s,.str r.b,.str r.a]
def C8(r:Rec):Prop:=
 1<=r.e/\r.e<=60/\1<=r.l/\r.l<=60/\1<=r.k/\r.k<=6/\0<=r.p/\r.p<=r.l-1/\0<=r.n/\r.n<=r.l-1/\0<=r.g/\r.g<=7/\0<=r.s/\r.s<=3/\r.b.length<=30/\
 (r.k=6->r.t=0/\r.p=0/\r.n=0/\r.g=0/\r.s=0/\r.b=[]/\a32 r.a r.l=true)/\
 (r.k≠6->1<=r.t/\r.t<=60/\r.a.length<=30/\(r.k≠2->r.k≠3->r.g=0/\r.s=0/\r.b=[]/\r.a=[])/\(r.k≠3->r.n=0)/\(r.k=3->r.b=[])/\(r.k=1↔r.p=0))
noncomputable instance(r:Rec):Decidable (C8 r):=Classical.propDecidable _
def M6(r:Rec):Bool:=decide (C8 r)
theorem R2(r:Rec):M6 r=true↔C8 r:=decide_eq_true_iff
theorem vW{r:Rec}(h:¬C8 r):M6 r=false:=sX h
def b1Z(l:Bz):Prop:=l.length<140737488355329
def gO:List T->Option (T×Option Prop)
 | [.agg [.int .i64 e,.int .i64 l,.int .i64 t,.int .i64 k,.int .i64 p,.int .i64 n,.int .i64 g,.int .i64 s,.str b,.str a]]=>some (.bool (M6 ⟨e,l,t,k,p,n,g,s,b,a⟩),some (b1Z a))
 |_=>none
def a2l:Con:=.pure gO
theorem a2C(r:Rec)(x:Bool)(h:
let c:=((r.a.length:Int)>30);let f:=((r.b.length:Int)>30);let m:=(!V9 r.e (1:Int) (60:Int)|| !V9 r.l (1:Int) (60:Int));let j:=(true&&(true&&(true&&(true&&(true&&(r.n==0&&true))))));let w:=(decide (0<=r.g)&&decide (r.g<8)&&(decide (0<=r.s)&&decide (r.s<4)));let y:=(true&&(true&&(true&&(true&&(true&&(true&&(true&&(true&&(r.b==[]&&true)))))))));let v:=(true&&(true&&(true&&(true&&(true&&(r.n==0&&(r.g==0&&(r.s==0&&(r.b==[]&&true)))))))));let u:=(true&&(true&&(true&&(true&&(true&&(r.n==0&&(r.g==0&&(r.s==0&&(r.b==[]&&(r.a==[]&&true))))))))));let z:=(((V9 r.k (1:Int) (5:Int)&&u&&V9 r.t (1:Int) (60:Int))=true->Ri (r.l-1))/\(V9 r.k (1:Int) (5:Int)&&u&&V9 r.t (1:Int) (60:Int)&&V9 r.p (0:Int) (r.l-1)&&(r.p==0)==(r.k==1))=x);let q:=(u3 (8:Int)/\((decide (0<=r.g)&&decide (r.g<8))=true->u3 (4:Int))/\((! w||decide f||decide c)=false->(r.k==3)=true->Ri (r.l-1))/\br (! w||decide f||decide c||r.k==3&& !V9 r.n (0:Int) (r.l-1)) (false=x) (br (r.k==2) (((V9 r.k (1:Int) (5:Int)&&j&&V9 r.t (1:Int) (60:Int))=true->Ri (r.l-1))/\(V9 r.k (1:Int) (5:Int)&&j&&V9 r.t (1:Int) (60:Int)&&V9 r.p (0:Int) (r.l-1)&&(r.p==0)==(r.k==1))=x) (((V9 r.k (1:Int) (5:Int)&&y&&V9 r.t (1:Int) (60:Int))=true->Ri (r.l-1))/\(V9 r.k (1:Int) (5:Int)&&y&&V9 r.t (1:Int) (60:Int)&&V9 r.p (0:Int) (r.l-1)&&(r.p==0)==(r.k==1))=x)));  (m=true->false=x)/\(m=false->br (r.k==6) (((r.t==0&&r.p==0&&v)=true->a09 r.a r.l)/\(r.t==0&&r.p==0&&v&&a32 r.a r.l)=x) (br (r.k==2) (br (r.k==2) q z) (br (r.k==3) q z)))):
  V2 prog 163 [.agg r.ts] (.bool x):=
 S2 (gC a7x (gC P3 (gC uS gN))) func163 Y7 h
theorem c3J{p k a b:Int}:((p==a)=(k==b))↔(k=b↔p=a):=by
 rw[Bool.eq_iff_iff,beq_iff_eq,beq_iff_eq];exact Iff.comm
theorem rY{a b:Bool}(h:a=true↔b=true):a=b:=by cases a<;>cases b<;>simp_all
theorem uT:GK 163 a2l:=gk func163<|by
 intro args res p h hp;unfold gO at h;split at h
 ·rename_i e l t k p n g s b a;simp only[X4,U1] at h;obtain⟨rfl,rfl⟩:=h;have hp:a.length<140737488355329:=hp;refine a2C ⟨e,l,t,k,p,n,g,s,b,a⟩ _ ?_
  simp only[Rec.e,Rec.l,Rec.t,Rec.k,Rec.p,Rec.n,Rec.g,Rec.s,Rec.b,Rec.a];have s8:u3 8:=by unfold u3;omega
  have s4:u3 4:=by unfold u3;omega
  refine⟨λh=>?_,λh=>?_⟩
  ·refine(vW ?_).symm
   simp only[qR,xO,V9,Bool.and_eq_false_iff,pT] at h;unfold C8;simp only;omega
  simp only[yY,yC,V9,M1,i5] at h;have hr:P6 .i64 (l-1):=Z3 Z9
  have hs:a09 a l:=⟨hp,Z9,Z9⟩
  by_cases h6:k=6
  ·subst h6;refine⟨λ_=>⟨λ_=>hs,rY ?_⟩,λh=>J2⟩
   rw[R2];simp only[C8,i5,M1,beq_iff_eq,true_and,and_true];constructor
   ·rintro⟨⟨⟨rfl,rfl⟩,rfl,rfl,rfl,rfl⟩,C⟩;simp[C];omega
   ·rintro⟨_,_,_,_,_,_,_,_,_,_,_,_,_,_,_,hh,_⟩;obtain⟨rfl,rfl,rfl,rfl,rfl,rfl,C⟩:=hh trivial;simp[C]
  refine⟨λh=>absurd D3 h6,λ_=>?_⟩
  by_cases h2:k=2
  ·subst h2;refine⟨λ_=>⟨λ_=>⟨s8,λ_=>s4,λ_ h=>J2,λhb=>?_,λhb=>⟨λ_=>⟨λ_=>hr,rY ?_⟩,λh=>J2⟩⟩,λh=>J2⟩,λh=>J2⟩
   ·refine(vW ?_).symm
    simp only[qR,xO,V9,Bool.and_eq_false_iff,pT,i5,M1] at hb;unfold C8;simp only;simp at hb;omega
   ·simp[V9] at hb;rw[R2];simp only[C8,i5,M1,beq_iff_eq,true_and,and_true,V9,c3J];simp;omega
  by_cases h3:k=3
  ·subst h3;refine⟨λh=>J2,λ_=>⟨λ_=>⟨s8,λ_=>s4,λ_ _=>hr,λhb=>?_,λhb=>⟨λh=>J2,λ_=>⟨λ_=>hr,rY ?_⟩⟩⟩,λh=>J2⟩⟩
   ·refine(vW ?_).symm
    unfold C8;simp only;simp[V9] at hb;omega
   ·simp[V9] at hb;rw[R2];simp only[C8,i5,M1,beq_iff_eq,true_and,and_true,V9,c3J];by_cases hbn:b=[]
    ·subst hbn;simp;omega
    ·simp[hbn]
  ·refine⟨λh=>absurd D3 h2,λ_=>⟨λh=>absurd D3 h3,λ_=>⟨λ_=>hr,rY ?_⟩⟩⟩
   rw[R2];simp only[C8,i5,M1,beq_iff_eq,true_and,and_true,V9,c3J];constructor
   ·intro hh;have hb:b.length=0:=by simp[hh.1.1.1.2.2.2.2.1]
    have X:a.length=0:=by simp[hh.1.1.1.2.2.2.2.2]
    simp[h2,h3,h6,hh.1.1.1.2.2.2.2.1,hh.1.1.1.2.2.2.2.2] at hh ⊢;omega
   ·intro hh;obtain⟨V,W,M,O,N,U,I,z,R,d,i,u,v,A,j,_,hh⟩:=hh;obtain⟨F,b2,L,r,B,J,Q⟩:=hh h6;obtain⟨f,c2,o,x⟩:=r h2 h3;have q:=B h3;simp[f,c2,o,x,q];omega
 ·cases h
def S9(n:Nat)(p:Nat->Bool):Int:=match(List.range n).find? p with|some i=>(i:Int)|none=> -1
theorem P5{n:Nat}{p:Nat->Bool}{i:Nat}(hi:i<n)(hp:p i=true)(h:∀j,j<i->p j=false):S9 n p=i:=by
 have:(List.range n).find? p=some i:=by
  rw[List.find?_range_eq_some]
  exact⟨hp,List.mem_range.2 hi,λj J=>by simp[h j J]⟩
 unfold S9;rw[this]
theorem M2{n:Nat}{p:Nat->Bool}(h:∀j,j<n->p j=false):S9 n p= -1:=by
 have:(List.range n).find? p=none:=by
  rw[List.find?_range_eq_none]
  intro j J;simp[h j J]
 unfold S9;rw[this]
def anyI(n:Nat)(p:Nat->Bool):Bool:=(List.range n).any p
theorem G1(n:Nat)(p:Nat->Bool):decide (S9 n p≥0)=anyI n p:=by
 unfold S9 anyI;cases h:(List.range n).find? p with
 |none=>
  rw[List.find?_eq_none] at h
  have:(List.range n).any p=false:=by
   rw[List.any_eq_false];exact h
  rw[this];rfl
 |some i=>
  have d:=List.find?_some h
  have e:=List.mem_of_find?_eq_some h
  have:(List.range n).any p=true:=List.any_eq_true.2 ⟨i,e,d⟩;rw[this];simp
theorem S8{n:Nat}{p:Nat->Bool}:anyI n p=true↔∃i,i<n/\p i=true:=by
 unfold anyI;simp
def V0(n:Nat)(p:Nat->Bool):Type:={i:Nat//i<=n/\∀j,j<i->p j=false}
theorem V0.ext_lt{n:Nat}{i:Nat}(h:i<n):Lt (n- (i+1)) (n-i):=by unfold Lt;omega
theorem X7{i n:Nat}(h:decide ((i:Int)<(n:Int))=false):n<=i:=D3
theorem Y2{i n:Nat}(h:decide ((i:Int)<(n:Int))=true):i<n:=D3
theorem Y1{i n:Nat}(h:i<n):V6 (i:Int) n:=⟨Z9,Z9⟩
theorem V8{i n:Nat}(h:i<n)(N:n<1000000000000000):P6 .i64 ((i:Int)+1):=Z3 Z9
def H5{n:Nat}{p:Nat->Bool}:V0 n p:=⟨0,N7 _,λj h=>absurd h (J9 j)⟩
def V0.succ{n:Nat}{p:Nat->Bool}(x:V0 n p)(h:x.1<n)(hp:p x.1=false):V0 n p:=
 ⟨x.1+1,h,λj J=>by rcases Nat.lt_or_ge j x.1 with h1|h1;exact x.2.2 j h1;(obtain rfl:j=x.1:=by omega);exact hp⟩
theorem L3(h:p:=by simp only[V0.succ];omega):p:=h
def Y0(L:List Rec)(i:Nat):List T:=(L.getD i dz).ts
def oG(L:List Rec):T:=.sl 10 L.length (Y0 L)
def zR(r:Rec):Bool:=decide (r.l>60)
def rF:List T->Option (T×Option Prop)
 | [.agg [.int .i64 e,.int .i64 l,.int .i64 t,.int .i64 k,.int .i64 p,.int .i64 n,.int .i64 g,.int .i64 s,.str b,.str a]]=>some (.bool (zR ⟨e,l,t,k,p,n,g,s,b,a⟩),none)
 |_=>none
def dU:Con:=.pure rF
theorem cZ(r:Rec)(h:
  decide (r.l>60)=zR r):
  V2 prog 165 [.agg r.ts] (.bool (zR r)):=
 S2 gN func165 Y7 h
theorem eN:GK 165 dU:=gk func165<|by
 intro args res p h hp;unfold rF at h;split at h
 ·simp only[X4,U1] at h;obtain⟨rfl,rfl⟩:=h;exact cZ ⟨_,_,_,_,_,_,_,_,_,_⟩ rfl
 ·cases h
def fnT(f:Nat):T:=.v (.func (.func f) #[] #[])
def N6(n:Nat):Prop:=n<1000000000000
theorem uA(h:p:=by unfold N6;dsimp only;omega):p:=h
theorem oS(h:p:=by unfold N6;omega):p:=h
def a4f:Rl:=⟨List Rec,λL=>[oG L,fnT 165],λL=>.int .i64 (S9 L.length λi=>zR (L.getD i dz)),λL=>N6 L.length⟩
def b4V:Con:=.rel a4f
def b4h(L:List Rec):Nat->Ann
 |0=>.one (V0 L.length λi=>zR (L.getD i dz)) (λx=>⟨[(0,oG L),(1,fnT 165),(7,Ji L.length),(8,Ji x.1)],[]⟩) (λx=>L.length-x.1) [] [] (λ_=>Y7)
 |_=>.none
theorem b1i:GK 231 b4V:=gk func231<|by
 intro L d;have d:L.length<1000000000000:=d;refine S2 (gC eN gN) func231 (b4h L) (α:=let u:=(Fn.func 165);let r:=(L.length:Int);(∃(x:V0 L.length λ(i:Nat)=>zR (L.getD i dz)),((Z2 Y0 L L)/\Value.func u #[] #[]=Value.func u #[] #[]/\r=r/\0=(x.1:Int)/\True)/\True)/\∀(x:V0 L.length λ(i:Nat)=>zR (L.getD i dz)),let z:=(x.1:Int);let q:=(L.getD z.toNat dz);bd (z<r) (V6 z L.length/\br (zR (Rec.mk q.e q.l q.t q.k q.p q.n q.g q.s q.b q.a)) (z=S9 L.length λ(i:Nat)=>zR (L.getD i dz)) (Ri (z+1)/\∃(y:V0 L.length λ(i:Nat)=>zR (L.getD i dz)),(((Z2 Y0 L L)/\Value.func u #[] #[]=Value.func u #[] #[]/\r=r/\z+1=(y.1:Int)/\True)/\True)/\Lt (L.length-y.1) (L.length-x.1))) ((-1:Int)=S9 L.length λ(i:Nat)=>zR (L.getD i dz))) ⟨⟨H5,⟨⟨rfl,λ_ _=>rfl⟩,rfl,rfl,rfl,trivial⟩,trivial⟩,λx=>⟨λC=>?_,λC=>?_⟩⟩
 ·have h:=Y2 C;refine⟨Y1 h,λhp=>(P5 h hp x.2.2).symm,λhp=>⟨V8 h Z9,x.succ h hp,⟨⟨⟨rfl,λ_ _=>rfl⟩,rfl,rfl,rfl,trivial⟩,trivial⟩,V0.ext_lt h⟩⟩
 ·have f:=X7 C;exact(M2 λj J=>x.2.2 j Z9).symm
def a43:Rl:=⟨List Rec,λL=>[oG L,fnT 165],λL=>.bool (anyI L.length λi=>zR (L.getD i dz)),λL=>N6 L.length⟩
def b3z:Con:=.rel a43
theorem b1b:GK 164 b3z:=gk func164<|by
 intro L h;exact S2 (gC b1i gN) func164 Y7 (α:=∃(x:a4f.ι),(((Z2 Y0 L x)/\Value.func (Fn.func 165) #[] #[]=Value.func (Fn.func 165) #[] #[]/\True)/\N6 (x.length))/\decide ((S9 (x.length) λ(i:Nat)=>zR (List.getD x i dz))≥(0:Int))=anyI L.length λ(i:Nat)=>zR (L.getD i dz)) ⟨L,⟨⟨⟨rfl,λ_ _=>rfl⟩,rfl,trivial⟩,h⟩,G1 _ _⟩
def a12(L:List Rec)(i:Nat):Bool:= !M6 (L.getD i dz)||(L.getD i dz).l !=(i:Int)+1
def i8(L:List Rec):Bool:= !anyI L.length (a12 L)
def b9N(L:List Rec):Prop:=L.length<1000000000000/\∀r ∈ L,r.a.length<140737488355329
def nL:Rl:=⟨List Rec,λL=>[oG L],λL=>.bool (i8 L),b9N⟩
def a05:Con:=.rel nL
def a1v(L:List Rec):Nat->Ann
 |0=>.one (V0 L.length (a12 L)) (λx=>⟨[(0,oG L),(5,oG L),(6,Ji L.length),(7,Ji x.1)],[]⟩) (λx=>L.length-x.1) [] [] (λ_=>Y7)
 |_=>.none
theorem D8{L:List Rec}:i8 L=true↔∀i,i<L.length->M6 (L.getD i dz)=true/\(L.getD i dz).l=(i:Int)+1:=by
 unfold i8;rw[xO,Bool.eq_false_iff,ne_eq,S8];constructor
 ·intro h i hi;have:¬a12 L i=true:=λhb=>h ⟨i,hi,hb⟩
  simpa[a12] using this
 ·rintro h ⟨i,hi,hb⟩;have:=h i hi;unfold a12 at hb;rw[this.1,this.2] at hb;simp at hb
theorem a4v{L:List Rec}{i:Nat}(h:i<L.length):L.getD i dz ∈ L:=by
 rw[Q2,J5 h]
 exact List.getElem_mem h
theorem cP:GK 93 a05:=gk func93<|by
 intro L o;obtain⟨N,hb⟩:b9N L:=o;refine S2 (gC uT (gC b1b gN)) func93 (a1v L) (α:=let v:=(Z2 Y0 L L);let z:=(L.length:Int);(∃(x:V0 L.length (a12 L)),(v/\v/\z=z/\0=(x.1:Int)/\True)/\True)/\∀(x:V0 L.length (a12 L)),let r:=(x.1:Int);let q:=(L.getD r.toNat dz);let u:=(Rec.mk q.e q.l q.t q.k q.p q.n q.g q.s q.b q.a);bd (r<z) (V6 r L.length/\b1Z q.a/\((!M6 u)=false->Ri (r+1))/\br (!M6 u||q.l !=r+1) (false=i8 L) (Ri (r+1)/\∃(y:V0 L.length (a12 L)),((v/\v/\z=z/\r+1=(y.1:Int)/\True)/\True)/\Lt (L.length-y.1) (L.length-x.1))) (∃(x:a43.ι),(((Z2 Y0 L x)/\Value.func (Fn.func 165) #[] #[]=Value.func (Fn.func 165) #[] #[]/\True)/\N6 (x.length))/\(!anyI (x.length) λ(i:Nat)=>zR (List.getD x i dz))=i8 L)) ⟨⟨H5,⟨⟨rfl,λ_ _=>rfl⟩,⟨rfl,λ_ _=>rfl⟩,rfl,rfl,trivial⟩,trivial⟩,λx=>⟨λhc=>?_,λhc=>?_⟩⟩
 ·have hlt:=Y2 hc;refine⟨Y1 hlt,hb _ (a4v hlt),λ_=>V8 hlt Z9,λhp=>?_,λhp=>⟨V8 hlt Z9,x.succ hlt hp,⟨⟨⟨rfl,λ_ _=>rfl⟩,⟨rfl,λ_ _=>rfl⟩,rfl,rfl,trivial⟩,trivial⟩,V0.ext_lt hlt⟩⟩
  have:anyI L.length (a12 L)=true:=S8.2 ⟨x.1,hlt,hp⟩;simp[i8,this]
 ·have j:=X7 hc;have d:i8 L=true:=by
   unfold i8;rw[xO,Bool.eq_false_iff,ne_eq,S8];rintro⟨i,hi,h⟩;rw[x.2.2 i Z9] at h
   cases h
  refine⟨L,⟨⟨⟨rfl,λ_ _=>rfl⟩,rfl,trivial⟩,N⟩,?_⟩
  rw[d,xO,Bool.eq_false_iff,ne_eq,S8];rintro⟨i,hi,h⟩;have q:=(R2 _).1 (D8.1 d i hi).1;obtain⟨_,_,_,f,_⟩:=q;have:¬ (L.getD i dz).l>60:=Z9
  simp[zR] at h;simp at this;omega
def v7(a:Bz)(i:Nat):Int:=((a.getD i 0).toNat:Int)
def X2(a:Bz)(A:Nat)(r:Nat):List T:=[Ji (v7 a (A+2*r)),Ji (v7 a (A+2*r+1))]
def T1(a:Bz):Nat:=(v7 a 0).toNat
def q7(a:Bz):Nat:=(v7 a (1+2*T1 a)).toNat
def xA(a:Bz):Nat:=if 0<a.length/\1+2*T1 a<=a.length then T1 a else 0
def g7(a:Bz):Nat:=if 0<a.length/\1+2*T1 a<a.length/\2+2*T1 a+2*q7 a<=a.length then q7 a else 0
def vD(a:Bz):Bool:=decide (0<a.length/\1+2*T1 a<a.length/\2+2*T1 a+2*q7 a=a.length)
def c6v(a:Bz):T:=.tup [.sl 2 (xA a) (X2 a 1),.sl 2 (g7 a) (X2 a (2+2*T1 a)),.bool (vD a)]
def b7Y(n:Nat)(row:Nat->List T):Option Ob:=some (.arr true 0 2 n row)
def c1U(d k1 n N:Nat):Option Ob:=some (.arr false 0 1 2 λr=>match r with|0=>[.osl d 0 n]|_=>[.osl k1 0 N])
def a3L(a:Bz):Nat->Ann
 |0=>.unr 3 (λm=>fun
  |1=>match m with
   |2=>.one (Up (T1 a)) (λx=>⟨[(0,.str a),(5,.osl 2 0 2),(6,Ji (1+2*x.1)),(7,Ji 0),(8,Ji (T1 a)),(9,Ji x.1)],[b7Y x.1 (X2 a 1),b7Y 0 (X2 a 0),c1U 0 1 x.1 0]⟩) (λx=>T1 a-x.1) [.arr 0,.arr 1,.ren 2] [.arr 4,.arr 1,.ren 2] (λ_=>Y7)
   |_=>.one (Up (q7 a)) (λx=>⟨[(0,.str a),(5,.osl 2 0 2),(6,Ji (2+2*T1 a+2*x.1)),(7,Ji 1),(8,Ji (q7 a)),(9,Ji x.1)],[b7Y (T1 a) (X2 a 1),b7Y x.1 (X2 a (2+2*T1 a)),c1U 0 1 (T1 a) x.1]⟩) (λx=>q7 a-x.1) [.arr 0,.arr 1,.ren 2] [.arr 0,.arr 4,.ren 2] (λ_=>Y7)
  |_=>.none)
 |_=>.none
def kW:List T->Option (T×Option Prop)
 | [.str a]=>some (c6v a,some (N6 a.length))
 |_=>none
def a2K:Con:=.pure kW
theorem N8{row row':Nat->List T}{n i:Nat}(h:i<n):X6 row n row' i=row i:=by
 unfold X6;rw[show Nat.blt i n=true from by simp[Nat.blt];omega]
theorem O0{row row':Nat->List T}{n i:Nat}(h:n<=i):X6 row n row' i=row' (i-n):=by
 unfold X6;rw[show Nat.blt i n=false from Bool.eq_false_iff.2 λB=>by have:=zT B;omega]
theorem a0B:GK 257 a2K:=gk func257<|by
 intro args res p h hp;unfold kW at h;split at h
 case h_2=>cases h
 rename_i a;simp only[X4,U1] at h;obtain⟨rfl,rfl⟩:=h;have hp:a.length<1000000000000:=hp;have h0:((a.getD 0 0).toNat:Int)=(T1 a:Int):=by simp[T1,v7]
 have h1:((a.getD (1+2*T1 a) 0).toNat:Int)=(q7 a:Int):=by simp[q7,v7]
 have b0:T1 a<=255:=by have:=(a.getD 0 0).toNat_lt;omega
 have b1:q7 a<=255:=by have:=(a.getD (1+2*T1 a) 0).toNat_lt;omega
 have t0:(1+2*(T1 a:Int)).toNat=1+2*T1 a:=Z9
 have none0:∀row row':Nat->List T,Z7 0 row row':=λrow row' i hi=>absurd hi (J9 i)
 have refl0:∀(n:Nat) (row:Nat->List T),Z7 n row row:=λn row i hi=>rfl
 have cO:∀(at0 i:Nat),Z7 (i+1) (X6 (X2 a at0) i λk=>List.take 2 (List.drop (k*2) [Ji ((a.getD (at0+2*i) 0).toNat:Int),Ji ((a.getD (at0+2*i+1) 0).toNat:Int)])) (X2 a at0):=by
  intro at0 i j hj;by_cases hlt:j<i
  ·rw[N8 hlt]
  ·obtain rfl:j=i:=by omega
   rw[O0 (U9 _),j_h];rfl
 have two:∀{ρ:Nat->Option Nat} {row row':Nat->List T},O3 (S5 ρ 6) (row' 0)=some (row 0)->O3 (S5 ρ 6) (row' 1)=some (row 1)->xQ ρ 2 row row':=by
  intro ρ row row' e0 e1 i hi;rcases Nat.lt_or_ge i 1 with h|h
  ·obtain rfl:i=0:=by omega
   exact e0
  ·obtain rfl:i=1:=by omega
   exact e1
 refine S2 gN func257 (a3L a) (α:=(true=true->(decide ((0:Int)≥(a.length:Int))=true->V6 (0:Int) 2/\Lt 0 2/\V6 (1:Int) 2/\Lt 1 2/\(Le 0 0/\Le 0 0)/\(0=xA a/\Z7 0 (tk 2 []) (X2 a 1))/\(0=g7 a/\Z7 0 (tk 2 []) (X2 a (2+2*T1 a)))/\false=vD a/\True)/\(decide ((0:Int)≥(a.length:Int))=false->V6 (0:Int) a.length/\P6 .i64 1/\P6 .i64 ((2:Int)*IntKind.i64.wrap (↑(a.getD 0 (0:UInt8)).toNat:Int))/\P6 .i64 ((1:Int)+2*IntKind.i64.wrap (↑(a.getD 0 (0:UInt8)).toNat:Int))/\(decide ((1:Int)+2*IntKind.i64.wrap (↑(a.getD 0 (0:UInt8)).toNat:Int)>(a.length:Int))=true->V6 (0:Int) 2/\Lt 0 2/\V6 (1:Int) 2/\Lt 1 2/\(Le 0 0/\Le 0 0)/\(0=xA a/\Z7 0 (tk 2 []) (X2 a 1))/\(0=g7 a/\Z7 0 (tk 2 []) (X2 a (2+2*T1 a)))/\false=vD a/\True)/\(decide ((1:Int)+2*IntKind.i64.wrap (↑(a.getD 0 (0:UInt8)).toNat:Int)>(a.length:Int))=false->(∃(x:Up (T1 a)),(a=a/\(0=0/\2=2)/\(1:Int)=1+2*(x.1:Int)/\(0:Int)=0/\IntKind.i64.wrap (↑(a.getD 0 (0:UInt8)).toNat:Int)=(↑(T1 a):Int)/\0=(x.1:Int)/\True)/\(0=x.1/\Z7 0 (tk 2 []) (X2 a 1))/\(0=0/\Z7 0 (tk 2 []) (X2 a 0))/\(2=2/\xQ (v6 [some 0,some 1,some 2]) 2 (tk 1 [T.osl 0 0 0,T.osl 1 0 0]) λ(r:Nat)=>match r with|0=>[T.osl 0 0 x.1]|x=>[T.osl 1 0 0])/\True)/\∀(x:Up (T1 a)),(decide ((x.1:Int)<(↑(T1 a):Int))=true->V6 (0:Int) 2/\Lt 0 2/\V6 ((1:Int)+2*(x.1:Int)) a.length/\P6 .i64 ((1:Int)+2*(x.1:Int)+1)/\V6 ((1:Int)+2*(x.1:Int)+1) a.length/\(Le 1 1/\Le x.1 x.1/\U8 x.1 1 16)/\V6 (0:Int) 2/\Lt 0 2/\P6 .i64 ((1:Int)+2*(x.1:Int)+2)/\P6 .i64 ((x.1:Int)+1)/\∃(y:Up (T1 a)),((a=a/\(0=0/\2=2)/\(1:Int)+2*(x.1:Int)+2=1+2*(y.1:Int)/\(0:Int)=0/\(↑(T1 a):Int)=(↑(T1 a):Int)/\(x.1:Int)+1=(y.1:Int)/\True)/\(x.1+1=y.1/\Z7 (x.1+1) (X6 (X2 a 1) x.1 (tk 2 [Ji (IntKind.i64.wrap (↑(a.getD ((1:Int)+2*(x.1:Int)).toNat (0:UInt8)).toNat:Int)),Ji (IntKind.i64.wrap (↑(a.getD ((1:Int)+2*(x.1:Int)+1).toNat (0:UInt8)).toNat:Int))])) (X2 a 1))/\(0=0/\Z7 0 (X2 a 0) (X2 a 0))/\(2=2/\xQ (v6 [some 4,some 1,some 2]) 2 (setRow (λ(r:Nat)=>match r with|0=>[T.osl 0 0 x.1]|x=>[T.osl 1 0 0]) 0 0 [T.osl 4 0 (x.1+1)]) λ(r:Nat)=>match r with|0=>[T.osl 0 0 y.1]|x=>[T.osl 1 0 0])/\True)/\Lt (T1 a-y.1) (T1 a-x.1))/\(decide ((x.1:Int)<(↑(T1 a):Int))=false->P6 .i64 1/\(true=true->(decide ((1:Int)+2*(x.1:Int)≥(a.length:Int))=true->V6 (0:Int) 2/\Lt 0 2/\V6 (1:Int) 2/\Lt 1 2/\(Le (0+x.1) x.1/\Le 0 0)/\(x.1=xA a/\Z7 x.1 (X2 a 1) (X2 a 1))/\(0=g7 a/\Z7 0 (X2 a 0) (X2 a (2+2*T1 a)))/\false=vD a/\True)/\(decide ((1:Int)+2*(x.1:Int)≥(a.length:Int))=false->V6 ((1:Int)+2*(x.1:Int)) a.length/\P6 .i64 ((1:Int)+2*(x.1:Int)+1)/\P6 .i64 ((2:Int)*IntKind.i64.wrap (↑(a.getD ((1:Int)+2*(x.1:Int)).toNat (0:UInt8)).toNat:Int))/\P6 .i64 ((1:Int)+2*(x.1:Int)+1+2*IntKind.i64.wrap (↑(a.getD ((1:Int)+2*(x.1:Int)).toNat (0:UInt8)).toNat:Int))/\(decide ((1:Int)+2*(x.1:Int)+1+2*IntKind.i64.wrap (↑(a.getD ((1:Int)+2*(x.1:Int)).toNat (0:UInt8)).toNat:Int)>(a.length:Int))=true->V6 (0:Int) 2/\Lt 0 2/\V6 (1:Int) 2/\Lt 1 2/\(Le (0+x.1) x.1/\Le 0 0)/\(x.1=xA a/\Z7 x.1 (X2 a 1) (X2 a 1))/\(0=g7 a/\Z7 0 (X2 a 0) (X2 a (2+2*T1 a)))/\false=vD a/\True)/\(decide ((1:Int)+2*(x.1:Int)+1+2*IntKind.i64.wrap (↑(a.getD ((1:Int)+2*(x.1:Int)).toNat (0:UInt8)).toNat:Int)>(a.length:Int))=false->(∃(x_1:Up (q7 a)),(a=a/\(0=0/\2=2)/\(1:Int)+2*(x.1:Int)+1=2+2*(↑(T1 a):Int)+2*(x_1.val:Int)/\(1:Int)=1/\IntKind.i64.wrap (↑(a.getD ((1:Int)+2*(x.1:Int)).toNat (0:UInt8)).toNat:Int)=(↑(q7 a):Int)/\0=(x_1.val:Int)/\True)/\(x.1=T1 a/\Z7 x.1 (X2 a 1) (X2 a 1))/\(0=x_1.val/\Z7 0 (X2 a 0) (X2 a (2+2*T1 a)))/\(2=2/\xQ (v6 [some 0,some 1,some 2]) 2 (λ(r:Nat)=>match r with|0=>[T.osl 0 0 x.1]|x=>[T.osl 1 0 0]) λ(r:Nat)=>match r with|0=>[T.osl 0 0 (T1 a)]|x=>[T.osl 1 0 x_1.val])/\True)/\∀(x:Up (q7 a)),(decide ((x.1:Int)<(↑(q7 a):Int))=true->V6 (1:Int) 2/\Lt 1 2/\V6 ((2:Int)+2*(↑(T1 a):Int)+2*(x.1:Int)) a.length/\P6 .i64 ((2:Int)+2*(↑(T1 a):Int)+2*(x.1:Int)+1)/\V6 ((2:Int)+2*(↑(T1 a):Int)+2*(x.1:Int)+1) a.length/\(Le 1 1/\Le x.1 x.1/\U8 x.1 1 16)/\V6 (1:Int) 2/\Lt 1 2/\P6 .i64 ((2:Int)+2*(↑(T1 a):Int)+2*(x.1:Int)+2)/\P6 .i64 ((x.1:Int)+1)/\∃(y:Up (q7 a)),((a=a/\(0=0/\2=2)/\(2:Int)+2*(↑(T1 a):Int)+2*(x.1:Int)+2=2+2*(↑(T1 a):Int)+2*(y.1:Int)/\(1:Int)=1/\(↑(q7 a):Int)=(↑(q7 a):Int)/\(x.1:Int)+1=(y.1:Int)/\True)/\(T1 a=T1 a/\Z7 (T1 a) (X2 a 1) (X2 a 1))/\(x.1+1=y.1/\Z7 (x.1+1) (X6 (X2 a (2+2*T1 a)) x.1 (tk 2 [Ji (IntKind.i64.wrap (↑(a.getD ((2:Int)+2*(↑(T1 a):Int)+2*(x.1:Int)).toNat (0:UInt8)).toNat:Int)),Ji (IntKind.i64.wrap (↑(a.getD ((2:Int)+2*(↑(T1 a):Int)+2*(x.1:Int)+1).toNat (0:UInt8)).toNat:Int))])) (X2 a (2+2*T1 a)))/\(2=2/\xQ (v6 [some 0,some 4,some 2]) 2 (setRow (λ(r:Nat)=>match r with|0=>[T.osl 0 0 (T1 a)]|x_1=>[T.osl 1 0 x.1]) 1 0 [T.osl 4 0 (x.1+1)]) λ(r:Nat)=>match r with|0=>[T.osl 0 0 (T1 a)]|x=>[T.osl 1 0 y.1])/\True)/\Lt (q7 a-y.1) (q7 a-x.1))/\(decide ((x.1:Int)<(↑(q7 a):Int))=false->P6 .i64 2/\(false=true->(decide ((2:Int)+2*(↑(T1 a):Int)+2*(x.1:Int)≥(a.length:Int))=true->V6 (0:Int) 2/\Lt 0 2/\V6 (1:Int) 2/\Lt 1 2/\(Le (0+T1 a) (T1 a)/\Le (0+x.1) x.1)/\(T1 a=xA a/\Z7 (T1 a) (X2 a 1) (X2 a 1))/\(x.1=g7 a/\Z7 x.1 (X2 a (2+2*T1 a)) (X2 a (2+2*T1 a)))/\false=vD a/\True)/\(decide ((2:Int)+2*(↑(T1 a):Int)+2*(x.1:Int)≥(a.length:Int))=false->V6 ((2:Int)+2*(↑(T1 a):Int)+2*(x.1:Int)) a.length/\P6 .i64 ((2:Int)+2*(↑(T1 a):Int)+2*(x.1:Int)+1)/\P6 .i64 ((2:Int)*IntKind.i64.wrap (↑(a.getD ((2:Int)+2*(↑(T1 a):Int)+2*(x.1:Int)).toNat (0:UInt8)).toNat:Int))/\P6 .i64 ((2:Int)+2*(↑(T1 a):Int)+2*(x.1:Int)+1+2*IntKind.i64.wrap (↑(a.getD ((2:Int)+2*(↑(T1 a):Int)+2*(x.1:Int)).toNat (0:UInt8)).toNat:Int))/\(decide ((2:Int)+2*(↑(T1 a):Int)+2*(x.1:Int)+1+2*IntKind.i64.wrap (↑(a.getD ((2:Int)+2*(↑(T1 a):Int)+2*(x.1:Int)).toNat (0:UInt8)).toNat:Int)>(a.length:Int))=true->V6 (0:Int) 2/\Lt 0 2/\V6 (1:Int) 2/\Lt 1 2/\(Le (0+T1 a) (T1 a)/\Le (0+x.1) x.1)/\(T1 a=xA a/\Z7 (T1 a) (X2 a 1) (X2 a 1))/\(x.1=g7 a/\Z7 x.1 (X2 a (2+2*T1 a)) (X2 a (2+2*T1 a)))/\false=vD a/\True)/\(decide ((2:Int)+2*(↑(T1 a):Int)+2*(x.1:Int)+1+2*IntKind.i64.wrap (↑(a.getD ((2:Int)+2*(↑(T1 a):Int)+2*(x.1:Int)).toNat (0:UInt8)).toNat:Int)>(a.length:Int))=false->(∃(x_1:Up (q7 a)),(a=a/\(0=0/\2=2)/\(2:Int)+2*(↑(T1 a):Int)+2*(x.1:Int)+1=2+2*(↑(T1 a):Int)+2*(x_1.val:Int)/\(2:Int)=1/\IntKind.i64.wrap (↑(a.getD ((2:Int)+2*(↑(T1 a):Int)+2*(x.1:Int)).toNat (0:UInt8)).toNat:Int)=(↑(q7 a):Int)/\0=(x_1.val:Int)/\True)/\(T1 a=T1 a/\Z7 (T1 a) (X2 a 1) (X2 a 1))/\(x.1=x_1.val/\Z7 x.1 (X2 a (2+2*T1 a)) (X2 a (2+2*T1 a)))/\(2=2/\xQ (v6 [some 0,some 1,some 2]) 2 (λ(r:Nat)=>match r with|0=>[T.osl 0 0 (T1 a)]|x_2=>[T.osl 1 0 x.1]) λ(r:Nat)=>match r with|0=>[T.osl 0 0 (T1 a)]|x=>[T.osl 1 0 x_1.val])/\True)/\∀(x:Up (q7 a)),(decide ((x.1:Int)<(↑(q7 a):Int))=true->V6 (1:Int) 2/\Lt 1 2/\V6 ((2:Int)+2*(↑(T1 a):Int)+2*(x.1:Int)) a.length/\P6 .i64 ((2:Int)+2*(↑(T1 a):Int)+2*(x.1:Int)+1)/\V6 ((2:Int)+2*(↑(T1 a):Int)+2*(x.1:Int)+1) a.length/\(Le 1 1/\Le x.1 x.1/\U8 x.1 1 16)/\V6 (1:Int) 2/\Lt 1 2/\P6 .i64 ((2:Int)+2*(↑(T1 a):Int)+2*(x.1:Int)+2)/\P6 .i64 ((x.1:Int)+1)/\∃(y:Up (q7 a)),((a=a/\(0=0/\2=2)/\(2:Int)+2*(↑(T1 a):Int)+2*(x.1:Int)+2=2+2*(↑(T1 a):Int)+2*(y.1:Int)/\(1:Int)=1/\(↑(q7 a):Int)=(↑(q7 a):Int)/\(x.1:Int)+1=(y.1:Int)/\True)/\(T1 a=T1 a/\Z7 (T1 a) (X2 a 1) (X2 a 1))/\(x.1+1=y.1/\Z7 (x.1+1) (X6 (X2 a (2+2*T1 a)) x.1 (tk 2 [Ji (IntKind.i64.wrap (↑(a.getD ((2:Int)+2*(↑(T1 a):Int)+2*(x.1:Int)).toNat (0:UInt8)).toNat:Int)),Ji (IntKind.i64.wrap (↑(a.getD ((2:Int)+2*(↑(T1 a):Int)+2*(x.1:Int)+1).toNat (0:UInt8)).toNat:Int))])) (X2 a (2+2*T1 a)))/\(2=2/\xQ (v6 [some 0,some 4,some 2]) 2 (setRow (λ(r:Nat)=>match r with|0=>[T.osl 0 0 (T1 a)]|x_1=>[T.osl 1 0 x.1]) 1 0 [T.osl 4 0 (x.1+1)]) λ(r:Nat)=>match r with|0=>[T.osl 0 0 (T1 a)]|x=>[T.osl 1 0 y.1])/\True)/\Lt (q7 a-y.1) (q7 a-x.1))/\(decide ((x.1:Int)<(↑(q7 a):Int))=false->P6 .i64 2/\False))))/\(false=false->V6 (0:Int) 2/\Lt 0 2/\V6 (1:Int) 2/\Lt 1 2/\(Le (0+T1 a) (T1 a)/\Le (0+x.1) x.1)/\(T1 a=xA a/\Z7 (T1 a) (X2 a 1) (X2 a 1))/\(x.1=g7 a/\Z7 x.1 (X2 a (2+2*T1 a)) (X2 a (2+2*T1 a)))/\((2:Int)+2*(↑(T1 a):Int)+2*(x.1:Int)==(a.length:Int))=vD a/\True)))))/\(true=false->V6 (0:Int) 2/\Lt 0 2/\V6 (1:Int) 2/\Lt 1 2/\(Le (0+x.1) x.1/\Le 0 0)/\(x.1=xA a/\Z7 x.1 (X2 a 1) (X2 a 1))/\(0=g7 a/\Z7 0 (X2 a 0) (X2 a (2+2*T1 a)))/\((1:Int)+2*(x.1:Int)==(a.length:Int))=vD a/\True)))))/\(true=false->V6 (0:Int) 2/\Lt 0 2/\V6 (1:Int) 2/\Lt 1 2/\(Le 0 0/\Le 0 0)/\(0=xA a/\Z7 0 (tk 2 []) (X2 a 1))/\(0=g7 a/\Z7 0 (tk 2 []) (X2 a (2+2*T1 a)))/\((0:Int)==(a.length:Int))=vD a/\True)) ?_
 simp only[c0n,V6,Lt,Le,U8,rV];simp only[h0];refine⟨λ_=>⟨λhz=>?_,λhz=>?_⟩,λh=>J4⟩
 ·have hz':¬0<a.length:=by simp at hz;simp[hz]
  refine⟨Z9,Z9,Z9,Z9,Z9,⟨by simp[xA,hz'],none0 _ _⟩,⟨by simp[g7,hz'],none0 _ _⟩,by simp[vD,hz'],trivial⟩
 have hz':0<a.length:=by simp at hz;exact List.length_pos_iff.2 hz
 refine⟨⟨Z9,Z9⟩,Z9,Z9,Z9,λhgt=>?_,λhle=>?_⟩
 ·have hgt':¬1+2*T1 a<=a.length:=by simp at hgt;omega
  have hgt'':¬1+2*T1 a<a.length:=Z9
  refine⟨Z9,Z9,Z9,Z9,Z9,⟨by simp[xA,hgt'],none0 _ _⟩,⟨by simp[g7,hgt''],none0 _ _⟩,by simp[vD,hgt''],trivial⟩
 have hle':1+2*T1 a<=a.length:=by simp at hle;omega
 have e0:xA a=T1 a:=by simp[xA,hz',hle']
 refine⟨⟨⟨0,N7 _⟩,⟨trivial,⟨trivial,trivial⟩,rfl,trivial,trivial,rfl,trivial⟩,⟨rfl,none0 _ _⟩,⟨trivial,none0 _ _⟩,⟨trivial,two rfl rfl⟩,trivial⟩,λx=>⟨λhx=>?_,λhx=>?_⟩⟩
 ·have hx':x.1<T1 a:=by simpa using hx
  rw[show(1+2*(x.1:Int)).toNat=1+2*x.1 by omega,show(1+2*(x.1:Int)+1).toNat=1+2*x.1+1 by omega]
  refine⟨Z9,Z9,Z9,Z9,Z9,Z9,Z9,Z9,Z9,Z9,⟨x.1+1,hx'⟩,⟨⟨trivial,⟨trivial,trivial⟩,F9,trivial,trivial,F9,trivial⟩,⟨rfl,cO 1 _⟩,⟨trivial,none0 _ _⟩,⟨trivial,two rfl rfl⟩,trivial⟩,F9⟩
 have hx':x.1=T1 a:=by have:=x.2;simp at hx;omega
 rw[hx',t0,h1];refine⟨Z9,λ_=>⟨λhz1=>?_,λhz1=>⟨?_,Z9,Z9,Z9,λhg1=>?_,λhl1=>?_⟩⟩,λh=>J4⟩
 ·have hz1':¬1+2*T1 a<a.length:=by simp at hz1;omega
  refine⟨Z9,Z9,Z9,Z9,Z9,⟨e0.symm,refl0 _ _⟩,⟨by simp[g7,hz1'],none0 _ _⟩,by simp[vD,hz1'],trivial⟩
 ·simp at hz1;omega
 ·have hz1':1+2*T1 a<a.length:=by simp at hz1;omega
  have hg1':¬2+2*T1 a+2*q7 a<=a.length:=by simp at hg1;omega
  have hg1'':¬2+2*T1 a+2*q7 a=a.length:=Z9
  refine⟨Z9,Z9,Z9,Z9,Z9,⟨e0.symm,refl0 _ _⟩,⟨by simp[g7,hg1'],none0 _ _⟩,by simp[vD,hg1''],trivial⟩
 have hz1':1+2*T1 a<a.length:=by simp at hz1;omega
 have hl1':2+2*T1 a+2*q7 a<=a.length:=by simp at hl1;omega
 have e1:g7 a=q7 a:=by simp[g7,hz',hz1',hl1']
 refine⟨⟨⟨0,N7 _⟩,⟨trivial,⟨trivial,trivial⟩,F9,trivial,rfl,rfl,trivial⟩,⟨rfl,refl0 _ _⟩,⟨rfl,none0 _ _⟩,⟨trivial,two rfl rfl⟩,trivial⟩,λy=>⟨λhy=>?_,λhy=>?_⟩⟩
 ·have hy':y.1<q7 a:=by simpa using hy
  rw[show(2+2*(T1 a:Int)+2*(y.1:Int)).toNat=2+2*T1 a+2*y.1 by omega,show(2+2*(T1 a:Int)+2*(y.1:Int)+1).toNat=2+2*T1 a+2*y.1+1 by omega]
  refine⟨Z9,Z9,Z9,Z9,Z9,Z9,Z9,Z9,Z9,Z9,⟨y.1+1,hy'⟩,⟨⟨trivial,⟨trivial,trivial⟩,F9,trivial,trivial,F9,trivial⟩,⟨trivial,refl0 _ _⟩,⟨rfl,cO _ _⟩,⟨trivial,two rfl rfl⟩,trivial⟩,F9⟩
 have hy':y.1=q7 a:=by have:=y.2;simp at hy;omega
 rw[hy'];refine⟨Z9,(λh=>J4),λ_=>⟨Z9,Z9,Z9,Z9,Z9,⟨e0.symm,refl0 _ _⟩,⟨e1.symm,refl0 _ _⟩,?_,trivial⟩⟩
 unfold vD;rw[Bool.eq_iff_iff,beq_iff_eq,i5];omega
def yN(a:Bz)(A:Nat)(l hi lsn:Int)(i:Nat):Bool:=
 !V9 (v7 a (A+2*i)) l hi|| !V9 (v7 a (A+2*i+1)) 1 (lsn-1)||(decide ((i:Int)>0)&&decide (v7 a (A+2*(i-1))≥v7 a (A+2*i)))
def ckS(a:Bz)(lsn:Int):Bool:=
 vD a&&decide (xA a<=8)&&decide (g7 a<=10)&& !anyI (xA a) (yN a 1 0 7 lsn)&& !anyI (g7 a) (yN a (2+2*T1 a) 1 60 lsn)
def b6M(a:Bz)(n:Int):Prop:=a.length<1000000000000/\ -1000000000000<=n/\n<=1000000000000
def bC:List T->Option (T×Option Prop)
 | [.agg [.int .i64 e,.int .i64 l,.int .i64 t,.int .i64 k,.int .i64 p,.int .i64 n,.int .i64 g,.int .i64 s,.str b,.str a]]=>some (.bool (ckS a l),some (b6M a l))
 |_=>none
def b2U:Con:=.pure bC
def b0b(r:Rec):Nat->Ann
 |1=>.one (V0 (g7 r.a) (yN r.a (2+2*T1 r.a) 1 60 r.l)) (λx=>⟨[(1,.ref 0 0 0),(4,.sl 2 (g7 r.a) (X2 r.a (2+2*T1 r.a))),(7,Ji x.1)],[some (.arr true 1000000 10 1 λ_=>r.ts)]⟩) (λx=>g7 r.a-x.1) [.arr 0] [.arr 0] (λ_=>Y7)
 |_=>.none
def b0C(r:Rec):Nat->Ann
 |0=>.one (V0 (xA r.a) (yN r.a 1 0 7 r.l)) (λx=>⟨[(1,.ref 0 0 0),(3,.sl 2 (xA r.a) (X2 r.a 1)),(4,.sl 2 (g7 r.a) (X2 r.a (2+2*T1 r.a))),(6,Ji x.1)],[some (.arr true 1000000 10 1 λ_=>r.ts)]⟩) (λx=>xA r.a-x.1) [.arr 0] [.arr 0] (λ_=>b0b r)
 |_=>.none
theorem b01(r:Rec)(h:
let ph:=(false=ckS r.a r.l);let pg:=(X2 r.a (2+2*T1 r.a));let pd:=(0=0/\0=0);let d:=(xA r.a=xA r.a/\Z7 (xA r.a) (X2 r.a 1) (X2 r.a 1));let v:=(g7 r.a=g7 r.a/\Z7 (g7 r.a) pg pg);  N6 r.a.length/\br (!vD r.a||decide ((↑(xA r.a):Int)>8)||decide ((↑(g7 r.a):Int)>10)) ph ((∃(x:V0 (xA r.a) (yN r.a 1 (0:Int) (7:Int) r.l)),(pd/\d/\v/\0=(x.1:Int)/\True)/\(1=1/\Z7 1 (λ(x:Nat)=>[Ji r.e,Ji r.l,Ji r.t,Ji r.k,Ji r.p,Ji r.n,Ji r.g,Ji r.s,T.str r.b,T.str r.a]) λ(x:Nat)=>[Ji r.e,Ji r.l,Ji r.t,Ji r.k,Ji r.p,Ji r.n,Ji r.g,Ji r.s,T.str r.b,T.str r.a])/\True)/\∀(x:V0 (xA r.a) (yN r.a 1 (0:Int) (7:Int) r.l)),let w:=(x.1:Int);let pe:=(v7 r.a (1+2*w.toNat+1));let pc:=(v7 r.a (1+2*w.toNat));let m:=(!V9 pc (0:Int) (7:Int));let z:=(!V9 pc (0:Int) (7:Int)|| !V9 pe (1:Int) (r.l-1));let pa:=(z=false->decide (w>0)=true->V6 (0:Int) 2);bd (w<(↑(xA r.a):Int)) (V6 w (xA r.a)/\V6 (0:Int) 2/\(m=false->V6 w (xA r.a))/\(m=false->V6 (1:Int) 2)/\(m=false->Ri (r.l-1))/\(z=false->decide (w>0)=true->Ri (w-1))/\(z=false->decide (w>0)=true->V6 (w-1) (xA r.a))/\pa/\(z=false->decide (w>0)=true->V6 w (xA r.a))/\pa/\br (!V9 pc (0:Int) (7:Int)|| !V9 pe (1:Int) (r.l-1)||decide (w>0)&&decide (v7 r.a (1+2*(w-1).toNat)≥v7 r.a (1+2*w.toNat))) ph (Ri (w+1)/\∃(y:V0 (xA r.a) (yN r.a 1 (0:Int) (7:Int) r.l)),((pd/\d/\v/\w+1=(y.1:Int)/\True)/\(1=1/\Z7 1 (λ(x:Nat)=>[Ji r.e,Ji r.l,Ji r.t,Ji r.k,Ji r.p,Ji r.n,Ji r.g,Ji r.s,T.str r.b,T.str r.a]) λ(x:Nat)=>[Ji r.e,Ji r.l,Ji r.t,Ji r.k,Ji r.p,Ji r.n,Ji r.g,Ji r.s,T.str r.b,T.str r.a])/\True)/\Lt (xA r.a-y.1) (xA r.a-x.1))) ((∃(x:V0 (g7 r.a) (yN r.a (2+2*T1 r.a) (1:Int) (60:Int) r.l)),(pd/\v/\0=(x.1:Int)/\True)/\(1=1/\Z7 1 (λ(x:Nat)=>[Ji r.e,Ji r.l,Ji r.t,Ji r.k,Ji r.p,Ji r.n,Ji r.g,Ji r.s,T.str r.b,T.str r.a]) λ(x:Nat)=>[Ji r.e,Ji r.l,Ji r.t,Ji r.k,Ji r.p,Ji r.n,Ji r.g,Ji r.s,T.str r.b,T.str r.a])/\True)/\∀(x:V0 (g7 r.a) (yN r.a (2+2*T1 r.a) (1:Int) (60:Int) r.l)),let u:=(x.1:Int);let pf:=(2+2*T1 r.a+2*u.toNat);let c:=(v7 r.a (2+2*T1 r.a+2*u.toNat+1));let f:=(v7 r.a (2+2*T1 r.a+2*(u-1).toNat)≥v7 r.a pf);let j:=(v7 r.a pf);let i:=(!V9 j (1:Int) (60:Int));let q:=(!V9 j (1:Int) (60:Int)|| !V9 c (1:Int) (r.l-1));let pb:=(q=false->decide (u>0)=true->V6 (0:Int) 2);bd (u<(↑(g7 r.a):Int)) (V6 u (g7 r.a)/\V6 (0:Int) 2/\(i=false->V6 u (g7 r.a))/\(i=false->V6 (1:Int) 2)/\(i=false->Ri (r.l-1))/\(q=false->decide (u>0)=true->Ri (u-1))/\(q=false->decide (u>0)=true->V6 (u-1) (g7 r.a))/\pb/\(q=false->decide (u>0)=true->V6 u (g7 r.a))/\pb/\((!V9 j (1:Int) (60:Int)||!V9 c (1:Int) (r.l-1)||decide (u>0)&&decide f)=true->false=ckS r.a r.l)/\((!V9 j (1:Int) (60:Int)|| !V9 c (1:Int) (r.l-1)||decide (u>0)&&decide f)=false->Ri (u+1)/\∃(y:V0 (g7 r.a) (yN r.a (2+2*T1 r.a) (1:Int) (60:Int) r.l)),((pd/\v/\u+1=(y.1:Int)/\True)/\(1=1/\Z7 1 (λ(x:Nat)=>[Ji r.e,Ji r.l,Ji r.t,Ji r.k,Ji r.p,Ji r.n,Ji r.g,Ji r.s,T.str r.b,T.str r.a]) λ(x:Nat)=>[Ji r.e,Ji r.l,Ji r.t,Ji r.k,Ji r.p,Ji r.n,Ji r.g,Ji r.s,T.str r.b,T.str r.a])/\True)/\Lt (g7 r.a-y.1) (g7 r.a-x.1))) (true=ckS r.a r.l)))):
  V2 prog 208 [.agg r.ts] (.bool (ckS r.a r.l)):=
 S2 (gC a0B (gC B6 gN)) func208 (b0C r) h
theorem a9p(a:Bz)(A:Nat)(l hi lsn:Int)(i:Nat):
  yN a A l hi lsn i=(!V9 (v7 a (A+2*(i:Int).toNat)) l hi|| !V9 (v7 a (A+2*(i:Int).toNat+1)) 1 (lsn-1)||(decide ((i:Int)>0)&&decide (v7 a (A+2*((i:Int)-1).toNat)≥v7 a (A+2*(i:Int).toNat)))):=by
 unfold yN;rw[E8,show((i:Int)-1).toNat=i-1 by omega]
theorem a78:GK 208 b2U:=gk func208<|by
 intro args res p h hp;unfold bC at h;split at h
 case h_2=>cases h
 rename_i e l t k p n g s b a;simp only[X4,U1] at h;obtain⟨rfl,rfl⟩:=h;obtain⟨hn,hl1,hl2⟩:b6M a l:=hp;have q0:xA a<=a.length:=by unfold xA;split<;>omega
 have q1:g7 a<=a.length:=by unfold g7;split<;>omega
 have r0:∀(n:Nat) (row:Nat->List T),Z7 n row row:=λn row i hi=>rfl
 refine b01 ⟨e,l,t,k,p,n,g,s,b,a⟩ ?_
 simp only[Rec.e,Rec.l,Rec.t,Rec.k,Rec.p,Rec.n,Rec.g,Rec.s,Rec.b,Rec.a];refine⟨hn,λhb=>?_,λhb=>⟨⟨H5,⟨⟨x6,x6⟩,⟨x6,r0 _ _⟩,⟨x6,r0 _ _⟩,x6,trivial⟩,⟨x6,r0 _ _⟩,trivial⟩,λx=>⟨λhc=>?_,λhc=>?_⟩⟩⟩
 ·unfold ckS;simp only[qR,xO,i5] at hb;rcases hb with(hb|hb)|hb
  ·rw[hb];rfl
  ·rw[show decide (xA a<=8)=false from sX Z9];simp
  ·rw[show decide (g7 a<=10)=false from sX Z9];simp
 ·have hlt:=Y2 hc;have i2:V6 0 2:=⟨Z9,Z9⟩
  have i2':V6 1 2:=⟨Z9,Z9⟩
  rw[←a9p];refine⟨Y1 hlt,i2,λ_=>Y1 hlt,λ_=>i2',λ_=>Z3 Z9,λ_ _=>Z3 Z9,λ_ hh=>?_,λ_ _=>i2,λ_ _=>Y1 hlt,λ_ _=>i2,λhp=>?_,λhp=>⟨V8 hlt Z9,x.succ hlt hp,⟨⟨⟨x6,x6⟩,⟨x6,r0 _ _⟩,⟨x6,r0 _ _⟩,x6,trivial⟩,⟨x6,r0 _ _⟩,trivial⟩,V0.ext_lt hlt⟩⟩
  ·have:=D4 hh;exact⟨Z9,Z9⟩
  ·have:anyI (xA a) (yN a 1 0 7 l)=true:=S8.2 ⟨x.1,hlt,hp⟩;simp[ckS,this]
 ·have hge:=X7 hc;have g0:anyI (xA a) (yN a 1 0 7 l)=false:=by
   rw[Bool.eq_false_iff,ne_eq,S8];rintro⟨i,hi,h⟩;rw[x.2.2 i Z9] at h
   cases h
  refine⟨⟨H5,⟨⟨x6,x6⟩,⟨x6,r0 _ _⟩,x6,trivial⟩,⟨x6,r0 _ _⟩,trivial⟩,λy=>⟨λhc=>?_,λhc=>?_⟩⟩
  ·have hlt:=Y2 hc;have i2:V6 0 2:=⟨Z9,Z9⟩
   have i2':V6 1 2:=⟨Z9,Z9⟩
   rw[←a9p];refine⟨Y1 hlt,i2,λ_=>Y1 hlt,λ_=>i2',λ_=>Z3 Z9,λ_ _=>Z3 Z9,λ_ hh=>?_,λ_ _=>i2,λ_ _=>Y1 hlt,λ_ _=>i2,λhp=>?_,λhp=>⟨V8 hlt Z9,y.succ hlt hp,⟨⟨⟨x6,x6⟩,⟨x6,r0 _ _⟩,x6,trivial⟩,⟨x6,r0 _ _⟩,trivial⟩,V0.ext_lt hlt⟩⟩
   ·have:=D4 hh;exact⟨Z9,Z9⟩
   ·have:anyI (g7 a) (yN a (2+2*T1 a) 1 60 l)=true:=S8.2 ⟨y.1,hlt,hp⟩;simp[ckS,this]
  ·have hge:=X7 hc;have g1:anyI (g7 a) (yN a (2+2*T1 a) 1 60 l)=false:=by
    rw[Bool.eq_false_iff,ne_eq,S8];rintro⟨i,hi,h⟩;rw[y.2.2 i Z9] at h
    cases h
   simp only[yY,yC,pT] at hb;unfold ckS;rw[g0,g1,hb.1.1,show decide (xA a<=8)=true from mN Z9,show decide (g7 a<=10)=true from mN Z9]
   rfl
theorem rX(l:Bz)(k:Nat):numR (l.drop k)=v7 l k:=by
 unfold numR v7;simp[Q2]
theorem b6W(l:Bz)(k i:Nat):v7 (l.drop k) i=v7 l (k+i):=by
 unfold v7;simp[Q2]
theorem a7m(l:Bz)(k:Nat):0<=v7 l k:=by unfold v7;omega
def a3b(l:Bz)(o:Int)(i:Nat):Int:=if i=0 then o-1 else v7 l (1+2*(i-1))
def okP(l:Bz)(o hi lsn:Int)(i:Nat):Bool:=V9 (v7 l (1+2*i)) (a3b l o i+1) hi&&V9 (v7 l (2+2*i)) 1 (lsn-1)
theorem c1S(most lo hi lsn:Int)(l:Bz)(fl:Bool)(i:Nat):
  RdSt.go hi lsn (vQ most lo l fl) i=⟨l.drop (1+2*i),fl||decide (l.length<1+2*i),decide (numR l<=most)&&(List.range i).all (okP l lo hi lsn),a3b l lo i⟩:=by
 induction i with
 |zero=>
  simp only[RdSt.go,vQ,a3b,if_true,List.range_zero,List.all_nil,Bool.and_true,Nat.mul_zero,Nat.add_zero];cases l<;>simp
 |succ i ih=>
  simp only[RdSt.go];rw[ih];simp only[RdSt.step];have e1:((l.drop (1+2*i)).drop 1).drop 1=l.drop (1+2*(i+1)):=by
   rw[List.drop_drop,List.drop_drop];congr 1
  have e2:numR ((l.drop (1+2*i)).drop 1)=v7 l (2+2*i):=by
   rw[List.drop_drop,rX];congr 1
   omega
  have e3:a3b l lo (i+1)=numR (l.drop (1+2*i)):=by
   rw[rX];simp[a3b]
  have e4:(List.range (i+1)).all (okP l lo hi lsn)=((List.range i).all (okP l lo hi lsn)&&okP l lo hi lsn i):=by
   rw[List.range_succ,List.all_append];simp
  rw[e1,e2,e3,e4,rX];congr 1
  ·have:(l.drop (1+2*i)).isEmpty=decide (l.length<=1+2*i):=by
    rw[Bool.eq_iff_iff];simp
   have h2:((l.drop (1+2*i)).drop 1).isEmpty=decide (l.length<=1+2*i+1):=by
    rw[Bool.eq_iff_iff];simp
   rw[this,h2,Bool.or_assoc,Bool.or_assoc];congr 1
   rw[Bool.eq_iff_iff];simp;omega
  ·unfold okP;rw[Bool.and_assoc,Bool.and_assoc]
theorem a9V{n:Nat}{p q:Nat->Bool}(h:∀i,p i= !q i):(List.range n).all p= !anyI n q:=by
 unfold anyI;rw[List.not_any_eq_all_not];congr 1
 funext i
 rw[h i]
theorem a9c(l:Bz)(o hi lsn:Int)(d:o=0∨o=1)(i:Nat):okP l o hi lsn i= !yN l 1 o hi lsn i:=by
 have B:=a7m l (1+2*(i-1));have b2:=a7m l (1+2*i);unfold okP yN a3b V9;rw[show 1+2*i+1=2+2*i by omega]
 rw[Bool.eq_iff_iff];by_cases h:i=0
 ·subst h;simp
 ·simp[h];omega
theorem b2M(a:Bz)(k:Nat)(l hi lsn:Int)(i:Nat):yN (a.drop k) 1 l hi lsn i=yN a (k+1) l hi lsn i:=by
 unfold yN;simp only[b6W];rw[show k+(1+2*i)=k+1+2*i by omega,show k+(1+2*i+1)=k+1+2*i+1 by omega,show k+(1+2*(i-1))=k+1+2*(i-1) by omega]
theorem c2V(a:Bz)(lsn:Int):a32 a lsn=ckS a lsn:=by
 have n0:(numR a).toNat=T1 a:=by simp[numR,T1,v7]
 have n0':numR a=(T1 a:Int):=by have:=u9 a;omega
 have n1:numR (a.drop (1+2*T1 a))=(q7 a:Int):=by rw[rX];have:=a7m a (1+2*T1 a);simp[q7];omega
 have n1':(numR (a.drop (1+2*T1 a))).toNat=q7 a:=Z9
 have E1:O1 8 0 7 lsn a false=⟨a.drop (1+2*T1 a),decide (a.length<1+2*T1 a),decide ((T1 a:Int)<=8)&& !anyI (T1 a) (yN a 1 0 7 lsn),a3b a 0 (T1 a)⟩:=by
  unfold O1;rw[c1S,n0,n0',a9V (a9c a 0 7 lsn (.inl rfl)),Bool.false_or]
 have E2:O1 10 1 60 lsn (a.drop (1+2*T1 a)) (decide (a.length<1+2*T1 a))=⟨a.drop (2+2*T1 a+2*q7 a),decide (a.length<2+2*T1 a+2*q7 a),decide ((q7 a:Int)<=10)&& !anyI (q7 a) (yN a (2+2*T1 a) 1 60 lsn),a3b (a.drop (1+2*T1 a)) 1 (q7 a)⟩:=by
  unfold O1;rw[c1S,n1',n1,a9V (a9c (a.drop (1+2*T1 a)) 1 60 lsn (.inr rfl))];congr 1
  ·rw[List.drop_drop];congr 1;omega
  ·rw[Bool.eq_iff_iff];simp;omega
  ·congr 2
   unfold anyI;congr 1
   funext i
   rw[b2M];congr 1
   omega
 unfold a32;rw[E1];simp only;rw[E2];simp only;have hE:(a.drop (2+2*T1 a+2*q7 a)).isEmpty=decide (a.length<=2+2*T1 a+2*q7 a):=by rw[Bool.eq_iff_iff];simp
 rw[hE];by_cases hr:0<a.length/\1+2*T1 a<a.length/\2+2*T1 a+2*q7 a=a.length
 ·have c0:xA a=T1 a:=by unfold xA;rw[if_pos ⟨hr.1,Z9⟩]
  have c1:g7 a=q7 a:=by unfold g7;rw[if_pos ⟨hr.1,hr.2.1,Z9⟩]
  unfold ckS;rw[show vD a=true from mN hr,c0,c1]
  rw[show decide (a.length<1+2*T1 a)=false from sX Z9,show decide (a.length<2+2*T1 a+2*q7 a)=false from sX Z9,show decide (a.length<=2+2*T1 a+2*q7 a)=true from mN Z9]
  rw[show decide ((T1 a:Int)<=8)=decide (T1 a<=8) from decide_eq_decide.2 Z9,show decide ((q7 a:Int)<=10)=decide (q7 a<=10) from decide_eq_decide.2 Z9]
  generalize anyI (T1 a) _=x;generalize anyI (q7 a) _=y;generalize decide (T1 a<=8)=u;generalize decide (q7 a<=10)=v;cases x<;>cases y<;>cases u<;>cases v<;>rfl
 ·have:ckS a lsn=false:=by
   unfold ckS;rw[show vD a=false from sX hr]
   rfl
  rw[this];by_cases h1:a.length<2+2*T1 a+2*q7 a
  ·rw[show decide (a.length<2+2*T1 a+2*q7 a)=true from mN h1]
   simp
  ·have h2:¬a.length<=2+2*T1 a+2*q7 a:=by omega
   rw[show decide (a.length<=2+2*T1 a+2*q7 a)=false from sX h2]
   simp
def lF:List T->Option (T×Option Prop)
 | [.agg [.int .i64 e,.int .i64 l,.int .i64 t,.int .i64 k,.int .i64 p,.int .i64 n,.int .i64 g,.int .i64 s,.str b,.str a]]=>some (.bool (M6 ⟨e,l,t,k,p,n,g,s,b,a⟩),some (N6 a.length))
 |_=>none
def a4T:Con:=.pure lF
theorem a3V(r:Rec)(x:Bool)(h:
let q:=((r.b.length:Int)>30);  ((!V9 r.e (1:Int) (60:Int)|| !V9 r.l (1:Int) (60:Int)|| !V9 r.k (1:Int) (6:Int))=false->Ri (r.l-1))/\((!V9 r.e (1:Int) (60:Int)|| !V9 r.l (1:Int) (60:Int)|| !V9 r.k (1:Int) (6:Int)|| !V9 r.p (0:Int) (r.l-1))=false->Ri (r.l-1))/\((!V9 r.e (1:Int) (60:Int)|| !V9 r.l (1:Int) (60:Int)|| !V9 r.k (1:Int) (6:Int)|| !V9 r.p (0:Int) (r.l-1)|| !V9 r.n (0:Int) (r.l-1)|| !V9 r.g (0:Int) (7:Int)|| !V9 r.s (0:Int) (3:Int)||decide q)=true->false=x)/\((!V9 r.e (1:Int) (60:Int)|| !V9 r.l (1:Int) (60:Int)||!V9 r.k (1:Int) (6:Int)|| !V9 r.p (0:Int) (r.l-1)|| !V9 r.n (0:Int) (r.l-1)|| !V9 r.g (0:Int) (7:Int)|| !V9 r.s (0:Int) (3:Int)||decide q)=false->br (r.k==6) (((r.t==0&&r.p==0&&r.n==0&&r.g==0&&r.s==0&&r.b==[])=true->b6M r.a r.l)/\(r.t==0&&r.p==0&&r.n==0&&r.g==0&&r.s==0&&r.b==[]&&ckS r.a r.l)=x) (br (!V9 r.t (1:Int) (60:Int)||decide ((r.a.length:Int)>30)) (false=x) (br (!(r.k==2||r.k==3)&&(r.g !=0||r.s !=0|| !r.b==[]|| !r.a==[])||r.k !=3&&r.n !=0||r.k==3&& !r.b==[]) (false=x) (((r.k==1)==(r.p==0))=x))))):
  V2 prog 132 [.agg r.ts] (.bool x):=
 S2 (gC a78 (gC B6 gN)) func132 Y7 h
theorem c5V{p k a b:Int}:((k==b)=(p==a))↔(k=b↔p=a):=by
 rw[Bool.eq_iff_iff,beq_iff_eq,beq_iff_eq]
theorem a1Y:GK 132 a4T:=gk func132<|by
 intro args res p h hp;unfold lF at h;split at h
 case h_2=>cases h
 rename_i e l t k p n g s b a;simp only[X4,U1] at h;obtain⟨rfl,rfl⟩:=h;have hp:a.length<1000000000000:=hp;refine a3V ⟨e,l,t,k,p,n,g,s,b,a⟩ _ ?_
 simp only[Rec.e,Rec.l,Rec.t,Rec.k,Rec.p,Rec.n,Rec.g,Rec.s,Rec.b,Rec.a];have hr:∀{q:Bool},(!V9 e 1 60|| !V9 l 1 60||q)=false->P6 .i64 (l-1):=by
  intro q h;simp only[yY,yC,V9,M1,i5] at h;exact Z3 Z9
 refine⟨hr,λh=>hr (q:= !V9 k 1 6|| !V9 p 0 (l-1)) (by rw[←h];simp[Bool.or_assoc]),λh=>?_,λh=>?_⟩
 ·refine(vW ?_).symm
  simp only[qR,xO,V9,Bool.and_eq_false_iff,pT,i5] at h;unfold C8;simp only;omega
 simp only[yY,yC,V9,M1,i5,pT] at h;by_cases h6:k=6
 ·subst h6;refine⟨λ_=>⟨λ_=>⟨hp,Z9,Z9⟩,rY ?_⟩,λh=>J2⟩
  rw[R2,←c2V];simp only[C8,i5,M1,beq_iff_eq,true_and,and_true];constructor
  ·rintro⟨⟨⟨⟨⟨⟨rfl,rfl⟩,rfl⟩,rfl⟩,rfl⟩,rfl⟩,hc⟩;simp[hc];omega
  ·rintro⟨_,_,_,_,_,_,_,_,_,_,_,_,_,_,_,hh,_⟩;obtain⟨rfl,rfl,rfl,rfl,rfl,rfl,hc⟩:=hh trivial;simp[hc]
 refine⟨λh=>absurd D3 h6,λ_=>⟨λhb=>?_,λhb=>⟨λhc=>?_,λhc=>rY ?_⟩⟩⟩
 ·refine(vW ?_).symm
  simp[V9] at hb;unfold C8;simp only;omega
 ·refine(vW ?_).symm
  unfold C8;simp only;rintro⟨_,_,_,_,_,_,_,_,_,_,_,_,_,_,_,_,hh⟩;obtain⟨c1,c2,c3,c4,c5,c6,c7⟩:=hh h6;simp only[qR,M1,xO,yY,beq_iff_eq,bne_iff_ne,beq_eq_false_iff_ne] at hc;rcases hc with(⟨⟨x2,x3⟩,hc⟩|⟨x3,hn⟩)|⟨x3,hn⟩
  ·obtain⟨d1,d2,d3,d4⟩:=c4 x2 x3;rcases hc with((hc|hc)|hc)|hc
   ·exact hc d1
   ·exact hc d2
   ·exact hc d3
   ·exact hc d4
  ·exact hn (c5 x3)
  ·exact hn (c6 x3)
 ·rw[R2];simp only[C8,c5V,true_and,and_true,beq_iff_eq];simp[V9] at hb hc;constructor
  ·intro hk;refine⟨Z9,Z9,Z9,Z9,Z9,Z9,Z9,Z9,Z9,Z9,Z9,Z9,Z9,Z9,Z9,λh=>absurd h h6,λ_=>⟨Z9,Z9,Z9,λx2 x3=>?_,λx3=>?_,λx3=>?_,hk⟩⟩
   ·have:=hc.1.1 x2 x3;exact⟨this.1.1.1,this.1.1.2,this.1.2,this.2⟩
   ·exact hc.1.2 x3
   ·exact hc.2 x3
  ·rintro⟨_,_,_,_,_,_,_,_,_,_,_,_,_,_,_,_,hh⟩;exact(hh h6).2.2.2.2.2.2
def rem(l:Int)(n:Nat):Int:=if 0<=l-n then l-n else-1
theorem i9{row:Nat->List T}{i k:Nat}{cs:List T}(h:cs.length=(row k).length):setRow row i 0 cs k=match Nat.beq k i with|true=>cs|false=>row k:=by
 rw[k5 Z9]
 cases Nat.beq k i
 ·rfl
 ·simp[h]
def a3O:Rl:=⟨List Rec,λL=>[oG L,oG L],λ_=>.bool true,λL=>L.length<=1048576⟩
theorem b6S{a b:Nat}(h:a<4294967296)(B:b<4294967296):a ^^^ b<4294967296:=Nat.xor_lt_two_pow (n:=32) h B
theorem b6z{a b:Nat}(h:b<4294967296):a&&&b<4294967296:=Nat.and_lt_two_pow (n:=32) a h
theorem b9Q{a b:Nat}(h:a<4294967296)(B:b<4294967296):a|||b<4294967296:=Nat.or_lt_two_pow (n:=32) h B
theorem wB{k:IntKind}(d:k= .i64∨k= .u32){n:Nat}(h:n<4294967296):(BitVec.ofInt k.bits (n:Int)).toNat=n:=by
 rw[BitVec.ofInt_natCast,BitVec.toNat_ofNat];refine Nat.mod_eq_of_lt ?_
 rcases d with rfl|rfl
 ·exact Nat.lt_trans h W6
 ·exact h
theorem uI{k:IntKind}(h:k= .i64∨k= .u32){n:Nat}(N:n<4294967296):k.wrap (n:Int)=n:=by
 rcases h with rfl|rfl
 ·rw[IntKind.wrap_i64];omega
 ·rw[IntKind.wrap_u32];omega
theorem mB{k:IntKind}(h:k= .i64∨k= .u32){a b:Nat}(A:a<4294967296)(B:b<4294967296):bits .xor k (a:Int) (b:Int)=((a ^^^ b:Nat):Int):=by
 show k.wrap ((BitVec.ofInt k.bits (a:Int) ^^^ BitVec.ofInt k.bits (b:Int)).toNat:Int)=_;rw[BitVec.toNat_xor,wB h A,wB h B,uI h (b6S A B)]
theorem c2g{k:IntKind}(h:k= .i64∨k= .u32){a b:Nat}(A:a<4294967296)(B:b<4294967296):bits .and k (a:Int) (b:Int)=((a&&&b:Nat):Int):=by
 show k.wrap ((BitVec.ofInt k.bits (a:Int)&&&BitVec.ofInt k.bits (b:Int)).toNat:Int)=_;rw[BitVec.toNat_and,wB h A,wB h B,uI h (b6z B)]
theorem c6j{k:IntKind}(h:k= .i64∨k= .u32){a b:Nat}(A:a<4294967296)(B:b<4294967296):bits .or k (a:Int) (b:Int)=((a|||b:Nat):Int):=by
 show k.wrap ((BitVec.ofInt k.bits (a:Int)|||BitVec.ofInt k.bits (b:Int)).toNat:Int)=_;rw[BitVec.toNat_or,wB h A,wB h B,uI h (b9Q A B)]
def a1t(r:Nat):Nat:=(r/2) ^^^ (r % 2*3988292384)
def O7(r c:Nat):Nat->Nat
 |0=>r ^^^ c
 |k+1=>a1t (O7 r c k)
def J6(l:Bz):Nat->Nat
 |0=>4294967295
 |i+1=>O7 (J6 l i) (l.getD i 0).toNat 8
def m7(l:Bz):Nat:=J6 l l.length ^^^ 4294967295
theorem b0X{r:Nat}(h:r<4294967296):a1t r<4294967296:=by
 have:r % 2*3988292384<2 ^ 32:=by have:=Nat.mod_lt r (show 0<2 by decide);omega
 exact Nat.xor_lt_two_pow (n:=32) Z9 this
theorem uM{r c:Nat}(h:r<4294967296)(C:c<256):∀k,O7 r c k<4294967296
 |0=>Nat.xor_lt_two_pow (n:=32) Z9 Z9
 |k+1=>b0X (uM h C k)
theorem zL(l:Bz)(i:Nat):(l.getD i 0).toNat<256:=(l.getD i 0).toNat_lt
theorem wK(l:Bz):∀i,J6 l i<4294967296
 |0=>show 4294967295<4294967296 by decide
 |i+1=>uM (wK l i) (zL l i) 8
theorem a1k(l:Bz):m7 l<4294967296:=Nat.xor_lt_two_pow (n:=32) (wK l _) W6
def m5(l:Bz):Prop:=l.length<=1000000000
theorem a8o(h:p:=by unfold m5;omega):p:=h
def vF(k:IntKind):Rl:=⟨Bz,λl=>[.bys l],λl=>.int k (m7 l),m5⟩
def a6E:Con:=.rel (vF .i64)
def b0g:Con:=.rel (vF .u32)
def a6z(l:Bz):Nat->Ann
 |0=>.one (Up l.length) (λx=>⟨[(0,.bys l),(3,Ji (J6 l x.1)),(4,Ji x.1)],[]⟩) (λx=>l.length-x.1) [] [] (λx=>fun
  |1=>.one {k:Nat//k<=8} (λy=>⟨[(0,.bys l),(3,Ji (O7 (J6 l x.1) (l.getD x.1 0).toNat y.1)),(4,Ji x.1),(5,Ji y.1)],[]⟩) (λy=>8-y.1) [] [] (λ_=>Y7)
  |_=>.none)
 |_=>.none
def b19(l:Bz):Nat->Ann
 |0=>.one (Up l.length) (λx=>⟨[(3,.int .u32 (J6 l x.1)),(6,.bys l),(7,Ji l.length),(8,Ji x.1)],[]⟩) (λx=>l.length-x.1) [] [] (λx=>fun
  |1=>.one {k:Nat//k<=8} (λy=>⟨[(3,.int .u32 (O7 (J6 l x.1) (l.getD x.1 0).toNat y.1)),(6,.bys l),(7,Ji l.length),(8,Ji x.1),(16,Ji y.1)],[]⟩) (λy=>8-y.1) [] [] (λ_=>Y7)
  |_=>.none)
 |_=>.none
theorem a8U{k:IntKind}(d:k= .i64∨k= .u32){r:Nat}(h:r<4294967296):bits .and k (r:Int) 1=((r % 2:Nat):Int):=by
 rw[show(1:Int)=((1:Nat):Int) from rfl,c2g d h W6,Nat.and_one_is_mod]
theorem c08(r:Nat):(r:Int).fdiv 2=((r/2:Nat):Int):=by
 rw[Int.fdiv_eq_ediv_of_nonneg _ Z9]
 omega
theorem lG:GK 280 a6E:=gk func280<|by
 intro(l:Bz) (hl:l.length<=1000000000);have k1:IntKind.i64= .i64∨IntKind.i64= .u32:=.inl rfl;refine S2 gN func280 (a6z l) (α:=(∃(x:Up l.length),(l=l/\4294967295=(↑(J6 l x.1):Int)/\0=(x.1:Int)/\True)/\True)/\∀(x:Up l.length),let u:=(J6 l x.1);let r:=(l.getD x.1 (0:UInt8)).toNat;let q:=(x.1:Int);bd (q<(l.length:Int)) (V6 q l.length/\(∃(X:{k:Nat//k<=8}),(l=l/\bits BinOp.xor IntKind.i64 (↑u:Int) (IntKind.i64.wrap (↑(l.getD q.toNat (0:UInt8)).toNat:Int))=(↑(O7 u r X.val):Int)/\q=q/\0=(X.val:Int)/\True)/\True)/\∀(X:{k:Nat//k<=8}),let v:=(X.val:Int);let p:=(↑(O7 u r X.val):Int);let z:=(bits BinOp.and IntKind.i64 p (1:Int)*3988292384);bd (v<8) (Nn (1:Int)/\Ri z/\Ri (v+1)/\∃(y:{k:Nat//k<=8}),((l=l/\bits BinOp.xor IntKind.i64 (p.fdiv (2:Int)) z=(↑(O7 u r y.1):Int)/\q=q/\v+1=(y.1:Int)/\True)/\True)/\Lt (8-y.1) (8-X.val)) (Ri (q+1)/\∃(y:Up l.length),((l=l/\p=(↑(J6 l y.1):Int)/\q+1=(y.1:Int)/\True)/\True)/\Lt (l.length-y.1) (l.length-x.1))) (bits BinOp.xor IntKind.i64 (↑u:Int) 4294967295=(↑(m7 l):Int))) ⟨⟨⟨0,N7 _⟩,⟨rfl,rfl,rfl,trivial⟩,trivial⟩,λx=>⟨λhc=>?_,λhc=>?_⟩⟩
 ·have hlt:=Y2 hc;have hr:=wK l x.1;have hb:=zL l x.1;refine⟨Y1 hlt,⟨⟨0,Z9⟩,⟨rfl,?_,rfl,rfl,trivial⟩,trivial⟩,λy=>⟨λhd=>?_,λhd=>?_⟩⟩
  ·rw[E8,uI k1 Z9,mB k1 hr Z9]
   rfl
  ·have hy:y.1<8:=by have:=D4 hd;omega
   have q:=uM hr hb y.1;have h:O7 (J6 l x.1) (l.getD x.1 0).toNat y.1 % 2*3988292384<4294967296:=by have:=Nat.mod_lt (O7 (J6 l x.1) (l.getD x.1 0).toNat y.1) (show 0<2 by decide);omega
   rw[a8U k1 q,c08,show((O7 (J6 l x.1) (l.getD x.1 0).toNat y.1 % 2:Nat):Int)*3988292384=((O7 (J6 l x.1) (l.getD x.1 0).toNat y.1 % 2*3988292384:Nat):Int) by omega,mB k1 Z9 h]
   refine⟨uD,Z3 Z9,Z3 Z9,⟨y.1+1,hy⟩,⟨⟨rfl,rfl,rfl,F9,trivial⟩,trivial⟩,oI⟩
  ·have hy:y.1=8:=by have:=y.2;have:=q8 hd;omega
   refine⟨V8 hlt Z9,⟨x.1+1,hlt⟩,⟨⟨rfl,?_,F9,trivial⟩,trivial⟩,V0.ext_lt hlt⟩
   rw[hy];rfl
 ·have hx:x.1=l.length:=by have:=x.2;have:=X7 hc;omega
  rw[hx,show(4294967295:Int)=((4294967295:Nat):Int) from rfl,mB k1 (wK l _) W6]
  rfl
theorem qB:GK 180 b0g:=gk func180<|by
 intro(l:Bz) (hl:l.length<=1000000000);have k1:IntKind.u32= .i64∨IntKind.u32= .u32:=.inr rfl;refine S2 gN func180 (b19 l) (α:=let q:=(l.length:Int);(∃(x:Up l.length),(4294967295=(↑(J6 l x.1):Int)/\l=l/\q=q/\0=(x.1:Int)/\True)/\True)/\∀(x:Up l.length),let u:=(J6 l x.1);let z:=(l.getD x.1 (0:UInt8)).toNat;let r:=(x.1:Int);bd (r<q) (V6 r l.length/\(∃(X:{k:Nat//k<=8}),(bits BinOp.xor IntKind.u32 (↑u:Int) (IntKind.u32.wrap (↑(l.getD r.toNat (0:UInt8)).toNat:Int))=(↑(O7 u z X.val):Int)/\l=l/\q=q/\r=r/\0=(X.val:Int)/\True)/\True)/\∀(X:{k:Nat//k<=8}),let v:=(X.val:Int);let p:=(↑(O7 u z X.val):Int);bd (v<8) (br (bits BinOp.and IntKind.u32 p (1:Int)==1) (Nn (1:Int)/\Ri (v+1)/\∃(y:{k:Nat//k<=8}),((bits BinOp.xor IntKind.u32 (p.fdiv (2:Int)) 3988292384=(↑(O7 u z y.1):Int)/\l=l/\q=q/\r=r/\v+1=(y.1:Int)/\True)/\True)/\Lt (8-y.1) (8-X.val)) (Nn (1:Int)/\Ri (v+1)/\∃(y:{k:Nat//k<=8}),((p.fdiv 2=(↑(O7 u z y.1):Int)/\l=l/\q=q/\r=r/\v+1=(y.1:Int)/\True)/\True)/\Lt (8-y.1) (8-X.val))) (Ri (r+1)/\∃(y:Up l.length),((p=(↑(J6 l y.1):Int)/\l=l/\q=q/\r+1=(y.1:Int)/\True)/\True)/\Lt (l.length-y.1) (l.length-x.1))) (bits BinOp.xor IntKind.u32 (↑u:Int) 4294967295=(↑(m7 l):Int))) ⟨⟨⟨0,N7 _⟩,⟨rfl,rfl,rfl,rfl,trivial⟩,trivial⟩,λx=>⟨λhc=>?_,λhc=>?_⟩⟩
 ·have hlt:=Y2 hc;have hr:=wK l x.1;have hb:=zL l x.1;refine⟨Y1 hlt,⟨⟨0,Z9⟩,⟨?_,rfl,rfl,rfl,rfl,trivial⟩,trivial⟩,λy=>⟨λhd=>?_,λhd=>?_⟩⟩
  ·rw[E8,uI k1 Z9,mB k1 hr Z9]
   rfl
  ·have hy:y.1<8:=by have:=D4 hd;omega
   have h:=uM hr hb y.1;rw[a8U k1 h,c08];refine⟨λho=>⟨uD,Z3 Z9,⟨y.1+1,hy⟩,⟨⟨?_,rfl,rfl,rfl,F9,trivial⟩,trivial⟩,oI⟩,
    λho=>⟨uD,Z3 Z9,⟨y.1+1,hy⟩,⟨⟨?_,rfl,rfl,rfl,F9,trivial⟩,trivial⟩,oI⟩⟩
   ·have ho:O7 (J6 l x.1) (l.getD x.1 0).toNat y.1 % 2=1:=by rw[beq_iff_eq] at ho;omega
    rw[show(3988292384:Int)=((3988292384:Nat):Int) from rfl,mB k1 Z9 W6]
    simp only[O7,a1t,ho,Nat.one_mul]
   ·have ho:O7 (J6 l x.1) (l.getD x.1 0).toNat y.1 % 2=0:=by
     have:¬ ((O7 (J6 l x.1) (l.getD x.1 0).toNat y.1 % 2:Nat):Int)=1:=by simpa using ho
     omega
    simp only[O7,a1t,ho,Nat.zero_mul,Nat.xor_zero]
  ·have hy:y.1=8:=by have:=y.2;have:=q8 hd;omega
   refine⟨V8 hlt Z9,⟨x.1+1,hlt⟩,⟨⟨?_,rfl,rfl,F9,trivial⟩,trivial⟩,V0.ext_lt hlt⟩
   rw[hy];rfl
 ·have hx:x.1=l.length:=by have:=x.2;have:=X7 hc;omega
  rw[hx,show(4294967295:Int)=((4294967295:Nat):Int) from rfl,mB k1 (wK l _) W6]
  rfl
def o5(l:Bz):Nat->Nat
 |0=>0
 |i+1=>o5 l i*256+(l.getD i 0).toNat
def be(l:Bz):Nat:=o5 l l.length
def oD(l:Bz):Prop:=l.length<=4
def a4Y:Rl:=⟨Bz,λl=>[.bys l],λl=>Ji (be l),oD⟩
def c52:Con:=.rel a4Y
def kA:Rl:=⟨Bz,λl=>[.str l],λl=>Ji (be l),oD⟩
def b8x:Con:=.rel kA
def b70(l:Bz):Nat->Ann
 |0=>.one (Up l.length) (λx=>⟨[(0,.str l),(3,Ji (o5 l x.1)),(4,Ji x.1)],[]⟩) (λx=>l.length-x.1) [] [] (λ_=>Y7)
 |_=>.none
def c5K(l:Bz):Nat->Ann
 |0=>.one (Up l.length) (λx=>⟨[(3,Ji (o5 l x.1)),(6,.bys l),(7,Ji l.length),(8,Ji x.1)],[]⟩) (λx=>l.length-x.1) [] [] (λ_=>Y7)
 |_=>.none
def b6s(n:Nat):Nat->Ann
 |0=>.unr n (λ_=>Y7)
 |_=>.none
def D5(n:Nat):Bz:=[R4 (IntKind.u8.wrap ((n:Int).fdiv 16777216)),R4 (IntKind.u8.wrap ((n:Int).fdiv 65536)),R4 (IntKind.u8.wrap ((n:Int).fdiv 256)),R4 (IntKind.u8.wrap ((n:Int).fdiv 1))]
def zS(n:Nat):Bz:=[R4 (IntKind.u8.wrap ((n:Int).fdiv 256)),R4 (IntKind.u8.wrap ((n:Int).fdiv 1))]
theorem O9(x:Int):P6 .u8 (IntKind.u8.wrap x):=by
 rw[IntKind.wrap_u8];unfold P6 IntKind.min IntKind.max IntKind.signed IntKind.bits;have:=Int.emod_nonneg x (show(256:Int)≠0 by decide)
 have:=Int.emod_lt_of_pos x (show(0:Int)<256 by decide)
 simp;omega
theorem yV(n:Int):P6 .u8 n↔(0<=n/\n<=255):=by
 unfold P6 IntKind.min IntKind.max IntKind.signed IntKind.bits;simp
def pC:Rl:=⟨Nat×Bool,λx=>[Ji x.1,Ji (match x.2 with|true=>4|false=>2)],λx=>.bys (match x.2 with|true=>D5 x.1|false=>zS x.1),λ_=>True⟩
def a4R:Con:=.rel pC
theorem uV:GK 220 a4R:=gk func220<|by
 rintro⟨n,b⟩ _;cases b
 ·refine S2 gN func220 (b6s 3) (α:=let r:=(List.map R4 []);let q:=(n:Int).fdiv;let p:=(List.take 0 r++List.take 1 (List.drop 0 (List.map R4 [IntKind.u8.wrap (q (256:Int))])));P6 .i64 1/\(true=true->P6 .i64 8/\Nn (8:Int)/\P6 IntKind.u8 (IntKind.u8.wrap (q (256:Int)))/\(Le 1 1/\Le 0 0/\U8 0 1 1)/\P6 .i64 0/\(true=true->P6 .i64 0/\Nn (0:Int)/\P6 IntKind.u8 (IntKind.u8.wrap (q (1:Int)))/\(Le (0+1) 1/\Le (0+1) 1/\U8 (0+1) 1 1)/\P6 .i64 (-1:Int)/\(false=true->P6 .i64 (-8:Int)/\Nn (18446744073709551608:Int)/\P6 IntKind.u8 (IntKind.u8.wrap (q (18446744073709551616:Int)))/\(Le (0+1) 1/\Le (0+1+1) 2/\U8 (0+1+1) 1 1)/\P6 .i64 (-2:Int)/\False)/\(false=false->Le 2 2/\List.take (0+1+1) (List.drop 0 (List.take (0+1) p++List.take 1 (List.drop 0 (List.map R4 [IntKind.u8.wrap (q (1:Int))]))))=zS n))/\(true=false->Le 1 1/\List.take (0+1) (List.drop 0 p)=zS n))/\(true=false->Le 0 0/\List.take 0 (List.drop 0 r)=zS n)) ?_
  simp[Z3,O9,Nn,Le,U8,zS]
 ·refine S2 gN func220 (b6s 5) (α:=let w:=(List.map R4 []);let v:=(0+1+1+1+1);let u:=(0+1+1+1);let z:=(n:Int).fdiv;let y:=(z (16777216:Int));let q:=(List.take 0 w++List.take 1 (List.drop 0 (List.map R4 [IntKind.u8.wrap y])));let p:=(List.take (0+1) q++List.take 1 (List.drop 0 (List.map R4 [IntKind.u8.wrap (z (65536:Int))])));let r:=(List.take (0+1+1) p++List.take 1 (List.drop 0 (List.map R4 [IntKind.u8.wrap (z (256:Int))])));P6 .i64 3/\(true=true->P6 .i64 24/\Nn (24:Int)/\P6 IntKind.u8 (IntKind.u8.wrap y)/\(Le 1 1/\Le 0 0/\U8 0 1 1)/\P6 .i64 2/\(true=true->P6 .i64 16/\Nn (16:Int)/\P6 IntKind.u8 (IntKind.u8.wrap (z (65536:Int)))/\(Le (0+1) 1/\Le (0+1) 1/\U8 (0+1) 1 1)/\P6 .i64 1/\(true=true->P6 .i64 8/\Nn (8:Int)/\P6 IntKind.u8 (IntKind.u8.wrap (z (256:Int)))/\(Le (0+1) 1/\Le (0+1+1) 2/\U8 (0+1+1) 1 1)/\P6 .i64 0/\(true=true->P6 .i64 0/\Nn (0:Int)/\P6 IntKind.u8 (IntKind.u8.wrap (z (1:Int)))/\(Le (0+1) 1/\Le u 3/\U8 u 1 1)/\P6 .i64 (-1:Int)/\(false=true->P6 .i64 (-8:Int)/\Nn (18446744073709551608:Int)/\P6 IntKind.u8 (IntKind.u8.wrap (z (18446744073709551616:Int)))/\(Le (0+1) 1/\Le v 4/\U8 v 1 1)/\P6 .i64 (-2:Int)/\False)/\(false=false->Le 4 4/\List.take v (List.drop 0 (List.take u r++List.take 1 (List.drop 0 (List.map R4 [IntKind.u8.wrap (z (1:Int))]))))=D5 n))/\(true=false->Le 3 3/\List.take u (List.drop 0 r)=D5 n))/\(true=false->Le 2 2/\List.take (0+1+1) (List.drop 0 p)=D5 n))/\(true=false->Le 1 1/\List.take (0+1) (List.drop 0 q)=D5 n))/\(true=false->Le 0 0/\List.take 0 (List.drop 0 w)=D5 n)) ?_
  simp[Z3,O9,Nn,Le,U8,D5]
theorem wD(l:Bz)(i:Nat):IntKind.i64.wrap ((l.getD i 0).toNat:Int)=((l.getD i 0).toNat:Int):=rV _
theorem a1P(l:Bz):∀i,o5 l i<256 ^ i
 |0=>by simp[o5]
 |i+1=>by
  have h:=a1P l i;have d:=zL l i;simp only[o5,Nat.pow_succ];omega
theorem a3Z(l:Bz){i:Nat}(h:i<=4):o5 l i<4294967296:=
 zH (a1P l i) (Nat.pow_le_pow_right (n:=256) W6 h)
theorem a3M(l:Bz){i:Nat}(h:i<4):o5 l i<16777216:=
 zH (a1P l i) (Nat.pow_le_pow_right (n:=256) W6 (show i<=3 by omega))
theorem dZ:GK 260 b8x:=gk func260<|by
 intro(l:Bz) (hl:l.length<=4);refine S2 gN func260 (b70 l) (α:=(∃(x:Up l.length),(l=l/\0=(↑(o5 l x.1):Int)/\0=(x.1:Int)/\True)/\True)/\∀(x:Up l.length),let r:=(x.1:Int);let q:=(↑(l.getD r.toNat (0:UInt8)).toNat:Int);let p:=(↑(o5 l x.1):Int);bd (r<(l.length:Int)) (Ri (p*256)/\V6 r l.length/\Ri (p*256+IntKind.i64.wrap q)/\Ri (r+1)/\∃(y:Up l.length),((l=l/\p*256+IntKind.i64.wrap q=(↑(o5 l y.1):Int)/\r+1=(y.1:Int)/\True)/\True)/\Lt (l.length-y.1) (l.length-x.1)) (p=(↑(be l):Int))) ⟨⟨⟨0,N7 _⟩,⟨rfl,rfl,rfl,trivial⟩,trivial⟩,λx=>⟨λhc=>?_,λhc=>?_⟩⟩
 ·have hlt:=Y2 hc;have hb:=zL l x.1;have hr:=a3M l (show x.1<4 by omega)
  rw[E8,wD];refine⟨Z3 Z9,Y1 hlt,Z3 Z9,V8 hlt Z9,⟨x.1+1,hlt⟩,⟨⟨rfl,?_,F9,trivial⟩,trivial⟩,V0.ext_lt hlt⟩
  simp only[o5];omega
 ·have hx:x.1=l.length:=by have:=x.2;have:=X7 hc;omega
  rw[hx];rfl
theorem a17:GK 151 c52:=gk func151<|by
 intro(l:Bz) (hl:l.length<=4);refine S2 gN func151 (c5K l) (α:=let p:=(l.length:Int);(∃(x:Up l.length),(0=(↑(o5 l x.1):Int)/\l=l/\p=p/\0=(x.1:Int)/\True)/\True)/\∀(x:Up l.length),let r:=(↑(o5 l x.1):Int);let q:=(x.1:Int);bd (q<p) (V6 q l.length/\Nn (8:Int)/\Ri (q+1)/\∃(y:Up l.length),((bits BinOp.or IntKind.i64 (IntKind.i64.wrap (r*256)) (IntKind.i64.wrap (↑(l.getD q.toNat (0:UInt8)).toNat:Int))=(↑(o5 l y.1):Int)/\l=l/\p=p/\q+1=(y.1:Int)/\True)/\True)/\Lt (l.length-y.1) (l.length-x.1)) (r=(↑(be l):Int))) ⟨⟨⟨0,N7 _⟩,⟨rfl,rfl,rfl,rfl,trivial⟩,trivial⟩,λx=>⟨λhc=>?_,λhc=>?_⟩⟩
 ·have hlt:=Y2 hc;have hb:=zL l x.1;have hr:=a3M l (show x.1<4 by omega)
  rw[E8,wD,show((o5 l x.1:Nat):Int)*256=((o5 l x.1*256:Nat):Int) by omega,uI (.inl rfl) Z9,c6j (.inl rfl) Z9 Z9]
  refine⟨Y1 hlt,uD,V8 hlt Z9,⟨x.1+1,hlt⟩,⟨⟨?_,rfl,rfl,F9,trivial⟩,trivial⟩,V0.ext_lt hlt⟩
  have:=Nat.two_pow_add_eq_or_of_lt (i:=8) (b:=(l.getD x.1 0).toNat) hb (o5 l x.1);rw[show o5 l x.1*256=2 ^ 8*o5 l x.1 by omega,←this]
  simp only[o5];omega
 ·have hx:x.1=l.length:=by have:=x.2;have:=X7 hc;omega
  rw[hx];rfl
def P4(b:Bz):Bool:=decide (4<=b.length)&&m7 (b.take (b.length-4))==be (b.drop (b.length-4))
def V7(b:Bz):Bz:=if P4 b then b.take (b.length-4) else[]
def uO:Rl:=⟨Bz,λb=>[.bys b],λb=>.tup [.bys (V7 b),.bool (P4 b)],m5⟩
def a6i:Con:=.rel uO
def a4n:Rl:=⟨Bz,λb=>[.str b],λb=>.tup [.str (V7 b),.bool (P4 b)],m5⟩
def a3i:Con:=.rel a4n
theorem tR:GK 233 a6i:=gk func233<|by
 intro(b:Bz) (hl:b.length<=1000000000);have hd:∀{p:Prop},(decide ((b.length:Int)-4<0)=false->p)↔(4<=b.length->p):=λ{p}=>⟨λh g=>h (sX Z9),λh g=>h a44⟩
 refine S2 (gC qB (gC a17 gN)) func233 Y7 (α:=let p:=(b.length:Int);let z:=(p-4).toNat;let r:=(decide (p-4<0)=false->iM (p-4) b.length);P6 .i64 (p-4)/\r/\∃(x:(vF IntKind.u32).ι),(decide (p-4<0)=false->(List.take z b=x/\True)/\m5 x)/\r/\∃(X:a4Y.ι),let q:=(decide (p-4<0)||IntKind.i64.wrap (↑(m7 x):Int) !=(↑(be X):Int));(decide (p-4<0)=false->(List.drop z b=X/\True)/\oD X)/\(q=true->V7 b=[]/\false=P4 b/\True)/\(q=false->iM (p-4) b.length/\List.take z b=V7 b/\true=P4 b/\True)) ?_
 refine⟨Z3 Z9,hd.2 λd=>⟨Z9,Z9⟩,b.take (b.length-4),hd.2 ?_,hd.2 λd=>⟨Z9,Z9⟩,b.drop (b.length-4),hd.2 ?_,?_⟩
 ·exact λd=>⟨⟨a8s,trivial⟩,by unfold m5;simp;omega⟩
 ·exact λd=>⟨⟨a8s,trivial⟩,by unfold oD;simp;omega⟩
 have e:(decide ((b.length:Int)-4<0)||IntKind.i64.wrap (m7 (b.take (b.length-4)):Int) !=(be (b.drop (b.length-4)):Int))= !P4 b:=by
  rw[uI (.inl rfl) (a1k _)];unfold P4;rw[Bool.eq_iff_iff];simp;omega
 rw[e];refine⟨λh=>?_,λh=>?_⟩
 ·have h:P4 b=false:=by simpa using h
  exact⟨by simp[V7,h],h.symm,trivial⟩
 ·have h:P4 b=true:=by simpa using h
  have d:4<=b.length:=by simp[P4] at h;exact h.1
  exact⟨⟨Z9,Z9⟩,by rw[show((b.length:Int)-4).toNat=b.length-4 by omega];simp[V7,h],h.symm,trivial⟩
theorem a0J:GK 258 a3i:=gk func258<|by
 intro(b:Bz) (hl:b.length<=1000000000);have hd:∀{p:Prop},(decide ((b.length:Int)-4<0)=false->p)↔(4<=b.length->p):=λ{p}=>⟨λh g=>h (sX Z9),λh g=>h a44⟩
 refine S2 (gC lG (gC dZ gN)) func258 Y7 (α:=let p:=(b.length:Int);let z:=(p-4).toNat;let r:=(decide (p-4<0)=false->iM (p-4) b.length);P6 .i64 (p-4)/\r/\(decide (p-4<0)=false->Lt (List.take z b).length 140737488355329)/\∃(x:(vF IntKind.i64).ι),(decide (p-4<0)=false->(List.take z b=x/\True)/\m5 x)/\r/\∃(X:kA.ι),let q:=(decide (p-4<0)||(↑(m7 x):Int) !=(↑(be X):Int));(decide (p-4<0)=false->(List.drop z b=X/\True)/\oD X)/\(q=true->[]=V7 b/\false=P4 b/\True)/\(q=false->iM (p-4) b.length/\List.take z b=V7 b/\true=P4 b/\True)) ?_
 refine⟨Z3 Z9,hd.2 λd=>⟨Z9,Z9⟩,hd.2 λd=>by unfold Lt;simp;omega,b.take (b.length-4),hd.2 ?_,hd.2 λd=>⟨Z9,Z9⟩,b.drop (b.length-4),hd.2 ?_,?_⟩
 ·exact λd=>⟨⟨a8s,trivial⟩,by unfold m5;simp;omega⟩
 ·exact λd=>⟨⟨a8s,trivial⟩,by unfold oD;simp;omega⟩
 have e:(decide ((b.length:Int)-4<0)||(m7 (b.take (b.length-4)):Int) !=(be (b.drop (b.length-4)):Int))= !P4 b:=by
  unfold P4;rw[Bool.eq_iff_iff];simp;omega
 rw[e];refine⟨λh=>?_,λh=>?_⟩
 ·have h:P4 b=false:=by simpa using h
  exact⟨by simp[V7,h],h.symm,trivial⟩
 ·have h:P4 b=true:=by simpa using h
  have d:4<=b.length:=by simp[P4] at h;exact h.1
  exact⟨⟨Z9,Z9⟩,by rw[show((b.length:Int)-4).toNat=b.length-4 by omega];simp[V7,h],h.symm,trivial⟩
def Z5(L:List (Bz))(i:Nat):List T:=[.str (L.getD i [])]
def xZ(L:List (Bz)):T:=.sl 1 L.length (Z5 L)
def w9(L:List (Bz)):Option Ob:=some (.arr true 0 1 L.length (Z5 L))
structure Fst where
 l:Bz
 fl:Bool
 out:List (Bz)
def Fst.step(s:Fst):Fst:=⟨R0 (s.l.drop 1) (numR s.l),(s.fl||s.l.isEmpty)||big (s.l.drop 1) (numR s.l),s.out++[T2 (s.l.drop 1) (numR s.l)]⟩
def Fst.go(s:Fst):Nat->Fst
 |0=>s
 |n+1=>Fst.step (Fst.go s n)
def fs0(l:Bz)(fl:Bool):Fst:=⟨l.drop 1,fl||l.isEmpty,[]⟩
def G4(l:Bz)(fl:Bool)(i:Nat):Fst:=Fst.go (fs0 l fl) i
def S4(l:Bz)(fl:Bool):Fst:=G4 l fl (numR l).toNat
theorem vL(l:Bz)(fl:Bool):∀i,(G4 l fl i).out.length=i
 |0=>rfl
 |i+1=>by
  have:=vL l fl i;simp only[G4] at this ⊢;simp[Fst.go,Fst.step,this]
def a3c:List T->Y5->Option (T×Y5×Option Prop)
 | [.ref 0 0 0],[some (.arr true _ 2 1 row)]=>match row 0 with
  | [.bys l,.bool fl]=>some (xZ (S4 l fl).out,[rdr (S4 l fl).l (S4 l fl).fl],none)
  |_=>none
 |_,_=>none
def b68:Con:=.eff a3c
def a4y(l:Bz)(fl:Bool):Nat->Ann
 |0=>.one (Up ((numR l).toNat)) (λx=>⟨[(0,.ref 0 0 0),(3,.osl 1 0 (G4 l fl x.1).out.length),(6,Ji (numR l)),(7,Ji x.1)],[rdr (G4 l fl x.1).l (G4 l fl x.1).fl,w9 (G4 l fl x.1).out]⟩) (λx=>(numR l).toNat-x.1) b7u [.box 0,.arr 3] (λ_=>Y7)
 |_=>.none
def wS(t:Bz):Nat->Option (Nat×List (Bz))
 |0=>some (1,[])
 |i+1=>match wS t i with
  |some (p,out)=>if p<t.length/\p+1+(t.getD p 0).toNat<=t.length then some (p+1+(t.getD p 0).toNat,out++[List.drop (p+1) (List.take (p+1+(t.getD p 0).toNat) t)]) else none
  |none=>none
def w6(t:Bz):Nat:=(t.getD 0 0).toNat
def K7(t:Bz):Option (List (Bz)):=if t.length=0∨w6 t>100 then none else match wS t (w6 t) with
 |some (p,out)=>if p=t.length then some out else none
 |none=>none
def bI:Rl:=⟨Bz,λt=>[.str t],λt=>.tup [xZ ((K7 t).getD []),.bool (K7 t).isSome],m5⟩
def b1Y:Con:=.rel bI
def b8b(t:Bz):Type:={x:Nat×Nat×List (Bz)//x.1<=w6 t/\wS t x.1=some x.2}
def b0L(t:Bz):Nat->Ann
 |0=>.one (b8b t) (λx=>⟨[(0,.str t),(4,.osl 0 0 x.1.2.2.length),(5,Ji x.1.2.1),(6,Ji (w6 t-x.1.1:Int))],[w9 x.1.2.2]⟩) (λx=>w6 t-x.1.1) [.arr 0] [.arr 2] (λ_=>Y7)
 |_=>.none
theorem oW(row row':Nat->List T):Z7 0 row row':=λi hi=>absurd hi (J9 i)
theorem W2(n:Nat)(row:Nat->List T):Z7 n row row:=λi _=>rfl
theorem a15(L:List (Bz))(s:Bz):Z7 (L.length+1) (X6 (Z5 L) L.length λk=>List.take 1 (List.drop (k*1) [T.str s])) (Z5 (L++[s])):=by
 intro i hi;by_cases h:i<L.length
 ·rw[N8 h];simp[Z5,tT h]
 ·obtain rfl:i=L.length:=by omega
  rw[O0 (U9 _),j_h];simp[Z5]
theorem cE:GK 234 b68:=gk func234<|by
 intro args H res H' p h hp;unfold a3c at h;split at h
 ·rename_i ty row;split at h
  ·rename_i l fl hrow;simp only[X4,U1] at h;obtain⟨rfl,rfl,rfl⟩:=h;refine sL (kG hrow) ?_
   have N:=u9 l;refine vcE (gC gE (gC rU gN)) func234 (a4y l fl) (bs:=[true]) (α:=let j:=(S4 l fl);(∃(x:Up ((numR l).toNat)),let q:=(G4 l fl x.1);((0=0/\0=0)/\(0=0/\0=q.out.length)/\numR l=numR l/\0=(x.1:Int)/\True)/\(oo (List.drop 1 l=q.l/\(fl||l.isEmpty)=q.fl/\True))/\(0=q.out.length/\Z7 0 (tk 1 []) (Z5 q.out))/\True)/\∀(x:Up ((numR l).toNat)),let w:=(x.1:Int);let p:=(G4 l fl x.1);let v:=(numR p.l);let u:=(List.drop 1 p.l);let z:=p.out.length;bd (w<numR l) (w2 v/\(Le 1 1/\Le p.out.length z/\U8 p.out.length 1 16)/\Ri (w+1)/\∃(y:Up ((numR l).toNat)),let r:=(G4 l fl y.1);(((0=0/\0=0)/\(0=0/\z+1=r.out.length)/\numR l=numR l/\w+1=(y.1:Int)/\True)/\(oo (R0 u v=r.l/\(p.fl||p.l.isEmpty||big u v)=r.fl/\True))/\(z+1=r.out.length/\Z7 (z+1) (X6 (Z5 p.out) p.out.length (tk 1 [T.str (T2 u v)])) (Z5 r.out))/\True)/\Lt ((numR l).toNat-y.1) ((numR l).toNat-x.1)) (Le (0+z) z/\(Z2 Z5 p.out j.out)/\(oo (p.l=j.l/\p.fl=j.fl/\True))/\True)) ⟨⟨⟨0,N7 _⟩,⟨⟨rfl,rfl⟩,⟨rfl,rfl⟩,rfl,rfl,trivial⟩,⟨rfl,rfl,rfl,rfl,trivial⟩,⟨rfl,oW _ _⟩,trivial⟩,λx=>⟨λhc=>?_,λhc=>?_⟩⟩
   ·have t:(x.1:Int)<numR l:=D4 hc;have n:=vL l fl x.1;have M:=u9 (G4 l fl x.1).l;refine⟨⟨M.1,Z9⟩,⟨U9 _,U9 _,Z9,Z9⟩,Z3 Z9,⟨x.1+1,Z9⟩,⟨⟨⟨rfl,rfl⟩,⟨rfl,(congrArg (· +1) n).trans (vL l fl (x.1+1)).symm⟩,rfl,F9,trivial⟩,⟨rfl,rfl,rfl,rfl,trivial⟩,⟨(congrArg (· +1) n).trans (vL l fl (x.1+1)).symm,a15 _ _⟩,trivial⟩,oI⟩
   ·have hge:¬ (x.1:Int)<numR l:=q8 hc;have hx:=x.2;have he:x.1=(numR l).toNat:=by omega
    rw[he];exact⟨K2,⟨rfl,W2 _ _⟩,⟨rfl,rfl,rfl,rfl,trivial⟩,trivial⟩
  ·cases h
 ·cases h
theorem a0Q{t:Bz}:∀{i:Nat} {x:Nat×List (Bz)},wS t i=some x->x.2.length=i
 |0,x,h=>by simp only[wS,X4] at h;subst h;rfl
 |i+1,x,h=>by
  simp only[wS] at h;split at h
  ·rename_i p out ho;split at h
   ·simp only[X4] at h;subst h;simp[a0Q ho]
   ·cases h
  ·cases h
theorem a8G{t:Bz}{i p:Nat}{out:List (Bz)}(h:wS t i=some (p,out)):wS t (i+1)=if p<t.length/\p+1+(t.getD p 0).toNat<=t.length then some (p+1+(t.getD p 0).toNat,out++[List.drop (p+1) (List.take (p+1+(t.getD p 0).toNat) t)]) else none:=by
 simp only[wS,h]
theorem a04{t:Bz}{i:Nat}(h:wS t i=none):∀j,wS t (i+j)=none
 |0=>h
 |j+1=>by
  have:=a04 h j;rw[show i+(j+1)=(i+j)+1 by omega]
  simp only[wS,this]
theorem a54:GK 259 b1Y:=gk func259<|by
 intro(t:Bz) (hl:t.length<=1000000000);have B:=zL t;have N:((t.getD 0 0).toNat:Int)=(w6 t:Int):=rfl;have d:(t==[])=false->0<t.length:=λh=>List.length_pos_iff.2 D3
 refine S2 gN func259 (b0L t) (α:=let n:=((K7 t).getD []);let k:=(↑(t.getD 0 (0:UInt8)).toNat:Int);let w:=(↑(w6 t):Int);let v:=(t.length:Int);let r:=(Le 0 0/\(0=n.length/\Z7 0 (tk 1 []) (Z5 n))/\false=(K7 t).isSome/\True);((t==[])=false->V6 (0:Int) t.length)/\br (t==[]||decide (k>100)) r (V6 (0:Int) t.length/\(∃(x:b8b t),let f:=x.1.2;(t=t/\(0=0/\0=f.2.length)/\1=(f.1:Int)/\IntKind.i64.wrap k=w- (x.1.1:Int)/\True)/\(0=f.2.length/\Z7 0 (tk 1 []) (Z5 f.2))/\True)/\∀(x:b8b t),let m:=x.1;let a:=(m.1:Int);let z:=m.2.2.length;let q:=(m.2.1:Int);let p:=(↑(t.getD q.toNat (0:UInt8)).toNat:Int);let j:=(1+IntKind.i64.wrap p);let u:=(q+1+IntKind.i64.wrap p);bd (w- a>0) ((decide (q≥v)=false->Ri (q+1))/\(decide (q≥v)=false->V6 q t.length)/\(decide (q≥v)=false->Ri u)/\br (decide (q≥v)||decide (q+1+IntKind.i64.wrap p>v)) r (V6 q t.length/\Ri (q+1)/\Ri (q+1)/\Ri u/\b0s (q+1) u t.length/\(Le 1 1/\Le m.2.2.length z/\U8 m.2.2.length 1 16)/\Ri j/\Ri (q+j)/\Ri (w- a-1)/\∃(y:b8b t),let g:=y.1;((t=t/\(0=0/\z+1=g.2.2.length)/\q+j=(g.2.1:Int)/\w- a-1=w- (g.1:Int)/\True)/\(z+1=g.2.2.length/\Z7 (z+1) (X6 (Z5 m.2.2) m.2.2.length (tk 1 [T.str (List.drop (q+1).toNat (List.take u.toNat t))])) (Z5 g.2.2))/\True)/\Lt (w6 t-g.1) (w6 t-m.1))) (br (q !=v) r (Le (0+z) z/\(Z2 Z5 m.2.2 n)/\true=(K7 t).isSome/\True)))) ⟨λh=>⟨Z9,by have:=d h;omega⟩,λh=>?_,λh=>?_⟩
 ·have n:K7 t=none:=by
   unfold K7;rw[if_pos];simp only[qR,beq_iff_eq,i5] at h;rcases h with h|h
   ·exact .inl eZ
   ·exact .inr Z9
  rw[n];exact⟨U9 _,⟨rfl,oW _ _⟩,rfl,trivial⟩
 simp only[yY,pT] at h;have e:0<t.length:=d h.1;have l:K7 t=match wS t (w6 t) with
  |some (p,out)=>if p=t.length then some out else none
  |none=>none:=by
  unfold K7;rw[if_neg Z9]
 refine⟨⟨Z9,Z9⟩,⟨⟨(0,1,[]),N7 _,rfl⟩,⟨rfl,⟨rfl,rfl⟩,rfl,by rw[wD,N];simp,trivial⟩,⟨rfl,oW _ _⟩,trivial⟩,λx=>?_⟩
 obtain⟨⟨i,p,out⟩,hi,X⟩:=x;simp only at hi X ⊢;have f:out.length=i:=a0Q X;rw[E8,wD];have j:=B p;refine⟨λhc=>?_,λhc=>?_⟩
 ·have hlt:i<w6 t:=by have:=D4 hc;omega
  have hst:=a8G X;refine⟨λg=>Z3 a44,λg=>⟨Z9,a44⟩,λg=>Z3 a44,λg=>?_,λg=>?_⟩
  ·have n:K7 t=none:=by
    rw[if_neg (by simp only[qR,i5] at g;omega)] at hst
    rw[l];have:=a04 hst (w6 t- (i+1));rw[show i+1+(w6 t- (i+1))=w6 t by omega] at this
    rw[this]
   rw[n];exact⟨U9 _,⟨rfl,oW _ _⟩,rfl,trivial⟩
  ·simp only[yY,pT] at g;rw[if_pos Z9] at hst
   refine⟨⟨Z9,Z9⟩,Z3 Z9,Z3 Z9,Z3 Z9,⟨Z9,Z9,Z9⟩,⟨U9 _,U9 _,Z9,Z9⟩,Z3 Z9,Z3 Z9,Z3 Z9,
    ⟨(i+1,_,_),hlt,hst⟩,⟨⟨z7,⟨z7,X3⟩,F9,F9,trivial⟩,⟨X3,?_⟩,trivial⟩,oI⟩
   rw[show((p:Int)+1).toNat=p+1 by omega,show((p:Int)+1+((t.getD p 0).toNat:Int)).toNat=p+1+(t.getD p 0).toNat by omega]
   exact a15 _ _
 ·have he:i=w6 t:=by have:=q8 hc;omega
  subst he;rw[X] at l;simp only at l;refine⟨λg=>?_,λg=>?_⟩
  ·have n:K7 t=none:=by
    rw[l,if_neg (by simp only[bne_iff_ne,ne_eq] at g;omega)]
   rw[n];exact⟨U9 _,⟨rfl,oW _ _⟩,rfl,trivial⟩
  ·have n:K7 t=some out:=by
    rw[l,if_pos (by simp only[bne_eq_false_iff_eq] at g;omega)]
   rw[n];exact⟨K2,⟨rfl,W2 _ _⟩,rfl,trivial⟩
end
end Go.Proofs.YtlbmgnomkjmafaaGreat
