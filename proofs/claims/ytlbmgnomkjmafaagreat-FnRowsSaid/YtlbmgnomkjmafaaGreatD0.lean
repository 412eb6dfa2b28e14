/- A part of the proof. -/
import Derived.Test.YtlbmgnomkjmafaaGreatRows
import Derived.Test.YtlbmgnomkjmafaaGreatSS13
import Derived.Laws.BitsLemmas
namespace Go.Proofs.YtlbmgnomkjmafaaGreat
set_option maxRecDepth 100000
open Go.SS Go.Proofs.Tryz
variable{p:Prop}
noncomputable section
abbrev Ji(n:Int):T:=.int .i64 n
abbrev dz:=@default
theorem b4K(h:p:=by show(1:Int)<=(e.s.L.length:Int)+1;omega):p:=h
def Y9:Nat->Ann:=λ_=>.none
theorem mixed:prog.follows .mixedOrders=true:=O0
theorem leB{a b:Nat}(h:Nat.ble a b=true):a<=b:=zP h
theorem c3E:C6 prog []:=λ_ h=>J6
theorem b4l:∀x ∈ ([]:I5),Q2 prog x.1:=λ_ h=>J6
theorem c0K{f:FuncId}{c:Con}{G:I5}(h:a5i prog f c)(k:C6 prog G):C6 prog ((f,c)::G):=λx hx=>by
 rcases vT.1 hx with rfl|hx
 ·exact h
 ·exact k x hx
theorem b0M{f:FuncId}{c:Con}{G:I5}(h:Q2 prog f)(k:∀x ∈ G,Q2 prog x.1):∀x ∈ (f,c)::G,Q2 prog x.1:=λx hx=>by
 rcases vT.1 hx with rfl|hx
 ·exact h
 ·exact k x hx
def GG(G:I5):Prop:=C6 prog G/\∀x ∈ G,Q2 prog x.1
theorem gN:GG []:=⟨c3E,b4l⟩
abbrev br(b:Bool)(p q:Prop):Prop:=(b=true->p)/\(b=false->q)
abbrev bd(c:Prop)[Decidable c](p q:Prop):Prop:=br (decide c) p q
abbrev Up(n:Nat):Type:={i:Nat//i<=n}
abbrev Ri(n:Int):Prop:=O7 .i64 n
abbrev tk(n:Nat)(l:List T)(k:Nat):List T:=List.take n (List.drop (k*n) l)
abbrev T8(p:Prop):Prop:=True/\True/\True/\True/\True/\True/\True/\True/\p
abbrev oo(p:Prop):Prop:=1=1/\1=1/\p
def uY:List Lk:=[.box 0,.box 1]
def a5h:List (List Lk):=[[.box 0]]
def a8w:List (List Lk):=[[.box 0,.arr 1,.arr 2,.arr 3,.arr 4,.arr 5,.arr 6,.arr 7,.arr 8,.cel 0 0,.cel 0 1,.cel 0 3,.cel 0 5,.cel 0 7,.cel 0 10,.cel 0 11,.cel 0 12]]
def c8g:List Lk:=[.box 0,.arr 1,.arr 2,.arr 3,.arr 4,.arr 5,.arr 6,.arr 7,.arr 8,.cel 0 0,.cel 0 1,.cel 0 3,.cel 0 5,.cel 0 7,.cel 0 10,.cel 0 11,.cel 0 12]
def b3H:List Lk:=[.box 0,.at_ 5]
def b7D:List Lk:=[.box 0,.box 1,.box 2,.cel 2 0,.cel 2 1]
def b3V:List Lk:=[.arr 0,.box 1]
def b9M:List Lk:=[.box 0,.arr 1]
def b9v:List Lk:=[.box 0,.at_ 7,.at_ 8]
def c0n:List Lk:=[.box 0,.box 1,.arr 2,.arr 3,.arr 4,.arr 5,.arr 6,.arr 7,.arr 8,.arr 9,.cel 1 0,.cel 1 1,.cel 1 3,.cel 1 5,.cel 1 7,.cel 1 10,.cel 1 11,.cel 1 12,.at_ 6]
def a80:List Lk:=[.box 0,.arr 1,.arr 2,.arr 3,.arr 4,.arr 5,.arr 6,.arr 7,.arr 8,.box 9,.box 10,.box 11,.box 12,.cel 0 0,.cel 0 1,.cel 0 3,.cel 0 5,.cel 0 7,.cel 0 10,.cel 0 11,.cel 0 12]
def b6U:List (List Lk):=[[.arr 1],[.nilS 0 [] 0 2,.arr 0]]
def c8b:List Lk:=[.nilS 0 [] 0 2,.arr 0]
def b4E:List Lk:=[.box 0,.box 1,.box 2]
def c13:List Lk:=[.arr 2,.arr 3,.arr 4,.arr 5,.arr 6]
def c2x:List Lk:=[.box 0,.arr 1,.arr 2,.arr 3,.arr 4,.arr 5,.arr 8]
def c2j:List Lk:=[.box 0,.arr 1,.arr 2,.arr 3,.arr 4,.arr 5,.arr 6]
def c1T:List Lk:=[.box 0,.arr 1,.arr 2,.arr 3,.arr 4,.arr 5]
def c12:List Lk:=[.box 0,.arr 1,.arr 2,.arr 3,.arr 4,.arr 5,.arr 7,.arr 8]
def c1D:List Lk:=[.box 0,.arr 1,.arr 2,.arr 3,.arr 4,.arr 5,.arr 2,.arr 3]
def c2k:List Lk:=[.box 0,.box 1,.box 5,.arr 2,.arr 3,.arr 4]
def c1W:List Lk:=[.box 0,.box 1,.box 2,.arr 3,.arr 4,.arr 5]
def c1E:List (List Lk):=[[.box 0,.arr 1,.arr 2,.arr 3,.arr 4,.arr 5,.arr 6,.arr 7,.arr 5],[.box 0,.arr 1,.arr 2,.arr 3,.arr 4,.arr 5,.arr 2,.arr 3,.arr 7],[.box 0,.arr 1,.arr 2,.arr 3,.arr 4,.arr 5,.arr 2,.arr 3,.arr 5]]
def c8f:List Lk:=[.box 0,.arr 1,.arr 2,.arr 3,.arr 4,.arr 5,.arr 6,.arr 7,.arr 5]
def c8c:List Lk:=[.box 0,.arr 1,.arr 2,.arr 3,.arr 4,.arr 5,.arr 2,.arr 3,.arr 7]
def c8d:List Lk:=[.box 0,.arr 1,.arr 2,.arr 3,.arr 4,.arr 5,.arr 2,.arr 3,.arr 5]
def c2D:List (List Lk):=[[.box 0,.arr 1,.arr 2,.arr 3,.arr 4,.arr 5,.arr 7,.arr 8,.arr 9]]
def c8e:List Lk:=[.box 0,.arr 1,.arr 2,.arr 3,.arr 4,.arr 5,.arr 7,.arr 8,.arr 9]
def c2H:List Lk:=[.arr 0,.arr 1,.box 2,.box 3,.at_ 5]
def c1X:List Lk:=[.box 0,.box 1,.box 2,.cel 2 0,.cel 2 1,.at_ 13,.box 6,.box 7]
def c1C:List Lk:=[.box 0,.arr 1,.arr 2,.arr 3,.arr 4,.arr 5,.arr 6,.arr 7,.arr 8,.box 9,.at_ 5]
def c2z:List Lk:=[.box 0,.box 1,.at_ 7,.box 3,.box 4]
def GK(f:FuncId)(c:Con):Prop:=a5i prog f c/\Q2 prog f
theorem gk{f:FuncId}{c:Con}{fn:Func}(h:prog.funcs[f]? =some fn)(k:a5i prog f c)(a:(fn.name== "runtime.NumGoroutine")=false:=by kernel_rfl)(b:fn.body.isNone=false:=by kernel_rfl):GK f c:=⟨k,fn,h,a,b⟩
theorem gC{f:FuncId}{c:Con}{G:I5}(h:GK f c)(r:GG G):GG ((f,c)::G):=⟨c0K h.1 r.1,b0M h.2 r.2⟩
theorem S1{G:I5}{f:FuncId}{fn:Func}{args:List T}{res:T}(g:GG G)(F:prog.funcs[f]? =some fn)(A:Nat->Ann){α:Prop}(h:α)(B:fn.body=some (fn.body.getD .skip):=by kernel_rfl)(n:Nat.ble args.length fn.ntmps=true:=by kernel_rfl)(e:α=c5M prog G fn.ntmps fn.results.toList (fn.body.getD .skip) args res A:=by kernel_rfl):V4 prog f args res:=
 c6r mixed g.1 g.2 F B (leB n) A (Eq.mp e h)
theorem c1L{q r:Sort _}{a:q}{b:r}:a=a/\b=b:=⟨rfl,rfl⟩
theorem c2y{q:Sort _}{a:q}{n:Nat}{r:Nat->List T}:a=a/\Z7 n r r:=⟨rfl,λ_ _=>rfl⟩
theorem c74{q0:Sort _}{a0:q0}{q1:Sort _}{a1:q1}:a0=a0/\a1=a1/\True:=⟨rfl,rfl,trivial⟩
theorem c7G:True/\True:=⟨trivial,trivial⟩
theorem r5{G:I5}{f:FuncId}{fn:Func}{args:List T}{H Hres:Y4}{res:T}(g:GG G)(F:prog.funcs[f]? =some fn)(A:Nat->Ann)(lk:List (List Lk)){α:Prop}(h:α)(B:fn.body=some (fn.body.getD .skip):=by kernel_rfl)(n:Nat.ble args.length fn.ntmps=true:=by kernel_rfl)(e:α=c2w prog G fn.ntmps fn.results.toList (fn.body.getD .skip) args H res Hres A lk:=by kernel_rfl):H6 prog f args H res Hres:=
 c3o mixed g.1 g.2 F B (leB n) A lk (Eq.mp e h)
theorem vcE{G:I5}{f:FuncId}{fn:Func}{args:List T}{H Hres:Y4}{bs:List Bool}{res:T}(g:GG G)(F:prog.funcs[f]? =some fn)(A:Nat->Ann){α:Prop}(h:α)(B:fn.body=some (fn.body.getD .skip):=by kernel_rfl)(n:Nat.ble args.length fn.ntmps=true:=by kernel_rfl)(e:α=c2s prog G fn.ntmps fn.results.toList (fn.body.getD .skip) args H bs res Hres A:=by kernel_rfl)(hl:H.length=bs.length:=by rfl):H6 prog f args H res Hres:=
 c3f mixed g.1 g.2 F B (leB n) hl A (Eq.mp e h)
abbrev Z2{α:Type}(row:List α->Nat->List T)(A B:List α):Prop:=A.length=B.length/\Z7 A.length (row A) (row B)
theorem Z3{n:Int}(h: -9223372036854775808<=n/\n<=9223372036854775807):O7 .i64 n:=by
 unfold O7;simp only[IntKind.min,IntKind.max,IntKind.bits,IntKind.signed];simp;omega
theorem c03(n:Int):O7 .i64 n↔(-9223372036854775808<=n/\n<=9223372036854775807):=by
 unfold O7;simp only[IntKind.min,IntKind.max,IntKind.bits,IntKind.signed];simp
theorem vF(x:UInt8):IntKind.i64.wrap (x.toNat:Int)=x.toNat:=by
 have:=x.toNat_lt;rw[IntKind.wrap_i64];omega
def r6(n:Int):Prop:= -1000000000000000<=n/\n<=1000000000000000
theorem b71(h:p:=by unfold r6;dsimp only;omega):p:=h
def V9(n l hi:Int):Bool:=decide (l<=n)&&decide (n<=hi)
def rL:List T->Option (T×Option Prop)
 | [.int .i64 n,.int .i64 lo,.int .i64 hi]=>some (.bool (V9 n lo hi),none)
 |_=>none
def b3h:Con:=.pure rL
theorem b24(n l hi:Int)(h:
  (decide (l<=n)&&decide (n<=hi))=V9 n l hi):
  V4 prog 55 [Ji n,Ji l,Ji hi] (.bool (V9 n l hi)):=
 S1 gN func55 Y9 h
theorem M0:GK 55 b3h:=gk func55<|by
 intro args res p h hp;unfold rL at h;split at h
 ·simp only[X2,U0] at h;obtain⟨rfl,rfl⟩:=h;exact b24 _ _ _ rfl
 ·cases h
def c1l:Con:=.pure rL
theorem c0m(n l hi:Int)(h:
  (decide (l<=n)&&decide (n<=hi))=V9 n l hi):
  V4 prog 35 [Ji n,Ji l,Ji hi] (.bool (V9 n l hi)):=
 S1 gN func35 Y9 h
theorem D0:GK 35 c1l:=gk func35<|by
 intro args res p h hp;unfold rL at h;split at h
 ·simp only[X2,U0] at h;obtain⟨rfl,rfl⟩:=h;exact c0m _ _ _ rfl
 ·cases h
def a0h:List T->Option (T×Option Prop)
 | [.int .i64 n,.int .i64 m]=>some (.bool (decide (0<=n)&&decide (n<m)),some (r6 m))
 |_=>none
def b0P:Con:=.pure a0h
theorem b0T(n m:Int)(h:
  Ri (m-1)/\V9 n (0:Int) (m-1)=(decide (0<=n)&&decide (n<m))):
  V4 prog 96 [Ji n,Ji m] (.bool (decide (0<=n)&&decide (n<m))):=
 S1 (gC M0 gN) func96 Y9 h
theorem uB:GK 96 b0P:=gk func96<|by
 intro args res p h hp;unfold a0h at h;split at h
 ·simp only[X2,U0] at h;obtain⟨rfl,rfl⟩:=h;have hp:r6 _:=hp;unfold r6 at hp;refine b0T _ _ ⟨Z3 Z9,?_⟩
  unfold V9;congr 1
  exact decide_eq_decide.2 Z9
 ·cases h
def big(l:Bz)(n:Int):Bool:=decide (n>(l.length:Int))
def T7(l:Bz)(n:Int):Bz:=if big l n then List.replicate n.toNat 0 else l.take n.toNat
def R0(l:Bz)(n:Int):Bz:=if big l n then l else l.drop n.toNat
def rdr(l:Bz)(fl:Bool):Option Ob:=some (.arr true 1000000 2 1 λ_=>[.bys l,.bool fl])
def v6(n:Int):Prop:=0<=n/\n<140737488355328
theorem jK{ty:TypeId}{row:Nat->List T}{l:Bz}{fl:Bool}(h:row 0=[.bys l,.bool fl]):b9H [some (.arr true ty 2 1 row)] [rdr l fl]:=
 ⟨.rows _ _ _ _ _ _ _ λi hi=>by(obtain rfl:i=0:=by omega);exact h,trivial⟩
def b4O:List T->Y4->Option (T×Y4×Option Prop)
 | [.ref 0 0 0,.int .i64 n],[some (.arr true _ 2 1 row)]=>match row 0 with
  | [.bys l,.bool fl]=>some (.bys (T7 l n),[rdr (R0 l n) (fl||big l n)],some (v6 n))
  |_=>none
 |_,_=>none
def c5o:Con:=.eff b4O
theorem rA:GK 152 c5o:=gk func152<|by
 intro args H res H' p h hp;unfold b4O at h;split at h
 ·rename_i n ty row;split at h
  ·rename_i l fl hrow;simp only[X2,U0] at h;obtain⟨rfl,rfl,rfl⟩:=h;obtain⟨h0,h1⟩:v6 n:=hp;refine rQ (jK hrow) ?_
   refine vcE gN func152 Y9 (bs:=[true]) (α:=let p:=(List.replicate n.toNat (0:UInt8));bd (n>(l.length:Int)) ((Nn n/\LeI n n/\mK 1 n.toNat 140737488355328/\Lt n.toNat 9223372036854775808)/\Le (0+n.toNat) p.length/\List.take n.toNat (List.drop 0 p)=T7 l n/\(oo (l=R0 l n/\true=(fl||big l n)/\True))/\True) (jH n l.length/\jH n l.length/\List.take n.toNat l=T7 l n/\(oo (List.drop n.toNat l=R0 l n/\fl=(fl||big l n)/\True))/\True)) ⟨λhb=>?_,λhb=>?_⟩
   ·have hbig:big l n=true:=hb;refine⟨⟨h0,Int.le_refl _,a5m,H9⟩,by unfold Le;simp,?_,⟨rfl,rfl,?_,?_,trivial⟩,trivial⟩
    ·simp[T7,hbig]
    ·simp[R0,hbig]
    ·simp[hbig]
   ·have hbig:big l n=false:=hb;have hle:n<=l.length:=by simpa[big] using hbig
    refine⟨⟨h0,hle⟩,⟨h0,hle⟩,?_,⟨rfl,rfl,?_,?_,trivial⟩,trivial⟩
    ·simp[T7,hbig]
    ·simp[R0,hbig]
    ·simp[hbig]
  ·cases h
 ·cases h
def numR(l:Bz):Int:=(l.getD 0 0).toNat
def c2d:List T->Y4->Option (T×Y4×Option Prop)
 | [.ref 0 0 0],[some (.arr true _ 2 1 row)]=>match row 0 with
  | [.bys l,.bool fl]=>some (.int .i64 (numR l),[rdr (l.drop 1) (fl||l.isEmpty)],none)
  |_=>none
 |_,_=>none
def c7w:Con:=.eff c2d
theorem a1x:GK 150 c7w:=gk func150<|by
 intro args H res H' p h hp;unfold c2d at h;split at h
 ·rename_i ty row;split at h
  ·rename_i l fl hrow;simp only[X2,U0] at h;obtain⟨rfl,rfl,rfl⟩:=h;refine rQ (jK hrow) ?_
   refine vcE (gC rA gN) func150 Y9 (bs:=[true]) (α:=v6 (1:Int)/\V7 (0:Int) (T7 l (1:Int)).length/\IntKind.i64.wrap (↑((T7 l (1:Int)).getD 0 (0:UInt8)).toNat:Int)=numR l/\(1=1/\1=1/\R0 l 1=List.drop 1 l/\(fl||big l (1:Int))=(fl||l.isEmpty)/\True)/\True) ?_
   have e:∀x:UInt8,IntKind.i64.wrap (x.toNat:Int)=x.toNat:=λx=>by
    have:=x.toNat_lt;rw[IntKind.wrap_i64];omega
   have d:IntKind.i64.wrap 0=0:=X1
   cases l with
   |nil=>refine⟨⟨Z9,Z9⟩,by simp[V7,T7,big],?_,⟨rfl,rfl,?_,?_,trivial⟩,trivial⟩<;>simp[T7,R0,big,numR,d]
   |cons a l=>
    have B:big (a::l) 1=false:=by simp[big];omega
    refine⟨⟨Z9,Z9⟩,by simp[V7,T7,B],?_,⟨rfl,rfl,?_,?_,trivial⟩,trivial⟩<;>simp[T7,R0,B,numR,e]
  ·cases h
 ·cases h
def a2K:List T->Option (T×Option Prop)
 | [.bref [.bys l,.bool fl]]=>some (.bool (!fl&&l.isEmpty),none)
 |_=>none
def b3S:Con:=.pure a2K
theorem lK:GK 235 b3S:=gk func235<|by
 intro args res p h hp;unfold a2K at h;split at h
 ·rename_i l fl;simp only[X2,U0] at h;obtain⟨rfl,rfl⟩:=h;refine S1 gN func235 Y9 (α:=(!fl&&(l.length:Int)==0)=(!fl&&l.isEmpty)) ?_
  cases l with
  |nil=>simp
  |cons a l=>
   have:((((a::l).length:Nat):Int)==0)=false:=by simp;omega
   rw[this];simp
 ·cases h
structure RdSt where
 l:Bz
 fl:Bool
 ok:Bool
 bef:Int
def RdSt.step(hi lsn:Int)(s:RdSt):RdSt:=
 ⟨(s.l.drop 1).drop 1,(s.fl||s.l.isEmpty)||(s.l.drop 1).isEmpty,s.ok&&V9 (numR s.l) (s.bef+1) hi&&V9 (numR (s.l.drop 1)) 1 (lsn-1),numR s.l⟩
def RdSt.go(hi lsn:Int)(s:RdSt):Nat->RdSt
 |0=>s
 |n+1=>RdSt.step hi lsn (RdSt.go hi lsn s n)
def vA(t o:Int)(l:Bz)(fl:Bool):RdSt:=⟨l.drop 1,fl||l.isEmpty,decide (numR l<=t),o-1⟩
def M9(t o hi lsn:Int)(l:Bz)(fl:Bool):RdSt:=RdSt.go hi lsn (vA t o l fl) (numR l).toNat
def Okb(l lsn:Int):Prop:= -1000000000000<=l/\l<=1000000000000/\ -1000000000000<=lsn/\lsn<=1000000000000
def jU:List T->Y4->Option (T×Y4×Option Prop)
 | [.ref 0 0 0,.int .i64 most,.int .i64 lo,.int .i64 hi,.int .i64 lsn],[some (.arr true _ 2 1 row)]=>match row 0 with
  | [.bys l,.bool fl]=>some (.bool ((M9 most lo hi lsn l fl).ok&& !(M9 most lo hi lsn l fl).fl),[rdr (M9 most lo hi lsn l fl).l (M9 most lo hi lsn l fl).fl],some (Okb lo lsn))
  |_=>none
 |_,_=>none
def a4V:Con:=.eff jU
def I25(t o hi lsn:Int)(l:Bz)(fl:Bool)(x:Up ((numR l).toNat)):Sy:=
 ⟨[(0,.ref 0 0 0),(3,Ji hi),(4,Ji lsn),(12,.bool (RdSt.go hi lsn (vA t o l fl) x.1).ok),(13,Ji (RdSt.go hi lsn (vA t o l fl) x.1).bef),(23,Ji (numR l)),(24,Ji x.1)],
  [rdr (RdSt.go hi lsn (vA t o l fl) x.1).l (RdSt.go hi lsn (vA t o l fl) x.1).fl]⟩
def A25(t o hi lsn:Int)(l:Bz)(fl:Bool):Nat->Ann
 |0=>.one (Up ((numR l).toNat)) (I25 t o hi lsn l fl) (λx=>(numR l).toNat-x.1) [.box 0] [.box 0] (λ_=>Y9)
 |_=>.none
theorem u6(l:Bz):0<=numR l/\numR l<=255:=by
 unfold numR;have:=(l.getD 0 0).toNat_lt;omega
theorem c2P(hi lsn o t:Int)(l:Bz)(fl:Bool)(h: -1000000000000<=o/\o<=1000000000000)(n:Nat):
  -2000000000000<=(RdSt.go hi lsn (vA t o l fl) n).bef/\(RdSt.go hi lsn (vA t o l fl) n).bef<=2000000000000:=by
 cases n with
 |zero=>simp only[RdSt.go,vA];omega
 |succ n=>
  simp only[RdSt.go,RdSt.step];have:=u6 (RdSt.go hi lsn (vA t o l fl) n).l;omega
theorem a0J:GK 272 a4V:=gk func272<|by
 intro args H res H' p h hp;unfold jU at h;split at h
 ·rename_i most lo hi lsn ty row;split at h
  ·rename_i l fl hrow;simp only[X2,U0] at h;obtain⟨rfl,rfl,rfl⟩:=h;obtain⟨q1,q2,q3,q4⟩:Okb lo lsn:=hp;refine rQ (jK hrow) ?_
   refine vcE (gC a1x (gC M0 gN)) func272 (A25 most lo hi lsn l fl) (bs:=[true]) (α:=let u:=(M9 most lo hi lsn l fl);let q:=(vA most lo l fl);O7 .i64 (lo-1)/\(∃(x:Up ((numR l).toNat)),let r:=(RdSt.go hi lsn q x.1);((0=0/\0=0)/\hi=hi/\lsn=lsn/\decide (numR l<=most)=r.ok/\lo-1=r.bef/\numR l=numR l/\0=(x.1:Int)/\True)/\(1=1/\1=1/\List.drop 1 l=r.l/\(fl||l.isEmpty)=r.fl/\True)/\True)/\∀(x:Up ((numR l).toNat)),let w:=(x.1:Int);let p:=(RdSt.go hi lsn q x.1);let j:=(p.bef+1);let v:=(List.drop 1 p.l);(decide (w<numR l)=true->(p.ok=true->O7 .i64 j)/\((p.ok&&V9 (numR p.l) j hi)=true->O7 .i64 (lsn-1))/\O7 .i64 (w+1)/\∃(y:Up ((numR l).toNat)),let z:=(RdSt.go hi lsn q y.1);(((0=0/\0=0)/\hi=hi/\lsn=lsn/\(p.ok&&V9 (numR p.l) j hi&&V9 (numR v) (1:Int) (lsn-1))=z.ok/\numR p.l=z.bef/\numR l=numR l/\w+1=(y.1:Int)/\True)/\(1=1/\1=1/\List.drop 1 v=z.l/\(p.fl||p.l.isEmpty||v.isEmpty)=z.fl/\True)/\True)/\Lt ((numR l).toNat-y.1) ((numR l).toNat-x.1))/\(decide (w<numR l)=false->(p.ok&& ! p.fl)=(u.ok&& ! u.fl)/\(1=1/\1=1/\p.l=u.l/\p.fl=u.fl/\True)/\True)) ?_
   have n:=u6 l;refine⟨Z3 Z9,⟨⟨0,O3 _⟩,⟨⟨rfl,rfl⟩,rfl,rfl,rfl,rfl,rfl,rfl,trivial⟩,⟨rfl,rfl,rfl,rfl,trivial⟩,trivial⟩,λx=>⟨λhc=>⟨λ_=>Z3 ?_,λ_=>Z3 Z9,Z3 ?_,?_⟩,λhc=>?_⟩⟩
   ·have:=c2P hi lsn lo most l fl ⟨q1,q2⟩ x.1;omega
   ·have:=x.2;omega
   ·have hlt:(x.1:Int)<numR l:=E4 hc;refine⟨⟨x.1+1,Z9⟩,⟨⟨⟨rfl,rfl⟩,rfl,rfl,rfl,rfl,rfl,W8,trivial⟩,⟨rfl,rfl,rfl,rfl,trivial⟩,trivial⟩,?_⟩
    unfold Lt;simp only;omega
   ·have hge:¬ (x.1:Int)<numR l:=s6 hc;have hx:=x.2;have he:x.1=(numR l).toNat:=by omega
    unfold M9;rw[he];exact⟨rfl,⟨rfl,rfl,rfl,rfl,trivial⟩,trivial⟩
  ·cases h
 ·cases h
def a4h(a:Bz)(lsn:Int):Bool:=
 (M9 8 0 7 lsn a false).ok&& !(M9 8 0 7 lsn a false).fl&&((M9 10 1 60 lsn (M9 8 0 7 lsn a false).l (M9 8 0 7 lsn a false).fl).ok&& !(M9 10 1 60 lsn (M9 8 0 7 lsn a false).l (M9 8 0 7 lsn a false).fl).fl)&&
  (!(M9 10 1 60 lsn (M9 8 0 7 lsn a false).l (M9 8 0 7 lsn a false).fl).fl&&(M9 10 1 60 lsn (M9 8 0 7 lsn a false).l (M9 8 0 7 lsn a false).fl).l.isEmpty)
def a1r(a:Bz)(lsn:Int):Prop:=a.length<140737488355329/\ -1000000000000<=lsn/\lsn<=1000000000000
def bF:List T->Option (T×Option Prop)
 | [.str a,.int .i64 lsn]=>some (.bool (a4h a lsn),some (a1r a lsn))
 |_=>none
def b2T:Con:=.pure bF
theorem a7M:GK 230 b2T:=gk func230<|by
 intro args res p h hp;unfold bF at h;split at h
 ·rename_i a lsn;simp only[X2,U0] at h;obtain⟨rfl,rfl⟩:=h;obtain⟨f,d,e⟩:a1r a lsn:=hp;exact S1 (gC a0J (gC lK gN)) func230 Y9 (α:=let q:=(M9 (8:Int) (0:Int) (7:Int) lsn a false);let p:=(M9 (10:Int) (1:Int) (60:Int) lsn q.l q.fl);Lt a.length 140737488355329/\Okb (0:Int) lsn/\Okb (1:Int) lsn/\(q.ok&& ! q.fl&&(p.ok&& ! p.fl)&&(! p.fl&&p.l.isEmpty))=a4h a lsn) ⟨f,⟨Z9,Z9,d,e⟩,⟨Z9,Z9,d,e⟩,rfl⟩
 ·cases h
structure Rec where
 (e l t k p n g s:Int) (b a:Bz)
 deriving Inhabited
def Rec.ts(r:Rec):List T:=[Ji r.e,Ji r.l,Ji r.t,Ji r.k,Ji r.p,Ji r.n,Ji r.g,Ji r.s,.str r.b,.str r.a]
def C8(r:Rec):Prop:=
 1<=r.e/\r.e<=60/\1<=r.l/\r.l<=60/\1<=r.k/\r.k<=6/\0<=r.p/\r.p<=r.l-1/\0<=r.n/\r.n<=r.l-1/\0<=r.g/\r.g<=7/\0<=r.s/\r.s<=3/\r.b.length<=30/\
 (r.k=6->r.t=0/\r.p=0/\r.n=0/\r.g=0/\r.s=0/\r.b=[]/\a4h r.a r.l=true)/\
 (r.k≠6->1<=r.t/\r.t<=60/\r.a.length<=30/\(r.k≠2->r.k≠3->r.g=0/\r.s=0/\r.b=[]/\r.a=[])/\(r.k≠3->r.n=0)/\(r.k=3->r.b=[])/\(r.k=1↔r.p=0))
noncomputable instance(r:Rec):Decidable (C8 r):=Classical.propDecidable _
def L9(r:Rec):Bool:=decide (C8 r)
theorem Q6(r:Rec):L9 r=true↔C8 r:=decide_eq_true_iff
theorem vH{r:Rec}(h:¬C8 r):L9 r=false:=uG h
def c0k(l:Bz):Prop:=l.length<140737488355329
def fQ:List T->Option (T×Option Prop)
 | [.agg [.int .i64 e,.int .i64 l,.int .i64 t,.int .i64 k,.int .i64 p,.int .i64 n,.int .i64 g,.int .i64 s,.str b,.str a]]=>some (.bool (L9 ⟨e,l,t,k,p,n,g,s,b,a⟩),some (c0k a))
 |_=>none
def a2B:Con:=.pure fQ
theorem a2T(r:Rec)(x:Bool)(h:
let c:=((r.a.length:Int)>30);let f:=((r.b.length:Int)>30);let m:=(!V9 r.e (1:Int) (60:Int)|| !V9 r.l (1:Int) (60:Int));let j:=(true&&(true&&(true&&(true&&(true&&(r.n==0&&true))))));let w:=(decide (0<=r.g)&&decide (r.g<8)&&(decide (0<=r.s)&&decide (r.s<4)));let y:=(true&&(true&&(true&&(true&&(true&&(true&&(true&&(true&&(r.b==[]&&true)))))))));let v:=(true&&(true&&(true&&(true&&(true&&(r.n==0&&(r.g==0&&(r.s==0&&(r.b==[]&&true)))))))));let u:=(true&&(true&&(true&&(true&&(true&&(r.n==0&&(r.g==0&&(r.s==0&&(r.b==[]&&(r.a==[]&&true))))))))));let z:=(((V9 r.k (1:Int) (5:Int)&&u&&V9 r.t (1:Int) (60:Int))=true->Ri (r.l-1))/\(V9 r.k (1:Int) (5:Int)&&u&&V9 r.t (1:Int) (60:Int)&&V9 r.p (0:Int) (r.l-1)&&(r.p==0)==(r.k==1))=x);let q:=(r6 (8:Int)/\((decide (0<=r.g)&&decide (r.g<8))=true->r6 (4:Int))/\((! w||decide f||decide c)=false->(r.k==3)=true->Ri (r.l-1))/\br (! w||decide f||decide c||r.k==3&& !V9 r.n (0:Int) (r.l-1)) (false=x) (br (r.k==2) (((V9 r.k (1:Int) (5:Int)&&j&&V9 r.t (1:Int) (60:Int))=true->Ri (r.l-1))/\(V9 r.k (1:Int) (5:Int)&&j&&V9 r.t (1:Int) (60:Int)&&V9 r.p (0:Int) (r.l-1)&&(r.p==0)==(r.k==1))=x) (((V9 r.k (1:Int) (5:Int)&&y&&V9 r.t (1:Int) (60:Int))=true->Ri (r.l-1))/\(V9 r.k (1:Int) (5:Int)&&y&&V9 r.t (1:Int) (60:Int)&&V9 r.p (0:Int) (r.l-1)&&(r.p==0)==(r.k==1))=x)));  (m=true->false=x)/\(m=false->br (r.k==6) (((r.t==0&&r.p==0&&v)=true->a1r r.a r.l)/\(r.t==0&&r.p==0&&v&&a4h r.a r.l)=x) (br (r.k==2) (br (r.k==2) q z) (br (r.k==3) q z)))):
  V4 prog 163 [.agg r.ts] (.bool x):=
 S1 (gC a7M (gC M0 (gC uB gN))) func163 Y9 h
theorem c4D{p k a b:Int}:((p==a)=(k==b))↔(k=b↔p=a):=by
 rw[Bool.eq_iff_iff,beq_iff_eq,beq_iff_eq];exact Iff.comm
theorem rD{a b:Bool}(h:a=true↔b=true):a=b:=by cases a<;>cases b<;>simp_all
theorem mS:GK 163 a2B:=gk func163<|by
 intro args res p h hp;unfold fQ at h;split at h
 ·rename_i e l t k p n g s b a;simp only[X2,U0] at h;obtain⟨rfl,rfl⟩:=h;have hp:a.length<140737488355329:=hp;refine a2T ⟨e,l,t,k,p,n,g,s,b,a⟩ _ ?_
  simp only[Rec.e,Rec.l,Rec.t,Rec.k,Rec.p,Rec.n,Rec.g,Rec.s,Rec.b,Rec.a];have s8:r6 8:=by unfold r6;omega
  have s4:r6 4:=by unfold r6;omega
  refine⟨λh=>?_,λh=>?_⟩
  ·refine(vH ?_).symm
   simp only[tB,xV,V9,Bool.and_eq_false_iff,qN] at h;unfold C8;simp only;omega
  simp only[zV,zF,V9,O4,r8] at h;have hr:O7 .i64 (l-1):=Z3 Z9
  have hs:a1r a l:=⟨hp,Z9,Z9⟩
  by_cases h6:k=6
  ·subst h6;refine⟨λ_=>⟨λ_=>hs,rD ?_⟩,λh=>H8⟩
   rw[Q6];simp only[C8,r8,O4,beq_iff_eq,true_and,and_true];constructor
   ·rintro⟨⟨⟨rfl,rfl⟩,rfl,rfl,rfl,rfl⟩,C⟩;simp[C];omega
   ·rintro⟨_,_,_,_,_,_,_,_,_,_,_,_,_,_,_,hh,_⟩;obtain⟨rfl,rfl,rfl,rfl,rfl,rfl,C⟩:=hh trivial;simp[C]
  refine⟨λh=>absurd A8 h6,λ_=>?_⟩
  by_cases h2:k=2
  ·subst h2;refine⟨λ_=>⟨λ_=>⟨s8,λ_=>s4,λ_ h=>H8,λhb=>?_,λhb=>⟨λ_=>⟨λ_=>hr,rD ?_⟩,λh=>H8⟩⟩,λh=>H8⟩,λh=>H8⟩
   ·refine(vH ?_).symm
    simp only[tB,xV,V9,Bool.and_eq_false_iff,qN,r8,O4] at hb;unfold C8;simp only;simp at hb;omega
   ·simp[V9] at hb;rw[Q6];simp only[C8,r8,O4,beq_iff_eq,true_and,and_true,V9,c4D];simp;omega
  by_cases h3:k=3
  ·subst h3;refine⟨λh=>H8,λ_=>⟨λ_=>⟨s8,λ_=>s4,λ_ _=>hr,λhb=>?_,λhb=>⟨λh=>H8,λ_=>⟨λ_=>hr,rD ?_⟩⟩⟩,λh=>H8⟩⟩
   ·refine(vH ?_).symm
    unfold C8;simp only;simp[V9] at hb;omega
   ·simp[V9] at hb;rw[Q6];simp only[C8,r8,O4,beq_iff_eq,true_and,and_true,V9,c4D];by_cases hbn:b=[]
    ·subst hbn;simp;omega
    ·simp[hbn]
  ·refine⟨λh=>absurd A8 h2,λ_=>⟨λh=>absurd A8 h3,λ_=>⟨λ_=>hr,rD ?_⟩⟩⟩
   rw[Q6];simp only[C8,r8,O4,beq_iff_eq,true_and,and_true,V9,c4D];constructor
   ·intro hh;have hb:b.length=0:=by simp[hh.1.1.1.2.2.2.2.1]
    have X:a.length=0:=by simp[hh.1.1.1.2.2.2.2.2]
    simp[h2,h3,h6,hh.1.1.1.2.2.2.2.1,hh.1.1.1.2.2.2.2.2] at hh ⊢;omega
   ·intro hh;obtain⟨V,W,M,O,N,U,I,z,R,d,i,u,v,A,j,_,hh⟩:=hh;obtain⟨F,b2,L,r,B,J,Q⟩:=hh h6;obtain⟨f,c2,o,x⟩:=r h2 h3;have q:=B h3;simp[f,c2,o,x,q];omega
 ·cases h
def Q9(n:Nat)(p:Nat->Bool):Int:=match(List.range n).find? p with|some i=>(i:Int)|none=> -1
theorem N4{n:Nat}{p:Nat->Bool}{i:Nat}(hi:i<n)(hp:p i=true)(h:∀j,j<i->p j=false):Q9 n p=i:=by
 have:(List.range n).find? p=some i:=by
  rw[List.find?_range_eq_some]
  exact⟨hp,List.mem_range.2 hi,λj J=>by simp[h j J]⟩
 unfold Q9;rw[this]
theorem K9{n:Nat}{p:Nat->Bool}(h:∀j,j<n->p j=false):Q9 n p= -1:=by
 have:(List.range n).find? p=none:=by
  rw[List.find?_range_eq_none]
  intro j J;simp[h j J]
 unfold Q9;rw[this]
def anyI(n:Nat)(p:Nat->Bool):Bool:=(List.range n).any p
theorem F6(n:Nat)(p:Nat->Bool):decide (Q9 n p≥0)=anyI n p:=by
 unfold Q9 anyI;cases h:(List.range n).find? p with
 |none=>
  rw[List.find?_eq_none] at h
  have:(List.range n).any p=false:=by
   rw[List.any_eq_false];exact h
  rw[this];rfl
 |some i=>
  have d:=List.find?_some h
  have e:=List.mem_of_find?_eq_some h
  have:(List.range n).any p=true:=List.any_eq_true.2 ⟨i,e,d⟩;rw[this];simp
theorem U3{n:Nat}{p:Nat->Bool}:anyI n p=true↔∃i,i<n/\p i=true:=by
 unfold anyI;simp
def U8(n:Nat)(p:Nat->Bool):Type:={i:Nat//i<=n/\∀j,j<i->p j=false}
theorem U8.ext_lt{n:Nat}{i:Nat}(h:i<n):Lt (n- (i+1)) (n-i):=by unfold Lt;omega
theorem X6{i n:Nat}(h:decide ((i:Int)<(n:Int))=false):n<=i:=A8
theorem Y1{i n:Nat}(h:decide ((i:Int)<(n:Int))=true):i<n:=A8
theorem Y3{i n:Nat}(h:i<n):V7 (i:Int) n:=⟨Z9,Z9⟩
theorem V5{i n:Nat}(h:i<n)(N:n<1000000000000000):O7 .i64 ((i:Int)+1):=Z3 Z9
def F4{n:Nat}{p:Nat->Bool}:U8 n p:=⟨0,O3 _,λj h=>absurd h (J5 j)⟩
def U8.succ{n:Nat}{p:Nat->Bool}(x:U8 n p)(h:x.1<n)(hp:p x.1=false):U8 n p:=
 ⟨x.1+1,h,λj J=>by rcases Nat.lt_or_ge j x.1 with h1|h1;exact x.2.2 j h1;(obtain rfl:j=x.1:=by omega);exact hp⟩
theorem J7(h:p:=by simp only[U8.succ];omega):p:=h
def Y0(L:List Rec)(i:Nat):List T:=(L.getD i dz).ts
def pG(L:List Rec):T:=.sl 10 L.length (Y0 L)
def zO(r:Rec):Bool:=decide (r.l>60)
def qM:List T->Option (T×Option Prop)
 | [.agg [.int .i64 e,.int .i64 l,.int .i64 t,.int .i64 k,.int .i64 p,.int .i64 n,.int .i64 g,.int .i64 s,.str b,.str a]]=>some (.bool (zO ⟨e,l,t,k,p,n,g,s,b,a⟩),none)
 |_=>none
def dC:Con:=.pure qM
theorem cG(r:Rec)(h:
  decide (r.l>60)=zO r):
  V4 prog 165 [.agg r.ts] (.bool (zO r)):=
 S1 gN func165 Y9 h
theorem dP:GK 165 dC:=gk func165<|by
 intro args res p h hp;unfold qM at h;split at h
 ·simp only[X2,U0] at h;obtain⟨rfl,rfl⟩:=h;exact cG ⟨_,_,_,_,_,_,_,_,_,_⟩ rfl
 ·cases h
def fnT(f:Nat):T:=.v (.func (.func f) #[] #[])
def M1(n:Nat):Prop:=n<1000000000000
theorem qJ(h:p:=by unfold M1;dsimp only;omega):p:=h
theorem nO(h:p:=by unfold M1;omega):p:=h
def a4u:Rl:=⟨List Rec,λL=>[pG L,fnT 165],λL=>.int .i64 (Q9 L.length λi=>zO (L.getD i dz)),λL=>M1 L.length⟩
def b5z:Con:=.rel a4u
def b4V(L:List Rec):Nat->Ann
 |0=>.one (U8 L.length λi=>zO (L.getD i dz)) (λx=>⟨[(0,pG L),(1,fnT 165),(7,Ji L.length),(8,Ji x.1)],[]⟩) (λx=>L.length-x.1) [] [] (λ_=>Y9)
 |_=>.none
theorem b1M:GK 231 b5z:=gk func231<|by
 intro L d;have d:L.length<1000000000000:=d;refine S1 (gC dP gN) func231 (b4V L) (α:=let u:=(Fn.func 165);let r:=(L.length:Int);(∃(x:U8 L.length λ(i:Nat)=>zO (L.getD i dz)),((Z2 Y0 L L)/\Value.func u #[] #[]=Value.func u #[] #[]/\r=r/\0=(x.1:Int)/\True)/\True)/\∀(x:U8 L.length λ(i:Nat)=>zO (L.getD i dz)),let z:=(x.1:Int);let q:=(L.getD z.toNat dz);bd (z<r) (V7 z L.length/\br (zO (Rec.mk q.e q.l q.t q.k q.p q.n q.g q.s q.b q.a)) (z=Q9 L.length λ(i:Nat)=>zO (L.getD i dz)) (Ri (z+1)/\∃(y:U8 L.length λ(i:Nat)=>zO (L.getD i dz)),(((Z2 Y0 L L)/\Value.func u #[] #[]=Value.func u #[] #[]/\r=r/\z+1=(y.1:Int)/\True)/\True)/\Lt (L.length-y.1) (L.length-x.1))) ((-1:Int)=Q9 L.length λ(i:Nat)=>zO (L.getD i dz))) ⟨⟨F4,⟨⟨rfl,λ_ _=>rfl⟩,rfl,rfl,rfl,trivial⟩,trivial⟩,λx=>⟨λC=>?_,λC=>?_⟩⟩
 ·have h:=Y1 C;refine⟨Y3 h,λhp=>(N4 h hp x.2.2).symm,λhp=>⟨V5 h Z9,x.succ h hp,⟨⟨⟨rfl,λ_ _=>rfl⟩,rfl,rfl,rfl,trivial⟩,trivial⟩,U8.ext_lt h⟩⟩
 ·have f:=X6 C;exact(K9 λj J=>x.2.2 j Z9).symm
def a5l:Rl:=⟨List Rec,λL=>[pG L,fnT 165],λL=>.bool (anyI L.length λi=>zO (L.getD i dz)),λL=>M1 L.length⟩
def b39:Con:=.rel a5l
theorem b1E:GK 164 b39:=gk func164<|by
 intro L h;exact S1 (gC b1M gN) func164 Y9 (α:=∃(x:a4u.ι),(((Z2 Y0 L x)/\Value.func (Fn.func 165) #[] #[]=Value.func (Fn.func 165) #[] #[]/\True)/\M1 (x.length))/\decide ((Q9 (x.length) λ(i:Nat)=>zO (List.getD x i dz))≥(0:Int))=anyI L.length λ(i:Nat)=>zO (L.getD i dz)) ⟨L,⟨⟨⟨rfl,λ_ _=>rfl⟩,rfl,trivial⟩,h⟩,F6 _ _⟩
def a2k(L:List Rec)(i:Nat):Bool:= !L9 (L.getD i dz)||(L.getD i dz).l !=(i:Int)+1
def g7(L:List Rec):Bool:= !anyI L.length (a2k L)
def c0u(L:List Rec):Prop:=L.length<1000000000000/\∀r ∈ L,r.a.length<140737488355329
def mP:Rl:=⟨List Rec,λL=>[pG L],λL=>.bool (g7 L),c0u⟩
def a1m:Con:=.rel mP
def a1L(L:List Rec):Nat->Ann
 |0=>.one (U8 L.length (a2k L)) (λx=>⟨[(0,pG L),(5,pG L),(6,Ji L.length),(7,Ji x.1)],[]⟩) (λx=>L.length-x.1) [] [] (λ_=>Y9)
 |_=>.none
theorem D2{L:List Rec}:g7 L=true↔∀i,i<L.length->L9 (L.getD i dz)=true/\(L.getD i dz).l=(i:Int)+1:=by
 unfold g7;rw[xV,Bool.eq_false_iff,ne_eq,U3];constructor
 ·intro h i hi;have:¬a2k L i=true:=λhb=>h ⟨i,hi,hb⟩
  simpa[a2k] using this
 ·rintro h ⟨i,hi,hb⟩;have:=h i hi;unfold a2k at hb;rw[this.1,this.2] at hb;simp at hb
theorem a4K{L:List Rec}{i:Nat}(h:i<L.length):L.getD i dz ∈ L:=by
 rw[R2,J4 h]
 exact List.getElem_mem h
theorem cB:GK 93 a1m:=gk func93<|by
 intro L o;obtain⟨N,hb⟩:c0u L:=o;refine S1 (gC mS (gC b1E gN)) func93 (a1L L) (α:=let v:=(Z2 Y0 L L);let z:=(L.length:Int);(∃(x:U8 L.length (a2k L)),(v/\v/\z=z/\0=(x.1:Int)/\True)/\True)/\∀(x:U8 L.length (a2k L)),let r:=(x.1:Int);let q:=(L.getD r.toNat dz);let u:=(Rec.mk q.e q.l q.t q.k q.p q.n q.g q.s q.b q.a);bd (r<z) (V7 r L.length/\c0k q.a/\((!L9 u)=false->Ri (r+1))/\br (!L9 u||q.l !=r+1) (false=g7 L) (Ri (r+1)/\∃(y:U8 L.length (a2k L)),((v/\v/\z=z/\r+1=(y.1:Int)/\True)/\True)/\Lt (L.length-y.1) (L.length-x.1))) (∃(x:a5l.ι),(((Z2 Y0 L x)/\Value.func (Fn.func 165) #[] #[]=Value.func (Fn.func 165) #[] #[]/\True)/\M1 (x.length))/\(!anyI (x.length) λ(i:Nat)=>zO (List.getD x i dz))=g7 L)) ⟨⟨F4,⟨⟨rfl,λ_ _=>rfl⟩,⟨rfl,λ_ _=>rfl⟩,rfl,rfl,trivial⟩,trivial⟩,λx=>⟨λhc=>?_,λhc=>?_⟩⟩
 ·have hlt:=Y1 hc;refine⟨Y3 hlt,hb _ (a4K hlt),λ_=>V5 hlt Z9,λhp=>?_,λhp=>⟨V5 hlt Z9,x.succ hlt hp,⟨⟨⟨rfl,λ_ _=>rfl⟩,⟨rfl,λ_ _=>rfl⟩,rfl,rfl,trivial⟩,trivial⟩,U8.ext_lt hlt⟩⟩
  have:anyI L.length (a2k L)=true:=U3.2 ⟨x.1,hlt,hp⟩;simp[g7,this]
 ·have j:=X6 hc;have d:g7 L=true:=by
   unfold g7;rw[xV,Bool.eq_false_iff,ne_eq,U3];rintro⟨i,hi,h⟩;rw[x.2.2 i Z9] at h
   cases h
  refine⟨L,⟨⟨⟨rfl,λ_ _=>rfl⟩,rfl,trivial⟩,N⟩,?_⟩
  rw[d,xV,Bool.eq_false_iff,ne_eq,U3];rintro⟨i,hi,h⟩;have q:=(Q6 _).1 (D2.1 d i hi).1;obtain⟨_,_,_,f,_⟩:=q;have:¬ (L.getD i dz).l>60:=Z9
  simp[zO] at h;simp at this;omega
def u9(a:Bz)(i:Nat):Int:=((a.getD i 0).toNat:Int)
def W9(a:Bz)(A:Nat)(r:Nat):List T:=[Ji (u9 a (A+2*r)),Ji (u9 a (A+2*r+1))]
def T3(a:Bz):Nat:=(u9 a 0).toNat
def o5(a:Bz):Nat:=(u9 a (1+2*T3 a)).toNat
def wQ(a:Bz):Nat:=if 0<a.length/\1+2*T3 a<=a.length then T3 a else 0
def zZ(a:Bz):Nat:=if 0<a.length/\1+2*T3 a<a.length/\2+2*T3 a+2*o5 a<=a.length then o5 a else 0
def uM(a:Bz):Bool:=decide (0<a.length/\1+2*T3 a<a.length/\2+2*T3 a+2*o5 a=a.length)
def c7x(a:Bz):T:=.tup [.sl 2 (wQ a) (W9 a 1),.sl 2 (zZ a) (W9 a (2+2*T3 a)),.bool (uM a)]
def b8J(n:Nat)(row:Nat->List T):Option Ob:=some (.arr true 0 2 n row)
def c2F(d k1 n N:Nat):Option Ob:=some (.arr false 0 1 2 λr=>match r with|0=>[.osl d 0 n]|_=>[.osl k1 0 N])
def a3Z(a:Bz):Nat->Ann
 |0=>.unr 3 (λm=>fun
  |1=>match m with
   |2=>.one (Up (T3 a)) (λx=>⟨[(0,.str a),(5,.osl 2 0 2),(6,Ji (1+2*x.1)),(7,Ji 0),(8,Ji (T3 a)),(9,Ji x.1)],[b8J x.1 (W9 a 1),b8J 0 (W9 a 0),c2F 0 1 x.1 0]⟩) (λx=>T3 a-x.1) [.arr 0,.arr 1,.ren 2] [.arr 4,.arr 1,.ren 2] (λ_=>Y9)
   |_=>.one (Up (o5 a)) (λx=>⟨[(0,.str a),(5,.osl 2 0 2),(6,Ji (2+2*T3 a+2*x.1)),(7,Ji 1),(8,Ji (o5 a)),(9,Ji x.1)],[b8J (T3 a) (W9 a 1),b8J x.1 (W9 a (2+2*T3 a)),c2F 0 1 (T3 a) x.1]⟩) (λx=>o5 a-x.1) [.arr 0,.arr 1,.ren 2] [.arr 0,.arr 4,.ren 2] (λ_=>Y9)
  |_=>.none)
 |_=>.none
def jX:List T->Option (T×Option Prop)
 | [.str a]=>some (c7x a,some (M1 a.length))
 |_=>none
def a21:Con:=.pure jX
theorem P7{row row':Nat->List T}{n i:Nat}(h:i<n):X7 row n row' i=row i:=by
 unfold X7;rw[show Nat.blt i n=true from by simp[Nat.blt];omega]
theorem P8{row row':Nat->List T}{n i:Nat}(h:n<=i):X7 row n row' i=row' (i-n):=by
 unfold X7;rw[show Nat.blt i n=false from Bool.eq_false_iff.2 λB=>by have:=zP B;omega]
theorem a0O:GK 257 a21:=gk func257<|by
 intro args res p h hp;unfold jX at h;split at h
 case h_2=>cases h
 rename_i a;simp only[X2,U0] at h;obtain⟨rfl,rfl⟩:=h;have hp:a.length<1000000000000:=hp;have h0:((a.getD 0 0).toNat:Int)=(T3 a:Int):=by simp[T3,u9]
 have h1:((a.getD (1+2*T3 a) 0).toNat:Int)=(o5 a:Int):=by simp[o5,u9]
 have b0:T3 a<=255:=by have:=(a.getD 0 0).toNat_lt;omega
 have b1:o5 a<=255:=by have:=(a.getD (1+2*T3 a) 0).toNat_lt;omega
 have t0:(1+2*(T3 a:Int)).toNat=1+2*T3 a:=Z9
 have none0:∀row row':Nat->List T,Z7 0 row row':=λrow row' i hi=>absurd hi (J5 i)
 have refl0:∀(n:Nat) (row:Nat->List T),Z7 n row row:=λn row i hi=>rfl
 have bZ:∀(at0 i:Nat),Z7 (i+1) (X7 (W9 a at0) i λk=>List.take 2 (List.drop (k*2) [Ji ((a.getD (at0+2*i) 0).toNat:Int),Ji ((a.getD (at0+2*i+1) 0).toNat:Int)])) (W9 a at0):=by
  intro at0 i j hj;by_cases hlt:j<i
  ·rw[P7 hlt]
  ·obtain rfl:j=i:=by omega
   rw[P8 (V8 _),j_i];rfl
 have two:∀{ρ:Nat->Option Nat} {row row':Nat->List T},N5 (S4 ρ 6) (row' 0)=some (row 0)->N5 (S4 ρ 6) (row' 1)=some (row 1)->xE ρ 2 row row':=by
  intro ρ row row' e0 e1 i hi;rcases Nat.lt_or_ge i 1 with h|h
  ·obtain rfl:i=0:=by omega
   exact e0
  ·obtain rfl:i=1:=by omega
   exact e1
 refine S1 gN func257 (a3Z a) (α:=(true=true->(decide ((0:Int)≥(a.length:Int))=true->V7 (0:Int) 2/\Lt 0 2/\V7 (1:Int) 2/\Lt 1 2/\(Le 0 0/\Le 0 0)/\(0=wQ a/\Z7 0 (tk 2 []) (W9 a 1))/\(0=zZ a/\Z7 0 (tk 2 []) (W9 a (2+2*T3 a)))/\false=uM a/\True)/\(decide ((0:Int)≥(a.length:Int))=false->V7 (0:Int) a.length/\O7 .i64 1/\O7 .i64 ((2:Int)*IntKind.i64.wrap (↑(a.getD 0 (0:UInt8)).toNat:Int))/\O7 .i64 ((1:Int)+2*IntKind.i64.wrap (↑(a.getD 0 (0:UInt8)).toNat:Int))/\(decide ((1:Int)+2*IntKind.i64.wrap (↑(a.getD 0 (0:UInt8)).toNat:Int)>(a.length:Int))=true->V7 (0:Int) 2/\Lt 0 2/\V7 (1:Int) 2/\Lt 1 2/\(Le 0 0/\Le 0 0)/\(0=wQ a/\Z7 0 (tk 2 []) (W9 a 1))/\(0=zZ a/\Z7 0 (tk 2 []) (W9 a (2+2*T3 a)))/\false=uM a/\True)/\(decide ((1:Int)+2*IntKind.i64.wrap (↑(a.getD 0 (0:UInt8)).toNat:Int)>(a.length:Int))=false->(∃(x:Up (T3 a)),(a=a/\(0=0/\2=2)/\(1:Int)=1+2*(x.1:Int)/\(0:Int)=0/\IntKind.i64.wrap (↑(a.getD 0 (0:UInt8)).toNat:Int)=(↑(T3 a):Int)/\0=(x.1:Int)/\True)/\(0=x.1/\Z7 0 (tk 2 []) (W9 a 1))/\(0=0/\Z7 0 (tk 2 []) (W9 a 0))/\(2=2/\xE (u7 [some 0,some 1,some 2]) 2 (tk 1 [T.osl 0 0 0,T.osl 1 0 0]) λ(r:Nat)=>match r with|0=>[T.osl 0 0 x.1]|x=>[T.osl 1 0 0])/\True)/\∀(x:Up (T3 a)),(decide ((x.1:Int)<(↑(T3 a):Int))=true->V7 (0:Int) 2/\Lt 0 2/\V7 ((1:Int)+2*(x.1:Int)) a.length/\O7 .i64 ((1:Int)+2*(x.1:Int)+1)/\V7 ((1:Int)+2*(x.1:Int)+1) a.length/\(Le 1 1/\Le x.1 x.1/\U9 x.1 1 16)/\V7 (0:Int) 2/\Lt 0 2/\O7 .i64 ((1:Int)+2*(x.1:Int)+2)/\O7 .i64 ((x.1:Int)+1)/\∃(y:Up (T3 a)),((a=a/\(0=0/\2=2)/\(1:Int)+2*(x.1:Int)+2=1+2*(y.1:Int)/\(0:Int)=0/\(↑(T3 a):Int)=(↑(T3 a):Int)/\(x.1:Int)+1=(y.1:Int)/\True)/\(x.1+1=y.1/\Z7 (x.1+1) (X7 (W9 a 1) x.1 (tk 2 [Ji (IntKind.i64.wrap (↑(a.getD ((1:Int)+2*(x.1:Int)).toNat (0:UInt8)).toNat:Int)),Ji (IntKind.i64.wrap (↑(a.getD ((1:Int)+2*(x.1:Int)+1).toNat (0:UInt8)).toNat:Int))])) (W9 a 1))/\(0=0/\Z7 0 (W9 a 0) (W9 a 0))/\(2=2/\xE (u7 [some 4,some 1,some 2]) 2 (setRow (λ(r:Nat)=>match r with|0=>[T.osl 0 0 x.1]|x=>[T.osl 1 0 0]) 0 0 [T.osl 4 0 (x.1+1)]) λ(r:Nat)=>match r with|0=>[T.osl 0 0 y.1]|x=>[T.osl 1 0 0])/\True)/\Lt (T3 a-y.1) (T3 a-x.1))/\(decide ((x.1:Int)<(↑(T3 a):Int))=false->O7 .i64 1/\(true=true->(decide ((1:Int)+2*(x.1:Int)≥(a.length:Int))=true->V7 (0:Int) 2/\Lt 0 2/\V7 (1:Int) 2/\Lt 1 2/\(Le (0+x.1) x.1/\Le 0 0)/\(x.1=wQ a/\Z7 x.1 (W9 a 1) (W9 a 1))/\(0=zZ a/\Z7 0 (W9 a 0) (W9 a (2+2*T3 a)))/\false=uM a/\True)/\(decide ((1:Int)+2*(x.1:Int)≥(a.length:Int))=false->V7 ((1:Int)+2*(x.1:Int)) a.length/\O7 .i64 ((1:Int)+2*(x.1:Int)+1)/\O7 .i64 ((2:Int)*IntKind.i64.wrap (↑(a.getD ((1:Int)+2*(x.1:Int)).toNat (0:UInt8)).toNat:Int))/\O7 .i64 ((1:Int)+2*(x.1:Int)+1+2*IntKind.i64.wrap (↑(a.getD ((1:Int)+2*(x.1:Int)).toNat (0:UInt8)).toNat:Int))/\(decide ((1:Int)+2*(x.1:Int)+1+2*IntKind.i64.wrap (↑(a.getD ((1:Int)+2*(x.1:Int)).toNat (0:UInt8)).toNat:Int)>(a.length:Int))=true->V7 (0:Int) 2/\Lt 0 2/\V7 (1:Int) 2/\Lt 1 2/\(Le (0+x.1) x.1/\Le 0 0)/\(x.1=wQ a/\Z7 x.1 (W9 a 1) (W9 a 1))/\(0=zZ a/\Z7 0 (W9 a 0) (W9 a (2+2*T3 a)))/\false=uM a/\True)/\(decide ((1:Int)+2*(x.1:Int)+1+2*IntKind.i64.wrap (↑(a.getD ((1:Int)+2*(x.1:Int)).toNat (0:UInt8)).toNat:Int)>(a.length:Int))=false->(∃(x_1:Up (o5 a)),(a=a/\(0=0/\2=2)/\(1:Int)+2*(x.1:Int)+1=2+2*(↑(T3 a):Int)+2*(x_1.val:Int)/\(1:Int)=1/\IntKind.i64.wrap (↑(a.getD ((1:Int)+2*(x.1:Int)).toNat (0:UInt8)).toNat:Int)=(↑(o5 a):Int)/\0=(x_1.val:Int)/\True)/\(x.1=T3 a/\Z7 x.1 (W9 a 1) (W9 a 1))/\(0=x_1.val/\Z7 0 (W9 a 0) (W9 a (2+2*T3 a)))/\(2=2/\xE (u7 [some 0,some 1,some 2]) 2 (λ(r:Nat)=>match r with|0=>[T.osl 0 0 x.1]|x=>[T.osl 1 0 0]) λ(r:Nat)=>match r with|0=>[T.osl 0 0 (T3 a)]|x=>[T.osl 1 0 x_1.val])/\True)/\∀(x:Up (o5 a)),(decide ((x.1:Int)<(↑(o5 a):Int))=true->V7 (1:Int) 2/\Lt 1 2/\V7 ((2:Int)+2*(↑(T3 a):Int)+2*(x.1:Int)) a.length/\O7 .i64 ((2:Int)+2*(↑(T3 a):Int)+2*(x.1:Int)+1)/\V7 ((2:Int)+2*(↑(T3 a):Int)+2*(x.1:Int)+1) a.length/\(Le 1 1/\Le x.1 x.1/\U9 x.1 1 16)/\V7 (1:Int) 2/\Lt 1 2/\O7 .i64 ((2:Int)+2*(↑(T3 a):Int)+2*(x.1:Int)+2)/\O7 .i64 ((x.1:Int)+1)/\∃(y:Up (o5 a)),((a=a/\(0=0/\2=2)/\(2:Int)+2*(↑(T3 a):Int)+2*(x.1:Int)+2=2+2*(↑(T3 a):Int)+2*(y.1:Int)/\(1:Int)=1/\(↑(o5 a):Int)=(↑(o5 a):Int)/\(x.1:Int)+1=(y.1:Int)/\True)/\(T3 a=T3 a/\Z7 (T3 a) (W9 a 1) (W9 a 1))/\(x.1+1=y.1/\Z7 (x.1+1) (X7 (W9 a (2+2*T3 a)) x.1 (tk 2 [Ji (IntKind.i64.wrap (↑(a.getD ((2:Int)+2*(↑(T3 a):Int)+2*(x.1:Int)).toNat (0:UInt8)).toNat:Int)),Ji (IntKind.i64.wrap (↑(a.getD ((2:Int)+2*(↑(T3 a):Int)+2*(x.1:Int)+1).toNat (0:UInt8)).toNat:Int))])) (W9 a (2+2*T3 a)))/\(2=2/\xE (u7 [some 0,some 4,some 2]) 2 (setRow (λ(r:Nat)=>match r with|0=>[T.osl 0 0 (T3 a)]|x_1=>[T.osl 1 0 x.1]) 1 0 [T.osl 4 0 (x.1+1)]) λ(r:Nat)=>match r with|0=>[T.osl 0 0 (T3 a)]|x=>[T.osl 1 0 y.1])/\True)/\Lt (o5 a-y.1) (o5 a-x.1))/\(decide ((x.1:Int)<(↑(o5 a):Int))=false->O7 .i64 2/\(false=true->(decide ((2:Int)+2*(↑(T3 a):Int)+2*(x.1:Int)≥(a.length:Int))=true->V7 (0:Int) 2/\Lt 0 2/\V7 (1:Int) 2/\Lt 1 2/\(Le (0+T3 a) (T3 a)/\Le (0+x.1) x.1)/\(T3 a=wQ a/\Z7 (T3 a) (W9 a 1) (W9 a 1))/\(x.1=zZ a/\Z7 x.1 (W9 a (2+2*T3 a)) (W9 a (2+2*T3 a)))/\false=uM a/\True)/\(decide ((2:Int)+2*(↑(T3 a):Int)+2*(x.1:Int)≥(a.length:Int))=false->V7 ((2:Int)+2*(↑(T3 a):Int)+2*(x.1:Int)) a.length/\O7 .i64 ((2:Int)+2*(↑(T3 a):Int)+2*(x.1:Int)+1)/\O7 .i64 ((2:Int)*IntKind.i64.wrap (↑(a.getD ((2:Int)+2*(↑(T3 a):Int)+2*(x.1:Int)).toNat (0:UInt8)).toNat:Int))/\O7 .i64 ((2:Int)+2*(↑(T3 a):Int)+2*(x.1:Int)+1+2*IntKind.i64.wrap (↑(a.getD ((2:Int)+2*(↑(T3 a):Int)+2*(x.1:Int)).toNat (0:UInt8)).toNat:Int))/\(decide ((2:Int)+2*(↑(T3 a):Int)+2*(x.1:Int)+1+2*IntKind.i64.wrap (↑(a.getD ((2:Int)+2*(↑(T3 a):Int)+2*(x.1:Int)).toNat (0:UInt8)).toNat:Int)>(a.length:Int))=true->V7 (0:Int) 2/\Lt 0 2/\V7 (1:Int) 2/\Lt 1 2/\(Le (0+T3 a) (T3 a)/\Le (0+x.1) x.1)/\(T3 a=wQ a/\Z7 (T3 a) (W9 a 1) (W9 a 1))/\(x.1=zZ a/\Z7 x.1 (W9 a (2+2*T3 a)) (W9 a (2+2*T3 a)))/\false=uM a/\True)/\(decide ((2:Int)+2*(↑(T3 a):Int)+2*(x.1:Int)+1+2*IntKind.i64.wrap (↑(a.getD ((2:Int)+2*(↑(T3 a):Int)+2*(x.1:Int)).toNat (0:UInt8)).toNat:Int)>(a.length:Int))=false->(∃(x_1:Up (o5 a)),(a=a/\(0=0/\2=2)/\(2:Int)+2*(↑(T3 a):Int)+2*(x.1:Int)+1=2+2*(↑(T3 a):Int)+2*(x_1.val:Int)/\(2:Int)=1/\IntKind.i64.wrap (↑(a.getD ((2:Int)+2*(↑(T3 a):Int)+2*(x.1:Int)).toNat (0:UInt8)).toNat:Int)=(↑(o5 a):Int)/\0=(x_1.val:Int)/\True)/\(T3 a=T3 a/\Z7 (T3 a) (W9 a 1) (W9 a 1))/\(x.1=x_1.val/\Z7 x.1 (W9 a (2+2*T3 a)) (W9 a (2+2*T3 a)))/\(2=2/\xE (u7 [some 0,some 1,some 2]) 2 (λ(r:Nat)=>match r with|0=>[T.osl 0 0 (T3 a)]|x_2=>[T.osl 1 0 x.1]) λ(r:Nat)=>match r with|0=>[T.osl 0 0 (T3 a)]|x=>[T.osl 1 0 x_1.val])/\True)/\∀(x:Up (o5 a)),(decide ((x.1:Int)<(↑(o5 a):Int))=true->V7 (1:Int) 2/\Lt 1 2/\V7 ((2:Int)+2*(↑(T3 a):Int)+2*(x.1:Int)) a.length/\O7 .i64 ((2:Int)+2*(↑(T3 a):Int)+2*(x.1:Int)+1)/\V7 ((2:Int)+2*(↑(T3 a):Int)+2*(x.1:Int)+1) a.length/\(Le 1 1/\Le x.1 x.1/\U9 x.1 1 16)/\V7 (1:Int) 2/\Lt 1 2/\O7 .i64 ((2:Int)+2*(↑(T3 a):Int)+2*(x.1:Int)+2)/\O7 .i64 ((x.1:Int)+1)/\∃(y:Up (o5 a)),((a=a/\(0=0/\2=2)/\(2:Int)+2*(↑(T3 a):Int)+2*(x.1:Int)+2=2+2*(↑(T3 a):Int)+2*(y.1:Int)/\(1:Int)=1/\(↑(o5 a):Int)=(↑(o5 a):Int)/\(x.1:Int)+1=(y.1:Int)/\True)/\(T3 a=T3 a/\Z7 (T3 a) (W9 a 1) (W9 a 1))/\(x.1+1=y.1/\Z7 (x.1+1) (X7 (W9 a (2+2*T3 a)) x.1 (tk 2 [Ji (IntKind.i64.wrap (↑(a.getD ((2:Int)+2*(↑(T3 a):Int)+2*(x.1:Int)).toNat (0:UInt8)).toNat:Int)),Ji (IntKind.i64.wrap (↑(a.getD ((2:Int)+2*(↑(T3 a):Int)+2*(x.1:Int)+1).toNat (0:UInt8)).toNat:Int))])) (W9 a (2+2*T3 a)))/\(2=2/\xE (u7 [some 0,some 4,some 2]) 2 (setRow (λ(r:Nat)=>match r with|0=>[T.osl 0 0 (T3 a)]|x_1=>[T.osl 1 0 x.1]) 1 0 [T.osl 4 0 (x.1+1)]) λ(r:Nat)=>match r with|0=>[T.osl 0 0 (T3 a)]|x=>[T.osl 1 0 y.1])/\True)/\Lt (o5 a-y.1) (o5 a-x.1))/\(decide ((x.1:Int)<(↑(o5 a):Int))=false->O7 .i64 2/\False))))/\(false=false->V7 (0:Int) 2/\Lt 0 2/\V7 (1:Int) 2/\Lt 1 2/\(Le (0+T3 a) (T3 a)/\Le (0+x.1) x.1)/\(T3 a=wQ a/\Z7 (T3 a) (W9 a 1) (W9 a 1))/\(x.1=zZ a/\Z7 x.1 (W9 a (2+2*T3 a)) (W9 a (2+2*T3 a)))/\((2:Int)+2*(↑(T3 a):Int)+2*(x.1:Int)==(a.length:Int))=uM a/\True)))))/\(true=false->V7 (0:Int) 2/\Lt 0 2/\V7 (1:Int) 2/\Lt 1 2/\(Le (0+x.1) x.1/\Le 0 0)/\(x.1=wQ a/\Z7 x.1 (W9 a 1) (W9 a 1))/\(0=zZ a/\Z7 0 (W9 a 0) (W9 a (2+2*T3 a)))/\((1:Int)+2*(x.1:Int)==(a.length:Int))=uM a/\True)))))/\(true=false->V7 (0:Int) 2/\Lt 0 2/\V7 (1:Int) 2/\Lt 1 2/\(Le 0 0/\Le 0 0)/\(0=wQ a/\Z7 0 (tk 2 []) (W9 a 1))/\(0=zZ a/\Z7 0 (tk 2 []) (W9 a (2+2*T3 a)))/\((0:Int)==(a.length:Int))=uM a/\True)) ?_
 simp only[c03,V7,Lt,Le,U9,vF];simp only[h0];refine⟨λ_=>⟨λhz=>?_,λhz=>?_⟩,λh=>J6⟩
 ·have hz':¬0<a.length:=by simp at hz;simp[hz]
  refine⟨Z9,Z9,Z9,Z9,Z9,⟨by simp[wQ,hz'],none0 _ _⟩,⟨by simp[zZ,hz'],none0 _ _⟩,by simp[uM,hz'],trivial⟩
 have hz':0<a.length:=by simp at hz;exact List.length_pos_iff.2 hz
 refine⟨⟨Z9,Z9⟩,Z9,Z9,Z9,λhgt=>?_,λhle=>?_⟩
 ·have hgt':¬1+2*T3 a<=a.length:=by simp at hgt;omega
  have hgt'':¬1+2*T3 a<a.length:=Z9
  refine⟨Z9,Z9,Z9,Z9,Z9,⟨by simp[wQ,hgt'],none0 _ _⟩,⟨by simp[zZ,hgt''],none0 _ _⟩,by simp[uM,hgt''],trivial⟩
 have hle':1+2*T3 a<=a.length:=by simp at hle;omega
 have e0:wQ a=T3 a:=by simp[wQ,hz',hle']
 refine⟨⟨⟨0,O3 _⟩,⟨trivial,⟨trivial,trivial⟩,rfl,trivial,trivial,rfl,trivial⟩,⟨rfl,none0 _ _⟩,⟨trivial,none0 _ _⟩,⟨trivial,two rfl rfl⟩,trivial⟩,λx=>⟨λhx=>?_,λhx=>?_⟩⟩
 ·have hx':x.1<T3 a:=by simpa using hx
  rw[show(1+2*(x.1:Int)).toNat=1+2*x.1 by omega,show(1+2*(x.1:Int)+1).toNat=1+2*x.1+1 by omega]
  refine⟨Z9,Z9,Z9,Z9,Z9,Z9,Z9,Z9,Z9,Z9,⟨x.1+1,hx'⟩,⟨⟨trivial,⟨trivial,trivial⟩,F3,trivial,trivial,F3,trivial⟩,⟨rfl,bZ 1 _⟩,⟨trivial,none0 _ _⟩,⟨trivial,two rfl rfl⟩,trivial⟩,F3⟩
 have hx':x.1=T3 a:=by have:=x.2;simp at hx;omega
 rw[hx',t0,h1];refine⟨Z9,λ_=>⟨λhz1=>?_,λhz1=>⟨?_,Z9,Z9,Z9,λhg1=>?_,λhl1=>?_⟩⟩,λh=>J6⟩
 ·have hz1':¬1+2*T3 a<a.length:=by simp at hz1;omega
  refine⟨Z9,Z9,Z9,Z9,Z9,⟨e0.symm,refl0 _ _⟩,⟨by simp[zZ,hz1'],none0 _ _⟩,by simp[uM,hz1'],trivial⟩
 ·simp at hz1;omega
 ·have hz1':1+2*T3 a<a.length:=by simp at hz1;omega
  have hg1':¬2+2*T3 a+2*o5 a<=a.length:=by simp at hg1;omega
  have hg1'':¬2+2*T3 a+2*o5 a=a.length:=Z9
  refine⟨Z9,Z9,Z9,Z9,Z9,⟨e0.symm,refl0 _ _⟩,⟨by simp[zZ,hg1'],none0 _ _⟩,by simp[uM,hg1''],trivial⟩
 have hz1':1+2*T3 a<a.length:=by simp at hz1;omega
 have hl1':2+2*T3 a+2*o5 a<=a.length:=by simp at hl1;omega
 have e1:zZ a=o5 a:=by simp[zZ,hz',hz1',hl1']
 refine⟨⟨⟨0,O3 _⟩,⟨trivial,⟨trivial,trivial⟩,F3,trivial,rfl,rfl,trivial⟩,⟨rfl,refl0 _ _⟩,⟨rfl,none0 _ _⟩,⟨trivial,two rfl rfl⟩,trivial⟩,λy=>⟨λhy=>?_,λhy=>?_⟩⟩
 ·have hy':y.1<o5 a:=by simpa using hy
  rw[show(2+2*(T3 a:Int)+2*(y.1:Int)).toNat=2+2*T3 a+2*y.1 by omega,show(2+2*(T3 a:Int)+2*(y.1:Int)+1).toNat=2+2*T3 a+2*y.1+1 by omega]
  refine⟨Z9,Z9,Z9,Z9,Z9,Z9,Z9,Z9,Z9,Z9,⟨y.1+1,hy'⟩,⟨⟨trivial,⟨trivial,trivial⟩,F3,trivial,trivial,F3,trivial⟩,⟨trivial,refl0 _ _⟩,⟨rfl,bZ _ _⟩,⟨trivial,two rfl rfl⟩,trivial⟩,F3⟩
 have hy':y.1=o5 a:=by have:=y.2;simp at hy;omega
 rw[hy'];refine⟨Z9,(λh=>J6),λ_=>⟨Z9,Z9,Z9,Z9,Z9,⟨e0.symm,refl0 _ _⟩,⟨e1.symm,refl0 _ _⟩,?_,trivial⟩⟩
 unfold uM;rw[Bool.eq_iff_iff,beq_iff_eq,r8];omega
def yC(a:Bz)(A:Nat)(l hi lsn:Int)(i:Nat):Bool:=
 !V9 (u9 a (A+2*i)) l hi|| !V9 (u9 a (A+2*i+1)) 1 (lsn-1)||(decide ((i:Int)>0)&&decide (u9 a (A+2*(i-1))≥u9 a (A+2*i)))
def ckS(a:Bz)(lsn:Int):Bool:=
 uM a&&decide (wQ a<=8)&&decide (zZ a<=10)&& !anyI (wQ a) (yC a 1 0 7 lsn)&& !anyI (zZ a) (yC a (2+2*T3 a) 1 60 lsn)
def b7y(a:Bz)(n:Int):Prop:=a.length<1000000000000/\ -1000000000000<=n/\n<=1000000000000
def aO:List T->Option (T×Option Prop)
 | [.agg [.int .i64 e,.int .i64 l,.int .i64 t,.int .i64 k,.int .i64 p,.int .i64 n,.int .i64 g,.int .i64 s,.str b,.str a]]=>some (.bool (ckS a l),some (b7y a l))
 |_=>none
def b3o:Con:=.pure aO
def b0G(r:Rec):Nat->Ann
 |1=>.one (U8 (zZ r.a) (yC r.a (2+2*T3 r.a) 1 60 r.l)) (λx=>⟨[(1,.ref 0 0 0),(4,.sl 2 (zZ r.a) (W9 r.a (2+2*T3 r.a))),(7,Ji x.1)],[some (.arr true 1000000 10 1 λ_=>r.ts)]⟩) (λx=>zZ r.a-x.1) [.arr 0] [.arr 0] (λ_=>Y9)
 |_=>.none
def b1a(r:Rec):Nat->Ann
 |0=>.one (U8 (wQ r.a) (yC r.a 1 0 7 r.l)) (λx=>⟨[(1,.ref 0 0 0),(3,.sl 2 (wQ r.a) (W9 r.a 1)),(4,.sl 2 (zZ r.a) (W9 r.a (2+2*T3 r.a))),(6,Ji x.1)],[some (.arr true 1000000 10 1 λ_=>r.ts)]⟩) (λx=>wQ r.a-x.1) [.arr 0] [.arr 0] (λ_=>b0G r)
 |_=>.none
theorem b1w(r:Rec)(h:
let ph:=(false=ckS r.a r.l);let pg:=(W9 r.a (2+2*T3 r.a));let pd:=(0=0/\0=0);let d:=(wQ r.a=wQ r.a/\Z7 (wQ r.a) (W9 r.a 1) (W9 r.a 1));let v:=(zZ r.a=zZ r.a/\Z7 (zZ r.a) pg pg);  M1 r.a.length/\br (!uM r.a||decide ((↑(wQ r.a):Int)>8)||decide ((↑(zZ r.a):Int)>10)) ph ((∃(x:U8 (wQ r.a) (yC r.a 1 (0:Int) (7:Int) r.l)),(pd/\d/\v/\0=(x.1:Int)/\True)/\(1=1/\Z7 1 (λ(x:Nat)=>[Ji r.e,Ji r.l,Ji r.t,Ji r.k,Ji r.p,Ji r.n,Ji r.g,Ji r.s,T.str r.b,T.str r.a]) λ(x:Nat)=>[Ji r.e,Ji r.l,Ji r.t,Ji r.k,Ji r.p,Ji r.n,Ji r.g,Ji r.s,T.str r.b,T.str r.a])/\True)/\∀(x:U8 (wQ r.a) (yC r.a 1 (0:Int) (7:Int) r.l)),let w:=(x.1:Int);let pe:=(u9 r.a (1+2*w.toNat+1));let pc:=(u9 r.a (1+2*w.toNat));let m:=(!V9 pc (0:Int) (7:Int));let z:=(!V9 pc (0:Int) (7:Int)|| !V9 pe (1:Int) (r.l-1));let pa:=(z=false->decide (w>0)=true->V7 (0:Int) 2);bd (w<(↑(wQ r.a):Int)) (V7 w (wQ r.a)/\V7 (0:Int) 2/\(m=false->V7 w (wQ r.a))/\(m=false->V7 (1:Int) 2)/\(m=false->Ri (r.l-1))/\(z=false->decide (w>0)=true->Ri (w-1))/\(z=false->decide (w>0)=true->V7 (w-1) (wQ r.a))/\pa/\(z=false->decide (w>0)=true->V7 w (wQ r.a))/\pa/\br (!V9 pc (0:Int) (7:Int)|| !V9 pe (1:Int) (r.l-1)||decide (w>0)&&decide (u9 r.a (1+2*(w-1).toNat)≥u9 r.a (1+2*w.toNat))) ph (Ri (w+1)/\∃(y:U8 (wQ r.a) (yC r.a 1 (0:Int) (7:Int) r.l)),((pd/\d/\v/\w+1=(y.1:Int)/\True)/\(1=1/\Z7 1 (λ(x:Nat)=>[Ji r.e,Ji r.l,Ji r.t,Ji r.k,Ji r.p,Ji r.n,Ji r.g,Ji r.s,T.str r.b,T.str r.a]) λ(x:Nat)=>[Ji r.e,Ji r.l,Ji r.t,Ji r.k,Ji r.p,Ji r.n,Ji r.g,Ji r.s,T.str r.b,T.str r.a])/\True)/\Lt (wQ r.a-y.1) (wQ r.a-x.1))) ((∃(x:U8 (zZ r.a) (yC r.a (2+2*T3 r.a) (1:Int) (60:Int) r.l)),(pd/\v/\0=(x.1:Int)/\True)/\(1=1/\Z7 1 (λ(x:Nat)=>[Ji r.e,Ji r.l,Ji r.t,Ji r.k,Ji r.p,Ji r.n,Ji r.g,Ji r.s,T.str r.b,T.str r.a]) λ(x:Nat)=>[Ji r.e,Ji r.l,Ji r.t,Ji r.k,Ji r.p,Ji r.n,Ji r.g,Ji r.s,T.str r.b,T.str r.a])/\True)/\∀(x:U8 (zZ r.a) (yC r.a (2+2*T3 r.a) (1:Int) (60:Int) r.l)),let u:=(x.1:Int);let pf:=(2+2*T3 r.a+2*u.toNat);let c:=(u9 r.a (2+2*T3 r.a+2*u.toNat+1));let f:=(u9 r.a (2+2*T3 r.a+2*(u-1).toNat)≥u9 r.a pf);let j:=(u9 r.a pf);let i:=(!V9 j (1:Int) (60:Int));let q:=(!V9 j (1:Int) (60:Int)|| !V9 c (1:Int) (r.l-1));let pb:=(q=false->decide (u>0)=true->V7 (0:Int) 2);bd (u<(↑(zZ r.a):Int)) (V7 u (zZ r.a)/\V7 (0:Int) 2/\(i=false->V7 u (zZ r.a))/\(i=false->V7 (1:Int) 2)/\(i=false->Ri (r.l-1))/\(q=false->decide (u>0)=true->Ri (u-1))/\(q=false->decide (u>0)=true->V7 (u-1) (zZ r.a))/\pb/\(q=false->decide (u>0)=true->V7 u (zZ r.a))/\pb/\((!V9 j (1:Int) (60:Int)||!V9 c (1:Int) (r.l-1)||decide (u>0)&&decide f)=true->false=ckS r.a r.l)/\((!V9 j (1:Int) (60:Int)|| !V9 c (1:Int) (r.l-1)||decide (u>0)&&decide f)=false->Ri (u+1)/\∃(y:U8 (zZ r.a) (yC r.a (2+2*T3 r.a) (1:Int) (60:Int) r.l)),((pd/\v/\u+1=(y.1:Int)/\True)/\(1=1/\Z7 1 (λ(x:Nat)=>[Ji r.e,Ji r.l,Ji r.t,Ji r.k,Ji r.p,Ji r.n,Ji r.g,Ji r.s,T.str r.b,T.str r.a]) λ(x:Nat)=>[Ji r.e,Ji r.l,Ji r.t,Ji r.k,Ji r.p,Ji r.n,Ji r.g,Ji r.s,T.str r.b,T.str r.a])/\True)/\Lt (zZ r.a-y.1) (zZ r.a-x.1))) (true=ckS r.a r.l)))):
  V4 prog 208 [.agg r.ts] (.bool (ckS r.a r.l)):=
 S1 (gC a0O (gC D0 gN)) func208 (b1a r) h
theorem a9Q(a:Bz)(A:Nat)(l hi lsn:Int)(i:Nat):
  yC a A l hi lsn i=(!V9 (u9 a (A+2*(i:Int).toNat)) l hi|| !V9 (u9 a (A+2*(i:Int).toNat+1)) 1 (lsn-1)||(decide ((i:Int)>0)&&decide (u9 a (A+2*((i:Int)-1).toNat)≥u9 a (A+2*(i:Int).toNat)))):=by
 unfold yC;rw[G2,show((i:Int)-1).toNat=i-1 by omega]
theorem a8q:GK 208 b3o:=gk func208<|by
 intro args res p h hp;unfold aO at h;split at h
 case h_2=>cases h
 rename_i e l t k p n g s b a;simp only[X2,U0] at h;obtain⟨rfl,rfl⟩:=h;obtain⟨hn,hl1,hl2⟩:b7y a l:=hp;have q0:wQ a<=a.length:=by unfold wQ;split<;>omega
 have q1:zZ a<=a.length:=by unfold zZ;split<;>omega
 have r0:∀(n:Nat) (row:Nat->List T),Z7 n row row:=λn row i hi=>rfl
 refine b1w ⟨e,l,t,k,p,n,g,s,b,a⟩ ?_
 simp only[Rec.e,Rec.l,Rec.t,Rec.k,Rec.p,Rec.n,Rec.g,Rec.s,Rec.b,Rec.a];refine⟨hn,λhb=>?_,λhb=>⟨⟨F4,⟨⟨x7,x7⟩,⟨x7,r0 _ _⟩,⟨x7,r0 _ _⟩,x7,trivial⟩,⟨x7,r0 _ _⟩,trivial⟩,λx=>⟨λhc=>?_,λhc=>?_⟩⟩⟩
 ·unfold ckS;simp only[tB,xV,r8] at hb;rcases hb with(hb|hb)|hb
  ·rw[hb];rfl
  ·rw[show decide (wQ a<=8)=false from uG Z9];simp
  ·rw[show decide (zZ a<=10)=false from uG Z9];simp
 ·have hlt:=Y1 hc;have i2:V7 0 2:=⟨Z9,Z9⟩
  have i2':V7 1 2:=⟨Z9,Z9⟩
  rw[←a9Q];refine⟨Y3 hlt,i2,λ_=>Y3 hlt,λ_=>i2',λ_=>Z3 Z9,λ_ _=>Z3 Z9,λ_ hh=>?_,λ_ _=>i2,λ_ _=>Y3 hlt,λ_ _=>i2,λhp=>?_,λhp=>⟨V5 hlt Z9,x.succ hlt hp,⟨⟨⟨x7,x7⟩,⟨x7,r0 _ _⟩,⟨x7,r0 _ _⟩,x7,trivial⟩,⟨x7,r0 _ _⟩,trivial⟩,U8.ext_lt hlt⟩⟩
  ·have:=E4 hh;exact⟨Z9,Z9⟩
  ·have:anyI (wQ a) (yC a 1 0 7 l)=true:=U3.2 ⟨x.1,hlt,hp⟩;simp[ckS,this]
 ·have hge:=X6 hc;have g0:anyI (wQ a) (yC a 1 0 7 l)=false:=by
   rw[Bool.eq_false_iff,ne_eq,U3];rintro⟨i,hi,h⟩;rw[x.2.2 i Z9] at h
   cases h
  refine⟨⟨F4,⟨⟨x7,x7⟩,⟨x7,r0 _ _⟩,x7,trivial⟩,⟨x7,r0 _ _⟩,trivial⟩,λy=>⟨λhc=>?_,λhc=>?_⟩⟩
  ·have hlt:=Y1 hc;have i2:V7 0 2:=⟨Z9,Z9⟩
   have i2':V7 1 2:=⟨Z9,Z9⟩
   rw[←a9Q];refine⟨Y3 hlt,i2,λ_=>Y3 hlt,λ_=>i2',λ_=>Z3 Z9,λ_ _=>Z3 Z9,λ_ hh=>?_,λ_ _=>i2,λ_ _=>Y3 hlt,λ_ _=>i2,λhp=>?_,λhp=>⟨V5 hlt Z9,y.succ hlt hp,⟨⟨⟨x7,x7⟩,⟨x7,r0 _ _⟩,x7,trivial⟩,⟨x7,r0 _ _⟩,trivial⟩,U8.ext_lt hlt⟩⟩
   ·have:=E4 hh;exact⟨Z9,Z9⟩
   ·have:anyI (zZ a) (yC a (2+2*T3 a) 1 60 l)=true:=U3.2 ⟨y.1,hlt,hp⟩;simp[ckS,this]
  ·have hge:=X6 hc;have g1:anyI (zZ a) (yC a (2+2*T3 a) 1 60 l)=false:=by
    rw[Bool.eq_false_iff,ne_eq,U3];rintro⟨i,hi,h⟩;rw[y.2.2 i Z9] at h
    cases h
   simp only[zV,zF,qN] at hb;unfold ckS;rw[g0,g1,hb.1.1,show decide (wQ a<=8)=true from qK Z9,show decide (zZ a<=10)=true from qK Z9]
   rfl
theorem rC(l:Bz)(k:Nat):numR (l.drop k)=u9 l k:=by
 unfold numR u9;simp[R2]
theorem b7L(l:Bz)(k i:Nat):u9 (l.drop k) i=u9 l (k+i):=by
 unfold u9;simp[R2]
theorem a7A(l:Bz)(k:Nat):0<=u9 l k:=by unfold u9;omega
def a3t(l:Bz)(o:Int)(i:Nat):Int:=if i=0 then o-1 else u9 l (1+2*(i-1))
def okP(l:Bz)(o hi lsn:Int)(i:Nat):Bool:=V9 (u9 l (1+2*i)) (a3t l o i+1) hi&&V9 (u9 l (2+2*i)) 1 (lsn-1)
theorem c2C(most lo hi lsn:Int)(l:Bz)(fl:Bool)(i:Nat):
  RdSt.go hi lsn (vA most lo l fl) i=⟨l.drop (1+2*i),fl||decide (l.length<1+2*i),decide (numR l<=most)&&(List.range i).all (okP l lo hi lsn),a3t l lo i⟩:=by
 induction i with
 |zero=>
  simp only[RdSt.go,vA,a3t,if_true,List.range_zero,List.all_nil,Bool.and_true,Nat.mul_zero,Nat.add_zero];cases l<;>simp
 |succ i ih=>
  simp only[RdSt.go];rw[ih];simp only[RdSt.step];have e1:((l.drop (1+2*i)).drop 1).drop 1=l.drop (1+2*(i+1)):=by
   rw[List.drop_drop,List.drop_drop];congr 1
  have e2:numR ((l.drop (1+2*i)).drop 1)=u9 l (2+2*i):=by
   rw[List.drop_drop,rC];congr 1
   omega
  have e3:a3t l lo (i+1)=numR (l.drop (1+2*i)):=by
   rw[rC];simp[a3t]
  have e4:(List.range (i+1)).all (okP l lo hi lsn)=((List.range i).all (okP l lo hi lsn)&&okP l lo hi lsn i):=by
   rw[List.range_succ,List.all_append];simp
  rw[e1,e2,e3,e4,rC];congr 1
  ·have:(l.drop (1+2*i)).isEmpty=decide (l.length<=1+2*i):=by
    rw[Bool.eq_iff_iff];simp
   have h2:((l.drop (1+2*i)).drop 1).isEmpty=decide (l.length<=1+2*i+1):=by
    rw[Bool.eq_iff_iff];simp
   rw[this,h2,Bool.or_assoc,Bool.or_assoc];congr 1
   rw[Bool.eq_iff_iff];simp;omega
  ·unfold okP;rw[Bool.and_assoc,Bool.and_assoc]
theorem b0q{n:Nat}{p q:Nat->Bool}(h:∀i,p i= !q i):(List.range n).all p= !anyI n q:=by
 unfold anyI;rw[List.not_any_eq_all_not];congr 1
 funext i
 rw[h i]
theorem a9B(l:Bz)(o hi lsn:Int)(d:o=0∨o=1)(i:Nat):okP l o hi lsn i= !yC l 1 o hi lsn i:=by
 have B:=a7A l (1+2*(i-1));have b2:=a7A l (1+2*i);unfold okP yC a3t V9;rw[show 1+2*i+1=2+2*i by omega]
 rw[Bool.eq_iff_iff];by_cases h:i=0
 ·subst h;simp
 ·simp[h];omega
theorem b3g(a:Bz)(k:Nat)(l hi lsn:Int)(i:Nat):yC (a.drop k) 1 l hi lsn i=yC a (k+1) l hi lsn i:=by
 unfold yC;simp only[b7L];rw[show k+(1+2*i)=k+1+2*i by omega,show k+(1+2*i+1)=k+1+2*i+1 by omega,show k+(1+2*(i-1))=k+1+2*(i-1) by omega]
theorem c3P(a:Bz)(lsn:Int):a4h a lsn=ckS a lsn:=by
 have n0:(numR a).toNat=T3 a:=by simp[numR,T3,u9]
 have n0':numR a=(T3 a:Int):=by have:=u6 a;omega
 have n1:numR (a.drop (1+2*T3 a))=(o5 a:Int):=by rw[rC];have:=a7A a (1+2*T3 a);simp[o5];omega
 have n1':(numR (a.drop (1+2*T3 a))).toNat=o5 a:=Z9
 have E1:M9 8 0 7 lsn a false=⟨a.drop (1+2*T3 a),decide (a.length<1+2*T3 a),decide ((T3 a:Int)<=8)&& !anyI (T3 a) (yC a 1 0 7 lsn),a3t a 0 (T3 a)⟩:=by
  unfold M9;rw[c2C,n0,n0',b0q (a9B a 0 7 lsn (.inl rfl)),Bool.false_or]
 have E2:M9 10 1 60 lsn (a.drop (1+2*T3 a)) (decide (a.length<1+2*T3 a))=⟨a.drop (2+2*T3 a+2*o5 a),decide (a.length<2+2*T3 a+2*o5 a),decide ((o5 a:Int)<=10)&& !anyI (o5 a) (yC a (2+2*T3 a) 1 60 lsn),a3t (a.drop (1+2*T3 a)) 1 (o5 a)⟩:=by
  unfold M9;rw[c2C,n1',n1,b0q (a9B (a.drop (1+2*T3 a)) 1 60 lsn (.inr rfl))];congr 1
  ·rw[List.drop_drop];congr 1;omega
  ·rw[Bool.eq_iff_iff];simp;omega
  ·congr 2
   unfold anyI;congr 1
   funext i
   rw[b3g];congr 1
   omega
 unfold a4h;rw[E1];simp only;rw[E2];simp only;have hE:(a.drop (2+2*T3 a+2*o5 a)).isEmpty=decide (a.length<=2+2*T3 a+2*o5 a):=by rw[Bool.eq_iff_iff];simp
 rw[hE];by_cases hr:0<a.length/\1+2*T3 a<a.length/\2+2*T3 a+2*o5 a=a.length
 ·have c0:wQ a=T3 a:=by unfold wQ;rw[if_pos ⟨hr.1,Z9⟩]
  have c1:zZ a=o5 a:=by unfold zZ;rw[if_pos ⟨hr.1,hr.2.1,Z9⟩]
  unfold ckS;rw[show uM a=true from qK hr,c0,c1]
  rw[show decide (a.length<1+2*T3 a)=false from uG Z9,show decide (a.length<2+2*T3 a+2*o5 a)=false from uG Z9,show decide (a.length<=2+2*T3 a+2*o5 a)=true from qK Z9]
  rw[show decide ((T3 a:Int)<=8)=decide (T3 a<=8) from decide_eq_decide.2 Z9,show decide ((o5 a:Int)<=10)=decide (o5 a<=10) from decide_eq_decide.2 Z9]
  generalize anyI (T3 a) _=x;generalize anyI (o5 a) _=y;generalize decide (T3 a<=8)=u;generalize decide (o5 a<=10)=v;cases x<;>cases y<;>cases u<;>cases v<;>rfl
 ·have:ckS a lsn=false:=by
   unfold ckS;rw[show uM a=false from uG hr]
   rfl
  rw[this];by_cases h1:a.length<2+2*T3 a+2*o5 a
  ·rw[show decide (a.length<2+2*T3 a+2*o5 a)=true from qK h1]
   simp
  ·have h2:¬a.length<=2+2*T3 a+2*o5 a:=by omega
   rw[show decide (a.length<=2+2*T3 a+2*o5 a)=false from uG h2]
   simp
def kG:List T->Option (T×Option Prop)
 | [.agg [.int .i64 e,.int .i64 l,.int .i64 t,.int .i64 k,.int .i64 p,.int .i64 n,.int .i64 g,.int .i64 s,.str b,.str a]]=>some (.bool (L9 ⟨e,l,t,k,p,n,g,s,b,a⟩),some (M1 a.length))
 |_=>none
def a5a:Con:=.pure kG
theorem a4a(r:Rec)(x:Bool)(h:
let q:=((r.b.length:Int)>30);  ((!V9 r.e (1:Int) (60:Int)|| !V9 r.l (1:Int) (60:Int)|| !V9 r.k (1:Int) (6:Int))=false->Ri (r.l-1))/\((!V9 r.e (1:Int) (60:Int)|| !V9 r.l (1:Int) (60:Int)|| !V9 r.k (1:Int) (6:Int)|| !V9 r.p (0:Int) (r.l-1))=false->Ri (r.l-1))/\((!V9 r.e (1:Int) (60:Int)|| !V9 r.l (1:Int) (60:Int)|| !V9 r.k (1:Int) (6:Int)|| !V9 r.p (0:Int) (r.l-1)|| !V9 r.n (0:Int) (r.l-1)|| !V9 r.g (0:Int) (7:Int)|| !V9 r.s (0:Int) (3:Int)||decide q)=true->false=x)/\((!V9 r.e (1:Int) (60:Int)|| !V9 r.l (1:Int) (60:Int)||!V9 r.k (1:Int) (6:Int)|| !V9 r.p (0:Int) (r.l-1)|| !V9 r.n (0:Int) (r.l-1)|| !V9 r.g (0:Int) (7:Int)|| !V9 r.s (0:Int) (3:Int)||decide q)=false->br (r.k==6) (((r.t==0&&r.p==0&&r.n==0&&r.g==0&&r.s==0&&r.b==[])=true->b7y r.a r.l)/\(r.t==0&&r.p==0&&r.n==0&&r.g==0&&r.s==0&&r.b==[]&&ckS r.a r.l)=x) (br (!V9 r.t (1:Int) (60:Int)||decide ((r.a.length:Int)>30)) (false=x) (br (!(r.k==2||r.k==3)&&(r.g !=0||r.s !=0|| !r.b==[]|| !r.a==[])||r.k !=3&&r.n !=0||r.k==3&& !r.b==[]) (false=x) (((r.k==1)==(r.p==0))=x))))):
  V4 prog 132 [.agg r.ts] (.bool x):=
 S1 (gC a8q (gC D0 gN)) func132 Y9 h
theorem c6X{p k a b:Int}:((k==b)=(p==a))↔(k=b↔p=a):=by
 rw[Bool.eq_iff_iff,beq_iff_eq,beq_iff_eq]
theorem mN:GK 132 a5a:=gk func132<|by
 intro args res p h hp;unfold kG at h;split at h
 case h_2=>cases h
 rename_i e l t k p n g s b a;simp only[X2,U0] at h;obtain⟨rfl,rfl⟩:=h;have hp:a.length<1000000000000:=hp;refine a4a ⟨e,l,t,k,p,n,g,s,b,a⟩ _ ?_
 simp only[Rec.e,Rec.l,Rec.t,Rec.k,Rec.p,Rec.n,Rec.g,Rec.s,Rec.b,Rec.a];have hr:∀{q:Bool},(!V9 e 1 60|| !V9 l 1 60||q)=false->O7 .i64 (l-1):=by
  intro q h;simp only[zV,zF,V9,O4,r8] at h;exact Z3 Z9
 refine⟨hr,λh=>hr (q:= !V9 k 1 6|| !V9 p 0 (l-1)) (by rw[←h];simp[Bool.or_assoc]),λh=>?_,λh=>?_⟩
 ·refine(vH ?_).symm
  simp only[tB,xV,V9,Bool.and_eq_false_iff,qN,r8] at h;unfold C8;simp only;omega
 simp only[zV,zF,V9,O4,r8,qN] at h;by_cases h6:k=6
 ·subst h6;refine⟨λ_=>⟨λ_=>⟨hp,Z9,Z9⟩,rD ?_⟩,λh=>H8⟩
  rw[Q6,←c3P];simp only[C8,r8,O4,beq_iff_eq,true_and,and_true];constructor
  ·rintro⟨⟨⟨⟨⟨⟨rfl,rfl⟩,rfl⟩,rfl⟩,rfl⟩,rfl⟩,hc⟩;simp[hc];omega
  ·rintro⟨_,_,_,_,_,_,_,_,_,_,_,_,_,_,_,hh,_⟩;obtain⟨rfl,rfl,rfl,rfl,rfl,rfl,hc⟩:=hh trivial;simp[hc]
 refine⟨λh=>absurd A8 h6,λ_=>⟨λhb=>?_,λhb=>⟨λhc=>?_,λhc=>rD ?_⟩⟩⟩
 ·refine(vH ?_).symm
  simp[V9] at hb;unfold C8;simp only;omega
 ·refine(vH ?_).symm
  unfold C8;simp only;rintro⟨_,_,_,_,_,_,_,_,_,_,_,_,_,_,_,_,hh⟩;obtain⟨c1,c2,c3,c4,c5,c6,c7⟩:=hh h6;simp only[tB,O4,xV,zV,beq_iff_eq,bne_iff_ne,beq_eq_false_iff_ne] at hc;rcases hc with(⟨⟨x2,x3⟩,hc⟩|⟨x3,hn⟩)|⟨x3,hn⟩
  ·obtain⟨d1,d2,d3,d4⟩:=c4 x2 x3;rcases hc with((hc|hc)|hc)|hc
   ·exact hc d1
   ·exact hc d2
   ·exact hc d3
   ·exact hc d4
  ·exact hn (c5 x3)
  ·exact hn (c6 x3)
 ·rw[Q6];simp only[C8,c6X,true_and,and_true,beq_iff_eq];simp[V9] at hb hc;constructor
  ·intro hk;refine⟨Z9,Z9,Z9,Z9,Z9,Z9,Z9,Z9,Z9,Z9,Z9,Z9,Z9,Z9,Z9,λh=>absurd h h6,λ_=>⟨Z9,Z9,Z9,λx2 x3=>?_,λx3=>?_,λx3=>?_,hk⟩⟩
   ·have:=hc.1.1 x2 x3;exact⟨this.1.1.1,this.1.1.2,this.1.2,this.2⟩
   ·exact hc.1.2 x3
   ·exact hc.2 x3
  ·rintro⟨_,_,_,_,_,_,_,_,_,_,_,_,_,_,_,_,hh⟩;exact(hh h6).2.2.2.2.2.2
def rem(l:Int)(n:Nat):Int:=if 0<=l-n then l-n else-1
theorem h9{row:Nat->List T}{i k:Nat}{cs:List T}(h:cs.length=(row k).length):setRow row i 0 cs k=match Nat.beq k i with|true=>cs|false=>row k:=by
 rw[j6 Z9]
 cases Nat.beq k i
 ·rfl
 ·simp[h]
def a32:Rl:=⟨List Rec,λL=>[pG L,pG L],λ_=>.bool true,λL=>L.length<=1048576⟩
theorem b7G{a b:Nat}(h:a<4294967296)(B:b<4294967296):a ^^^ b<4294967296:=Nat.xor_lt_two_pow (n:=32) h B
theorem b7q{a b:Nat}(h:b<4294967296):a&&&b<4294967296:=Nat.and_lt_two_pow (n:=32) a h
theorem c0w{a b:Nat}(h:a<4294967296)(B:b<4294967296):a|||b<4294967296:=Nat.or_lt_two_pow (n:=32) h B
theorem vP{k:IntKind}(d:k= .i64∨k= .u32){n:Nat}(h:n<4294967296):(BitVec.ofInt k.bits (n:Int)).toNat=n:=by
 rw[BitVec.ofInt_natCast,BitVec.toNat_ofNat];refine Nat.mod_eq_of_lt ?_
 rcases d with rfl|rfl
 ·exact Nat.lt_trans h X1
 ·exact h
theorem tS{k:IntKind}(h:k= .i64∨k= .u32){n:Nat}(N:n<4294967296):k.wrap (n:Int)=n:=by
 rcases h with rfl|rfl
 ·rw[IntKind.wrap_i64];omega
 ·rw[IntKind.wrap_u32];omega
theorem lE{k:IntKind}(h:k= .i64∨k= .u32){a b:Nat}(A:a<4294967296)(B:b<4294967296):bits .xor k (a:Int) (b:Int)=((a ^^^ b:Nat):Int):=by
 show k.wrap ((BitVec.ofInt k.bits (a:Int) ^^^ BitVec.ofInt k.bits (b:Int)).toNat:Int)=_;rw[BitVec.toNat_xor,vP h A,vP h B,tS h (b7G A B)]
theorem c26{k:IntKind}(h:k= .i64∨k= .u32){a b:Nat}(A:a<4294967296)(B:b<4294967296):bits .and k (a:Int) (b:Int)=((a&&&b:Nat):Int):=by
 show k.wrap ((BitVec.ofInt k.bits (a:Int)&&&BitVec.ofInt k.bits (b:Int)).toNat:Int)=_;rw[BitVec.toNat_and,vP h A,vP h B,tS h (b7q B)]
theorem c7o{k:IntKind}(h:k= .i64∨k= .u32){a b:Nat}(A:a<4294967296)(B:b<4294967296):bits .or k (a:Int) (b:Int)=((a|||b:Nat):Int):=by
 show k.wrap ((BitVec.ofInt k.bits (a:Int)|||BitVec.ofInt k.bits (b:Int)).toNat:Int)=_;rw[BitVec.toNat_or,vP h A,vP h B,tS h (c0w A B)]
def a1J(r:Nat):Nat:=(r/2) ^^^ (r % 2*3988292384)
def N9(r c:Nat):Nat->Nat
 |0=>r ^^^ c
 |k+1=>a1J (N9 r c k)
def J1(l:Bz):Nat->Nat
 |0=>4294967295
 |i+1=>N9 (J1 l i) (l.getD i 0).toNat 8
def m0(l:Bz):Nat:=J1 l l.length ^^^ 4294967295
theorem b1r{r:Nat}(h:r<4294967296):a1J r<4294967296:=by
 have:r % 2*3988292384<2 ^ 32:=by have:=Nat.mod_lt r (show 0<2 by decide);omega
 exact Nat.xor_lt_two_pow (n:=32) Z9 this
theorem tX{r c:Nat}(h:r<4294967296)(C:c<256):∀k,N9 r c k<4294967296
 |0=>Nat.xor_lt_two_pow (n:=32) Z9 Z9
 |k+1=>b1r (tX h C k)
theorem zI(l:Bz)(i:Nat):(l.getD i 0).toNat<256:=(l.getD i 0).toNat_lt
theorem wA(l:Bz):∀i,J1 l i<4294967296
 |0=>show 4294967295<4294967296 by decide
 |i+1=>tX (wA l i) (zI l i) 8
theorem a1B(l:Bz):m0 l<4294967296:=Nat.xor_lt_two_pow (n:=32) (wA l _) X1
def w2(l:Bz):Prop:=l.length<=1000000000
theorem a3C(h:p:=by unfold w2;omega):p:=h
def uO(k:IntKind):Rl:=⟨Bz,λl=>[.bys l],λl=>.int k (m0 l),w2⟩
def a6R:Con:=.rel (uO .i64)
def b0N:Con:=.rel (uO .u32)
def a6N(l:Bz):Nat->Ann
 |0=>.one (Up l.length) (λx=>⟨[(0,.bys l),(3,Ji (J1 l x.1)),(4,Ji x.1)],[]⟩) (λx=>l.length-x.1) [] [] (λx=>fun
  |1=>.one {k:Nat//k<=8} (λy=>⟨[(0,.bys l),(3,Ji (N9 (J1 l x.1) (l.getD x.1 0).toNat y.1)),(4,Ji x.1),(5,Ji y.1)],[]⟩) (λy=>8-y.1) [] [] (λ_=>Y9)
  |_=>.none)
 |_=>.none
def b2z(l:Bz):Nat->Ann
 |0=>.one (Up l.length) (λx=>⟨[(3,.int .u32 (J1 l x.1)),(6,.bys l),(7,Ji l.length),(8,Ji x.1)],[]⟩) (λx=>l.length-x.1) [] [] (λx=>fun
  |1=>.one {k:Nat//k<=8} (λy=>⟨[(3,.int .u32 (N9 (J1 l x.1) (l.getD x.1 0).toNat y.1)),(6,.bys l),(7,Ji l.length),(8,Ji x.1),(16,Ji y.1)],[]⟩) (λy=>8-y.1) [] [] (λ_=>Y9)
  |_=>.none)
 |_=>.none
theorem a9i{k:IntKind}(d:k= .i64∨k= .u32){r:Nat}(h:r<4294967296):bits .and k (r:Int) 1=((r % 2:Nat):Int):=by
 rw[show(1:Int)=((1:Nat):Int) from rfl,c26 d h X1,Nat.and_one_is_mod]
theorem c1N(r:Nat):(r:Int).fdiv 2=((r/2:Nat):Int):=by
 rw[Int.fdiv_eq_ediv_of_nonneg _ Z9]
 omega
theorem kH:GK 280 a6R:=gk func280<|by
 intro(l:Bz) (hl:l.length<=1000000000);have k1:IntKind.i64= .i64∨IntKind.i64= .u32:=.inl rfl;refine S1 gN func280 (a6N l) (α:=(∃(x:Up l.length),(l=l/\4294967295=(↑(J1 l x.1):Int)/\0=(x.1:Int)/\True)/\True)/\∀(x:Up l.length),let u:=(J1 l x.1);let r:=(l.getD x.1 (0:UInt8)).toNat;let q:=(x.1:Int);bd (q<(l.length:Int)) (V7 q l.length/\(∃(X:{k:Nat//k<=8}),(l=l/\bits BinOp.xor IntKind.i64 (↑u:Int) (IntKind.i64.wrap (↑(l.getD q.toNat (0:UInt8)).toNat:Int))=(↑(N9 u r X.val):Int)/\q=q/\0=(X.val:Int)/\True)/\True)/\∀(X:{k:Nat//k<=8}),let v:=(X.val:Int);let p:=(↑(N9 u r X.val):Int);let z:=(bits BinOp.and IntKind.i64 p (1:Int)*3988292384);bd (v<8) (Nn (1:Int)/\Ri z/\Ri (v+1)/\∃(y:{k:Nat//k<=8}),((l=l/\bits BinOp.xor IntKind.i64 (p.fdiv (2:Int)) z=(↑(N9 u r y.1):Int)/\q=q/\v+1=(y.1:Int)/\True)/\True)/\Lt (8-y.1) (8-X.val)) (Ri (q+1)/\∃(y:Up l.length),((l=l/\p=(↑(J1 l y.1):Int)/\q+1=(y.1:Int)/\True)/\True)/\Lt (l.length-y.1) (l.length-x.1))) (bits BinOp.xor IntKind.i64 (↑u:Int) 4294967295=(↑(m0 l):Int))) ⟨⟨⟨0,O3 _⟩,⟨rfl,rfl,rfl,trivial⟩,trivial⟩,λx=>⟨λhc=>?_,λhc=>?_⟩⟩
 ·have hlt:=Y1 hc;have hr:=wA l x.1;have hb:=zI l x.1;refine⟨Y3 hlt,⟨⟨0,Z9⟩,⟨rfl,?_,rfl,rfl,trivial⟩,trivial⟩,λy=>⟨λhd=>?_,λhd=>?_⟩⟩
  ·rw[G2,tS k1 Z9,lE k1 hr Z9]
   rfl
  ·have hy:y.1<8:=by have:=E4 hd;omega
   have q:=tX hr hb y.1;have h:N9 (J1 l x.1) (l.getD x.1 0).toNat y.1 % 2*3988292384<4294967296:=by have:=Nat.mod_lt (N9 (J1 l x.1) (l.getD x.1 0).toNat y.1) (show 0<2 by decide);omega
   rw[a9i k1 q,c1N,show((N9 (J1 l x.1) (l.getD x.1 0).toNat y.1 % 2:Nat):Int)*3988292384=((N9 (J1 l x.1) (l.getD x.1 0).toNat y.1 % 2*3988292384:Nat):Int) by omega,lE k1 Z9 h]
   refine⟨tI,Z3 Z9,Z3 Z9,⟨y.1+1,hy⟩,⟨⟨rfl,rfl,rfl,F3,trivial⟩,trivial⟩,mL⟩
  ·have hy:y.1=8:=by have:=y.2;have:=s6 hd;omega
   refine⟨V5 hlt Z9,⟨x.1+1,hlt⟩,⟨⟨rfl,?_,F3,trivial⟩,trivial⟩,U8.ext_lt hlt⟩
   rw[hy];rfl
 ·have hx:x.1=l.length:=by have:=x.2;have:=X6 hc;omega
  rw[hx,show(4294967295:Int)=((4294967295:Nat):Int) from rfl,lE k1 (wA l _) X1]
  rfl
theorem pE:GK 180 b0N:=gk func180<|by
 intro(l:Bz) (hl:l.length<=1000000000);have k1:IntKind.u32= .i64∨IntKind.u32= .u32:=.inr rfl;refine S1 gN func180 (b2z l) (α:=let q:=(l.length:Int);(∃(x:Up l.length),(4294967295=(↑(J1 l x.1):Int)/\l=l/\q=q/\0=(x.1:Int)/\True)/\True)/\∀(x:Up l.length),let u:=(J1 l x.1);let z:=(l.getD x.1 (0:UInt8)).toNat;let r:=(x.1:Int);bd (r<q) (V7 r l.length/\(∃(X:{k:Nat//k<=8}),(bits BinOp.xor IntKind.u32 (↑u:Int) (IntKind.u32.wrap (↑(l.getD r.toNat (0:UInt8)).toNat:Int))=(↑(N9 u z X.val):Int)/\l=l/\q=q/\r=r/\0=(X.val:Int)/\True)/\True)/\∀(X:{k:Nat//k<=8}),let v:=(X.val:Int);let p:=(↑(N9 u z X.val):Int);bd (v<8) (br (bits BinOp.and IntKind.u32 p (1:Int)==1) (Nn (1:Int)/\Ri (v+1)/\∃(y:{k:Nat//k<=8}),((bits BinOp.xor IntKind.u32 (p.fdiv (2:Int)) 3988292384=(↑(N9 u z y.1):Int)/\l=l/\q=q/\r=r/\v+1=(y.1:Int)/\True)/\True)/\Lt (8-y.1) (8-X.val)) (Nn (1:Int)/\Ri (v+1)/\∃(y:{k:Nat//k<=8}),((p.fdiv 2=(↑(N9 u z y.1):Int)/\l=l/\q=q/\r=r/\v+1=(y.1:Int)/\True)/\True)/\Lt (8-y.1) (8-X.val))) (Ri (r+1)/\∃(y:Up l.length),((p=(↑(J1 l y.1):Int)/\l=l/\q=q/\r+1=(y.1:Int)/\True)/\True)/\Lt (l.length-y.1) (l.length-x.1))) (bits BinOp.xor IntKind.u32 (↑u:Int) 4294967295=(↑(m0 l):Int))) ⟨⟨⟨0,O3 _⟩,⟨rfl,rfl,rfl,rfl,trivial⟩,trivial⟩,λx=>⟨λhc=>?_,λhc=>?_⟩⟩
 ·have hlt:=Y1 hc;have hr:=wA l x.1;have hb:=zI l x.1;refine⟨Y3 hlt,⟨⟨0,Z9⟩,⟨?_,rfl,rfl,rfl,rfl,trivial⟩,trivial⟩,λy=>⟨λhd=>?_,λhd=>?_⟩⟩
  ·rw[G2,tS k1 Z9,lE k1 hr Z9]
   rfl
  ·have hy:y.1<8:=by have:=E4 hd;omega
   have h:=tX hr hb y.1;rw[a9i k1 h,c1N];refine⟨λho=>⟨tI,Z3 Z9,⟨y.1+1,hy⟩,⟨⟨?_,rfl,rfl,rfl,F3,trivial⟩,trivial⟩,mL⟩,
    λho=>⟨tI,Z3 Z9,⟨y.1+1,hy⟩,⟨⟨?_,rfl,rfl,rfl,F3,trivial⟩,trivial⟩,mL⟩⟩
   ·have ho:N9 (J1 l x.1) (l.getD x.1 0).toNat y.1 % 2=1:=by rw[beq_iff_eq] at ho;omega
    rw[show(3988292384:Int)=((3988292384:Nat):Int) from rfl,lE k1 Z9 X1]
    simp only[N9,a1J,ho,Nat.one_mul]
   ·have ho:N9 (J1 l x.1) (l.getD x.1 0).toNat y.1 % 2=0:=by
     have:¬ ((N9 (J1 l x.1) (l.getD x.1 0).toNat y.1 % 2:Nat):Int)=1:=by simpa using ho
     omega
    simp only[N9,a1J,ho,Nat.zero_mul,Nat.xor_zero]
  ·have hy:y.1=8:=by have:=y.2;have:=s6 hd;omega
   refine⟨V5 hlt Z9,⟨x.1+1,hlt⟩,⟨⟨?_,rfl,rfl,F3,trivial⟩,trivial⟩,U8.ext_lt hlt⟩
   rw[hy];rfl
 ·have hx:x.1=l.length:=by have:=x.2;have:=X6 hc;omega
  rw[hx,show(4294967295:Int)=((4294967295:Nat):Int) from rfl,lE k1 (wA l _) X1]
  rfl
def m7(l:Bz):Nat->Nat
 |0=>0
 |i+1=>m7 l i*256+(l.getD i 0).toNat
def be(l:Bz):Nat:=m7 l l.length
def nH(l:Bz):Prop:=l.length<=4
def a5f:Rl:=⟨Bz,λl=>[.bys l],λl=>Ji (be l),nH⟩
def c65:Con:=.rel a5f
def jE:Rl:=⟨Bz,λl=>[.str l],λl=>Ji (be l),nH⟩
def b9h:Con:=.rel jE
def b8L(l:Bz):Nat->Ann
 |0=>.one (Up l.length) (λx=>⟨[(0,.str l),(3,Ji (m7 l x.1)),(4,Ji x.1)],[]⟩) (λx=>l.length-x.1) [] [] (λ_=>Y9)
 |_=>.none
def c6M(l:Bz):Nat->Ann
 |0=>.one (Up l.length) (λx=>⟨[(3,Ji (m7 l x.1)),(6,.bys l),(7,Ji l.length),(8,Ji x.1)],[]⟩) (λx=>l.length-x.1) [] [] (λ_=>Y9)
 |_=>.none
def b7j(n:Nat):Nat->Ann
 |0=>.unr n (λ_=>Y9)
 |_=>.none
def F8(n:Nat):Bz:=[Q8 (IntKind.u8.wrap ((n:Int).fdiv 16777216)),Q8 (IntKind.u8.wrap ((n:Int).fdiv 65536)),Q8 (IntKind.u8.wrap ((n:Int).fdiv 256)),Q8 (IntKind.u8.wrap ((n:Int).fdiv 1))]
def zQ(n:Nat):Bz:=[Q8 (IntKind.u8.wrap ((n:Int).fdiv 256)),Q8 (IntKind.u8.wrap ((n:Int).fdiv 1))]
theorem O2(x:Int):O7 .u8 (IntKind.u8.wrap x):=by
 rw[IntKind.wrap_u8];unfold O7 IntKind.min IntKind.max IntKind.signed IntKind.bits;have:=Int.emod_nonneg x (show(256:Int)≠0 by decide)
 have:=Int.emod_lt_of_pos x (show(0:Int)<256 by decide)
 simp;omega
theorem sX(n:Int):O7 .u8 n↔(0<=n/\n<=255):=by
 unfold O7 IntKind.min IntKind.max IntKind.signed IntKind.bits;simp
def oE:Rl:=⟨Nat×Bool,λx=>[Ji x.1,Ji (match x.2 with|true=>4|false=>2)],λx=>.bys (match x.2 with|true=>F8 x.1|false=>zQ x.1),λ_=>True⟩
def a48:Con:=.rel oE
theorem uE:GK 220 a48:=gk func220<|by
 rintro⟨n,b⟩ _;cases b
 ·refine S1 gN func220 (b7j 3) (α:=let r:=(List.map Q8 []);let q:=(n:Int).fdiv;let p:=(List.take 0 r++List.take 1 (List.drop 0 (List.map Q8 [IntKind.u8.wrap (q (256:Int))])));O7 .i64 1/\(true=true->O7 .i64 8/\Nn (8:Int)/\O7 IntKind.u8 (IntKind.u8.wrap (q (256:Int)))/\(Le 1 1/\Le 0 0/\U9 0 1 1)/\O7 .i64 0/\(true=true->O7 .i64 0/\Nn (0:Int)/\O7 IntKind.u8 (IntKind.u8.wrap (q (1:Int)))/\(Le (0+1) 1/\Le (0+1) 1/\U9 (0+1) 1 1)/\O7 .i64 (-1:Int)/\(false=true->O7 .i64 (-8:Int)/\Nn (18446744073709551608:Int)/\O7 IntKind.u8 (IntKind.u8.wrap (q (18446744073709551616:Int)))/\(Le (0+1) 1/\Le (0+1+1) 2/\U9 (0+1+1) 1 1)/\O7 .i64 (-2:Int)/\False)/\(false=false->Le 2 2/\List.take (0+1+1) (List.drop 0 (List.take (0+1) p++List.take 1 (List.drop 0 (List.map Q8 [IntKind.u8.wrap (q (1:Int))]))))=zQ n))/\(true=false->Le 1 1/\List.take (0+1) (List.drop 0 p)=zQ n))/\(true=false->Le 0 0/\List.take 0 (List.drop 0 r)=zQ n)) ?_
  simp[Z3,O2,Nn,Le,U9,zQ]
 ·refine S1 gN func220 (b7j 5) (α:=let w:=(List.map Q8 []);let v:=(0+1+1+1+1);let u:=(0+1+1+1);let z:=(n:Int).fdiv;let y:=(z (16777216:Int));let q:=(List.take 0 w++List.take 1 (List.drop 0 (List.map Q8 [IntKind.u8.wrap y])));let p:=(List.take (0+1) q++List.take 1 (List.drop 0 (List.map Q8 [IntKind.u8.wrap (z (65536:Int))])));let r:=(List.take (0+1+1) p++List.take 1 (List.drop 0 (List.map Q8 [IntKind.u8.wrap (z (256:Int))])));O7 .i64 3/\(true=true->O7 .i64 24/\Nn (24:Int)/\O7 IntKind.u8 (IntKind.u8.wrap y)/\(Le 1 1/\Le 0 0/\U9 0 1 1)/\O7 .i64 2/\(true=true->O7 .i64 16/\Nn (16:Int)/\O7 IntKind.u8 (IntKind.u8.wrap (z (65536:Int)))/\(Le (0+1) 1/\Le (0+1) 1/\U9 (0+1) 1 1)/\O7 .i64 1/\(true=true->O7 .i64 8/\Nn (8:Int)/\O7 IntKind.u8 (IntKind.u8.wrap (z (256:Int)))/\(Le (0+1) 1/\Le (0+1+1) 2/\U9 (0+1+1) 1 1)/\O7 .i64 0/\(true=true->O7 .i64 0/\Nn (0:Int)/\O7 IntKind.u8 (IntKind.u8.wrap (z (1:Int)))/\(Le (0+1) 1/\Le u 3/\U9 u 1 1)/\O7 .i64 (-1:Int)/\(false=true->O7 .i64 (-8:Int)/\Nn (18446744073709551608:Int)/\O7 IntKind.u8 (IntKind.u8.wrap (z (18446744073709551616:Int)))/\(Le (0+1) 1/\Le v 4/\U9 v 1 1)/\O7 .i64 (-2:Int)/\False)/\(false=false->Le 4 4/\List.take v (List.drop 0 (List.take u r++List.take 1 (List.drop 0 (List.map Q8 [IntKind.u8.wrap (z (1:Int))]))))=F8 n))/\(true=false->Le 3 3/\List.take u (List.drop 0 r)=F8 n))/\(true=false->Le 2 2/\List.take (0+1+1) (List.drop 0 p)=F8 n))/\(true=false->Le 1 1/\List.take (0+1) (List.drop 0 q)=F8 n))/\(true=false->Le 0 0/\List.take 0 (List.drop 0 w)=F8 n)) ?_
  simp[Z3,O2,Nn,Le,U9,F8]
theorem vS(l:Bz)(i:Nat):IntKind.i64.wrap ((l.getD i 0).toNat:Int)=((l.getD i 0).toNat:Int):=vF _
theorem a17(l:Bz):∀i,m7 l i<256 ^ i
 |0=>by simp[m7]
 |i+1=>by
  have h:=a17 l i;have d:=zI l i;simp only[m7,Nat.pow_succ];omega
theorem a4e(l:Bz){i:Nat}(h:i<=4):m7 l i<4294967296:=
 yK (a17 l i) (Nat.pow_le_pow_right (n:=256) X1 h)
theorem a30(l:Bz){i:Nat}(h:i<4):m7 l i<16777216:=
 yK (a17 l i) (Nat.pow_le_pow_right (n:=256) X1 (show i<=3 by omega))
theorem dG:GK 260 b9h:=gk func260<|by
 intro(l:Bz) (hl:l.length<=4);refine S1 gN func260 (b8L l) (α:=(∃(x:Up l.length),(l=l/\0=(↑(m7 l x.1):Int)/\0=(x.1:Int)/\True)/\True)/\∀(x:Up l.length),let r:=(x.1:Int);let q:=(↑(l.getD r.toNat (0:UInt8)).toNat:Int);let p:=(↑(m7 l x.1):Int);bd (r<(l.length:Int)) (Ri (p*256)/\V7 r l.length/\Ri (p*256+IntKind.i64.wrap q)/\Ri (r+1)/\∃(y:Up l.length),((l=l/\p*256+IntKind.i64.wrap q=(↑(m7 l y.1):Int)/\r+1=(y.1:Int)/\True)/\True)/\Lt (l.length-y.1) (l.length-x.1)) (p=(↑(be l):Int))) ⟨⟨⟨0,O3 _⟩,⟨rfl,rfl,rfl,trivial⟩,trivial⟩,λx=>⟨λhc=>?_,λhc=>?_⟩⟩
 ·have hlt:=Y1 hc;have hb:=zI l x.1;have hr:=a30 l (show x.1<4 by omega)
  rw[G2,vS];refine⟨Z3 Z9,Y3 hlt,Z3 Z9,V5 hlt Z9,⟨x.1+1,hlt⟩,⟨⟨rfl,?_,F3,trivial⟩,trivial⟩,U8.ext_lt hlt⟩
  simp only[m7];omega
 ·have hx:x.1=l.length:=by have:=x.2;have:=X6 hc;omega
  rw[hx];rfl
theorem a2o:GK 151 c65:=gk func151<|by
 intro(l:Bz) (hl:l.length<=4);refine S1 gN func151 (c6M l) (α:=let p:=(l.length:Int);(∃(x:Up l.length),(0=(↑(m7 l x.1):Int)/\l=l/\p=p/\0=(x.1:Int)/\True)/\True)/\∀(x:Up l.length),let r:=(↑(m7 l x.1):Int);let q:=(x.1:Int);bd (q<p) (V7 q l.length/\Nn (8:Int)/\Ri (q+1)/\∃(y:Up l.length),((bits BinOp.or IntKind.i64 (IntKind.i64.wrap (r*256)) (IntKind.i64.wrap (↑(l.getD q.toNat (0:UInt8)).toNat:Int))=(↑(m7 l y.1):Int)/\l=l/\p=p/\q+1=(y.1:Int)/\True)/\True)/\Lt (l.length-y.1) (l.length-x.1)) (r=(↑(be l):Int))) ⟨⟨⟨0,O3 _⟩,⟨rfl,rfl,rfl,rfl,trivial⟩,trivial⟩,λx=>⟨λhc=>?_,λhc=>?_⟩⟩
 ·have hlt:=Y1 hc;have hb:=zI l x.1;have hr:=a30 l (show x.1<4 by omega)
  rw[G2,vS,show((m7 l x.1:Nat):Int)*256=((m7 l x.1*256:Nat):Int) by omega,tS (.inl rfl) Z9,c7o (.inl rfl) Z9 Z9]
  refine⟨Y3 hlt,tI,V5 hlt Z9,⟨x.1+1,hlt⟩,⟨⟨?_,rfl,rfl,F3,trivial⟩,trivial⟩,U8.ext_lt hlt⟩
  have:=Nat.two_pow_add_eq_or_of_lt (i:=8) (b:=(l.getD x.1 0).toNat) hb (m7 l x.1);rw[show m7 l x.1*256=2 ^ 8*m7 l x.1 by omega,←this]
  simp only[m7];omega
 ·have hx:x.1=l.length:=by have:=x.2;have:=X6 hc;omega
  rw[hx];rfl
def R3(b:Bz):Bool:=decide (4<=b.length)&&m0 (b.take (b.length-4))==be (b.drop (b.length-4))
def W6(b:Bz):Bz:=if R3 b then b.take (b.length-4) else[]
def oS:Rl:=⟨Bz,λb=>[.bys b],λb=>.tup [.bys (W6 b),.bool (R3 b)],w2⟩
def a6u:Con:=.rel oS
def a4C:Rl:=⟨Bz,λb=>[.str b],λb=>.tup [.str (W6 b),.bool (R3 b)],w2⟩
def a3z:Con:=.rel a4C
theorem kW:GK 233 a6u:=gk func233<|by
 intro(b:Bz) (hl:b.length<=1000000000);have hd:∀{p:Prop},(decide ((b.length:Int)-4<0)=false->p)↔(4<=b.length->p):=λ{p}=>⟨λh g=>h (uG Z9),λh g=>h a2E⟩
 refine S1 (gC pE (gC a2o gN)) func233 Y9 (α:=let p:=(b.length:Int);let z:=(p-4).toNat;let r:=(decide (p-4<0)=false->jH (p-4) b.length);O7 .i64 (p-4)/\r/\∃(x:(uO IntKind.u32).ι),(decide (p-4<0)=false->(List.take z b=x/\True)/\w2 x)/\r/\∃(X:a5f.ι),let q:=(decide (p-4<0)||IntKind.i64.wrap (↑(m0 x):Int) !=(↑(be X):Int));(decide (p-4<0)=false->(List.drop z b=X/\True)/\nH X)/\(q=true->W6 b=[]/\false=R3 b/\True)/\(q=false->jH (p-4) b.length/\List.take z b=W6 b/\true=R3 b/\True)) ?_
 refine⟨Z3 Z9,hd.2 λd=>⟨Z9,Z9⟩,b.take (b.length-4),hd.2 ?_,hd.2 λd=>⟨Z9,Z9⟩,b.drop (b.length-4),hd.2 ?_,?_⟩
 ·exact λd=>⟨⟨a9N,trivial⟩,by unfold w2;simp;omega⟩
 ·exact λd=>⟨⟨a9N,trivial⟩,by unfold nH;simp;omega⟩
 have e:(decide ((b.length:Int)-4<0)||IntKind.i64.wrap (m0 (b.take (b.length-4)):Int) !=(be (b.drop (b.length-4)):Int))= !R3 b:=by
  rw[tS (.inl rfl) (a1B _)];unfold R3;rw[Bool.eq_iff_iff];simp;omega
 rw[e];refine⟨λh=>?_,λh=>?_⟩
 ·have h:R3 b=false:=by simpa using h
  exact⟨by simp[W6,h],h.symm,trivial⟩
 ·have h:R3 b=true:=by simpa using h
  have d:4<=b.length:=by simp[R3] at h;exact h.1
  exact⟨⟨Z9,Z9⟩,by rw[show((b.length:Int)-4).toNat=b.length-4 by omega];simp[W6,h],h.symm,trivial⟩
theorem nR:GK 258 a3z:=gk func258<|by
 intro(b:Bz) (hl:b.length<=1000000000);have hd:∀{p:Prop},(decide ((b.length:Int)-4<0)=false->p)↔(4<=b.length->p):=λ{p}=>⟨λh g=>h (uG Z9),λh g=>h a2E⟩
 refine S1 (gC kH (gC dG gN)) func258 Y9 (α:=let p:=(b.length:Int);let z:=(p-4).toNat;let r:=(decide (p-4<0)=false->jH (p-4) b.length);O7 .i64 (p-4)/\r/\(decide (p-4<0)=false->Lt (List.take z b).length 140737488355329)/\∃(x:(uO IntKind.i64).ι),(decide (p-4<0)=false->(List.take z b=x/\True)/\w2 x)/\r/\∃(X:jE.ι),let q:=(decide (p-4<0)||(↑(m0 x):Int) !=(↑(be X):Int));(decide (p-4<0)=false->(List.drop z b=X/\True)/\nH X)/\(q=true->[]=W6 b/\false=R3 b/\True)/\(q=false->jH (p-4) b.length/\List.take z b=W6 b/\true=R3 b/\True)) ?_
 refine⟨Z3 Z9,hd.2 λd=>⟨Z9,Z9⟩,hd.2 λd=>by unfold Lt;simp;omega,b.take (b.length-4),hd.2 ?_,hd.2 λd=>⟨Z9,Z9⟩,b.drop (b.length-4),hd.2 ?_,?_⟩
 ·exact λd=>⟨⟨a9N,trivial⟩,by unfold w2;simp;omega⟩
 ·exact λd=>⟨⟨a9N,trivial⟩,by unfold nH;simp;omega⟩
 have e:(decide ((b.length:Int)-4<0)||(m0 (b.take (b.length-4)):Int) !=(be (b.drop (b.length-4)):Int))= !R3 b:=by
  unfold R3;rw[Bool.eq_iff_iff];simp;omega
 rw[e];refine⟨λh=>?_,λh=>?_⟩
 ·have h:R3 b=false:=by simpa using h
  exact⟨by simp[W6,h],h.symm,trivial⟩
 ·have h:R3 b=true:=by simpa using h
  have d:4<=b.length:=by simp[R3] at h;exact h.1
  exact⟨⟨Z9,Z9⟩,by rw[show((b.length:Int)-4).toNat=b.length-4 by omega];simp[W6,h],h.symm,trivial⟩
def Z5(L:List (Bz))(i:Nat):List T:=[.str (L.getD i [])]
def zA(L:List (Bz)):T:=.sl 1 L.length (Z5 L)
def x4(L:List (Bz)):Option Ob:=some (.arr true 0 1 L.length (Z5 L))
structure Fst where
 l:Bz
 fl:Bool
 out:List (Bz)
def Fst.step(s:Fst):Fst:=⟨R0 (s.l.drop 1) (numR s.l),(s.fl||s.l.isEmpty)||big (s.l.drop 1) (numR s.l),s.out++[T7 (s.l.drop 1) (numR s.l)]⟩
def Fst.go(s:Fst):Nat->Fst
 |0=>s
 |n+1=>Fst.step (Fst.go s n)
def fs0(l:Bz)(fl:Bool):Fst:=⟨l.drop 1,fl||l.isEmpty,[]⟩
def F9(l:Bz)(fl:Bool)(i:Nat):Fst:=Fst.go (fs0 l fl) i
def S2(l:Bz)(fl:Bool):Fst:=F9 l fl (numR l).toNat
theorem uV(l:Bz)(fl:Bool):∀i,(F9 l fl i).out.length=i
 |0=>rfl
 |i+1=>by
  have:=uV l fl i;simp only[F9] at this ⊢;simp[Fst.go,Fst.step,this]
def a3u:List T->Y4->Option (T×Y4×Option Prop)
 | [.ref 0 0 0],[some (.arr true _ 2 1 row)]=>match row 0 with
  | [.bys l,.bool fl]=>some (zA (S2 l fl).out,[rdr (S2 l fl).l (S2 l fl).fl],none)
  |_=>none
 |_,_=>none
def b7Y:Con:=.eff a3u
def a4M(l:Bz)(fl:Bool):Nat->Ann
 |0=>.one (Up ((numR l).toNat)) (λx=>⟨[(0,.ref 0 0 0),(3,.osl 1 0 (F9 l fl x.1).out.length),(6,Ji (numR l)),(7,Ji x.1)],[rdr (F9 l fl x.1).l (F9 l fl x.1).fl,x4 (F9 l fl x.1).out]⟩) (λx=>(numR l).toNat-x.1) b9M [.box 0,.arr 3] (λ_=>Y9)
 |_=>.none
def yD(t:Bz):Nat->Option (Nat×List (Bz))
 |0=>some (1,[])
 |i+1=>match yD t i with
  |some (p,out)=>if p<t.length/\p+1+(t.getD p 0).toNat<=t.length then some (p+1+(t.getD p 0).toNat,out++[List.drop (p+1) (List.take (p+1+(t.getD p 0).toNat) t)]) else none
  |none=>none
def D1(t:Bz):Nat:=(t.getD 0 0).toNat
def P6(t:Bz):Option (List (Bz)):=if t.length=0∨D1 t>100 then none else match yD t (D1 t) with
 |some (p,out)=>if p=t.length then some out else none
 |none=>none
def aT:Rl:=⟨Bz,λt=>[.str t],λt=>.tup [zA ((P6 t).getD []),.bool (P6 t).isSome],w2⟩
def b2o:Con:=.rel aT
def b8X(t:Bz):Type:={x:Nat×Nat×List (Bz)//x.1<=D1 t/\yD t x.1=some x.2}
def b1g(t:Bz):Nat->Ann
 |0=>.one (b8X t) (λx=>⟨[(0,.str t),(4,.osl 0 0 x.1.2.2.length),(5,Ji x.1.2.1),(6,Ji (D1 t-x.1.1:Int))],[x4 x.1.2.2]⟩) (λx=>D1 t-x.1.1) [.arr 0] [.arr 2] (λ_=>Y9)
 |_=>.none
theorem nY(row row':Nat->List T):Z7 0 row row':=λi hi=>absurd hi (J5 i)
theorem W2(n:Nat)(row:Nat->List T):Z7 n row row:=λi _=>rfl
theorem a2m(L:List (Bz))(s:Bz):Z7 (L.length+1) (X7 (Z5 L) L.length λk=>List.take 1 (List.drop (k*1) [T.str s])) (Z5 (L++[s])):=by
 intro i hi;by_cases h:i<L.length
 ·rw[P7 h];simp[Z5,uW h]
 ·obtain rfl:i=L.length:=by omega
  rw[P8 (V8 _),j_i];simp[Z5]
theorem b0L:GK 234 b7Y:=gk func234<|by
 intro args H res H' p h hp;unfold a3u at h;split at h
 ·rename_i ty row;split at h
  ·rename_i l fl hrow;simp only[X2,U0] at h;obtain⟨rfl,rfl,rfl⟩:=h;refine rQ (jK hrow) ?_
   have N:=u6 l;refine vcE (gC a1x (gC rA gN)) func234 (a4M l fl) (bs:=[true]) (α:=let j:=(S2 l fl);(∃(x:Up ((numR l).toNat)),let q:=(F9 l fl x.1);((0=0/\0=0)/\(0=0/\0=q.out.length)/\numR l=numR l/\0=(x.1:Int)/\True)/\(oo (List.drop 1 l=q.l/\(fl||l.isEmpty)=q.fl/\True))/\(0=q.out.length/\Z7 0 (tk 1 []) (Z5 q.out))/\True)/\∀(x:Up ((numR l).toNat)),let w:=(x.1:Int);let p:=(F9 l fl x.1);let v:=(numR p.l);let u:=(List.drop 1 p.l);let z:=p.out.length;bd (w<numR l) (v6 v/\(Le 1 1/\Le p.out.length z/\U9 p.out.length 1 16)/\Ri (w+1)/\∃(y:Up ((numR l).toNat)),let r:=(F9 l fl y.1);(((0=0/\0=0)/\(0=0/\z+1=r.out.length)/\numR l=numR l/\w+1=(y.1:Int)/\True)/\(oo (R0 u v=r.l/\(p.fl||p.l.isEmpty||big u v)=r.fl/\True))/\(z+1=r.out.length/\Z7 (z+1) (X7 (Z5 p.out) p.out.length (tk 1 [T.str (T7 u v)])) (Z5 r.out))/\True)/\Lt ((numR l).toNat-y.1) ((numR l).toNat-x.1)) (Le (0+z) z/\(Z2 Z5 p.out j.out)/\(oo (p.l=j.l/\p.fl=j.fl/\True))/\True)) ⟨⟨⟨0,O3 _⟩,⟨⟨rfl,rfl⟩,⟨rfl,rfl⟩,rfl,rfl,trivial⟩,⟨rfl,rfl,rfl,rfl,trivial⟩,⟨rfl,nY _ _⟩,trivial⟩,λx=>⟨λhc=>?_,λhc=>?_⟩⟩
   ·have t:(x.1:Int)<numR l:=E4 hc;have n:=uV l fl x.1;have M:=u6 (F9 l fl x.1).l;refine⟨⟨M.1,Z9⟩,⟨V8 _,V8 _,Z9,Z9⟩,Z3 Z9,⟨x.1+1,Z9⟩,⟨⟨⟨rfl,rfl⟩,⟨rfl,(congrArg (· +1) n).trans (uV l fl (x.1+1)).symm⟩,rfl,F3,trivial⟩,⟨rfl,rfl,rfl,rfl,trivial⟩,⟨(congrArg (· +1) n).trans (uV l fl (x.1+1)).symm,a2m _ _⟩,trivial⟩,mL⟩
   ·have hge:¬ (x.1:Int)<numR l:=s6 hc;have hx:=x.2;have he:x.1=(numR l).toNat:=by omega
    rw[he];exact⟨L6,⟨rfl,W2 _ _⟩,⟨rfl,rfl,rfl,rfl,trivial⟩,trivial⟩
  ·cases h
 ·cases h
theorem gK{t:Bz}:∀{i:Nat} {x:Nat×List (Bz)},yD t i=some x->x.2.length=i
 |0,x,h=>by simp only[yD,X2] at h;subst h;rfl
 |i+1,x,h=>by
  simp only[yD] at h;split at h
  ·rename_i p out ho;split at h
   ·simp only[X2] at h;subst h;simp[gK ho]
   ·cases h
  ·cases h
theorem a82{t:Bz}{i p:Nat}{out:List (Bz)}(h:yD t i=some (p,out)):yD t (i+1)=if p<t.length/\p+1+(t.getD p 0).toNat<=t.length then some (p+1+(t.getD p 0).toNat,out++[List.drop (p+1) (List.take (p+1+(t.getD p 0).toNat) t)]) else none:=by
 simp only[yD,h]
theorem a1l{t:Bz}{i:Nat}(h:yD t i=none):∀j,yD t (i+j)=none
 |0=>h
 |j+1=>by
  have:=a1l h j;rw[show i+(j+1)=(i+j)+1 by omega]
  simp only[yD,this]
theorem gH:GK 259 b2o:=gk func259<|by
 intro(t:Bz) (hl:t.length<=1000000000);have B:=zI t;have N:((t.getD 0 0).toNat:Int)=(D1 t:Int):=rfl;have d:(t==[])=false->0<t.length:=λh=>List.length_pos_iff.2 A8
 refine S1 gN func259 (b1g t) (α:=let n:=((P6 t).getD []);let k:=(↑(t.getD 0 (0:UInt8)).toNat:Int);let w:=(↑(D1 t):Int);let v:=(t.length:Int);let r:=(Le 0 0/\(0=n.length/\Z7 0 (tk 1 []) (Z5 n))/\false=(P6 t).isSome/\True);((t==[])=false->V7 (0:Int) t.length)/\br (t==[]||decide (k>100)) r (V7 (0:Int) t.length/\(∃(x:b8X t),let f:=x.1.2;(t=t/\(0=0/\0=f.2.length)/\1=(f.1:Int)/\IntKind.i64.wrap k=w- (x.1.1:Int)/\True)/\(0=f.2.length/\Z7 0 (tk 1 []) (Z5 f.2))/\True)/\∀(x:b8X t),let m:=x.1;let a:=(m.1:Int);let z:=m.2.2.length;let q:=(m.2.1:Int);let p:=(↑(t.getD q.toNat (0:UInt8)).toNat:Int);let j:=(1+IntKind.i64.wrap p);let u:=(q+1+IntKind.i64.wrap p);bd (w- a>0) ((decide (q≥v)=false->Ri (q+1))/\(decide (q≥v)=false->V7 q t.length)/\(decide (q≥v)=false->Ri u)/\br (decide (q≥v)||decide (q+1+IntKind.i64.wrap p>v)) r (V7 q t.length/\Ri (q+1)/\Ri (q+1)/\Ri u/\b00 (q+1) u t.length/\(Le 1 1/\Le m.2.2.length z/\U9 m.2.2.length 1 16)/\Ri j/\Ri (q+j)/\Ri (w- a-1)/\∃(y:b8X t),let g:=y.1;((t=t/\(0=0/\z+1=g.2.2.length)/\q+j=(g.2.1:Int)/\w- a-1=w- (g.1:Int)/\True)/\(z+1=g.2.2.length/\Z7 (z+1) (X7 (Z5 m.2.2) m.2.2.length (tk 1 [T.str (List.drop (q+1).toNat (List.take u.toNat t))])) (Z5 g.2.2))/\True)/\Lt (D1 t-g.1) (D1 t-m.1))) (br (q !=v) r (Le (0+z) z/\(Z2 Z5 m.2.2 n)/\true=(P6 t).isSome/\True)))) ⟨λh=>⟨Z9,by have:=d h;omega⟩,λh=>?_,λh=>?_⟩
 ·have n:P6 t=none:=by
   unfold P6;rw[if_pos];simp only[tB,beq_iff_eq,r8] at h;rcases h with h|h
   ·exact .inl (by simp[h])
   ·exact .inr Z9
  rw[n];exact⟨V8 _,⟨rfl,nY _ _⟩,rfl,trivial⟩
 simp only[zV,qN] at h;have e:0<t.length:=d h.1;have l:P6 t=match yD t (D1 t) with
  |some (p,out)=>if p=t.length then some out else none
  |none=>none:=by
  unfold P6;rw[if_neg Z9]
 refine⟨⟨Z9,Z9⟩,⟨⟨(0,1,[]),O3 _,rfl⟩,⟨rfl,⟨rfl,rfl⟩,rfl,by rw[vS,N];simp,trivial⟩,⟨rfl,nY _ _⟩,trivial⟩,λx=>?_⟩
 obtain⟨⟨i,p,out⟩,hi,hx⟩:=x;simp only at hi hx ⊢;have f:out.length=i:=gK hx;rw[G2,vS];have j:=B p;refine⟨λhc=>?_,λhc=>?_⟩
 ·have hlt:i<D1 t:=by have:=E4 hc;omega
  have hst:=a82 hx;refine⟨λg=>Z3 a2E,λg=>⟨Z9,a2E⟩,λg=>Z3 a2E,λg=>?_,λg=>?_⟩
  ·have n:P6 t=none:=by
    rw[if_neg (by simp only[tB,r8] at g;omega)] at hst
    rw[l];have:=a1l hst (D1 t- (i+1));rw[show i+1+(D1 t- (i+1))=D1 t by omega] at this
    rw[this]
   rw[n];exact⟨V8 _,⟨rfl,nY _ _⟩,rfl,trivial⟩
  ·simp only[zV,qN] at g;rw[if_pos Z9] at hst
   refine⟨⟨Z9,Z9⟩,Z3 Z9,Z3 Z9,Z3 Z9,⟨Z9,Z9,Z9⟩,⟨V8 _,V8 _,Z9,Z9⟩,Z3 Z9,Z3 Z9,Z3 Z9,
    ⟨(i+1,_,_),hlt,hst⟩,⟨⟨z7,⟨z7,W8⟩,F3,F3,trivial⟩,⟨W8,?_⟩,trivial⟩,mL⟩
   rw[show((p:Int)+1).toNat=p+1 by omega,show((p:Int)+1+((t.getD p 0).toNat:Int)).toNat=p+1+(t.getD p 0).toNat by omega]
   exact a2m _ _
 ·have he:i=D1 t:=by have:=s6 hc;omega
  subst he;rw[hx] at l;simp only at l;refine⟨λg=>?_,λg=>?_⟩
  ·have n:P6 t=none:=by
    rw[l,if_neg (by simp only[bne_iff_ne,ne_eq] at g;omega)]
   rw[n];exact⟨V8 _,⟨rfl,nY _ _⟩,rfl,trivial⟩
  ·have n:P6 t=some out:=by
    rw[l,if_pos (by simp only[bne_eq_false_iff_eq] at g;omega)]
   rw[n];exact⟨L6,⟨rfl,W2 _ _⟩,rfl,trivial⟩
end
end Go.Proofs.YtlbmgnomkjmafaaGreat
