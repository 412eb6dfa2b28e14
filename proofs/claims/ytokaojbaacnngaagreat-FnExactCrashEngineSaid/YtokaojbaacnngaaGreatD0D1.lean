/- A part of the proof. -/
import Derived.Test.YtokaojbaacnngaaGreatRows
import Derived.Test.YtokaojbaacnngaaGreatSS19
namespace Go.Proofs.YtokaojbaacnngaaGreat
set_option maxRecDepth 100000
open Go.SS

def noAnn:Nat->Ann:=fun _=>.none

theorem mixed:Tryz.prog.follows .mixedOrders=true:=by kernel_rfl
theorem leB{a b:Nat}(h:Nat.ble a b=true):a<=b:=Nat.le_of_ble_eq_true h
theorem nil_ok:GamOk Tryz.prog []:=fun _ h=>by cases h
theorem nil_call:∀x ∈ ([]:Gam),Callable Tryz.prog x.1:=fun _ h=>by cases h
theorem cons_ok{f:FuncId}{c:Con}{G:Gam}(h:ConOk Tryz.prog f c)(k:GamOk Tryz.prog G):GamOk Tryz.prog ((f,c)::G):=fun x hx=>by
 rcases List.mem_cons.1 hx with rfl|hx
 ·exact h
 ·exact k x hx
theorem cons_call{f:FuncId}{c:Con}{G:Gam}(h:Callable Tryz.prog f)(k:∀x ∈ G,Callable Tryz.prog x.1):∀x ∈ (f,c)::G,Callable Tryz.prog x.1:=fun x hx=>by
 rcases List.mem_cons.1 hx with rfl|hx
 ·exact h
 ·exact k x hx
def GG(G:Gam):Prop:=GamOk Tryz.prog G/\∀x ∈ G,Callable Tryz.prog x.1
theorem gN:GG []:=⟨nil_ok,nil_call⟩
theorem gC{f:FuncId}{c:Con}{G:Gam}(h:ConOk Tryz.prog f c)(k:Callable Tryz.prog f)(r:GG G):GG ((f,c)::G):=⟨cons_ok h r.1,cons_call k r.2⟩
theorem vcR{G:Gam}{f:FuncId}{fn:Func}{code:Code}{args:List T}{res:T}(g:GG G)(hf:Tryz.prog.funcs[f]? =some fn)(hb:fn.body=some code)(hn:Nat.ble args.length fn.ntmps=true)(A:Nat->Ann){α:Prop}(h:α)(e:α=vcFn Tryz.prog G fn.ntmps fn.results.toList code args res A):PureFn Tryz.prog f args res:=
 fn_vc mixed g.1 g.2 hf hb (leB hn) A (Eq.mp e h)
theorem vcG{G:Gam}{f:FuncId}{fn:Func}{code:Code}{args:List T}{H Hres:Heap}{res:T}(g:GG G)(hf:Tryz.prog.funcs[f]? =some fn)(hb:fn.body=some code)(hn:Nat.ble args.length fn.ntmps=true)(A:Nat->Ann)(lk:List (List Lk)){α:Prop}(h:α)(e:α=vcFnG Tryz.prog G fn.ntmps fn.results.toList code args H res Hres A lk):EffFn Tryz.prog f args H res Hres:=
 fn_vcG mixed g.1 g.2 hf hb (leB hn) A lk (Eq.mp e h)
theorem vcE{G:Gam}{f:FuncId}{fn:Func}{code:Code}{args:List T}{H Hres:Heap}{bs:List Bool}{res:T}(g:GG G)(hf:Tryz.prog.funcs[f]? =some fn)(hb:fn.body=some code)(hn:Nat.ble args.length fn.ntmps=true)(A:Nat->Ann){α:Prop}(h:α)(e:α=vcFnE Tryz.prog G fn.ntmps fn.results.toList code args H bs res Hres A)(hl:H.length=bs.length:=by rfl):EffFn Tryz.prog f args H res Hres:=
 fn_vcE mixed g.1 g.2 hf hb (leB hn) hl A (Eq.mp e h)
abbrev EqL{α:Type}(row:List α->Nat->List T)(A B:List α):Prop:=A.length=B.length/\RowsEq A.length (row A) (row B)
theorem i64_rng{n:Int}(h: -9223372036854775808<=n/\n<=9223372036854775807):Rng .i64 n:=by
 unfold Rng;simp only[IntKind.min,IntKind.max,IntKind.bits,IntKind.signed];simp;omega
theorem rng_i64(n:Int):Rng .i64 n↔(-9223372036854775808<=n/\n<=9223372036854775807):=by
 unfold Rng;simp only[IntKind.min,IntKind.max,IntKind.bits,IntKind.signed];simp
theorem wrap_byte(x:UInt8):IntKind.i64.wrap (x.toNat:Int)=x.toNat:=by
 have:=x.toNat_lt;rw[IntKind.wrap_i64];omega
def Small(n:Int):Prop:= -1000000000000000<=n/\n<=1000000000000000

def inR(n lo hi:Int):Bool:=decide (lo<=n)&&decide (n<=hi)
def c_inRange:List T->Option (T×Option Prop)
 | [.int .i64 n,.int .i64 lo,.int .i64 hi]=>some (.bool (inR n lo hi),none)
 |_=>none
def k_inRange:Con:=.pure c_inRange
noncomputable def b_inRange:Code:=Tryz.f122.body.getD .skip
theorem call_inRange:Callable Tryz.prog 122:=⟨_,Tryz.func122,by kernel_rfl,by kernel_rfl⟩
theorem v_inRange(n lo hi:Int)(h:
  (decide (lo<=n)&&decide (n<=hi))=inR n lo hi):
  PureFn Tryz.prog 122 [.int .i64 n,.int .i64 lo,.int .i64 hi] (.bool (inR n lo hi)):=
 vcR (code:=b_inRange) gN Tryz.func122 (by kernel_rfl) (by kernel_rfl) noAnn h (by kernel_rfl)
theorem inRange_ok:ConOk Tryz.prog 122 k_inRange:=by
 intro args res p h hp;unfold c_inRange at h;split at h
 ·simp only[Option.some.injEq,Prod.mk.injEq] at h;obtain⟨rfl,rfl⟩:=h;exact v_inRange _ _ _ rfl
 ·cases h
def k_l01In:Con:=.pure c_inRange
noncomputable def b_l01In:Code:=Tryz.f74.body.getD .skip
theorem call_l01In:Callable Tryz.prog 74:=⟨_,Tryz.func74,by kernel_rfl,by kernel_rfl⟩
theorem v_l01In(n lo hi:Int)(h:
  (decide (lo<=n)&&decide (n<=hi))=inR n lo hi):
  PureFn Tryz.prog 74 [.int .i64 n,.int .i64 lo,.int .i64 hi] (.bool (inR n lo hi)):=
 vcR (code:=b_l01In) gN Tryz.func74 (by kernel_rfl) (by kernel_rfl) noAnn h (by kernel_rfl)
theorem l01In_ok:ConOk Tryz.prog 74 k_l01In:=by
 intro args res p h hp;unfold c_inRange at h;split at h
 ·simp only[Option.some.injEq,Prod.mk.injEq] at h;obtain⟨rfl,rfl⟩:=h;exact v_l01In _ _ _ rfl
 ·cases h
def c_isPlace:List T->Option (T×Option Prop)
 | [.int .i64 n,.int .i64 m]=>some (.bool (decide (0<=n)&&decide (n<m)),some (Small m))
 |_=>none
def k_isPlace:Con:=.pure c_isPlace
noncomputable def b_isPlace:Code:=Tryz.f155.body.getD .skip
theorem call_isPlace:Callable Tryz.prog 155:=⟨_,Tryz.func155,by kernel_rfl,by kernel_rfl⟩
theorem v_isPlace(n m:Int)(h:
  Rng .i64 (m- (1:Int))/\inR n (0:Int) (m- (1:Int))=(decide ((0:Int)<=n)&&decide (n<m))):
  PureFn Tryz.prog 155 [.int .i64 n,.int .i64 m] (.bool (decide (0<=n)&&decide (n<m))):=
 vcR (code:=b_isPlace) (gC inRange_ok call_inRange gN) Tryz.func155 (by kernel_rfl) (by kernel_rfl) noAnn h (by kernel_rfl)
theorem isPlace_ok:ConOk Tryz.prog 155 k_isPlace:=by
 intro args res p h hp;unfold c_isPlace at h;split at h
 ·simp only[Option.some.injEq,Prod.mk.injEq] at h;obtain⟨rfl,rfl⟩:=h;have hp:Small _:=hp;unfold Small at hp;refine v_isPlace _ _ ⟨i64_rng (by omega),?_⟩
  unfold inR;congr 1
  exact decide_eq_decide.2 (by omega)
 ·cases h
end Go.Proofs.YtokaojbaacnngaaGreat

namespace Go.Proofs.YtokaojbaacnngaaGreat
set_option maxRecDepth 100000
open Go.SS

def big(l:List UInt8)(n:Int):Bool:=decide (n>(l.length:Int))
def takeR(l:List UInt8)(n:Int):List UInt8:=if big l n then List.replicate n.toNat 0 else l.take n.toNat
def restR(l:List UInt8)(n:Int):List UInt8:=if big l n then l else l.drop n.toNat
def rdr(l:List UInt8)(fl:Bool):Option Ob:=some (.arr true 1000000 2 1 fun _=>[.bys l,.bool fl])
def Small47(n:Int):Prop:=0<=n/\n<140737488355328
theorem rdr_any{ty:TypeId}{row:Nat->List T}{l:List UInt8}{fl:Bool}(h:row 0=[.bys l,.bool fl]):HEq' [some (.arr true ty 2 1 row)] [rdr l fl]:=
 ⟨.rows _ _ _ _ _ _ _ fun i hi=>by(obtain rfl:i=0:=by omega);exact h,trivial⟩
def c_take:List T->Heap->Option (T×Heap×Option Prop)
 | [.ref 0 0 0,.int .i64 n],[some (.arr true _ 2 1 row)]=>match row 0 with
  | [.bys l,.bool fl]=>some (.bys (takeR l n),[rdr (restR l n) (fl||big l n)],some (Small47 n))
  |_=>none
 |_,_=>none
def k_take:Con:=.eff c_take
noncomputable def b_take:Code:=Tryz.f256.body.getD .skip
theorem call_take:Callable Tryz.prog 256:=⟨_,Tryz.func256,by kernel_rfl,by kernel_rfl⟩
theorem v_take(l:List UInt8)(fl:Bool)(n:Int)(h:
  (decide (n>(l.length:Int))=true->(Nn n/\LeI n n/\sizeB 1 n.toNat 140737488355328/\Lt n.toNat 9223372036854775808)/\Le (0+n.toNat) (List.replicate n.toNat (0:UInt8)).length/\List.take n.toNat (List.drop 0
  (List.replicate n.toNat (0:UInt8)))=takeR l n/\(1=1/\1=1/\l=restR l n/\true=(fl||big l n)/\True)/\True)/\(decide (n>(l.length:Int))=false->InC n l.length/\InC n l.length/\List.take n.toNat l=takeR l n
  /\(1=1/\1=1/\List.drop n.toNat l=restR l n/\fl=(fl||big l n)/\True)/\True)):
  EffFn Tryz.prog 256 [.ref 0 0 0,.int .i64 n] [rdr l fl] (.bys (takeR l n)) [rdr (restR l n) (fl||big l n)]:=
 vcE (code:=b_take) gN Tryz.func256 (by kernel_rfl) (by kernel_rfl) noAnn (bs:=[true]) h (by kernel_rfl)
theorem take_ok:ConOk Tryz.prog 256 k_take:=by
 intro args H res H' p h hp;unfold c_take at h;split at h
 ·rename_i n ty row;split at h
  ·rename_i l fl hrow;simp only[Option.some.injEq,Prod.mk.injEq] at h;obtain⟨rfl,rfl,rfl⟩:=h;obtain⟨h0,h1⟩:Small47 n:=hp;refine eff_congr (rdr_any hrow) ?_
   refine v_take l fl n ⟨fun hb=> ?_,fun hb=> ?_⟩
   ·have hbig:big l n=true:=hb;refine⟨⟨h0,Int.le_refl _,by unfold sizeB;omega,by unfold Lt;omega⟩,by unfold Le;simp,?_,⟨rfl,rfl,?_,?_,trivial⟩,trivial⟩
    ·simp[takeR,hbig]
    ·simp[restR,hbig]
    ·simp[hbig]
   ·have hbig:big l n=false:=hb;have hle:n<=l.length:=by simpa[big] using hbig
    refine⟨⟨h0,hle⟩,⟨h0,hle⟩,?_,⟨rfl,rfl,?_,?_,trivial⟩,trivial⟩
    ·simp[takeR,hbig]
    ·simp[restR,hbig]
    ·simp[hbig]
  ·cases h
 ·cases h

def numR(l:List UInt8):Int:=(l.getD 0 0).toNat
def c_num:List T->Heap->Option (T×Heap×Option Prop)
 | [.ref 0 0 0],[some (.arr true _ 2 1 row)]=>match row 0 with
  | [.bys l,.bool fl]=>some (.int .i64 (numR l),[rdr (l.drop 1) (fl||l.isEmpty)],none)
  |_=>none
 |_,_=>none
def k_num:Con:=.eff c_num
noncomputable def b_num:Code:=Tryz.f268.body.getD .skip
theorem call_num:Callable Tryz.prog 268:=⟨_,Tryz.func268,by kernel_rfl,by kernel_rfl⟩
theorem v_num(l:List UInt8)(fl:Bool)(h:
  Small47 (1:Int)/\InB (0:Int) (takeR l (1:Int)).length/\IntKind.i64.wrap (↑((takeR l (1:Int)).getD 0 (0:UInt8)).toNat:Int)=numR l/\(1=1/\1=1/\restR l (1:Int)=List.drop 1 l/\(fl||big l (1:Int))=(fl
  ||l.isEmpty)/\True)/\True):
  EffFn Tryz.prog 268 [.ref 0 0 0] [rdr l fl] (.int .i64 (numR l)) [rdr (l.drop 1) (fl||l.isEmpty)]:=
 vcE (code:=b_num) (gC take_ok call_take gN) Tryz.func268 (by kernel_rfl) (by kernel_rfl) noAnn (bs:=[true]) h (by kernel_rfl)
theorem num_ok:ConOk Tryz.prog 268 k_num:=by
 intro args H res H' p h hp;unfold c_num at h;split at h
 ·rename_i ty row;split at h
  ·rename_i l fl hrow;simp only[Option.some.injEq,Prod.mk.injEq] at h;obtain⟨rfl,rfl,rfl⟩:=h;refine eff_congr (rdr_any hrow) ?_
   refine v_num l fl ?_
   have h1:∀x:UInt8,IntKind.i64.wrap (x.toNat:Int)=x.toNat:=fun x=>by
    have:=x.toNat_lt;rw[IntKind.wrap_i64];omega
   have h0:IntKind.i64.wrap 0=0:=by decide
   cases l with
   |nil=>refine⟨⟨by omega,by omega⟩,by simp[InB,takeR,big],?_,⟨rfl,rfl,?_,?_,trivial⟩,trivial⟩<;>simp[takeR,restR,big,numR,h0]
   |cons a l=>
    have hb:big (a::l) 1=false:=by simp[big];omega
    refine⟨⟨by omega,by omega⟩,by simp[InB,takeR,hb],?_,⟨rfl,rfl,?_,?_,trivial⟩,trivial⟩<;>simp[takeR,restR,hb,numR,h1]
  ·cases h
 ·cases h

def c_isDone:List T->Option (T×Option Prop)
 | [.bref [.bys l,.bool fl]]=>some (.bool (!fl&&l.isEmpty),none)
 |_=>none
def k_isDone:Con:=.pure c_isDone
noncomputable def b_isDone:Code:=Tryz.f259.body.getD .skip
theorem call_isDone:Callable Tryz.prog 259:=⟨_,Tryz.func259,by kernel_rfl,by kernel_rfl⟩
theorem v_isDone(l:List UInt8)(fl:Bool)(h:
  (!fl&&(l.length:Int)==(0:Int))=(!fl&&l.isEmpty)):
  PureFn Tryz.prog 259 [.bref [.bys l,.bool fl]] (.bool (!fl&&l.isEmpty)):=
 vcR (code:=b_isDone) gN Tryz.func259 (by kernel_rfl) (by kernel_rfl) noAnn h (by kernel_rfl)
theorem isDone_ok:ConOk Tryz.prog 259 k_isDone:=by
 intro args res p h hp;unfold c_isDone at h;split at h
 ·rename_i l fl;simp only[Option.some.injEq,Prod.mk.injEq] at h;obtain⟨rfl,rfl⟩:=h;refine v_isDone l fl ?_
  cases l with
  |nil=>simp
  |cons a l=>
   have:((((a::l).length:Nat):Int)==0)=false:=by simp;omega
   rw[this];simp
 ·cases h

structure RdSt where
 l:List UInt8
 fl:Bool
 ok:Bool
 bef:Int
def RdSt.step(hi lsn:Int)(s:RdSt):RdSt:=
 ⟨(s.l.drop 1).drop 1,(s.fl||s.l.isEmpty)||(s.l.drop 1).isEmpty,s.ok&&inR (numR s.l) (s.bef+1) hi&&inR (numR (s.l.drop 1)) 1 (lsn-1),numR s.l⟩
def RdSt.go(hi lsn:Int)(s:RdSt):Nat->RdSt
 |0=>s
 |n+1=>RdSt.step hi lsn (RdSt.go hi lsn s n)
def rl0(most lo:Int)(l:List UInt8)(fl:Bool):RdSt:=⟨l.drop 1,fl||l.isEmpty,decide (numR l<=most),lo-1⟩
def rlEnd(most lo hi lsn:Int)(l:List UInt8)(fl:Bool):RdSt:=RdSt.go hi lsn (rl0 most lo l fl) (numR l).toNat
def Okb(lo lsn:Int):Prop:= -1000000000000<=lo/\lo<=1000000000000/\ -1000000000000<=lsn/\lsn<=1000000000000
def c_checkList:List T->Heap->Option (T×Heap×Option Prop)
 | [.ref 0 0 0,.int .i64 most,.int .i64 lo,.int .i64 hi,.int .i64 lsn],[some (.arr true _ 2 1 row)]=>match row 0 with
  | [.bys l,.bool fl]=>some (.bool ((rlEnd most lo hi lsn l fl).ok&& !(rlEnd most lo hi lsn l fl).fl),[rdr (rlEnd most lo hi lsn l fl).l (rlEnd most lo hi lsn l fl).fl],some (Okb lo lsn))
  |_=>none
 |_,_=>none
def k_checkList:Con:=.eff c_checkList
def I25(most lo hi lsn:Int)(l:List UInt8)(fl:Bool)(x:{i:Nat//i<=(numR l).toNat}):Sy:=
 ⟨[(0,.ref 0 0 0),(3,.int .i64 hi),(4,.int .i64 lsn),(12,.bool (RdSt.go hi lsn (rl0 most lo l fl) x.1).ok),(13,.int .i64 (RdSt.go hi lsn (rl0 most lo l fl) x.1).bef),(23,.int .i64 (numR l)),(24,.int .i64 x.1)],
  [rdr (RdSt.go hi lsn (rl0 most lo l fl) x.1).l (RdSt.go hi lsn (rl0 most lo l fl) x.1).fl]⟩
def A25(most lo hi lsn:Int)(l:List UInt8)(fl:Bool):Nat->Ann
 |0=>.one {i:Nat//i<=(numR l).toNat} (I25 most lo hi lsn l fl) (fun x=>(numR l).toNat-x.1) [.box 0] [.box 0] (fun _=>noAnn)
 |_=>.none
noncomputable def b_checkList:Code:=Tryz.f274.body.getD .skip
theorem call_checkList:Callable Tryz.prog 274:=⟨_,Tryz.func274,by kernel_rfl,by kernel_rfl⟩
theorem v_checkList(most lo hi lsn:Int)(l:List UInt8)(fl:Bool)(h:
  Rng .i64 (lo- (1:Int))/\(∃(x:{i:Nat//i<=(numR l).toNat}),((0=0/\0=0)/\hi=hi/\lsn=lsn/\decide (numR l<=most)=(RdSt.go hi lsn (rl0 most lo l fl) x.val).ok/\lo- (1:Int)=(RdSt.go hi lsn (rl0 most lo
  l fl) x.val).bef/\numR l=numR l/\(0:Int)=(x.val:Int)/\True)/\(1=1/\1=1/\List.drop 1 l=(RdSt.go hi lsn (rl0 most lo l fl) x.val).l/\(fl||l.isEmpty)=(RdSt.go hi lsn (rl0 most lo l fl) x.val).fl/\True)/\True)
  /\∀(x:{i:Nat//i<=(numR l).toNat}),(decide ((x.val:Int)<numR l)=true->((RdSt.go hi lsn (rl0 most lo l fl) x.val).ok=true->Rng .i64 ((RdSt.go hi lsn (rl0 most lo l fl) x.val).bef+(1:Int)))/\(((RdSt.go hi lsn
  (rl0 most lo l fl) x.val).ok&&inR (numR (RdSt.go hi lsn (rl0 most lo l fl) x.val).l) ((RdSt.go hi lsn (rl0 most lo l fl) x.val).bef+(1:Int)) hi)=true->Rng .i64 (lsn- (1:Int)))/\Rng .i64 ((x.val:Int)+(1:Int))/\∃
  (y:{i:Nat//i<=(numR l).toNat}),(((0=0/\0=0)/\hi=hi/\lsn=lsn/\((RdSt.go hi lsn (rl0 most lo l fl) x.val).ok&&inR (numR (RdSt.go hi lsn (rl0 most lo l fl) x.val).l) ((RdSt.go hi lsn (rl0 most lo l fl)
  x.val).bef+(1:Int)) hi&&inR (numR (List.drop 1 (RdSt.go hi lsn (rl0 most lo l fl) x.val).l)) (1:Int) (lsn- (1:Int)))=(RdSt.go hi lsn (rl0 most lo l fl) y.val).ok/\numR (RdSt.go hi lsn (rl0 most lo l fl) x.val).l=
  (RdSt.go hi lsn (rl0 most lo l fl) y.val).bef/\numR l=numR l/\(x.val:Int)+(1:Int)=(y.val:Int)/\True)/\(1=1/\1=1/\List.drop 1 (List.drop 1 (RdSt.go hi lsn (rl0 most lo l fl) x.val).l)=(RdSt.go hi lsn (rl0 most
  lo l fl) y.val).l/\((RdSt.go hi lsn (rl0 most lo l fl) x.val).fl||(RdSt.go hi lsn (rl0 most lo l fl) x.val).l.isEmpty||(List.drop 1 (RdSt.go hi lsn (rl0 most lo l fl) x.val).l).isEmpty)=(RdSt.go hi lsn (rl0 most lo l fl)
  y.val).fl/\True)/\True)/\Lt ((numR l).toNat-y.val) ((numR l).toNat-x.val))/\(decide ((x.val:Int)<numR l)=false->((RdSt.go hi lsn (rl0 most lo l fl) x.val).ok&& !(RdSt.go hi lsn (rl0 most lo l fl) x.val).fl)=((rlEnd
  most lo hi lsn l fl).ok&& !(rlEnd most lo hi lsn l fl).fl)/\(1=1/\1=1/\(RdSt.go hi lsn (rl0 most lo l fl) x.val).l=(rlEnd most lo hi lsn l fl).l/\(RdSt.go hi lsn (rl0 most lo l fl) x.val).fl=(rlEnd most lo hi lsn l
  fl).fl/\True)/\True)):
  EffFn Tryz.prog 274 [.ref 0 0 0,.int .i64 most,.int .i64 lo,.int .i64 hi,.int .i64 lsn] [rdr l fl] (.bool ((rlEnd most lo hi lsn l fl).ok&& !(rlEnd most lo hi lsn l fl).fl)) [rdr (rlEnd most lo hi lsn l fl).l (rlEnd most lo hi lsn l fl).fl]:=
 vcE (code:=b_checkList) (gC num_ok call_num (gC inRange_ok call_inRange gN)) Tryz.func274 (by kernel_rfl) (by kernel_rfl) (A25 most lo hi lsn l fl) (bs:=[true]) h (by kernel_rfl)
theorem numR_in(l:List UInt8):0<=numR l/\numR l<=255:=by
 unfold numR;have:=(l.getD 0 0).toNat_lt;omega
theorem bef_in(hi lsn lo most:Int)(l:List UInt8)(fl:Bool)(h: -1000000000000<=lo/\lo<=1000000000000)(n:Nat):
  -2000000000000<=(RdSt.go hi lsn (rl0 most lo l fl) n).bef/\(RdSt.go hi lsn (rl0 most lo l fl) n).bef<=2000000000000:=by
 cases n with
 |zero=>simp only[RdSt.go,rl0];omega
 |succ n=>
  simp only[RdSt.go,RdSt.step];have:=numR_in (RdSt.go hi lsn (rl0 most lo l fl) n).l;omega
theorem checkList_ok:ConOk Tryz.prog 274 k_checkList:=by
 intro args H res H' p h hp;unfold c_checkList at h;split at h
 ·rename_i most lo hi lsn ty row;split at h
  ·rename_i l fl hrow;simp only[Option.some.injEq,Prod.mk.injEq] at h;obtain⟨rfl,rfl,rfl⟩:=h;obtain⟨q1,q2,q3,q4⟩:Okb lo lsn:=hp;refine eff_congr (rdr_any hrow) ?_
   refine v_checkList most lo hi lsn l fl ?_
   have hn:=numR_in l;refine⟨i64_rng (by omega),⟨⟨0,Nat.zero_le _⟩,⟨⟨rfl,rfl⟩,rfl,rfl,rfl,rfl,rfl,rfl,trivial⟩,⟨rfl,rfl,rfl,rfl,trivial⟩,trivial⟩,fun x=>⟨fun hc=>⟨fun _=>i64_rng ?_,fun _=>i64_rng (by omega),i64_rng ?_,?_⟩,fun hc=> ?_⟩⟩
   ·have:=bef_in hi lsn lo most l fl ⟨q1,q2⟩ x.val;omega
   ·have:=x.2;omega
   ·have hlt:(x.val:Int)<numR l:=of_decide_eq_true hc;refine⟨⟨x.val+1,by omega⟩,⟨⟨⟨rfl,rfl⟩,rfl,rfl,rfl,rfl,rfl,by simp,trivial⟩,⟨rfl,rfl,rfl,rfl,trivial⟩,trivial⟩,?_⟩
    unfold Lt;simp only;omega
   ·have hge:¬ (x.val:Int)<numR l:=of_decide_eq_false hc;have hx:=x.2;have he:x.val=(numR l).toNat:=by omega
    unfold rlEnd;rw[he];exact⟨rfl,⟨rfl,rfl,rfl,rfl,trivial⟩,trivial⟩
  ·cases h
 ·cases h

def chkL(a:List UInt8)(lsn:Int):Bool:=
 (rlEnd 8 0 7 lsn a false).ok&& !(rlEnd 8 0 7 lsn a false).fl&&((rlEnd 10 1 60 lsn (rlEnd 8 0 7 lsn a false).l (rlEnd 8 0 7 lsn a false).fl).ok&& !(rlEnd 10 1 60 lsn (rlEnd 8 0 7 lsn a false).l (rlEnd 8 0 7 lsn a false).fl).fl)&&
  (!(rlEnd 10 1 60 lsn (rlEnd 8 0 7 lsn a false).l (rlEnd 8 0 7 lsn a false).fl).fl&&(rlEnd 10 1 60 lsn (rlEnd 8 0 7 lsn a false).l (rlEnd 8 0 7 lsn a false).fl).l.isEmpty)
def StrLsn(a:List UInt8)(lsn:Int):Prop:=a.length<140737488355329/\ -1000000000000<=lsn/\lsn<=1000000000000
def c_isCheck:List T->Option (T×Option Prop)
 | [.str a,.int .i64 lsn]=>some (.bool (chkL a lsn),some (StrLsn a lsn))
 |_=>none
def k_isCheck:Con:=.pure c_isCheck
noncomputable def b_isCheck:Code:=Tryz.f244.body.getD .skip
theorem call_isCheck:Callable Tryz.prog 244:=⟨_,Tryz.func244,by kernel_rfl,by kernel_rfl⟩
theorem v_isCheck(a:List UInt8)(lsn:Int)(h:
  Lt a.length 140737488355329/\Okb (0:Int) lsn/\Okb (1:Int) lsn/\((rlEnd (8:Int) (0:Int) (7:Int) lsn a false).ok&& !(rlEnd (8:Int) (0:Int) (7:Int) lsn a false).fl&&((rlEnd (10:Int) (1:Int) (60:Int) lsn
  (rlEnd (8:Int) (0:Int) (7:Int) lsn a false).l (rlEnd (8:Int) (0:Int) (7:Int) lsn a false).fl).ok&& !(rlEnd (10:Int) (1:Int) (60:Int) lsn (rlEnd (8:Int) (0:Int) (7:Int) lsn a false).l (rlEnd (8:Int) (0:
  Int) (7:Int) lsn a false).fl).fl)&&(!(rlEnd (10:Int) (1:Int) (60:Int) lsn (rlEnd (8:Int) (0:Int) (7:Int) lsn a false).l (rlEnd (8:Int) (0:Int) (7:Int) lsn a false).fl).fl&&(rlEnd (10:Int) (1:Int) (60:
  Int) lsn (rlEnd (8:Int) (0:Int) (7:Int) lsn a false).l (rlEnd (8:Int) (0:Int) (7:Int) lsn a false).fl).l.isEmpty))=chkL a lsn):
  PureFn Tryz.prog 244 [.str a,.int .i64 lsn] (.bool (chkL a lsn)):=
 vcR (code:=b_isCheck) (gC checkList_ok call_checkList (gC isDone_ok call_isDone gN)) Tryz.func244 (by kernel_rfl) (by kernel_rfl) noAnn h (by kernel_rfl)
theorem isCheck_ok:ConOk Tryz.prog 244 k_isCheck:=by
 intro args res p h hp;unfold c_isCheck at h;split at h
 ·rename_i a lsn;simp only[Option.some.injEq,Prod.mk.injEq] at h;obtain⟨rfl,rfl⟩:=h;obtain⟨h1,h2,h3⟩:StrLsn a lsn:=hp;exact v_isCheck a lsn ⟨h1,⟨by omega,by omega,h2,h3⟩,⟨by omega,by omega,h2,h3⟩,rfl⟩
 ·cases h

structure Rec where
 (e l t k p n g s:Int) (b a:List UInt8)
 deriving Inhabited
def Rec.ts(r:Rec):List T:=[.int .i64 r.e,.int .i64 r.l,.int .i64 r.t,.int .i64 r.k,.int .i64 r.p,.int .i64 r.n,.int .i64 r.g,.int .i64 r.s,.str r.b,.str r.a]
end Go.Proofs.YtokaojbaacnngaaGreat

