/- A part of the proof. -/
import Derived.Test.YtfmngblmdghccaaGreatRows
import Derived.Test.YtfmngblmdghccaaGreatSS13
import Derived.Laws.BitsLemmas
namespace Go.Proofs.YtfmngblmdghccaaGreat
set_option maxRecDepth 100000
open Go.SS

def noAnn:Nat->Ann:=fun _=>.none

theorem mixed:Tryz.prog.follows .mixedOrders=true:=by kernel_rfl
theorem leB{a b:Nat}(h:Nat.ble a b=true):a<=b:=Nat.le_of_ble_eq_true h
theorem nil_ok:GamOk Tryz.prog []:=fun _ h=>by cases h
theorem nil_call:∀x ∈ ([]:Gam),Callable Tryz.prog x.1:=fun _ h=>by cases h
theorem cons_ok{f:FuncId}{c:Con}{G:Gam}(h:ConOk Tryz.prog f c)(k:GamOk Tryz.prog G):GamOk Tryz.prog ((f,c)::G):=fun x hx=>by
 rcases List.mem_cons.1 hx with rfl|hx
 ·exact h
 ·exact k x hx
theorem cons_call{f:FuncId}{c:Con}{G:Gam}(h:Callable Tryz.prog f)(k:∀x ∈ G,Callable Tryz.prog x.1):∀x ∈ (f,c)::G,Callable Tryz.prog x.1:=fun x hx=>by
 rcases List.mem_cons.1 hx with rfl|hx
 ·exact h
 ·exact k x hx
def GG(G:Gam):Prop:=GamOk Tryz.prog G/\∀x ∈ G,Callable Tryz.prog x.1
theorem gN:GG []:=⟨nil_ok,nil_call⟩
theorem gC{f:FuncId}{c:Con}{G:Gam}(h:ConOk Tryz.prog f c)(k:Callable Tryz.prog f)(r:GG G):GG ((f,c)::G):=⟨cons_ok h r.1,cons_call k r.2⟩
theorem vcR{G:Gam}{f:FuncId}{fn:Func}{code:Code}{args:List T}{res:T}(g:GG G)(hf:Tryz.prog.funcs[f]? =some fn)(hb:fn.body=some code)(hn:Nat.ble args.length fn.ntmps=true)(A:Nat->Ann){α:Prop}(h:α)(e:α=vcFn Tryz.prog G fn.ntmps fn.results.toList code args res A):PureFn Tryz.prog f args res:=
 fn_vc mixed g.1 g.2 hf hb (leB hn) A (Eq.mp e h)
theorem vcG{G:Gam}{f:FuncId}{fn:Func}{code:Code}{args:List T}{H Hres:Heap}{res:T}(g:GG G)(hf:Tryz.prog.funcs[f]? =some fn)(hb:fn.body=some code)(hn:Nat.ble args.length fn.ntmps=true)(A:Nat->Ann)(lk:List (List Lk)){α:Prop}(h:α)(e:α=vcFnG Tryz.prog G fn.ntmps fn.results.toList code args H res Hres A lk):EffFn Tryz.prog f args H res Hres:=
 fn_vcG mixed g.1 g.2 hf hb (leB hn) A lk (Eq.mp e h)
abbrev EqL{α:Type}(row:List α->Nat->List T)(A B:List α):Prop:=A.length=B.length/\RowsEq A.length (row A) (row B)
theorem i64_rng{n:Int}(h: -9223372036854775808<=n/\n<=9223372036854775807):Rng .i64 n:=by
 unfold Rng;simp only[IntKind.min,IntKind.max,IntKind.bits,IntKind.signed];simp;omega
theorem wrap_byte(x:UInt8):IntKind.i64.wrap (x.toNat:Int)=x.toNat:=by
 have:=x.toNat_lt;rw[IntKind.wrap_i64];omega
def Small(n:Int):Prop:= -1000000000000000<=n/\n<=1000000000000000

def inR(n lo hi:Int):Bool:=decide (lo<=n)&&decide (n<=hi)
def c_inRange:List T->Option (T×Option Prop)
 | [.int .i64 n,.int .i64 lo,.int .i64 hi]=>some (.bool (inR n lo hi),none)
 |_=>none
def k_inRange:Con:=.pure c_inRange
noncomputable def b_inRange:Code:=Tryz.f51.body.getD .skip
theorem call_inRange:Callable Tryz.prog 51:=⟨_,Tryz.func51,by kernel_rfl,by kernel_rfl⟩
theorem v_inRange(n lo hi:Int)(h:
  (decide (lo<=n)&&decide (n<=hi))=inR n lo hi):
  PureFn Tryz.prog 51 [.int .i64 n,.int .i64 lo,.int .i64 hi] (.bool (inR n lo hi)):=
 vcR (code:=b_inRange) gN Tryz.func51 (by kernel_rfl) (by kernel_rfl) noAnn h (by kernel_rfl)
theorem inRange_ok:ConOk Tryz.prog 51 k_inRange:=by
 intro args res p h hp;unfold c_inRange at h;split at h
 ·simp only[Option.some.injEq,Prod.mk.injEq] at h;obtain⟨rfl,rfl⟩:=h;exact v_inRange _ _ _ rfl
 ·cases h
def k_l01In:Con:=.pure c_inRange
noncomputable def b_l01In:Code:=Tryz.f56.body.getD .skip
theorem call_l01In:Callable Tryz.prog 56:=⟨_,Tryz.func56,by kernel_rfl,by kernel_rfl⟩
theorem v_l01In(n lo hi:Int)(h:
  (decide (lo<=n)&&decide (n<=hi))=inR n lo hi):
  PureFn Tryz.prog 56 [.int .i64 n,.int .i64 lo,.int .i64 hi] (.bool (inR n lo hi)):=
 vcR (code:=b_l01In) gN Tryz.func56 (by kernel_rfl) (by kernel_rfl) noAnn h (by kernel_rfl)
theorem l01In_ok:ConOk Tryz.prog 56 k_l01In:=by
 intro args res p h hp;unfold c_inRange at h;split at h
 ·simp only[Option.some.injEq,Prod.mk.injEq] at h;obtain⟨rfl,rfl⟩:=h;exact v_l01In _ _ _ rfl
 ·cases h
def c_isPlace:List T->Option (T×Option Prop)
 | [.int .i64 n,.int .i64 m]=>some (.bool (decide (0<=n)&&decide (n<m)),some (Small m))
 |_=>none
def k_isPlace:Con:=.pure c_isPlace
noncomputable def b_isPlace:Code:=Tryz.f50.body.getD .skip
theorem call_isPlace:Callable Tryz.prog 50:=⟨_,Tryz.func50,by kernel_rfl,by kernel_rfl⟩
theorem v_isPlace(n m:Int)(h:
  Rng .i64 (m- (1:Int))/\inR n (0:Int) (m- (1:Int))=(decide ((0:Int)<=n)&&decide (n<m))):
  PureFn Tryz.prog 50 [.int .i64 n,.int .i64 m] (.bool (decide (0<=n)&&decide (n<m))):=
 vcR (code:=b_isPlace) (gC inRange_ok call_inRange gN) Tryz.func50 (by kernel_rfl) (by kernel_rfl) noAnn h (by kernel_rfl)
theorem isPlace_ok:ConOk Tryz.prog 50 k_isPlace:=by
 intro args res p h hp;unfold c_isPlace at h;split at h
 ·simp only[Option.some.injEq,Prod.mk.injEq] at h;obtain⟨rfl,rfl⟩:=h;have hp:Small _:=hp;unfold Small at hp;refine v_isPlace _ _ ⟨i64_rng (by omega),?_⟩
  unfold inR;congr 1
  exact decide_eq_decide.2 (by omega)
 ·cases h
end Go.Proofs.YtfmngblmdghccaaGreat

namespace Go.Proofs.YtfmngblmdghccaaGreat
open Go.SS

def big(l:List UInt8)(n:Int):Bool:=decide (n>(l.length:Int))
def takeR(l:List UInt8)(n:Int):List UInt8:=if big l n then List.replicate n.toNat 0 else l.take n.toNat
def restR(l:List UInt8)(n:Int):List UInt8:=if big l n then l else l.drop n.toNat
def numR(l:List UInt8):Int:=(l.getD 0 0).toNat
structure RdSt where
 l:List UInt8
 fl:Bool
 ok:Bool
 bef:Int
def RdSt.step(hi lsn:Int)(s:RdSt):RdSt:=
 ⟨(s.l.drop 1).drop 1,(s.fl||s.l.isEmpty)||(s.l.drop 1).isEmpty,s.ok&&inR (numR s.l) (s.bef+1) hi&&inR (numR (s.l.drop 1)) 1 (lsn-1),numR s.l⟩
def RdSt.go(hi lsn:Int)(s:RdSt):Nat->RdSt
 |0=>s
 |n+1=>RdSt.step hi lsn (RdSt.go hi lsn s n)
def rl0(most lo:Int)(l:List UInt8)(fl:Bool):RdSt:=⟨l.drop 1,fl||l.isEmpty,decide (numR l<=most),lo-1⟩
def rlEnd(most lo hi lsn:Int)(l:List UInt8)(fl:Bool):RdSt:=RdSt.go hi lsn (rl0 most lo l fl) (numR l).toNat
def chkL(a:List UInt8)(lsn:Int):Bool:=
 (rlEnd 8 0 7 lsn a false).ok&& !(rlEnd 8 0 7 lsn a false).fl&&((rlEnd 10 1 60 lsn (rlEnd 8 0 7 lsn a false).l (rlEnd 8 0 7 lsn a false).fl).ok&& !(rlEnd 10 1 60 lsn (rlEnd 8 0 7 lsn a false).l (rlEnd 8 0 7 lsn a false).fl).fl)&&
  (!(rlEnd 10 1 60 lsn (rlEnd 8 0 7 lsn a false).l (rlEnd 8 0 7 lsn a false).fl).fl&&(rlEnd 10 1 60 lsn (rlEnd 8 0 7 lsn a false).l (rlEnd 8 0 7 lsn a false).fl).l.isEmpty)
structure Rec where
 (e l t k p n g s:Int) (b a:List UInt8)
 deriving Inhabited
def Rec.ts(r:Rec):List T:=[.int .i64 r.e,.int .i64 r.l,.int .i64 r.t,.int .i64 r.k,.int .i64 r.p,.int .i64 r.n,.int .i64 r.g,.int .i64 r.s,.str r.b,.str r.a]
end Go.Proofs.YtfmngblmdghccaaGreat

namespace Go.Proofs.YtfmngblmdghccaaGreat
open Go.SS

def RecP(r:Rec):Prop:=
 1<=r.e/\r.e<=60/\1<=r.l/\r.l<=60/\1<=r.k/\r.k<=6/\0<=r.p/\r.p<=r.l-1/\0<=r.n/\r.n<=r.l-1/\0<=r.g/\r.g<=7/\0<=r.s/\r.s<=3/\r.b.length<=30/\
 (r.k=6->r.t=0/\r.p=0/\r.n=0/\r.g=0/\r.s=0/\r.b=[]/\chkL r.a r.l=true)/\
 (r.k≠6->1<=r.t/\r.t<=60/\r.a.length<=30/\(r.k≠2->r.k≠3->r.g=0/\r.s=0/\r.b=[]/\r.a=[])/\(r.k≠3->r.n=0)/\(r.k=3->r.b=[])/\(r.k=1↔r.p=0))
noncomputable instance(r:Rec):Decidable (RecP r):=Classical.propDecidable _
end Go.Proofs.YtfmngblmdghccaaGreat

namespace Go.Proofs.YtfmngblmdghccaaGreat
open Go.SS

def fstI(n:Nat)(p:Nat->Bool):Int:=match(List.range n).find? p with|some i=>(i:Int)|none=> -1
theorem fstI_at{n:Nat}{p:Nat->Bool}{i:Nat}(hi:i<n)(hp:p i=true)(h:∀j,j<i->p j=false):fstI n p=i:=by
 have:(List.range n).find? p=some i:=by
  rw[List.find?_range_eq_some]
  exact⟨hp,List.mem_range.2 hi,fun j hj=>by simp[h j hj]⟩
 unfold fstI;rw[this]
theorem fstI_no{n:Nat}{p:Nat->Bool}(h:∀j,j<n->p j=false):fstI n p= -1:=by
 have:(List.range n).find? p=none:=by
  rw[List.find?_range_eq_none]
  intro j hj;simp[h j hj]
 unfold fstI;rw[this]
def anyI(n:Nat)(p:Nat->Bool):Bool:=(List.range n).any p
theorem anyI_iff{n:Nat}{p:Nat->Bool}:anyI n p=true↔∃i,i<n/\p i=true:=by
 unfold anyI;simp
def Cnt(n:Nat)(p:Nat->Bool):Type:={i:Nat//i<=n/\∀j,j<i->p j=false}

theorem Cnt.ext_lt{n:Nat}{i:Nat}(h:i<n):Lt (n- (i+1)) (n-i):=by unfold Lt;omega
theorem le_of_not{i n:Nat}(h:decide ((i:Int)<(n:Int))=false):n<=i:=by simpa using h
theorem lt_of_dec{i n:Nat}(h:decide ((i:Int)<(n:Int))=true):i<n:=by simpa using h
theorem inB_nat{i n:Nat}(h:i<n):InB (i:Int) n:=⟨by omega,by omega⟩
theorem add_rng{i n:Nat}(h:i<n)(hn:n<1000000000000000):Rng .i64 ((i:Int)+1):=i64_rng (by omega)
def cnt0{n:Nat}{p:Nat->Bool}:Cnt n p:=⟨0,Nat.zero_le _,fun j hj=>absurd hj (Nat.not_lt_zero j)⟩
def Cnt.succ{n:Nat}{p:Nat->Bool}(x:Cnt n p)(h:x.1<n)(hp:p x.1=false):Cnt n p:=
 ⟨x.1+1,h,fun j hj=>by rcases Nat.lt_or_ge j x.1 with h1|h1;exact x.2.2 j h1;(obtain rfl:j=x.1:=by omega);exact hp⟩

def recRow(L:List Rec)(i:Nat):List T:=(L.getD i default).ts
def recS(L:List Rec):T:=.sl 10 L.length (recRow L)
def fnT(f:Nat):T:=.v (.func (.func f) #[] #[])
def Len(n:Nat):Prop:=n<1000000000000
end Go.Proofs.YtfmngblmdghccaaGreat

namespace Go.Proofs.YtfmngblmdghccaaGreat
open Go.SS

theorem appRow_lt{row row':Nat->List T}{n i:Nat}(h:i<n):appRow row n row' i=row i:=by
 unfold appRow;rw[show Nat.blt i n=true from by simp[Nat.blt];omega]
theorem appRow_ge{row row':Nat->List T}{n i:Nat}(h:n<=i):appRow row n row' i=row' (i-n):=by
 unfold appRow;rw[show Nat.blt i n=false from Bool.eq_false_iff.2 fun hb=>by have:=Nat.le_of_ble_eq_true hb;omega]
end Go.Proofs.YtfmngblmdghccaaGreat

namespace Go.Proofs.YtfmngblmdghccaaGreat
open Go.SS

end Go.Proofs.YtfmngblmdghccaaGreat

namespace Go.Proofs.YtfmngblmdghccaaGreat
open Go.SS

end Go.Proofs.YtfmngblmdghccaaGreat

namespace Go.Proofs.YtfmngblmdghccaaGreat
open Go.SS

def rem(left:Int)(n:Nat):Int:=if 0<=left-n then left-n else-1
theorem setRow_full{row:Nat->List T}{i k:Nat}{cs:List T}(h:cs.length=(row k).length):setRow row i 0 cs k=match Nat.beq k i with|true=>cs|false=>row k:=by
 rw[setRow_eq (by omega)]
 cases Nat.beq k i
 ·rfl
 ·simp[h]
end Go.Proofs.YtfmngblmdghccaaGreat

namespace Go.Proofs.YtfmngblmdghccaaGreat
open Go.SS

end Go.Proofs.YtfmngblmdghccaaGreat

namespace Go.Proofs.YtfmngblmdghccaaGreat
open Go.SS

def beAt(l:List UInt8):Nat->Nat
 |0=>0
 |i+1=>beAt l i*256+(l.getD i 0).toNat
def be(l:List UInt8):Nat:=beAt l l.length
end Go.Proofs.YtfmngblmdghccaaGreat

namespace Go.Proofs.YtfmngblmdghccaaGreat
open Go.SS

def strRow(L:List (List UInt8))(i:Nat):List T:=[.str (L.getD i [])]
def strS(L:List (List UInt8)):T:=.sl 1 L.length (strRow L)
def strA(L:List (List UInt8)):Option Ob:=some (.arr true 0 1 L.length (strRow L))
structure Fst where
 l:List UInt8
 fl:Bool
 out:List (List UInt8)
def Fst.step(s:Fst):Fst:=⟨restR (s.l.drop 1) (numR s.l),(s.fl||s.l.isEmpty)||big (s.l.drop 1) (numR s.l),s.out++[takeR (s.l.drop 1) (numR s.l)]⟩
def Fst.go(s:Fst):Nat->Fst
 |0=>s
 |n+1=>Fst.step (Fst.go s n)
theorem rowsR(n:Nat)(row:Nat->List T):RowsEq n row row:=fun i _=>rfl
end Go.Proofs.YtfmngblmdghccaaGreat

