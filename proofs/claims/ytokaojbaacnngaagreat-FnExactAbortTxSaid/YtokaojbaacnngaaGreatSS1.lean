/- A calculus of symbolic states over the model: definitions. What slots and cells hold is said as trees of data; a piece of code becomes a plain proposition. -/
import Derived.WalkKit
import Derived.WalkSpells
import Derived.WalkLawsBesides
import Derived.Lib.Strings
import Derived.Laws.BytesArg
import Derived.Deep.AppendSrc
namespace Go.SS
open Go.RowKit
abbrev W8:=@Option.some.injEq
abbrev N9:=@List.getD_eq_getElem?_getD
abbrev V1:=@Nat.le_refl
abbrev U0:=@Prod.mk.injEq
abbrev L4:=@List.getElem?_eq_getElem
abbrev J3:=@Option.map_eq_some_iff
abbrev S2:=@Nat.zero_le
abbrev H7:=@Nat.eq_of_beq_eq_true
abbrev A5:=@List.getElem?_eq_some_iff
abbrev J1:=@Result.andThen_ok
abbrev C3:=@List.mem_of_getElem?
abbrev I3:=@Bool.and_eq_true
abbrev E9:=@of_decide_eq_true
abbrev B8:=@List.length_append
abbrev F3:=@Nat.not_lt_zero
abbrev m8:=@Nat.le_of_ble_eq_true
abbrev z7:=@Int.toNat_natCast
abbrev I5:=@Sem.run_bind
abbrev F6:=@Sem.run_pure
abbrev m5:=@decide_eq_true_eq
abbrev E6:=@Nat.zero_add
abbrev l7:=@List.all_eq_true
abbrev o5:=@List.length_set
abbrev m6:=@Option.map_some
abbrev yG:=@of_decide_eq_false
abbrev rY:=@Array.getElem?_eq_getElem
abbrev sC:=@List.getElem?_append_left
abbrev tQ:=@decide_eq_false_iff_not
abbrev xE:=@Bool.not_eq_false'
abbrev qK:=@List.getElem?_append_right
abbrev vR:=@Nat.lt_of_lt_of_le
abbrev tU:=@Bool.or_eq_false_iff
abbrev vO:=@Bool.not_eq_true'
abbrev wE:=@List.mem_cons
abbrev tW:=@decide_eq_false
abbrev fY:=@Array.getElem?_eq_some_iff
abbrev rL:=@List.getElem?_map
abbrev jG:=@Nat.mul_le_mul_right
abbrev nO:=@Bool.or_eq_true
abbrev kC:=@List.take_length
abbrev j_l:=@List.getElem?_set_ne
abbrev j_k:=@List.getElem?_set_self
abbrev iO:=@decide_eq_true
abbrev j_i:=@List.not_mem_nil
abbrev j_h:=@Nat.sub_self
abbrev j_g:=@List.length_range

inductive T where
 |int (k:IntKind) (n:Int)
 |bool (b:Bool)
 |str (l:List UInt8)
 |v (x:Value)
 |bys (l:List UInt8)
 |sl (sz n:Nat) (row:Nat->List T)
 |bref (cells:List T)
 |ref (k i j:Nat)
 |osl (k off n:Nat)
 |agg (cs:List T)
 |tup (cs:List T)
 |fn (f:Fn) (caps:List T)
 |mpr (k:Nat)
 |own (ty:TypeId) (sz n:Nat) (row:Nat->List T)
 |posl (k v i j n:Nat)
 |pref (k v i j z a b:Nat)
 |emp
 |und
 deriving Inhabited

structure Arr where
 cl:Bool
 ty:TypeId
 sz:Nat
 n:Nat
 row:Nat->List T

inductive Ob where
 |arr (cl:Bool) (ty:TypeId) (sz n:Nat) (row:Nat->List T)
 |fam (v:Nat) (ty:TypeId) (sz n:Nat) (row:Nat->List T)
 |bys (ty:TypeId) (l:List UInt8)
 |mp (bo:Bool) (get:Int->Int)
 |mp2 (get:Int->Int->Bool)

def J5(l:List UInt8)(i:Nat):List T:=[.int .u8 ((l.getD i 0).toNat:Int)]

def Ob.toArr:Ob->Arr
 | .arr cl ty sz n row=>⟨cl,ty,sz,n,row⟩
 | .fam _ ty sz n row=>⟨false,ty,sz,n,row⟩
 | .bys ty l=>⟨true,ty,1,l.length,J5 l⟩
 | .mp _ _=>⟨true,0,0,0,λ_=>[]⟩
 | .mp2 _=>⟨true,0,0,0,λ_=>[]⟩

def Ob.isArr:Ob->Bool
 | .mp _ _=>false
 | .mp2 _=>false
 | .fam .. =>false
 |_=>true

def iL(k v i:Nat):Nat->List T->List T
 |_,[]=>[]
 |j,.own _ _ n _::r=>.posl k v i j n::iL k v i (j+1) r
 |j,t::r=>t::iL k v i (j+1) r

def zA(k v:Nat)(row:Nat->List T)(i:Nat):List T:=iL k v i 0 (row i)

abbrev Y0:=List (Option Ob)
abbrev V9:=List (Nat×T)

def m9:V9->Nat->T
 | [],_=>.und
 |(j,t)::r,i=>match Nat.beq i j with|true=>t|false=>m9 r i

def fK:Value->T
 | .int k n=>.int k n
 | .bool b=>.bool b
 | .string s=>.str s.data.toList
 |x=>.v x

def M9(s:V9):Operand->T
 | .tmp t=>m9 s t
 | .const c=>fK c
 | .func f=>.v (.func (.func f) #[] #[])
 | .global g=>.v (.pointer (some ⟨g,0,none⟩))

def X2(k:IntKind)(n:Int):Prop:=k.min<=n/\n<=k.max
def W2(i:Int)(n:Nat):Prop:=0<=i/\i<n
def Lt(i n:Nat):Prop:=i<n
def Nn(i:Int):Prop:=0<=i
def nP(i j:Int):Prop:=i<=j
def Nz(i:Int):Prop:=i≠0
def a5R(op:BinOp)(a b:Int):Option Bool:=
 match op with
 | .eql=>some (a==b)
 | .neq=>some (a !=b)
 | .lss=>some (decide (a<b))
 | .leq=>some (decide (a<=b))
 | .gtr=>some (decide (a>b))
 | .geq=>some (decide (a≥b))
 |_=>none

def b05(op:BinOp)(k:IntKind)(a b:Int):Option (T×Option Prop):=
 match op with
 | .add=>some (.int k (a+b),some (X2 k (a+b)))
 | .sub=>some (.int k (a-b),some (X2 k (a-b)))
 | .mul=>some (.int k (a*b),some (X2 k (a*b)))
 | .quo=>some (.int k (a.tdiv b),some (Nz b/\X2 k (a.tdiv b)))
 | .rem=>some (.int k (a.tmod b),some (Nz b))
 | .and=>some (.int k (bits .and k a b),none)
 | .or=>some (.int k (bits .or k a b),none)
 | .xor=>some (.int k (bits .xor k a b),none)
 | .andNot=>some (.int k (bits .andNot k a b),none)
 | .shl=>some (.int k (k.wrap (a*2 ^ (min b.toNat k.bits))),some (Nn b))
 | .shr=>some (.int k (a.fdiv (2 ^ (min b.toNat k.bits))),some (Nn b))
 |op=>(a5R op a b).map λr=>(.bool r,none)

def a9R(op:BinOp)(a b:List UInt8):Option (T×Option Prop):=
 match op with
 | .add=>some (.str (a++b),some (Lt (a.length+b.length) 9223372036854775808))
 | .eql=>some (.bool (a==b),none)
 | .neq=>some (.bool (!(a==b)),none)
 | .lss=>some (.bool (Op.bytesLess a b),none)
 | .leq=>some (.bool (Op.bytesLess a b||a==b),none)
 | .gtr=>some (.bool (!(Op.bytesLess a b||a==b)),none)
 | .geq=>some (.bool (!(Op.bytesLess a b)),none)
 |_=>none

def lG(op:BinOp)(k k':IntKind):Bool:=
 match op with
 | .shl| .shr=>true
 |_=>decide (k=k')

def a3c(P:Program)(t:TypeId):Bool:=
 match P.underlying t with
 |some (.struct _)|some (.array _ _)=>true
 |_=>false

def oH(P:Program)(t:TypeId)(f:Nat):Option Field:=
 match P.underlying t with
 |some (.struct fs)=>fs[f]?
 |_=>none

def yT(P:Program)(t:TypeId)(cs:List T)(off:Nat):Option T:=
 match(P.underlying t).isSome,a3c P t with
 |true,true=>match Nat.ble (off+P.cellsOf t) cs.length with
  |true=>some (.agg ((cs.drop off).take (P.cellsOf t)))
  |false=>none
 |true,false=>cs[off]?
 |false,_=>none

def b0M(P:Program)(rec:TypeId->T->T->Option Bool)(xs ys:List T):List Field->Option Bool
 | []=>some true
 |f::r=>match decide (f.name= "_"),yT P f.type xs f.offset,yT P f.type ys f.offset with
  |false,some a,some b=>match rec f.type a b,b0M P rec xs ys r with
   |some p,some q=>some (p&&q)
   |_,_=>none
  |_,_,_=>none

def eqT(P:Program):Nat->TypeId->T->T->Option Bool
 |0,_,_,_=>none
 |d+1,t,x,y=>match P.underlying t,x,y with
  |some (.int _),.int k a,.int k' b=>match decide (k=k') with
   |true=>some (a==b)
   |false=>none
  |some .bool,.bool a,.bool b=>some (a==b)
  |some .string,.str a,.str b=>some (a==b)
  |some (.struct fs),.agg xs,.agg ys=>match P.stoodInHeld t with
   |false=>b0M P (eqT P d) xs ys fs.toList
   |true=>none
  |_,_,_=>none

def c0C(P:Program)(op:BinOp)(t:TypeId)(x y:T):Option (T×Option Prop):=
 match P.eqGuardType P.depth t,op with
 |false,.eql=>(eqT P 20 t x y).map λb=>(.bool b,none)
 |false,.neq=>(eqT P 20 t x y).map λb=>(.bool (!b),none)
 |_,_=>none

def a01(P:Program)(op:BinOp)(t:TypeId)(b:Bool):Option (T×Option Prop):=
 match P.underlying t,op with
 |some (.pointer e),.eql=>match decide (e=P.pointee t) with
  |true=>some (.bool b,none)
  |false=>none
 |some (.pointer e),.neq=>match decide (e=P.pointee t) with
  |true=>some (.bool (!b),none)
  |false=>none
 |_,_=>none

def b26(P:Program)(op:BinOp)(t:TypeId)(x y:T):Option (T×Option Prop):=
 match x,y with
 | .int k a,.int k' b=>match lG op k k' with
  |true=>b05 op k a b
  |false=>none
 | .str a,.str b=>a9R op a b
 | .bool a,.bool b=>match P.underlying t,op with
  |some .bool,.eql=>some (.bool (a==b),none)
  |some .bool,.neq=>some (.bool (!(a==b)),none)
  |_,_=>none
 | .agg xs,.agg ys=>c0C P op t (.agg xs) (.agg ys)
 | .ref ..,.v (.pointer none)=>a01 P op t false
 | .pref ..,.v (.pointer none)=>a01 P op t false
 | .v (.pointer none),.v (.pointer none)=>a01 P op t true
 | .v (.slice none 0 0),.v (.slice none 0 0)=>match P.underlying t,op with
  |some (.slice _),.eql=>some (.bool true,none)
  |some (.slice _),.neq=>some (.bool false,none)
  |_,_=>none
 |_,_=>none

def inB(ty i n:Nat):Option Prop:=
 match Nat.beq ty 1000000 with
 |true=>match i,n with
  |0,1=>none
  |i,n=>some (Lt i n)
 |false=>some (Lt i n)

def Z1(H:Y0)(k:Nat):Option Ob:=(H[k]?).bind id
def getA(H:Y0)(k:Nat):Option Arr:=match Z1 H k with
 |some (.fam v ty sz n row)=>some ⟨false,ty,sz,n,zA k v row⟩
 |some ob=>match ob.isArr with
  |true=>some ob.toArr
  |false=>none
 |none=>none

structure Own where
 v:Nat
 n:Nat
 A:Arr

def getOwn(H:Y0)(k _v i j:Nat):Option Own:=match Z1 H k with
 |some (.fam v' _ _ n row)=>match(row i)[j]? with
  |some (.own ty sz m r)=>some ⟨v',n,true,ty,sz,m,r⟩
  |_=>none
 |_=>none

def PfB(v v' i n a m:Nat):Prop:=v=v'/\i<n/\a<m

def zP(P:Program)(H:Y0)(t:TypeId)(a:T):Option (T×Option Prop):=
 match a with
 | .bref cells=>(yT P t cells 0).map λx=>(x,none)
 | .ref k i j=>match getA H k with
  |some A=>(yT P t (A.row i) j).map λx=>(x,inB A.ty i A.n)
  |_=>none
 | .pref k v i j z a b=>match getOwn H k v i j with
  |some A=>match Nat.beq z A.A.sz with
   |true=>(yT P t (A.A.row a) b).map λx=>(x,some (PfB v A.v i A.n a A.A.n))
   |false=>none
  |none=>none
 |_=>none

def A9(P:Program)(t:TypeId)(n:Nat):Bool:=
 match P.info? t with
 |some i=>Nat.beq i.size n
 |none=>false

def D5(P:Program)(H:Y0)(t:TypeId)(x ix:T):Option (T×Option Prop):=
 match ix with
 | .int _ i=>
  match P.underlying t,x with
  |some (.slice e),.sl sz n row=>match A9 P e sz with
   |true=>some (.bref (row i.toNat),some (W2 i n))
   |false=>none
  |some (.slice e),.bys l=>match A9 P e 1 with
   |true=>some (.bref (J5 l i.toNat),some (W2 i l.length))
   |false=>none
  |some (.slice e),.osl k off n=>match getA H k with
   |some A=>match A9 P e A.sz with
    |true=>some (.ref k (off+i.toNat) 0,some (W2 i n))
    |false=>none
   |_=>none
  |some (.slice e),.posl k v i' j n=>match getOwn H k v i' j with
   |some A=>match A9 P e A.A.sz with
    |true=>some (.pref k v i' j A.A.sz i.toNat 0,some (W2 i n))
    |false=>none
   |_=>none
  |some (.array n e),.bref cells=>match(P.info? e).isSome with
   |true=>some (.bref (cells.drop (i.toNat*P.cellsOf e)),some (W2 i n))
   |false=>none
  |some (.array n e),.ref k r j=>match(P.info? e).isSome with
   |true=>some (.ref k r (j+i.toNat*P.cellsOf e),some (W2 i n))
   |false=>none
  |_,_=>none
 |_=>none

def a53(P:Program)(t:TypeId)(x:T):Option Int:=
 match P.underlying t,x with
 |some .string,.str l=>some l.length
 |some (.slice _),.bys l=>some l.length
 |some (.slice _),.sl _ n _=>some n
 |some (.slice _),.osl _ _ n=>some n
 |some (.slice _),.posl _ _ _ _ n=>some n
 |some (.slice _),.v (.slice none n _)=>some n
 |some (.slice _),.emp=>some 0
 |_,_=>none

def zeroCells(P:Program)(t:TypeId):Option (List T):=((P.info? t).bind (·.zero)).map λz=>z.cells.toList.map fK

def U9:T->List T
 | .agg cs=>cs
 |t=>[t]

def L6:T->Bool
 | .agg _| .tup _| .und=>false
 | .v (.agg _)| .v (.tuple _)=>false
 |_=>true

def W6:T->Bool
 | .ref .. | .osl .. | .agg _| .tup _| .fn .. | .mpr _=>false
 | .own .. | .posl .. | .pref .. =>false
 |_=>true

def a5z:T->Bool
 | .own .. =>true
 |_=>false

def eF(s:V9)(c a b:Operand):Option T:=
 match M9 s c with
 | .bool cb=>match a,b with
  | .const (.bool true),b=>match M9 s b with
   | .bool y=>some (.bool (cb||y))
   |_=>none
  |a,.const (.bool false)=>match M9 s a with
   | .bool x=>some (.bool (cb&&x))
   |_=>none
  |_,_=>none
 |_=>none

def Le(i n:Nat):Prop:=i<=n

def yJ(P:Program)(H:Y0)(src dst:TypeId)(x:T):Option (T×Option Prop):=
 match P.underlying src,P.underlying dst,x with
 |some (.int _),some (.int k),.int _ n=>some (.int k (k.wrap n),none)
 |some .string,some .string,.str l=>some (.str l,none)
 |some (.slice e),some .string,.bys l=>match P.underlying e with
  |some (.int .u8)=>some (.str l,none)
  |_=>none
 |some (.slice e),some .string,.osl k off n=>match P.underlying e,Z1 H k with
  |some (.int .u8),some (.bys _ l)=>some (.str ((l.drop off).take n),some (Le (off+n) l.length))
  |_,_=>none
 |_,_,_=>none

def nX(P:Program)(t:TypeId)(x:T)(f:Nat):Option T:=
 match oH P t f,x with
 |some fd,.agg cs=>yT P fd.type cs fd.offset
 |_,_=>none

def yO(P:Program)(t:TypeId)(x:T)(f:Nat):Option T:=
 match oH P t f with
 |some fd=>match A9 P fd.type (P.cellsOf fd.type),Nat.beq (P.cellsOf fd.type) 0,x with
  |true,false,.ref k i j=>some (.ref k i (j+fd.offset))
  |true,false,.bref cs=>some (.bref (cs.drop fd.offset))
  |_,_,_=>none
 |none=>none

def dJ(P:Program)(t:TypeId)(x i:T):Option (T×Option Prop):=
 match P.underlying t,x,i with
 |some .string,.str l,.int _ i=>some (.int .u8 ((l.getD i.toNat 0).toNat:Int),some (W2 i l.length))
 |some (.array n e),.agg cs,.int _ i=>match A9 P e 1,yT P e cs i.toNat with
  |true,some x=>some (x,some (W2 i n))
  |_,_=>none
 |_,_,_=>none

def jR(i:Int)(n:Nat):Prop:=0<=i/\i<=n
def b4I(a h:Int)(n:Nat):Prop:=0<=a/\a<=h/\h<=n

def j8(l:List UInt8):Option Int->Option Int->List UInt8
 |none,none=>l
 |none,some h=>l.take h.toNat
 |some a,none=>l.drop a.toNat
 |some a,some h=>(l.take h.toNat).drop a.toNat

def a3w(n:Nat):Option Int->Option Int->Nat
 |none,none=>n
 |none,some h=>h.toNat
 |some a,none=>n-a.toNat
 |some a,some h=>h.toNat-a.toNat

def b78(off:Nat):Option Int->Nat
 |none=>off
 |some a=>off+a.toNat

def a3f(row:Nat->List T):Option Int->Nat->List T
 |none=>row
 |some a=>λi=>row (a.toNat+i)

def a71(n:Nat):Option Int->Option Int->Option Prop
 |none,none=>none
 |none,some h=>some (jR h n)
 |some a,none=>some (jR a n)
 |some a,some h=>some (b4I a h n)

def yK:Option T->Option (Option Int)
 |none=>some none
 |some (.int _ i)=>some (some i)
 |_=>none

def wD(P:Program)(H:Y0)(t:TypeId)(x:T)(lo hi:Option T):Option (T×Option Prop):=
 match yK lo,yK hi with
 |some a,some h=>match P.underlying t,x with
  |some .string,.str l=>some (.str (j8 l a h),a71 l.length a h)
  |some (.slice e),.bys l=>match A9 P e 1 with
   |true=>some (.bys (j8 l a h),a71 l.length a h)
   |false=>none
  |some (.slice e),.sl sz n row=>match A9 P e sz with
   |true=>some (.sl sz (a3w n a h) (a3f row a),a71 n a h)
   |false=>none
  |some (.slice e),.osl k off n=>match getA H k with
   |some A=>match A9 P e A.sz with
    |true=>some (.osl k (b78 off a) (a3w n a h),a71 n a h)
    |false=>none
   |none=>none
  |_,_=>none
 |_,_=>none

def rJ:T->Bool
 | .agg _=>true
 |x=>L6 x

def s9(place:Nat->Option (Nat×Nat))(cells:List T):List (Nat×T)->Option (List T)
 | []=>some cells
 |(i,x)::rest=>match place i,rJ x with
  |some (off,size),true=>match Nat.beq (U9 x).length size,Nat.ble (off+(U9 x).length) cells.length with
   |true,true=>s9 place (cells.take off++U9 x++cells.drop (off+(U9 x).length)) rest
   |_,_=>none
  |_,_=>none

def tT(place:Nat->Option (Nat×Nat))(m:Nat):Nat->List (Nat×T)->Option (List T)
 |n,[]=>match Nat.beq n m with
  |true=>some []
  |false=>none
 |n,(i,x)::rest=>match place i,rJ x with
  |some (off,size),true=>match Nat.beq off n,Nat.beq (U9 x).length size with
   |true,true=>(tT place m (n+size) rest).map (U9 x++ ·)
   |_,_=>none
  |_,_=>none

def a5D(place:Nat->Option (Nat×Nat))(z:List T)(parts:List (Nat×T)):Option (List T):=
 match tT place z.length 0 parts with
 |some cs=>some cs
 |none=>s9 place z parts

def oE(P:Program)(s:V9)(t:TypeId)(parts:Array (Nat×Operand)):Option T:=
 match zeroCells P t,P.underlying t with
 |some z,some (.struct fs)=>match fs.toList.all λf=>(P.info? f.type).isSome with
  |true=>(a5D (λi=>(fs.toList[i]?).map λf=>(f.offset,P.cellsOf f.type)) z (parts.toList.map λp=>(p.1,M9 s p.2))).map .agg
  |false=>none
 |some z,some (.array _ e)=>match(P.info? e).isSome with
  |true=>(a5D (λi=>some (i*P.cellsOf e,P.cellsOf e)) z (parts.toList.map λp=>(p.1,M9 s p.2))).map .agg
  |false=>none
 |_,_=>none

def b86(s:V9)(fn:Fn)(captured:Array Operand):T:=.fn fn (captured.toList.map (M9 s))

def b94(bo:Bool)(n:Int):T:=match bo with
 |true=>.bool (decide (n≠0))
 |false=>.int .i64 n

def a8C(P:Program)(t:TypeId)(bo:Bool):Bool:=
 match P.underlying t with
 |some (.map kt et)=>match P.underlying kt,(P.info? et).bind (·.zero),bo with
  |some (.int .i64),some (.int .i64 n),false=>decide (n=0)
  |some (.int .i64),some (.bool b),true=> !b
  |_,_,_=>false
 |_=>false

def b7c(P:Program)(t:TypeId):Bool:=
 match P.underlying t with
 |some (.int .i64)=>Nat.beq (P.cellsOf t) 1
 |_=>false

def a0e(P:Program)(kt:TypeId):Bool:=
 match P.underlying kt with
 |some (.struct fs)=>match fs.toList with
  | [f0,f1]=>f0.name != "_" &&f1.name != "_" &&Nat.beq f0.offset 0&&Nat.beq f1.offset 1&&b7c P f0.type&&b7c P f1.type&&Nat.beq (P.cellsOf kt) 2&& !Nat.beq P.types.size 0
  |_=>false
 |_=>false

def a0g(P:Program)(t:TypeId):Bool:=
 match P.underlying t with
 |some (.map kt et)=>match(P.info? et).bind (·.zero) with
  |some (.bool b)=> !b&&P.keyTypeAt 2 kt&&P.tiled 2 kt&&P.keyType kt&&a0e P kt
  |_=>false
 |_=>false

def pY(P:Program)(H:Y0)(t:TypeId)(m k:T):Option (T×Option Prop):=
 match m,k with
 | .mpr j,.int .i64 n=>match Z1 H j with
  |some (.mp bo get)=>match a8C P t bo with
   |true=>some (b94 bo (get n),none)
   |false=>none
  |_=>none
 | .mpr j,.agg [.int .i64 a,.int .i64 b]=>match Z1 H j with
  |some (.mp2 get)=>match a0g P t with
   |true=>some (.bool (get a b),some (X2 .i64 a/\X2 .i64 b))
   |false=>none
  |_=>none
 |_,_=>none

def c0x(bo:Bool):T->Option Int
 | .int .i64 n=>match bo with|false=>some n|true=>none
 | .bool b=>match bo with|true=>some (cond b 1 0)|false=>none
 |_=>none

def eC(P:Program)(H:Y0)(t:TypeId)(m k x:T):Option Y0:=
 match m,k with
 | .mpr j,.int .i64 n=>match Z1 H j with
  |some (.mp bo get)=>match a8C P t bo,c0x bo x with
   |true,some v=>some (H.set j (some (.mp bo λi=>cond (decide (i=n)) v (get i))))
   |_,_=>none
  |_=>none
 |_,_=>none

def rX(P:Program)(H:Y0)(t:TypeId)(m k x:T):Option (Y0×Option Prop):=
 match m,k,x with
 | .mpr j,.agg [.int .i64 a,.int .i64 b],.bool v=>match Z1 H j with
  |some (.mp2 get)=>match a0g P t with
   |true=>some (H.set j (some (.mp2 λa' b'=>cond (decide (a'=a/\b'=b)) v (get a' b'))),some (X2 .i64 a/\X2 .i64 b))
   |false=>none
  |_=>none
 |_,_,_=>none

def xM(P:Program)(H:Y0)(t:TypeId):Option (T×Y0):=
 match a8C P t true,a8C P t false with
 |true,_=>some (.mpr H.length,H++[some (.mp true λ_=>0)])
 |_,true=>some (.mpr H.length,H++[some (.mp false λ_=>0)])
 |_,_=>match a0g P t with
  |true=>some (.mpr H.length,H++[some (.mp2 λ_ _=>false)])
  |false=>none

def b9c(op:UnOp)(x:T):Option (T×Option Prop):=
 match op,x with
 | .not,.bool b=>some (.bool (!b),none)
 | .neg,.int k n=>some (.int k (0-n),some (X2 k (0-n)))
 |_,_=>none

def uA(x:T)(i:Nat):Option T:=
 match x with
 | .tup cs=>cs[i]?
 |_=>none

def O3(P:Program)(s:V9)(H:Y0)(op:Op):Option (T×Option Prop):=
 match op with
 | .move x| .assign x=>some (M9 s x,none)
 | .pick c a b=>(eF s c a b).map (·,none)
 | .load t a=>zP P H t (M9 s a)
 | .nilCheck x=>match M9 s x with
  | .ref k i j=>some (.ref k i j,none)
  | .bref cs=>some (.bref cs,none)
  |_=>none
 | .binOp op t x y _=>b26 P op t (M9 s x) (M9 s y)
 | .unOp op _ x=>b9c op (M9 s x)
 | .convert src dst x=>yJ P H src dst (M9 s x)
 | .fieldAddr t x f=>(yO P t (M9 s x) f).map (·,none)
 | .field t x f=>(nX P t (M9 s x) f).map (·,none)
 | .indexAddr t x i=>D5 P H t (M9 s x) (M9 s i)
 | .index t x i=>dJ P t (M9 s x) (M9 s i)
 | .extract x i=>(uA (M9 s x) i).map (·,none)
 | .call {callee:=.builtin .len,args,argTypes}=>match args.toList,argTypes.toList with
  | [x],[t]=>(a53 P t (M9 s x)).map λn=>(.int .i64 n,none)
  |_,_=>none
 | .slice t x lo hi none=>wD P H t (M9 s x) (lo.map (M9 s)) (hi.map (M9 s))
 | .build t parts=>(oE P s t parts).map (·,none)
 | .makeFunc fn first captured=>match first.toList with
  | []=>some (b86 s fn captured,none)
  |_=>none
 | .lookup t m k false=>pY P H t (M9 s m) (M9 s k)
 |_=>none

def P1(n:Int):UInt8:=UInt8.ofNat n.toNat

def sZ:List T->Option (List Int)
 | []=>some []
 | .int .u8 n::r=>(sZ r).map (n:: ·)
 |_=>none

def b23:List Int->Option Prop
 | []=>none
 |n::r=>match b23 r with
  |none=>some (X2 .u8 n)
  |some p=>some (X2 .u8 n/\p)

def u5(P:Program)(e:TypeId):Bool:=
 match P.underlying e,zeroCells P e with
 |some (.int .u8),some [.int .u8 n]=>decide (n=0)
 |_,_=>false

def I4(a b c:Nat):Prop:=a*b<=c

def dZ(P:Program)(H:Y0)(t:TypeId)(l c:T):Option (T×Y0×Option Prop):=
 match P.underlying t,l,c with
 |some (.slice e),.int .i64 n,.int .i64 m=>match P.info? e,zeroCells P e with
  |some i,some z=>match Nat.beq z.length i.size,Nat.beq i.size 0,z.all L6 with
   |true,false,true=>some (.osl H.length 0 n.toNat,H++[some (match u5 P e with
     |true=>.bys e (List.replicate n.toNat 0)
     |false=>.arr (z.all W6) e i.size n.toNat λ_=>z)],some (Nn n/\nP n m/\I4 i.bytes m.toNat 140737488355328/\Lt m.toNat 9223372036854775808))
   |_,_,_=>none
  |_,_=>none
 |_,_,_=>none

def k7(P:Program)(s:V9)(H:Y0)(t:TypeId)(len:Nat)(parts:Array (Nat×Operand)):Option (T×Y0×Option Prop):=
 match P.underlying t with
 |some (.slice e)=>match P.info? e,zeroCells P e with
  |some i,some z=>match Nat.beq z.length i.size,Nat.beq i.size 0,Nat.ble (len*i.size) 16777216 with
   |true,false,true=>match s9 (λk=>some (k*i.size,i.size)) ((List.replicate len z).flatten) (parts.toList.map λp=>(p.1,M9 s p.2)) with
    |some cs=>match u5 P e with
     |true=>(sZ cs).map λns=>(.osl H.length 0 len,H++[some (.bys e (ns.map P1))],b23 ns)
     |false=>match cs.all L6 with
      |true=>some (.osl H.length 0 len,H++[some (.arr (cs.all W6) e i.size len λk=>(cs.drop (k*i.size)).take i.size)],none)
      |false=>none
    |none=>none
   |_,_,_=>none
  |_,_=>none
 |_=>none

def sel(b:Bool)(x y:T):T:=match b with|true=>x|false=>y
def c1d(b:Bool)(x y:Nat->List T)(i:Nat):List T:=match b with|true=>x i|false=>y i

def mrg(b:Bool)(x y:T):T:=
 match x,y with
 | .int k n,.int k' m=>match decide (k=k') with
  |true=>.int k (cond b n m)
  |false=>sel b (.int k n) (.int k' m)
 | .bool p,.bool q=>.bool (cond b p q)
 | .str l,.str m=>.str (cond b l m)
 | .own ty sz n row,.own ty' sz' n' row'=>match decide (ty=ty'),decide (sz=sz') with
  |true,true=>.own ty sz (cond b n n') (c1d b row row')
  |_,_=>sel b (.own ty sz n row) (.own ty' sz' n' row')
 |x,y=>sel b x y

def b1E(b:Bool):List T->List T->List T
 |x::xs,o::os=>mrg b x o::b1E b xs os
 | [],os=>os
 |_::_,[]=>[]

def b2V(b:Bool):Nat->List T->List T->List T
 |0,xs,os=>b1E b xs os
 |j+1,xs,o::os=>o::b2V b j xs os
 |_+1,_,[]=>[]

def setRow(row:Nat->List T)(i j:Nat)(cs:List T)(k:Nat):List T:=b2V (Nat.beq k i) j cs (row k)

def closedOne(t:T):Bool:=W6 t&&L6 t

def c0S(cs:List T):Bool:=cs.all λt=> !a5z t
def qH(i n:Nat)(cs:List T):Prop:=i<n/\c0S cs=true

structure Abs where
 cs:List T
 ks:List Nat
 side:Option Prop

def sP(H:Y0):List T->Option Abs
 | []=>some ⟨[],[],none⟩
 | .osl m off n::r=>match off,Z1 H m,sP H r with
  |0,some (.arr true ty sz N row),some A=>some ⟨.own ty sz n row::A.cs,m::A.ks,some (match A.side with|none=>Le n N|some p=>Le n N/\p)⟩
  |_,_,_=>none
 |t::r=>match closedOne t,sP H r with
  |true,some A=>some ⟨t::A.cs,A.ks,A.side⟩
  |_,_=>none

def I7:Y0->List Nat->Y0
 |H,[]=>H
 |H,k::r=>I7 (H.set k none) r

def qG:List Nat->Bool
 | []=>true
 |x::r=>r.all (λy=> !Nat.beq x y)&&qG r

def ltS(i n:Nat):Option Prop->Prop
 |none=>i<n
 |some p=>i<n/\p

def tY(P:Program)(H:Y0)(t:TypeId)(a x:T):Option (Y0×Option Prop):=
 match a with
 | .pref k v i j z a b=>match Z1 H k,getOwn H k v i j,A9 P t (U9 x).length,rJ x,(U9 x).all closedOne with
  |some (.fam v' ty sz n row),some A,true,true,true=>match Nat.beq z A.A.sz,Nat.ble (b+(U9 x).length) A.A.sz with
   |true,true=>some (H.set k (some (.fam v' ty sz n (setRow row i j [.own A.A.ty A.A.sz A.A.n (setRow A.A.row a b (U9 x))]))),some (PfB v v' i n a A.A.n))
   |_,_=>none
  |_,_,_,_,_=>none
 | .ref k i j=>match Z1 H k,A9 P t (U9 x).length,rJ x,(U9 x).all L6 with
  |some (.arr cl ty sz n row),true,true,true=>match Nat.ble (j+(U9 x).length) sz with
   |true=>some (H.set k (some (.arr (cl&&(U9 x).all W6) ty sz n (setRow row i j (U9 x)))),inB ty i n)
   |false=>none
  |some (.bys ty l),true,true,true=>match x,j with
   | .int .u8 m,0=>some (H.set k (some (.bys ty (l.set i (P1 m)))),some (Lt i l.length/\X2 .u8 m))
   |_,_=>none
  |some (.fam v ty sz n row),true,true,true=>match Nat.ble (j+(U9 x).length) sz with
   |true=>match(U9 x).all closedOne with
    |true=>some (H.set k (some (.fam v ty sz n (setRow row i j (U9 x)))),some (qH i n (((row i).drop j).take (U9 x).length)))
    |false=>match sP H (U9 x) with
     |some A=>match qG (k::A.ks) with
      |true=>some ((I7 H A.ks).set k (some (.fam (v+1) ty sz n (setRow row i j A.cs))),some (ltS i n A.side))
      |false=>none
     |none=>none
   |false=>none
  |_,_,_,_=>none
 |_=>none

def hJ(_P:Program)(H:Y0)(t:TypeId)(cs:List T):Option (T×Y0×Option Prop):=
 match Nat.beq cs.length 0,cs.all L6 with
 |false,true=>some (.ref H.length 0 0,H++[some (.arr (cs.all W6) 1000000 cs.length 1 λ_=>cs)],none)
 |_,_=>none

structure Sr where
 cl:Bool
 n:Nat
 row:Nat->List T
 side:Option Prop

def uX(row:Nat->List T):Nat->Nat->List T
 |0=>row
 |off=>λi=>row (off+i)

def wY(off n m:Nat):Option Prop:=some (Le (off+n) m)

def vF(H:Y0)(d:Option TypeDesc)(sz:Nat)(x:T):Option Sr:=
 match d,x with
 |some (.slice _),.sl sz' n row=>match Nat.beq sz sz' with
  |true=>some ⟨true,n,row,none⟩
  |false=>none
 |some (.slice _),.v (.slice none 0 0)=>some ⟨true,0,λ_=>[],none⟩
 |some (.slice _),.osl k off n=>match Z1 H k with
  |some (.arr cl _ sz' m row)=>match Nat.beq sz sz' with
   |true=>some ⟨cl,n,uX row off,wY off n m⟩
   |false=>none
  |_=>none
 |_,_=>none

def a86(H:Y0)(d:Option TypeDesc)(x:T):Option (List UInt8×Option Prop):=
 match d,x with
 |some .string,.str l=>some (l,none)
 |some (.slice _),.bys l=>some (l,none)
 |some (.slice _),.v (.slice none 0 0)=>some ([],none)
 |some (.slice _),.osl k off n=>match Z1 H k with
  |some (.bys _ l)=>some ((l.drop off).take n,some (Le (off+n) l.length))
  |_=>none
 |_,_=>none

def fS:Option Prop->Prop->Prop
 |none,q=>q
 |some p,q=>p/\q

def W7(row:Nat->List T)(n:Nat)(row':Nat->List T)(i:Nat):List T:=
 match Nat.blt i n with
 |true=>row i
 |false=>row' (i-n)

def V7(n m bytes:Nat):Prop:=(n+m)*bytes<=140737488355328/\n+m<=9223372036854775807

structure SrF where
 n:Nat
 row:Nat->List T
 ks:List Nat
 side:Option Prop

def b4X(H:Y0)(sz:Nat)(x:T):Option SrF:=
 match x with
 | .osl k off n=>match Z1 H k with
  |some (.arr true _ sz' m row)=>match Nat.beq sz sz' with
   |true=>some ⟨n,uX row off,[],wY off n m⟩
   |false=>none
  |some (.arr false _ sz' m row)=>match Nat.beq sz sz',off,n,m with
   |true,0,1,1=>match sP H (row 0) with
    |some A=>some ⟨1,λ_=>A.cs,A.ks,A.side⟩
    |none=>none
   |_,_,_,_=>none
  |_=>none
 |_=>none

def qX(P:Program)(H:Y0)(t tx:TypeId)(d x:T):Option (T×Y0×Option Prop):=
 match P.underlying t with
 |some (.slice e)=>match P.info? e,zeroCells P e with
  |some i,some z=>match Nat.beq z.length i.size,Nat.beq i.size 0,d with
   |true,false,.v (.slice none 0 0)=>match u5 P e with
    |true=>(a86 H (P.underlying tx) x).map λs=>(.osl H.length 0 s.1.length,H++[some (.bys e s.1)],some (fS s.2 (Lt 0 s.1.length/\V7 0 s.1.length i.bytes)))
    |false=>(vF H (P.underlying tx) i.size x).map λs=>(.osl H.length 0 s.n,H++[some (.arr s.cl e i.size s.n s.row)],some (fS s.side (Lt 0 s.n/\V7 0 s.n i.bytes)))
   |true,false,.emp=>match u5 P e with
    |true=>none
    |false=>(vF H (P.underlying tx) i.size x).map λs=>(.osl H.length 0 s.n,H++[some (.arr s.cl e i.size s.n s.row)],some (fS s.side (V7 0 s.n i.bytes)))
   |true,false,.osl k 0 n=>match Z1 H k with
    |some (.bys _ l)=>match u5 P e with
     |true=>(a86 H (P.underlying tx) x).map λs=>(.osl H.length 0 (n+s.1.length),H.set k none++[some (.bys e (l.take n++s.1))],some (fS s.2 (Le n l.length/\V7 n s.1.length i.bytes)))
     |false=>none
    |some (.arr cl _ sz N row)=>match Nat.beq sz i.size with
     |true=>(vF H (P.underlying tx) i.size x).map λs=>(.osl H.length 0 (n+s.n),H.set k none++[some (.arr (cl&&s.cl) e i.size (n+s.n) (W7 row n s.row))],some (fS s.side (Le n N/\V7 n s.n i.bytes)))
     |false=>none
    |some (.fam _ _ sz N row)=>match Nat.beq sz i.size,P.underlying tx,b4X H i.size x with
     |true,some (.slice _),some s=>match qG (k::s.ks) with
      |true=>some (.osl H.length 0 (n+s.n),I7 H (k::s.ks)++[some (.fam 0 e i.size (n+s.n) (W7 row n s.row))],some (fS s.side (Le n N/\V7 n s.n i.bytes)))
      |false=>none
     |_,_,_=>none
    |_=>none
   |_,_,_=>none
  |_,_=>none
 |_=>none

def a58:T->Bool
 | .sl .. | .osl .. | .posl .. | .v (.slice none 0 0)=>true
 |_=>false

def isZ:T->Bool
 | .int _ i=>decide (i=0)
 |_=>false

def c04:Option T->Bool
 |none=>true
 |some t=>isZ t

def rW(P:Program)(H:Y0)(t:TypeId)(x:T)(lo:Option T)(hi mx:T):Option (T×Y0×Option Prop):=
 match P.underlying t,a58 x&&c04 lo&&isZ hi&&isZ mx with
 |some (.slice e),true=>match P.info? e with
  |some i=>match Nat.beq i.size 0,A9 P e i.size with
   |false,true=>some (.osl H.length 0 0,H++[some (.arr true e i.size 0 λ_=>[])],none)
   |_,_=>none
  |none=>none
 |_,_=>none

def L9(row:Nat->List T)(off n:Nat)(z:List T)(j:Nat):List T:=
 match Nat.ble off j&&Nat.blt j (off+n) with
 |true=>z
 |false=>row j

def fT(P:Program)(H:Y0)(t:TypeId)(x:T):Option (T×Y0×Option Prop):=
 match P.underlying t,x with
 |some (.slice e),.osl k off n=>match P.info? e,zeroCells P e,Z1 H k with
  |some i,some z,some (.arr true ty sz N row)=>match Nat.beq z.length i.size&&Nat.beq sz i.size&& !Nat.beq i.size 0&&z.all closedOne with
   |true=>some (.und,H.set k (some (.arr true ty sz N (L9 row off n z))),some (Le (off+n) N))
   |false=>none
  |_,_,_=>none
 |_,_=>none

def D9(P:Program)(s:V9)(H:Y0)(op:Op):Option (T×Y0×Option Prop):=
 match op with
 | .box t x=>match rJ (M9 s x) with
  |true=>hJ P H t (U9 (M9 s x))
  |false=>none
 | .alloc t=>match zeroCells P t with
  |some z=>hJ P H t z
  |none=>none
 | .store t a x=>(tY P H t (M9 s a) (M9 s x)).map λr=>(.und,r.1,r.2)
 | .makeSlice t l c=>dZ P H t (M9 s l) (M9 s c)
 | .buildSlice t len parts=>k7 P s H t len parts
 | .convert src dst x=>match P.underlying src,P.underlying dst,M9 s x with
  |some .string,some (.slice e),.str l=>match u5 P e with
   |true=>some (.bys l,H,some (Lt l.length 140737488355329))
   |false=>none
  |_,_,_=>none
 | .call {callee:=.builtin .append,args,argTypes}=>match args.toList,argTypes.toList with
  | [d,x],[t,tx]=>qX P H t tx (M9 s d) (M9 s x)
  |_,_=>none
 | .makeMap t none=>(xM P H t).map λr=>(r.1,r.2,none)
 | .mapUpdate t m k x=>match eC P H t (M9 s m) (M9 s k) (M9 s x) with
  |some r=>some (.und,r,none)
  |none=>(rX P H t (M9 s m) (M9 s k) (M9 s x)).map λr=>(.und,r.1,r.2)
 | .slice t x lo (some hi) (some mx)=>rW P H t (M9 s x) (lo.map (M9 s)) (M9 s hi) (M9 s mx)
 | .call {callee:=.builtin .clear,args,argTypes}=>match args.toList,argTypes.toList with
  | [x],[t]=>fT P H t (M9 s x)
  |_,_=>none
 |_=>none

def P2{α β:Type}(f:α->Option β):List α->Option (List β)
 | []=>some []
 |a::r=>match f a,P2 f r with
  |some b,some q=>some (b::q)
  |_,_=>none

def qV:Option Prop->Option Prop->Option Prop
 |none,q=>q
 |p,none=>p
 |some p,some q=>some (p/\q)

def yC:List (T×Option Prop)->Option Prop
 | []=>none
 |x::r=>qV x.2 (yC r)

def b7W:T->T
 | .own _ sz n row=>.sl sz n row
 |t=>t

def eA(row:Nat->List T)(i:Nat):List T:=(row i).map b7W

def PoB(v v' i n a m:Nat):Prop:=v=v'/\i<n/\a<=m

def O2(b:Nat)(H:Y0):Nat->T->Option (T×Option Prop)
 |0,_=>none
 |d+1,t=>match t with
  | .ref k i j=>match Nat.blt k b with
   |true=>some (.ref k i j,none)
   |false=>match getA H k with
    |some A=>match i,A.n with
     |0,1=>match P2 (O2 b H d) ((A.row 0).drop j) with
      |some cs=>match cs.all λx=>W6 x.1 with
       |true=>some (.bref (cs.map (·.1)),yC cs)
       |false=>none
      |none=>none
     |_,_=>none
    |none=>none
  | .osl k off n=>match Nat.blt k b with
   |true=>some (.osl k off n,none)
   |false=>match Z1 H k with
    |some (.arr true _ sz m row)=>some (.sl sz n (uX row off),wY off n m)
    |some (.fam _ _ sz m row)=>some (.sl sz n (eA (uX row off)),wY off n m)
    |some (.bys _ l)=>some (.bys ((l.drop off).take n),some (Le (off+n) l.length))
    |_=>none
  | .agg cs=>(P2 (O2 b H d) cs).map λcs=>(.agg (cs.map (·.1)),yC cs)
  | .fn f cs=>(P2 (O2 b H d) cs).map λcs=>(.fn f (cs.map (·.1)),yC cs)
  | .tup cs=>(P2 (O2 b H d) cs).map λcs=>(.tup (cs.map (·.1)),yC cs)
  | .mpr _=>none
  | .posl k v i j n=>match Nat.blt k b with
   |true=>some (.posl k v i j n,none)
   |false=>match getOwn H k v i j with
    |some A=>some (.sl A.A.sz n A.A.row,some (PoB v A.v i A.n n A.A.n))
    |none=>none
  | .pref k v i j z a c=>match Nat.blt k b with
   |true=>some (.pref k v i j z a c,none)
   |false=>none
  | .own .. =>none
  |t=>some (t,none)

def closedD:Nat->T->Bool
 |0,_=>false
 |d+1,t=>match t with
  | .agg cs=>cs.all (closedD d)
  | .fn _ cs=>cs.all (closedD d)
  | .tup cs=>cs.all (closedD d)
  | .und=>false
  |t=>W6 t

def sU:Nat->T->Bool
 |0,_=>false
 |d+1,t=>match t with
  | .int .. | .bool _| .str _=>true
  | .agg cs=>cs.all (sU d)
  | .tup cs=>cs.all (sU d)
  |_=>false

structure Rl where
 (ι:Type)
 (args:ι->List T)
 (res:ι->T)
 (side:ι->Prop)

structure Rle where
 (ι:Type)
 (args:ι->List T)
 (pre:ι->Y0)
 (res:ι->T)
 (post:ι->Y0)
 (side:ι->Prop)

inductive Con where
 |pure (c:List T->Option (T×Option Prop))
 |eff (c:List T->Y0->Option (T×Y0×Option Prop))
 |rel (r:Rl)
 |mk (c:List T->Option (T×Y0×Option Prop))
 |reff (r:Rle)
 |rmk (r:Rle)
 |fz (c:List T->Option (T×Option Prop))
 |rfz (r:Rl)
 |tmp

abbrev H6:=List (FuncId×Con)

def gam:H6->FuncId->List T->Option (T×Option Prop)
 | [],_,_=>none
 |(g,c)::r,f,args=>match Nat.beq f g with
  |true=>match c with| .pure c=>c args|_=>none
  |false=>gam r f args

def oT:H6->FuncId->Option (List T->Y0->Option (T×Y0×Option Prop))
 | [],_=>none
 |(g,c)::r,f=>match Nat.beq f g with
  |true=>match c with| .eff c=>some c|_=>none
  |false=>oT r f

def gmk:H6->FuncId->Option (List T->Option (T×Y0×Option Prop))
 | [],_=>none
 |(g,c)::r,f=>match Nat.beq f g with
  |true=>match c with| .mk c=>some c|_=>none
  |false=>gmk r f

def gfz:H6->FuncId->Option (List T->Option (T×Option Prop))
 | [],_=>none
 |(g,c)::r,f=>match Nat.beq f g with
  |true=>match c with| .fz c=>some c|_=>none
  |false=>gfz r f

def Con.isRel:Con->Bool
 | .rel _| .reff _| .rmk _| .rfz _=>true
 |_=>false

def Con.isEff:Con->Bool
 | .eff _| .mk _| .reff _| .rmk _| .fz _| .rfz _=>true
 |_=>false

def Con.isMk:Con->Bool
 | .mk _| .rmk _=>true
 |_=>false

def zU:H6->FuncId->Option Con
 | [],_=>none
 |(g,c)::r,f=>match Nat.beq f g with
  |true=>some c
  |false=>zU r f

def b45(G:H6)(f:FuncId):Option Con:=
 match zU G f with
 |some c=>match c.isRel with
  |true=>some c
  |false=>none
 |none=>none

def cW(P:Program)(s:V9)(t:TypeId)(len:Nat)(parts:Array (Nat×Operand)):Option (T×Option Prop):=
 match P.underlying t with
  |some (.slice e)=>match P.info? e,zeroCells P e with
   |some i,some z=>match Nat.beq z.length i.size,Nat.beq i.size 0,Nat.ble (len*i.size) 16777216 with
    |true,false,true=>match s9 (λk=>some (k*i.size,i.size)) ((List.replicate len z).flatten) (parts.toList.map λp=>(p.1,M9 s p.2)) with
     |some cs=>match u5 P e,cs.all L6,cs.all W6 with
      |false,true,true=>some (.sl i.size len (λk=>(cs.drop (k*i.size)).take i.size),none)
      |_,_,_=>none
     |none=>none
    |_,_,_=>none
   |_,_=>none
  |_=>none

def a54(P:Program)(s:V9):Op->Option (T×Option Prop)
 | .buildSlice t 0 parts=>match P.underlying t,parts.toList with
  |some (.slice e),[]=>match P.info? e,zeroCells P e with
   |some i,some z=>match Nat.beq z.length i.size,Nat.beq i.size 0 with
    |true,false=>some (.emp,none)
    |_,_=>none
   |_,_=>none
  |_,_=>none
 | .call {callee:=.builtin .append,args,argTypes}=>match args.toList,argTypes.toList with
  | [d,x],[t,tx]=>match M9 s d,P.underlying t with
   | .emp,some (.slice e)=>match P.info? e,zeroCells P e with
    |some i,some z=>match Nat.beq z.length i.size,vF [] (P.underlying tx) i.size (M9 s x) with
     |true,some q=>match q.cl with
      |true=>some (.sl i.size q.n q.row,some (fS q.side (V7 0 q.n i.bytes)))
      |false=>none
     |_,_=>none
    |_,_=>none
   |_,_=>none
  |_,_=>none
 | .buildSlice t (n+1) parts=>cW P s t (n+1) parts
 |_=>none

def a2R:H6->Nat
 | []=>0
 |(_,.tmp)::r=>a2R r+1
 |_::r=>a2R r

def sO(G:H6):Op->Bool
 | .buildSlice _ (_+1) _=>Nat.ble 1 (a2R G)
 | .buildSlice _ 0 _=>Nat.ble 2 (a2R G)
 | .call {callee:=.builtin .append, .. }=>Nat.ble 3 (a2R G)
 |_=>false

def anyEff:H6->Bool
 | []=>false
 |(_,c)::r=>c.isEff||anyEff r

def isEff(G:H6):Operand->Bool
 | .func f=>match zU G f with
  |some c=>c.isEff
  |none=>false
 |_=>anyEff G

def isMk(G:H6):Operand->Bool
 | .func f=>match zU G f with
  |some c=>c.isMk
  |none=>false
 |_=>false

def T3(ρ:Nat->Option Nat):Nat->T->Option T
 |0,_=>none
 |d+1,t=>match t with
  | .ref k i j=>(ρ k).map λm=>.ref m i j
  | .osl k off n=>(ρ k).map λm=>.osl m off n
  | .mpr k=>(ρ k).map .mpr
  | .posl k v i j n=>(ρ k).map λm=>.posl m v i j n
  | .pref k v i j z a b=>(ρ k).map λm=>.pref m v i j z a b
  | .agg cs=>(P2 (T3 ρ d) cs).map .agg
  | .tup cs=>(P2 (T3 ρ d) cs).map .tup
  | .fn f cs=>(P2 (T3 ρ d) cs).map (.fn f)
  |t=>some t

def oZ(ρ:Nat->Option Nat)(ob:Ob):Option Ob:=
 match ob with
 | .bys ty l=>some (.bys ty l)
 | .fam v ty sz n row=>some (.fam v ty sz n row)
 | .arr true ty sz n row=>some (.arr true ty sz n row)
 | .arr false ty sz n row=>match n with
  |1=>(P2 (T3 ρ 6) (row 0)).map λr=>.arr false ty sz 1 λ_=>r
  |_=>none
 | .mp bo get=>some (.mp bo get)
 | .mp2 get=>some (.mp2 get)

def memN(k:Nat):List Nat->Bool
 | []=>false
 |x::r=>Nat.beq k x||memN k r

def dW:List Nat->Bool
 | []=>true
 |x::r=> !memN x r&&dW r

def lK:List T->List Nat
 | []=>[]
 | .ref k _ _::r=>k::lK r
 | .osl k _ _::r=>k::lK r
 | .agg cs::r=>idsA cs++lK r
 | .fn _ cs::r=>idsA cs++lK r
 |_::r=>lK r
where
 idsA:List T->List Nat
 | []=>[]
 | .ref k _ _::r=>k::idsA r
 | .osl k _ _::r=>k::idsA r
 |_::r=>idsA r

def c1a:Option Ob->List Nat
 |some (.arr false _ _ 1 row)=>lK (row 0)
 |_=>[]

def kJ(H:Y0):Nat->List Nat->List Nat->List Nat
 |0,_,R5=>R5
 |_+1,[],R5=>R5
 |d+1,k::r,R5=>match memN k R5 with
  |true=>kJ H d r R5
  |false=>kJ H d (c1a (Z1 H k)++r) (R5++[k])

def o9(k:Nat):List Nat->Nat->Option Nat
 | [],_=>none
 |x::r,i=>match Nat.beq k x with
  |true=>some i
  |false=>o9 k r (i+1)

def mD:List Nat->Nat->Option Nat
 | [],_=>none
 |k::_,0=>some k
 |_::r,i+1=>mD r i

def a2l(ks:List Nat)(len i:Nat):Option Nat:=
 match mD ks i with
 |some k=>some k
 |none=>some (len+(i-ks.length))

def E3:Y0->List Nat->List (Option Ob)->Y0
 |H,k::ks,o::os=>E3 (H.set k o) ks os
 |H,_,_=>H

def obB(ρ:Nat->Option Nat):Option Ob->Option (Option Ob)
 |none=>some none
 |some ob=>(oZ ρ ob).map some

def rQ(c:List T->Y0->Option (T×Y0×Option Prop))(H:Y0)(ks:List Nat)(args:List T):Option (T×Y0×Option Prop):=
 match dW ks,P2 (T3 (λk=>o9 k ks 0) 6) args,P2 (λk=>(Z1 H k).bind (oZ λk=>o9 k ks 0)) ks with
 |true,some as,some obs=>match c as (obs.map some) with
  |some (r,H',p)=>match Nat.ble ks.length H'.length,T3 (a2l ks H.length) 6 r,P2 (obB (a2l ks H.length)) H' with
   |true,some r',some os=>some (r',E3 H ks os++os.drop ks.length,p)
   |_,_,_=>none
  |none=>none
 |_,_,_=>none

def kV:Nat->Option Nat
 |0=>none
 |k+1=>some (k+1)

def c00:Nat->Nat->List Nat
 |_,0=>[]
 |i,n+1=>i::c00 (i+1) n

def okA(t:T):Bool:=
 match t with
 | .ref 0 0 _=>true
 |t=>match T3 kV 6 t with
  |some _=>true
  |none=>false

def b5h:Y0->Nat
 |some (.arr _ _ sz _ _)::_=>sz
 |_=>0

def b4g(c:List T->Y0->Option (T×Y0×Option Prop))(sz n:Nat)(H:Y0)(as:List T):Option (T×Y0×Option Prop):=
 match H with
 |some (.arr false ty szW m row)::rest=>match m,P2 (obB kV) rest,P2 (T3 kV 6) (row 0),as.all okA&&Nat.ble sz szW with
  |1,some rest0,some cs,true=>match rQ c (some (.arr false ty sz 1 λ_=>cs.take sz)::rest0) (c00 0 n) as with
   |some (r,some (.arr _ ty' sz' m' row')::rest',p)=>match m',Nat.beq sz' sz,T3 kV 6 r,P2 (obB kV) rest',P2 (T3 kV 6) (row' 0) with
    |1,true,some r',some rest2,some cs'=>some (r',some (.arr false ty' szW 1 λ_=>cs'++cs.drop sz)::rest2,p)
    |_,_,_,_,_=>none
   |_=>none
  |_,_,_,_=>none
 |_=>none

def L8(ks:List Nat):Y0->Nat->Y0
 | [],_=>[]
 |o::r,i=>(match memN i ks with|true=>o|false=>none)::L8 ks r (i+1)

def b5e(c:List T->Option (T×Option Prop))(H:Y0)(ks:List Nat)(args:List T):Option (T×Y0×Option Prop):=
 match P2 (O2 0 (L8 ks H 0) 6) args with
 |some bs=>match c (bs.map (·.1)) with
  |some (r,p)=>some (r,I7 H ks,qV (yC bs) p)
  |none=>none
 |none=>none

def dF(c:List T->Option (T×Y0×Option Prop))(H:Y0)(args:List T):Option (T×Y0×Option Prop):=
 match P2 (O2 0 H 6) args with
 |some bs=>match c (bs.map (·.1)) with
  |some (r,H',p)=>match T3 (λk=>some (H.length+k)) 6 r,P2 (obB λk=>some (H.length+k)) H' with
   |some r',some os=>some (r',H++os,qV (yC bs) p)
   |_,_=>none
  |none=>none
 |none=>none

def wA(t:T):Bool:=
 match t with
 | .int .. | .bool _| .str _| .v _=>true
 |_=>false

def c0W(v v' i n a m m':Nat)(row:Nat->List T):Prop:=v=v'/\i<n/\a<=m/\m'=m/\∀r,r<m'->∀t ∈ row r,wA t=true

def b30(c:List T->Y0->Option (T×Y0×Option Prop))(H:Y0)(args:List T):Option (T×Y0×Option Prop):=
 match args with
 | .posl k v i j n::rest=>match rest.all (closedD 6),Z1 H k,getOwn H k v i j with
  |true,some (.fam v' ty sz N row),some A=>match c (.osl 0 0 n::rest) [some (.arr true A.A.ty A.A.sz A.A.n A.A.row)] with
   |some (r,[some (.arr true _ sz' n' row')],p)=>match sU 6 r,Nat.beq sz' A.A.sz with
    |true,true=>some (r,H.set k (some (.fam v' ty sz N (setRow row i j [.own A.A.ty sz' n' row']))),qV p (some (c0W v v' i N n A.A.n n' row')))
    |_,_=>none
   |_=>none
  |_,_,_=>none
 |_=>none

def tS(G:H6)(H:Y0)(f:FuncId)(args:List T):Option (T×Y0×Option Prop):=
 match oT G f with
 |some c=>match args with
  | .posl .. ::_=>b30 c H args
  |_=>rQ c H (kJ H 64 (lK args) []) args
 |none=>match gmk G f with
  |some c=>dF c H args
  |none=>match gfz G f with
   |some c=>b5e c H (kJ H 64 (lK args) []) args
   |none=>none

def cN(s:V9):Operand->Option (FuncId×List T)
 | .func f=>some (f,[])
 |x=>match M9 s x with
  | .fn (.func f) cs=>some (f,cs)
  | .v (.func (.func f) first caps)=>match first.toList,caps.toList with
   | [],[]=>some (f,[])
   |_,_=>none
  |_=>none

def m4(G:H6)(H:Y0)(f:FuncId)(args:List T):Option (T×Option Prop):=
 match args.all (closedD 6) with
 |true=>gam G f args
 |false=>match P2 (O2 0 H 6) args with
  |some bs=>match gam G f (bs.map (·.1)) with
   |some (r,p)=>match sU 6 r with
    |true=>some (r,qV (yC bs) p)
    |false=>none
   |none=>none
  |none=>none

def M3(P:Program)(G:H6)(s:V9)(H:Y0)(op:Op):Option (T×Y0×Option Prop):=
 match O3 P s H op with
 |some (t,p)=>some (t,H,p)
 |none=>match D9 P s H op with
  |some r=>some r
  |none=>match op with
   | .call {callee:=.value x,args, .. }=>match isEff G x with
    |true=>match x with
     | .func f=>tS G H f (args.toList.map (M9 s))
     |x=>match cN s x with
      |some (f,cs)=>match isEff G (.func f) with
       |true=>tS G H f (args.toList.map (M9 s)++cs)
       |false=>(m4 G H f (args.toList.map (M9 s)++cs)).map λr=>(r.1,H,r.2)
      |none=>none
    |false=>match cN s x with
     |some (f,cs)=>(m4 G H f (args.toList.map (M9 s)++cs)).map λr=>(r.1,H,r.2)
     |none=>none
   |_=>none

def y7(P:Program)(G:H6)(s:V9)(H:Y0)(op:Op):Option (T×Y0×Option Prop):=
 match sO G op with
 |true=>match a54 P s op with
  |some (t,p)=>some (t,H,p)
  |none=>none
 |false=>M3 P G s H op

structure Sy where
 s:V9
 H:Y0

abbrev H8:=List (Nat×Bool)
abbrev D4:=List (Nat×H8)

def T2:D4->Nat->H8
 | [],_=>[]
 |(j,p)::r,t=>match Nat.beq t j with|true=>p|false=>T2 r t

def sT:H8->H8->Bool
 | [],[]=>true
 |(a,b)::p,(c,d)::q=>Nat.beq a c&&(b==d)&&sT p q
 |_,_=>false

def sufB(p:H8):H8->Bool
 | []=>sT p []
 |x::q=>sT p (x::q)||sufB p q

def G0(s:V9):H8->Prop->Prop
 | [],p=>p
 |(t,b)::r,p=>match m9 s t with
  | .bool x=>G0 s r (x=b->p)
  |_=>False

def vE(s:V9):H8->Bool
 | []=>true
 |(t,_)::r=>match m9 s t with
  | .bool _=>vE s r
  |_=>false

def Z6(n:Nat)(row row':Nat->List T):Prop:=∀i,i<n->row i=row' i

def k5:Nat->T->T->Prop
 |0,_,_=>False
 |d+1,t,t'=>
  match t,t' with
  |_,.und=>True
  | .int k a,.int k' b=>match decide (k=k') with|true=>a=b|false=>False
  | .bool a,.bool b=>a=b
  | .str a,.str b=>a=b
  | .bys a,.bys b=>a=b
  | .v (.slice none 0 0),.sl _ n _=>n=0
  | .v (.slice none 0 0),.bys l=>l=[]
  | .emp,.sl _ n _=>n=0
  | .emp,.bys l=>l=[]
  | .emp,.emp=>True
  | .v x,.v y=>x=y
  | .sl sz n row,.sl sz' m row'=>match Nat.beq sz sz' with|true=>n=m/\Z6 n row row'|false=>False
  | .ref k i j,.ref k' i' j'=>match Nat.beq k k' with|true=>i=i'/\j=j'|false=>False
  | .osl k off n,.osl k' off' n'=>match Nat.beq k k' with|true=>off=off'/\n=n'|false=>False
  | .mpr k,.mpr k'=>match Nat.beq k k' with|true=>True|false=>False
  | .agg as,.agg bs=>matsV (k5 d) as bs
  | .tup as,.tup bs=>matsV (k5 d) as bs
  | .fn f as,.fn g bs=>f=g/\matsV (k5 d) as bs
  | .bref as,.bref bs=>match bs.all W6 with|true=>matsP (k5 d) as bs|false=>False
  |_,_=>False
where
 matsP (f:T->T->Prop):List T->List T->Prop
 |_,[]=>True
 |a::r,b::q=>f a b/\matsP f r q
 |_,_=>False
 matsV (f:T->T->Prop):List T->List T->Prop
 | [],[]=>True
 |a::r,b::q=>f a b/\matsV f r q
 |_,_=>False

def nM(as bs:List T):Prop:=k5.matsV (k5 6) as bs

def a91:T->T->Prop
 | .own _ sz n row,.own _ sz' n' row'=>sz=sz'/\n=n'/\Z6 n row row'
 |t,t'=>t=t'

def b1J:List T->List T->Prop
 | [],[]=>True
 |a::r,b::q=>a91 a b/\b1J r q
 |_,_=>False

def V0(n:Nat)(row row':Nat->List T):Prop:=∀i,i<n->b1J (row i) (row' i)

def aI(o o':Option Ob):Prop:=
 match o,o' with
 |some (.arr cl _ sz n row),some (.arr cl' _ sz' n' row')=>match Nat.beq sz sz',cl,cl' with
  |true,true,true=>n=n'/\Z6 n row row'
  |true,_,false=>match(row' 0).all L6 with
   |true=>n=1/\n'=1/\k5.matsV (k5 6) (row 0) (row' 0)
   |false=>False
  |_,_,_=>False
 |some (.fam v _ sz n row),some (.fam v' _ sz' n' row')=>match Nat.beq sz sz' with
  |true=>v=v'/\n=n'/\V0 n row row'
  |false=>False
 |some (.bys _ l),some (.bys _ l')=>l=l'
 |_,_=>False

def a3L:Y0->Y0->Prop
 | [],[]=>True
 |o::r,o'::r'=>aI o o'/\a3L r r'
 |_,_=>False

def b5G(r:Rle)(x:r.ι)(as:List T)(H:Y0):Option (T×Y0×Option Prop):=
 match Nat.ble 9 (b5h (r.pre x))&& !Nat.beq (b5h H) (b5h (r.pre x)) with
 |false=>some (r.res x,r.post x,some (nM as (r.args x)/\a3L H (r.pre x)/\r.side x))
 |true=>b4g (λas H=>some (r.res x,r.post x,some (nM as (r.args x)/\a3L H (r.pre x)/\r.side x))) (b5h (r.pre x)) (r.pre x).length H as

def b7Q(G:H6)(s:V9):Op->Option (FuncId×Con)
 | .call {callee:=.value x, .. }=>match cN s x with
  |some (f,_)=>(b45 G f).map λr=>(f,r)
  |none=>none
 |_=>none

def c1b(f:FuncId)(r:Rl)(x:r.ι)(G:H6):H6:=(f,.pure λas=>some (r.res x,some (nM as (r.args x)/\r.side x)))::G
def c0M(f:FuncId)(r:Rle)(x:r.ι)(G:H6):H6:=(f,.eff λas H=>b5G r x as H)::G
def c0H(f:FuncId)(r:Rle)(x:r.ι)(G:H6):H6:=(f,.mk λas=>some (r.res x,r.post x,some (nM as (r.args x)/\r.side x)))::G

def c0L(f:FuncId)(r:Rl)(x:r.ι)(G:H6):H6:=(f,.fz λas=>some (r.res x,some (nM as (r.args x)/\r.side x)))::G

def mX(G:H6)(s:V9)(op:Op)(k:H6->Prop):Prop:=
 match b7Q G s op with
 |none=>k G
 |some (f,c)=>match c with
  | .rel r=>∃x:r.ι,k (c1b f r x G)
  | .reff r=>∃x:r.ι,k (c0M f r x G)
  | .rmk r=>∃x:r.ι,k (c0H f r x G)
  | .rfz r=>∃x:r.ι,k (c0L f r x G)
  |_=>k G

def mA(s:V9)(pth:H8):Option Prop->Prop->Prop
 |none,q=>q
 |some p,q=>G0 s pth p/\q

def kU(ps:D4)(pth:H8):Operand->Bool
 | .tmp t=>sufB (T2 ps t) pth
 |_=>true

def G4(ps:D4)(pth:H8)(op:Op):Bool:=
 match op with
 | .pick (.tmp t) a b=>sufB (T2 ps t) pth&&kU ps ((t,true)::pth) a&&kU ps ((t,false)::pth) b
 | .pick _ _ _=>false
 |op=>op.operands.toList.all (kU ps pth)

def lL(ps:D4)(d:Nat):Bool:=ps.all λx=> !Nat.beq x.1 d&&x.2.all λy=> !Nat.beq y.1 d

def mY(ps:D4):Option Tmp->Bool
 |none=>true
 |some d=>lL ps d

def yA(s:V9)(d:Option Tmp)(t:T):V9:=match d with|some d=>(d,t)::s|none=>s
def jU(ps:D4)(d:Option Tmp)(p:H8):D4:=match d with|some d=>(d,p)::ps|none=>ps

def O5(s:V9):D4->V9
 | []=>s
 |(d,_)::r=>(d,.und)::O5 s r

def y6(G:H6)(op:Op):Bool:=
 match op with
 | .box .. | .alloc .. | .store .. | .makeSlice .. | .buildSlice .. | .makeMap .. | .mapUpdate .. | .slice _ _ _ _ (some _)=>false
 | .call {callee:=.builtin .append, .. }=>false
 | .call {callee:=.builtin .clear, .. }=>false
 | .call {callee:=.value x, .. }=> !isEff G x
 |_=>true

def stays(G:H6)(op:Op):Bool:=
 match sO G op with
 |true=>true
 |false=>y6 G op

def a1R(nt:Nat):Option Tmp->Bool
 |none=>true
 |some d=>Nat.blt d nt

def rN(ps:D4)(g:Nat):Option Tmp->Bool
 |none=>false
 |some d=> !Nat.beq d g&&(T2 ps g).all λy=> !Nat.beq y.1 d

def a3K(P:Program)(s:V9):Op->Option (Nat×Bool)
 | .binOp op t x y _=>match P.underlying t,M9 s x,M9 s y,op with
  |some (.slice _),.sl _ n _,.v (.slice none 0 0),.eql=>some (n,false)
  |some (.slice _),.sl _ n _,.v (.slice none 0 0),.neq=>some (n,true)
  |some (.slice _),.osl _ _ n,.v (.slice none 0 0),.eql=>some (n,false)
  |some (.slice _),.osl _ _ n,.v (.slice none 0 0),.neq=>some (n,true)
  |_,_,_,_=>none
 |_=>none

def b9x(b:Bool)(n:Nat):Prop:=b=true->n=0

def xK(P:Program)(G:H6)(nt:Nat)(all:Array Oper):List Oper->V9->D4->Y0->(V9->Y0->Prop)->Prop
 | [],s,ps,H,K=>K (O5 s ps) H
 |o::rest,s,ps,H,K=>
  match o.guard with
  |none=>match G4 ps [] o.op&&mY ps o.dst&&a1R nt o.dst with
   |false=>False
   |true=>match a3K P s o.op with
    |some (n,neg)=>∀b:Bool,b9x b n->xK P G nt all rest (yA s o.dst (.bool (cond neg (!b) b))) ps H K
    |none=>mX G s o.op λG'=>match y7 P G' s H o.op with
     |some (t,H',side)=>mA s [] side (xK P G nt all rest (yA s o.dst t) ps H' K)
     |none=>False
  |some (j,want)=>match(all[j]?).bind (·.dst) with
   |some g=>match m9 s g with
    | .bool _=>match G4 ps ((g,want)::T2 ps g) o.op&&mY ps o.dst&&a1R nt o.dst&&rN ps g o.dst with
     |false=>False
     |true=>match stays G o.op with
      |true=>mX G s o.op λG'=>match y7 P G' s H o.op with
       |some (t,_,side)=>mA s ((g,want)::T2 ps g) side (xK P G nt all rest (yA s o.dst t) (jU ps o.dst ((g,want)::T2 ps g)) H K)
       |none=>False
      |false=>match vE s ((g,want)::T2 ps g) with
       |false=>False
       |true=>mX G s o.op λG'=>match y7 P G' s H o.op with
        |some (t,H',side)=>mA s ((g,want)::T2 ps g) side (G0 s ((g,want)::T2 ps g) (xK P G nt all rest (yA s o.dst t) (jU ps o.dst ((g,want)::T2 ps g)) H' K)/\
          (G0 s ((g,want)::T2 ps g) False->xK P G nt all rest (yA s o.dst t) (jU ps o.dst ((g,want)::T2 ps g)) H K))
        |none=>False
    |_=>False
   |none=>False

def maskOf(tab:List Nat):List Edge->Nat
 | []=>0
 |e::r=>match Region.binds .any e with
  |true=>Nat.lor (Nat.lor (Nat.shiftLeft 1 e.on) (tab.getD e.on 0)) (maskOf tab r)
  |false=>maskOf tab r

def vH:List Operand->List Nat
 | []=>[]
 | .tmp t::r=>t::vH r
 |_::r=>vH r

def sH(all:Array Oper)(o:Oper):List Nat:=
 match o.guard with
 |none=>vH o.op.operands.toList
 |some (j,_)=>match(all[j]?).bind (·.dst) with
  |some g=>g::vH o.op.operands.toList
  |none=>vH o.op.operands.toList

def k8(G:H6)(op:Op):Bool:=
 match op with
 | .box .. | .alloc .. | .makeSlice .. | .buildSlice .. | .makeMap .. | .slice _ _ _ (some _) (some _)=>true
 | .call {callee:=.value x, .. }=>isMk G x
 |_=>false

def a5s(op:Op):Bool:=
 match op with
 | .call {callee:=.value _, .. }=>true
 |_=>false

def floatB(G:H6)(op:Op):Bool:=a5s op&&k8 G op

def pU(o:Oper):Option TypeId:=
 match o.op,o.guard with
 | .alloc t,none=>some t
 |_,_=>none

def xL(o:Oper):Bool:=
 match pU o with
 |some _=>true
 |none=>false

def zH:List Oper->Nat
 | []=>0
 |o::r=>match xL o with
  |true=>zH r+1
  |false=>zH r

def jW(b:Nat)(all:Array Oper)(i:Nat):Nat:=b+zH (all.toList.take i)

def a9Z(P:Program)(H:Y0)(t:TypeId)(r:Nat):Option (T×Y0):=
 match zeroCells P t with
 |some z=>match Nat.beq z.length 0,z.all L6,Z1 H r,Nat.blt r H.length with
  |false,true,none,true=>some (.ref r 0 0,H.set r (some (.arr (z.all W6) 1000000 z.length 1 λ_=>z)))
  |_,_,_,_=>none
 |none=>none

def dO(H:Y0):Nat->Y0
 |0=>H
 |n+1=>H++List.replicate (n+1) none++[some (.arr true 0 1 0 λ_=>[])]

def a5U(u:Option Tmp)(l:List Nat):Bool:=
 match u with
 |some u=>l.any λv=>Nat.beq u v
 |none=>false

def eO(a b:Option Tmp):Bool:=
 match a,b with
 |some a,some b=>Nat.beq a b
 |_,_=>false

def pureB(op:Op):Bool:=
 match op with
 | .move _| .assign _| .pick .. | .nilCheck _| .binOp .. | .unOp .. | .fieldAddr .. | .field .. | .extract .. | .build .. | .makeFunc .. | .index .. =>true
 |_=>false

def gX(s:V9)(op:Op):Option (List Nat):=
 match op with
 | .load _ a=>match M9 s a with
  | .ref k _ _=>some [k]
  | .bref _=>some []
  |_=>none
 | .indexAddr _ x _=>match M9 s x with
  | .sl .. | .bys _=>some []
  | .osl k _ _=>some [k]
  |_=>none
 | .convert _ _ x=>match M9 s x with
  | .str _| .bys _| .int .. =>some []
  |_=>none
 | .slice _ x _ _ none=>match M9 s x with
  | .str _| .bys _| .sl .. =>some []
  | .osl k _ _=>some [k]
  |_=>none
 | .buildSlice .. =>some []
 | .call {callee:=.builtin .len, .. }=>some []
 | .call {callee:=.value x,args, .. }=>match cN s x with
  |some (_,cs)=>match(args.toList.map (M9 s)++cs).all (closedD 6) with
   |true=>some []
   |false=>none
  |none=>none
 |_=>none

def qA(H:Y0)(s:V9)(op:Op):Option (List Nat):=
 match op with
 | .call {callee:=.builtin .append,args, .. }=>match args.toList with
  |d::_=>match M9 s d with
   | .osl k _ _=>match Z1 H k with
    |some (.fam ..)=>none
    |_=>some [k]
   | .v _=>some []
   | .emp=>some []
   |_=>none
  | []=>none
 | .store _ a x=>match M9 s a with
  | .ref k _ _=>match Z1 H k with
   |some (.fam ..)=>match(U9 (M9 s x)).all closedOne with
    |true=>some [k]
    |false=>none
   |_=>some [k]
  | .pref k _ _ _ _ _ _=>some [k]
  |_=>none
 | .call {callee:=.value x,args, .. }=>match cN s x with
  |some (_,cs)=>match args.toList.map (M9 s)++cs with
   | .posl .. ::_=>none
   |as=>some (kJ H 64 (lK as) [])
  |none=>none
 |_=>none

abbrev RW:=Option (List Nat)×Option (List Nat)
def tG(H:Y0)(s:V9)(op:Op):RW:=(gX s op,qA H s op)

def disjB(r w:Option (List Nat)):Bool:=
 match r,w with
 |some r,some w=>r.all λk=>w.all λj=> !Nat.beq k j
 |_,_=>false

def A6(G:H6)(all:Array Oper)(m i:Nat)(x:Oper)(fx:RW)(o:Oper)(fo:RW):Bool:=
 !eO x.dst o.dst&&(Nat.testBit m i||(!a5U x.dst (sH all o)&& !a5U o.dst (sH all x)&&(match stays G x.op,stays G o.op with
  |true,true=>true
  |true,false=>k8 G o.op||pureB x.op||disjB fx.1 fo.2
  |false,true=>k8 G x.op||pureB o.op||disjB fo.1 fx.2
  |false,false=>xL o&&(xL x||floatB G x.op))))

def dN(i:Nat)(o:Oper):Bool:=o.after.toList.all λe=> !Region.binds .any e||Nat.blt e.on i

def C8(H0:Y0):List (Nat×Y0)->Y0
 | []=>H0
 |(_,H)::_=>H

def D0(all:Array Oper)(k:Nat):Bool:=
 match all[k]? with
 |some o=>xL o
 |none=>false

def hAt(all:Array Oper)(H0:Y0)(m:Nat):List (Nat×Y0)->Y0
 | []=>H0
 |(k,H)::r=>match Nat.testBit m k&& !D0 all k with
  |true=>H
  |false=>hAt all H0 m r

def xP(P:Program)(G:H6)(nt:Nat)(all:Array Oper)(b:Nat)(H0:Y0):List Oper->Nat->List (Nat×Oper×RW)->List Nat->V9->D4->List (Nat×Y0)->(V9->Y0->Prop)->Prop
 | [],_,_,_,s,ps,hist,K=>K (O5 s ps) (C8 H0 hist)
 |o::rest,i,earlier,tab,s,ps,hist,K=>
  match dN i o&&earlier.all (λx=>A6 G all (maskOf tab o.after.toList) x.1 x.2.1 x.2.2 o (tG (C8 H0 hist) s o.op)) with
  |false=>False
  |true=>match o.guard with
   |none=>match G4 ps [] o.op&&mY ps o.dst&&a1R nt o.dst with
    |false=>False
    |true=>match pU o with
     |some t=>match a9Z P (C8 H0 hist) t (jW b all i) with
      |some (y,H')=>xP P G nt all b H0 rest (i+1) ((i,o,tG (C8 H0 hist) s o.op)::earlier) (tab++[maskOf tab o.after.toList]) (yA s o.dst y) ps ((i,H')::hist) K
      |none=>False
     |none=>match stays G o.op with
      |true=>mX G s o.op λG'=>match y7 P G' s (hAt all H0 (maskOf tab o.after.toList) hist) o.op with
       |some (t,_,side)=>mA s [] side (xP P G nt all b H0 rest (i+1) ((i,o,tG (C8 H0 hist) s o.op)::earlier) (tab++[maskOf tab o.after.toList]) (yA s o.dst t) ps hist K)
       |none=>False
      |false=>mX G s o.op λG'=>match y7 P G' s (C8 H0 hist) o.op with
       |some (t,H',side)=>mA s [] side (xP P G nt all b H0 rest (i+1) ((i,o,tG (C8 H0 hist) s o.op)::earlier) (tab++[maskOf tab o.after.toList]) (yA s o.dst t) ps ((i,H')::hist) K)
       |none=>False
   |some (j,want)=>match(all[j]?).bind (·.dst) with
    |some g=>match m9 s g with
     | .bool _=>match Nat.blt j i&&G4 ps ((g,want)::T2 ps g) o.op&&mY ps o.dst&&a1R nt o.dst&&stays G o.op&&rN ps g o.dst with
      |false=>False
      |true=>mX G s o.op λG'=>match y7 P G' s (hAt all H0 (maskOf tab o.after.toList) hist) o.op with
       |some (t,_,side)=>mA s ((g,want)::T2 ps g) side (xP P G nt all b H0 rest (i+1) ((i,o,tG (C8 H0 hist) s o.op)::earlier) (tab++[maskOf tab o.after.toList]) (yA s o.dst t) (jU ps o.dst ((g,want)::T2 ps g)) hist K)
       |none=>False
     |_=>False
    |none=>False

def b0g(body:(Exit->Sy->Prop)->Sy->Prop)(sub:Sy->Sy->Prop)(Q:Exit->Sy->Prop)(σ:Sy):Prop:=
 ∃(ι:Type) (I:ι->Sy) (μ:ι->Nat),(∃x,sub σ (I x))/\∀x,body (λe σ'=>match e with| .normal=>∃y,sub σ' (I y)/\μ y<μ x|e=>Q e σ') (I x)

def vc(P:Program)(G:H6)(nt:Nat)(sub:Sy->Sy->Prop):Code->(Exit->Sy->Prop)->Sy->Prop
 | .skip,Q,σ=>Q .normal σ
 | .region _ ops draw,Q,σ=>match draw with
  |false=>xK P G nt ops ops.toList σ.s [] σ.H λs H=>Q .normal ⟨s,H⟩
  |true=>xP P G nt ops σ.H.length (dO σ.H (zH ops.toList)) ops.toList 0 [] [] σ.s [] [] λs H=>Q .normal ⟨s,H⟩
 | .seq a b,Q,σ=>vc P G nt sub a (λe σ'=>match e with| .normal=>vc P G nt sub b Q σ'|e=>Q e σ') σ
 | .cond c x y,Q,σ=>match M9 σ.s c with
  | .bool b=>(b=true->vc P G nt sub x Q σ)/\(b=false->vc P G nt sub y Q σ)
  |_=>False
 | .block id body,Q,σ=>vc P G nt sub body (λe σ'=>match e with| .exit i=>(match Nat.beq i id with|true=>Q .normal σ'|false=>Q (.exit i) σ')|e=>Q e σ') σ
 | .loop body,Q,σ=>b0g (vc P G nt sub body) sub Q σ
 | .exit id,Q,σ=>Q (.exit id) σ
 | .ret,Q,σ=>Q .ret σ
 |_,_,_=>False

def fE(P:Program)(s:V9)(H:Y0):ResultVar->Option (T×Option Prop)
 | .tmp t=>some (m9 s t,none)
 | .cell a t=>zP P H t (m9 s a)

def b00(P:Program)(s:V9)(H:Y0)(rs:List ResultVar):Option (T×Option Prop):=
 match P2 (fE P s H) rs with
 |some [x]=>some x
 |some xs=>some (.tup (xs.map (·.1)),yC xs)
 |none=>none

def jX:Option Prop->Prop->Prop
 |none,q=>q
 |some p,q=>p/\q

def b3O(P:Program)(rs:List ResultVar)(post:T->Prop):Exit->Sy->Prop
 | .normal,σ| .ret,σ=>match b00 P σ.s σ.H rs with
  |some (r,p)=>match O2 0 σ.H 6 r with
   |some (r',p')=>jX p (jX p' (post r'))
   |none=>False
  |none=>False
 |_,_=>False

def tJ:Nat->List T->V9
 |_,[]=>[]
 |i,t::r=>(i,t)::tJ (i+1) r

end Go.SS
