/- A calculus of symbolic states over the model: definitions. What slots and cells hold is said as trees of data; a piece of code becomes a plain proposition. -/
import Derived.WalkKit
import Derived.WalkSpells
import Derived.WalkLawsBesides
import Derived.Lib.Strings
import Derived.Laws.BytesArg
import Derived.Deep.AppendSrc
namespace Go.SS
open Go.RowKit
abbrev W8:=@Option.some.injEq
abbrev P8:=@List.getD_eq_getElem?_getD
abbrev W4:=@Nat.le_refl
abbrev T5:=@Prod.mk.injEq
abbrev K7:=@List.getElem?_eq_getElem
abbrev S7:=@Nat.zero_le
abbrev I3:=@Option.map_eq_some_iff
abbrev K6:=@List.length_append
abbrev G3:=@Nat.eq_of_beq_eq_true
abbrev L3:=@Bool.and_eq_true
abbrev z5:=@List.getElem?_eq_some_iff
abbrev I1:=@Result.andThen_ok
abbrev J5:=@Nat.not_lt_zero
abbrev B5:=@List.mem_of_getElem?
abbrev F5:=@Int.toNat_natCast
abbrev C7:=@of_decide_eq_true
abbrev v6:=@Nat.le_of_ble_eq_true
abbrev B1:=@List.length_set
abbrev H4:=@Sem.run_bind
abbrev G9:=@Nat.zero_add
abbrev l7:=@of_decide_eq_false
abbrev yP:=@Bool.or_eq_false_iff
abbrev D5:=@Sem.run_pure
abbrev k4:=@decide_eq_true_eq
abbrev tX:=@List.getElem?_append_left
abbrev yT:=@Bool.not_eq_false'
abbrev i5:=@List.all_eq_true
abbrev rK:=@List.getElem?_append_right
abbrev j8:=@Option.map_some
abbrev rL:=@Array.getElem?_eq_getElem
abbrev wM:=@Nat.lt_of_lt_of_le
abbrev xP:=@Bool.not_eq_true'
abbrev rX:=@decide_eq_false_iff_not
abbrev uV:=@decide_eq_false
abbrev wY:=@List.mem_cons
abbrev pN:=@List.getElem?_map
abbrev j_p:=@Array.getElem?_eq_some_iff
abbrev iN:=@Nat.mul_le_mul_right
abbrev pP:=@Bool.or_eq_true
abbrev nJ:=@List.take_length
abbrev pO:=@decide_eq_true
abbrev aP:=@List.getElem?_set_ne
abbrev j_j:=@List.getElem?_set_self
abbrev j_i:=@List.not_mem_nil
abbrev j_h:=@Nat.sub_self
abbrev j_g:=@List.length_range

inductive T where
 |int (k:IntKind) (n:Int)
 |bool (b:Bool)
 |str (l:List UInt8)
 |v (x:Value)
 |bys (l:List UInt8)
 |sl (sz n:Nat) (row:Nat->List T)
 |bref (cells:List T)
 |ref (k i j:Nat)
 |osl (k off n:Nat)
 |agg (cs:List T)
 |tup (cs:List T)
 |fn (f:Fn) (caps:List T)
 |mpr (k:Nat)
 |own (ty:TypeId) (sz n:Nat) (row:Nat->List T)
 |posl (k v i j n:Nat)
 |pref (k v i j z a b:Nat)
 |emp
 |und
 deriving Inhabited

structure Arr where
 cl:Bool
 ty:TypeId
 sz:Nat
 n:Nat
 row:Nat->List T

inductive Ob where
 |arr (cl:Bool) (ty:TypeId) (sz n:Nat) (row:Nat->List T)
 |fam (v:Nat) (ty:TypeId) (sz n:Nat) (row:Nat->List T)
 |bys (ty:TypeId) (l:List UInt8)
 |mp (bo:Bool) (get:Int->Int)
 |mp2 (get:Int->Int->Bool)

def I4(l:List UInt8)(i:Nat):List T:=[.int .u8 ((l.getD i 0).toNat:Int)]

def Ob.toArr:Ob->Arr
 | .arr cl ty sz n row=>⟨cl,ty,sz,n,row⟩
 | .fam _ ty sz n row=>⟨false,ty,sz,n,row⟩
 | .bys ty l=>⟨true,ty,1,l.length,I4 l⟩
 | .mp _ _=>⟨true,0,0,0,λ_=>[]⟩
 | .mp2 _=>⟨true,0,0,0,λ_=>[]⟩

def Ob.isArr:Ob->Bool
 | .mp _ _=>false
 | .mp2 _=>false
 | .fam .. =>false
 |_=>true

def fP(k v i:Nat):Nat->List T->List T
 |_,[]=>[]
 |j,.own _ _ n _::r=>.posl k v i j n::fP k v i (j+1) r
 |j,t::r=>t::fP k v i (j+1) r

def yB(k v:Nat)(row:Nat->List T)(i:Nat):List T:=fP k v i 0 (row i)

abbrev Y1:=List (Option Ob)
abbrev V5:=List (Nat×T)

def j7:V5->Nat->T
 | [],_=>.und
 |(j,t)::r,i=>match Nat.beq i j with|true=>t|false=>j7 r i

def cW:Value->T
 | .int k n=>.int k n
 | .bool b=>.bool b
 | .string s=>.str s.data.toList
 |x=>.v x

def M7(s:V5):Operand->T
 | .tmp t=>j7 s t
 | .const c=>cW c
 | .func f=>.v (.func (.func f) #[] #[])
 | .global g=>.v (.pointer (some ⟨g,0,none⟩))

def W7(k:IntKind)(n:Int):Prop:=k.min<=n/\n<=k.max
def V3(i:Int)(n:Nat):Prop:=0<=i/\i<n
def Lt(i n:Nat):Prop:=i<n
def Nn(i:Int):Prop:=0<=i
def LeI(i j:Int):Prop:=i<=j
def Nz(i:Int):Prop:=i≠0
def a6U(op:BinOp)(a b:Int):Option Bool:=
 match op with
 | .eql=>some (a==b)
 | .neq=>some (a !=b)
 | .lss=>some (decide (a<b))
 | .leq=>some (decide (a<=b))
 | .gtr=>some (decide (a>b))
 | .geq=>some (decide (a≥b))
 |_=>none

def b20(op:BinOp)(k:IntKind)(a b:Int):Option (T×Option Prop):=
 match op with
 | .add=>some (.int k (a+b),some (W7 k (a+b)))
 | .sub=>some (.int k (a-b),some (W7 k (a-b)))
 | .mul=>some (.int k (a*b),some (W7 k (a*b)))
 | .quo=>some (.int k (a.tdiv b),some (Nz b/\W7 k (a.tdiv b)))
 | .rem=>some (.int k (a.tmod b),some (Nz b))
 | .and=>some (.int k (bits .and k a b),none)
 | .or=>some (.int k (bits .or k a b),none)
 | .xor=>some (.int k (bits .xor k a b),none)
 | .andNot=>some (.int k (bits .andNot k a b),none)
 | .shl=>some (.int k (k.wrap (a*2 ^ (min b.toNat k.bits))),some (Nn b))
 | .shr=>some (.int k (a.fdiv (2 ^ (min b.toNat k.bits))),some (Nn b))
 |op=>(a6U op a b).map λr=>(.bool r,none)

def b1h(op:BinOp)(a b:List UInt8):Option (T×Option Prop):=
 match op with
 | .add=>some (.str (a++b),some (Lt (a.length+b.length) 9223372036854775808))
 | .eql=>some (.bool (a==b),none)
 | .neq=>some (.bool (!(a==b)),none)
 | .lss=>some (.bool (Op.bytesLess a b),none)
 | .leq=>some (.bool (Op.bytesLess a b||a==b),none)
 | .gtr=>some (.bool (!(Op.bytesLess a b||a==b)),none)
 | .geq=>some (.bool (!(Op.bytesLess a b)),none)
 |_=>none

def jZ(op:BinOp)(k k':IntKind):Bool:=
 match op with
 | .shl| .shr=>true
 |_=>decide (k=k')

def a4m(P:Program)(t:TypeId):Bool:=
 match P.underlying t with
 |some (.struct _)|some (.array _ _)=>true
 |_=>false

def mS(P:Program)(t:TypeId)(f:Nat):Option Field:=
 match P.underlying t with
 |some (.struct fs)=>fs[f]?
 |_=>none

def yH(P:Program)(t:TypeId)(cs:List T)(off:Nat):Option T:=
 match(P.underlying t).isSome,a4m P t with
 |true,true=>match Nat.ble (off+P.cellsOf t) cs.length with
  |true=>some (.agg ((cs.drop off).take (P.cellsOf t)))
  |false=>none
 |true,false=>cs[off]?
 |false,_=>none

def b0Q(P:Program)(rec:TypeId->T->T->Option Bool)(xs ys:List T):List Field->Option Bool
 | []=>some true
 |f::r=>match decide (f.name= "_"),yH P f.type xs f.offset,yH P f.type ys f.offset with
  |false,some a,some b=>match rec f.type a b,b0Q P rec xs ys r with
   |some p,some q=>some (p&&q)
   |_,_=>none
  |_,_,_=>none

def eqT(P:Program):Nat->TypeId->T->T->Option Bool
 |0,_,_,_=>none
 |d+1,t,x,y=>match P.underlying t,x,y with
  |some (.int _),.int k a,.int k' b=>match decide (k=k') with
   |true=>some (a==b)
   |false=>none
  |some .bool,.bool a,.bool b=>some (a==b)
  |some .string,.str a,.str b=>some (a==b)
  |some (.struct fs),.agg xs,.agg ys=>match P.stoodInHeld t with
   |false=>b0Q P (eqT P d) xs ys fs.toList
   |true=>none
  |_,_,_=>none

def c1s(P:Program)(op:BinOp)(t:TypeId)(x y:T):Option (T×Option Prop):=
 match P.eqGuardType P.depth t,op with
 |false,.eql=>(eqT P 20 t x y).map λb=>(.bool b,none)
 |false,.neq=>(eqT P 20 t x y).map λb=>(.bool (!b),none)
 |_,_=>none

def a2C(P:Program)(op:BinOp)(t:TypeId)(b:Bool):Option (T×Option Prop):=
 match P.underlying t,op with
 |some (.pointer e),.eql=>match decide (e=P.pointee t) with
  |true=>some (.bool b,none)
  |false=>none
 |some (.pointer e),.neq=>match decide (e=P.pointee t) with
  |true=>some (.bool (!b),none)
  |false=>none
 |_,_=>none

def b0m(P:Program)(op:BinOp)(t:TypeId)(x y:T):Option (T×Option Prop):=
 match x,y with
 | .int k a,.int k' b=>match jZ op k k' with
  |true=>b20 op k a b
  |false=>none
 | .str a,.str b=>b1h op a b
 | .bool a,.bool b=>match P.underlying t,op with
  |some .bool,.eql=>some (.bool (a==b),none)
  |some .bool,.neq=>some (.bool (!(a==b)),none)
  |_,_=>none
 | .agg xs,.agg ys=>c1s P op t (.agg xs) (.agg ys)
 | .ref ..,.v (.pointer none)=>a2C P op t false
 | .pref ..,.v (.pointer none)=>a2C P op t false
 | .v (.pointer none),.v (.pointer none)=>a2C P op t true
 | .v (.slice none 0 0),.v (.slice none 0 0)=>match P.underlying t,op with
  |some (.slice _),.eql=>some (.bool true,none)
  |some (.slice _),.neq=>some (.bool false,none)
  |_,_=>none
 |_,_=>none

def inB(ty i n:Nat):Option Prop:=
 match Nat.beq ty 1000000 with
 |true=>match i,n with
  |0,1=>none
  |i,n=>some (Lt i n)
 |false=>some (Lt i n)

def Z0(H:Y1)(k:Nat):Option Ob:=(H[k]?).bind id
def getA(H:Y1)(k:Nat):Option Arr:=match Z0 H k with
 |some (.fam v ty sz n row)=>some ⟨false,ty,sz,n,yB k v row⟩
 |some ob=>match ob.isArr with
  |true=>some ob.toArr
  |false=>none
 |none=>none

structure Own where
 v:Nat
 n:Nat
 A:Arr

def getOwn(H:Y1)(k _v i j:Nat):Option Own:=match Z0 H k with
 |some (.fam v' _ _ n row)=>match(row i)[j]? with
  |some (.own ty sz m r)=>some ⟨v',n,true,ty,sz,m,r⟩
  |_=>none
 |_=>none

def PfB(v v' i n a m:Nat):Prop:=v=v'/\i<n/\a<m

def zA(P:Program)(H:Y1)(t:TypeId)(a:T):Option (T×Option Prop):=
 match a with
 | .bref cells=>(yH P t cells 0).map λx=>(x,none)
 | .ref k i j=>match getA H k with
  |some A=>(yH P t (A.row i) j).map λx=>(x,inB A.ty i A.n)
  |_=>none
 | .pref k v i j z a b=>match getOwn H k v i j with
  |some A=>match Nat.beq z A.A.sz with
   |true=>(yH P t (A.A.row a) b).map λx=>(x,some (PfB v A.v i A.n a A.A.n))
   |false=>none
  |none=>none
 |_=>none

def z8(P:Program)(t:TypeId)(n:Nat):Bool:=
 match P.info? t with
 |some i=>Nat.beq i.size n
 |none=>false

def C2(P:Program)(H:Y1)(t:TypeId)(x ix:T):Option (T×Option Prop):=
 match ix with
 | .int _ i=>
  match P.underlying t,x with
  |some (.slice e),.sl sz n row=>match z8 P e sz with
   |true=>some (.bref (row i.toNat),some (V3 i n))
   |false=>none
  |some (.slice e),.bys l=>match z8 P e 1 with
   |true=>some (.bref (I4 l i.toNat),some (V3 i l.length))
   |false=>none
  |some (.slice e),.osl k off n=>match getA H k with
   |some A=>match z8 P e A.sz with
    |true=>some (.ref k (off+i.toNat) 0,some (V3 i n))
    |false=>none
   |_=>none
  |some (.slice e),.posl k v i' j n=>match getOwn H k v i' j with
   |some A=>match z8 P e A.A.sz with
    |true=>some (.pref k v i' j A.A.sz i.toNat 0,some (V3 i n))
    |false=>none
   |_=>none
  |some (.array n e),.bref cells=>match(P.info? e).isSome with
   |true=>some (.bref (cells.drop (i.toNat*P.cellsOf e)),some (V3 i n))
   |false=>none
  |some (.array n e),.ref k r j=>match(P.info? e).isSome with
   |true=>some (.ref k r (j+i.toNat*P.cellsOf e),some (V3 i n))
   |false=>none
  |_,_=>none
 |_=>none

def a6d(P:Program)(t:TypeId)(x:T):Option Int:=
 match P.underlying t,x with
 |some .string,.str l=>some l.length
 |some (.slice _),.bys l=>some l.length
 |some (.slice _),.sl _ n _=>some n
 |some (.slice _),.osl _ _ n=>some n
 |some (.slice _),.posl _ _ _ _ n=>some n
 |some (.slice _),.v (.slice none n _)=>some n
 |some (.slice _),.emp=>some 0
 |_,_=>none

def zeroCells(P:Program)(t:TypeId):Option (List T):=((P.info? t).bind (·.zero)).map λz=>z.cells.toList.map cW

def V0:T->List T
 | .agg cs=>cs
 |t=>[t]

def J7:T->Bool
 | .agg _| .tup _| .und=>false
 | .v (.agg _)| .v (.tuple _)=>false
 |_=>true

def W5:T->Bool
 | .ref .. | .osl .. | .agg _| .tup _| .fn .. | .mpr _=>false
 | .own .. | .posl .. | .pref .. =>false
 |_=>true

def a51:T->Bool
 | .own .. =>true
 |_=>false

def a0k(s:V5)(c a b:Operand):Option T:=
 match M7 s c with
 | .bool cb=>match a,b with
  | .const (.bool true),b=>match M7 s b with
   | .bool y=>some (.bool (cb||y))
   |_=>none
  |a,.const (.bool false)=>match M7 s a with
   | .bool x=>some (.bool (cb&&x))
   |_=>none
  |_,_=>none
 |_=>none

def Le(i n:Nat):Prop:=i<=n

def xJ(P:Program)(H:Y1)(src dst:TypeId)(x:T):Option (T×Option Prop):=
 match P.underlying src,P.underlying dst,x with
 |some (.int _),some (.int k),.int _ n=>some (.int k (k.wrap n),none)
 |some .string,some .string,.str l=>some (.str l,none)
 |some (.slice e),some .string,.bys l=>match P.underlying e with
  |some (.int .u8)=>some (.str l,none)
  |_=>none
 |some (.slice e),some .string,.osl k off n=>match P.underlying e,Z0 H k with
  |some (.int .u8),some (.bys _ l)=>some (.str ((l.drop off).take n),some (Le (off+n) l.length))
  |_,_=>none
 |_,_,_=>none

def mR(P:Program)(t:TypeId)(x:T)(f:Nat):Option T:=
 match mS P t f,x with
 |some fd,.agg cs=>yH P fd.type cs fd.offset
 |_,_=>none

def xZ(P:Program)(t:TypeId)(x:T)(f:Nat):Option T:=
 match mS P t f with
 |some fd=>match z8 P fd.type (P.cellsOf fd.type),Nat.beq (P.cellsOf fd.type) 0,x with
  |true,false,.ref k i j=>some (.ref k i (j+fd.offset))
  |true,false,.bref cs=>some (.bref (cs.drop fd.offset))
  |_,_,_=>none
 |none=>none

def bY(P:Program)(t:TypeId)(x i:T):Option (T×Option Prop):=
 match P.underlying t,x,i with
 |some .string,.str l,.int _ i=>some (.int .u8 ((l.getD i.toNat 0).toNat:Int),some (V3 i l.length))
 |some (.array n e),.agg cs,.int _ i=>match z8 P e 1,yH P e cs i.toNat with
  |true,some x=>some (x,some (V3 i n))
  |_,_=>none
 |_,_,_=>none

def lL(i:Int)(n:Nat):Prop:=0<=i/\i<=n
def a7J(a h:Int)(n:Nat):Prop:=0<=a/\a<=h/\h<=n

def c9(l:List UInt8):Option Int->Option Int->List UInt8
 |none,none=>l
 |none,some h=>l.take h.toNat
 |some a,none=>l.drop a.toNat
 |some a,some h=>(l.take h.toNat).drop a.toNat

def a4B(n:Nat):Option Int->Option Int->Nat
 |none,none=>n
 |none,some h=>h.toNat
 |some a,none=>n-a.toNat
 |some a,some h=>h.toNat-a.toNat

def b9i(off:Nat):Option Int->Nat
 |none=>off
 |some a=>off+a.toNat

def a3E(row:Nat->List T):Option Int->Nat->List T
 |none=>row
 |some a=>λi=>row (a.toNat+i)

def a8j(n:Nat):Option Int->Option Int->Option Prop
 |none,none=>none
 |none,some h=>some (lL h n)
 |some a,none=>some (lL a n)
 |some a,some h=>some (a7J a h n)

def xQ:Option T->Option (Option Int)
 |none=>some none
 |some (.int _ i)=>some (some i)
 |_=>none

def vX(P:Program)(H:Y1)(t:TypeId)(x:T)(lo hi:Option T):Option (T×Option Prop):=
 match xQ lo,xQ hi with
 |some a,some h=>match P.underlying t,x with
  |some .string,.str l=>some (.str (c9 l a h),a8j l.length a h)
  |some (.slice e),.bys l=>match z8 P e 1 with
   |true=>some (.bys (c9 l a h),a8j l.length a h)
   |false=>none
  |some (.slice e),.sl sz n row=>match z8 P e sz with
   |true=>some (.sl sz (a4B n a h) (a3E row a),a8j n a h)
   |false=>none
  |some (.slice e),.osl k off n=>match getA H k with
   |some A=>match z8 P e A.sz with
    |true=>some (.osl k (b9i off a) (a4B n a h),a8j n a h)
    |false=>none
   |none=>none
  |_,_=>none
 |_,_=>none

def pQ:T->Bool
 | .agg _=>true
 |x=>J7 x

def k5(place:Nat->Option (Nat×Nat))(cells:List T):List (Nat×T)->Option (List T)
 | []=>some cells
 |(i,x)::rest=>match place i,pQ x with
  |some (off,size),true=>match Nat.beq (V0 x).length size,Nat.ble (off+(V0 x).length) cells.length with
   |true,true=>k5 place (cells.take off++V0 x++cells.drop (off+(V0 x).length)) rest
   |_,_=>none
  |_,_=>none

def sS(place:Nat->Option (Nat×Nat))(m:Nat):Nat->List (Nat×T)->Option (List T)
 |n,[]=>match Nat.beq n m with
  |true=>some []
  |false=>none
 |n,(i,x)::rest=>match place i,pQ x with
  |some (off,size),true=>match Nat.beq off n,Nat.beq (V0 x).length size with
   |true,true=>(sS place m (n+size) rest).map (V0 x++ ·)
   |_,_=>none
  |_,_=>none

def a6S(place:Nat->Option (Nat×Nat))(z:List T)(parts:List (Nat×T)):Option (List T):=
 match sS place z.length 0 parts with
 |some cs=>some cs
 |none=>k5 place z parts

def mG(P:Program)(s:V5)(t:TypeId)(parts:Array (Nat×Operand)):Option T:=
 match zeroCells P t,P.underlying t with
 |some z,some (.struct fs)=>match fs.toList.all λf=>(P.info? f.type).isSome with
  |true=>(a6S (λi=>(fs.toList[i]?).map λf=>(f.offset,P.cellsOf f.type)) z (parts.toList.map λp=>(p.1,M7 s p.2))).map .agg
  |false=>none
 |some z,some (.array _ e)=>match(P.info? e).isSome with
  |true=>(a6S (λi=>some (i*P.cellsOf e,P.cellsOf e)) z (parts.toList.map λp=>(p.1,M7 s p.2))).map .agg
  |false=>none
 |_,_=>none

def b92(s:V5)(fn:Fn)(captured:Array Operand):T:=.fn fn (captured.toList.map (M7 s))

def c1o(bo:Bool)(n:Int):T:=match bo with
 |true=>.bool (decide (n≠0))
 |false=>.int .i64 n

def a9G(P:Program)(t:TypeId)(bo:Bool):Bool:=
 match P.underlying t with
 |some (.map kt et)=>match P.underlying kt,(P.info? et).bind (·.zero),bo with
  |some (.int .i64),some (.int .i64 n),false=>decide (n=0)
  |some (.int .i64),some (.bool b),true=> !b
  |_,_,_=>false
 |_=>false

def b4w(P:Program)(t:TypeId):Bool:=
 match P.underlying t with
 |some (.int .i64)=>Nat.beq (P.cellsOf t) 1
 |_=>false

def a1R(P:Program)(kt:TypeId):Bool:=
 match P.underlying kt with
 |some (.struct fs)=>match fs.toList with
  | [f0,f1]=>f0.name != "_" &&f1.name != "_" &&Nat.beq f0.offset 0&&Nat.beq f1.offset 1&&b4w P f0.type&&b4w P f1.type&&Nat.beq (P.cellsOf kt) 2&& !Nat.beq P.types.size 0
  |_=>false
 |_=>false

def a1d(P:Program)(t:TypeId):Bool:=
 match P.underlying t with
 |some (.map kt et)=>match(P.info? et).bind (·.zero) with
  |some (.bool b)=> !b&&P.keyTypeAt 2 kt&&P.tiled 2 kt&&P.keyType kt&&a1R P kt
  |_=>false
 |_=>false

def pC(P:Program)(H:Y1)(t:TypeId)(m k:T):Option (T×Option Prop):=
 match m,k with
 | .mpr j,.int .i64 n=>match Z0 H j with
  |some (.mp bo get)=>match a9G P t bo with
   |true=>some (c1o bo (get n),none)
   |false=>none
  |_=>none
 | .mpr j,.agg [.int .i64 a,.int .i64 b]=>match Z0 H j with
  |some (.mp2 get)=>match a1d P t with
   |true=>some (.bool (get a b),some (W7 .i64 a/\W7 .i64 b))
   |false=>none
  |_=>none
 |_,_=>none

def c1h(bo:Bool):T->Option Int
 | .int .i64 n=>match bo with|false=>some n|true=>none
 | .bool b=>match bo with|true=>some (cond b 1 0)|false=>none
 |_=>none

def cN(P:Program)(H:Y1)(t:TypeId)(m k x:T):Option Y1:=
 match m,k with
 | .mpr j,.int .i64 n=>match Z0 H j with
  |some (.mp bo get)=>match a9G P t bo,c1h bo x with
   |true,some v=>some (H.set j (some (.mp bo λi=>cond (decide (i=n)) v (get i))))
   |_,_=>none
  |_=>none
 |_,_=>none

def qB(P:Program)(H:Y1)(t:TypeId)(m k x:T):Option (Y1×Option Prop):=
 match m,k,x with
 | .mpr j,.agg [.int .i64 a,.int .i64 b],.bool v=>match Z0 H j with
  |some (.mp2 get)=>match a1d P t with
   |true=>some (H.set j (some (.mp2 λa' b'=>cond (decide (a'=a/\b'=b)) v (get a' b'))),some (W7 .i64 a/\W7 .i64 b))
   |false=>none
  |_=>none
 |_,_,_=>none

def wN(P:Program)(H:Y1)(t:TypeId):Option (T×Y1):=
 match a9G P t true,a9G P t false with
 |true,_=>some (.mpr H.length,H++[some (.mp true λ_=>0)])
 |_,true=>some (.mpr H.length,H++[some (.mp false λ_=>0)])
 |_,_=>match a1d P t with
  |true=>some (.mpr H.length,H++[some (.mp2 λ_ _=>false)])
  |false=>none

def b81(op:UnOp)(x:T):Option (T×Option Prop):=
 match op,x with
 | .not,.bool b=>some (.bool (!b),none)
 | .neg,.int k n=>some (.int k (0-n),some (W7 k (0-n)))
 |_,_=>none

def tV(x:T)(i:Nat):Option T:=
 match x with
 | .tup cs=>cs[i]?
 |_=>none

def c0q(a b:Int):Int:=if b<a then b else a
def b7b:T->T->Option (T×Option Prop)
 | .int k a,y=>match y with
  | .int _ b=>some (.int k (c0q a b),none)
  |_=>none
 |_,_=>none

def N7(P:Program)(s:V5)(H:Y1)(op:Op):Option (T×Option Prop):=
 match op with
 | .move x| .assign x=>some (M7 s x,none)
 | .pick c a b=>(a0k s c a b).map (·,none)
 | .load t a=>zA P H t (M7 s a)
 | .nilCheck x=>match M7 s x with
  | .ref k i j=>some (.ref k i j,none)
  | .bref cs=>some (.bref cs,none)
  |_=>none
 | .binOp op t x y _=>b0m P op t (M7 s x) (M7 s y)
 | .unOp op _ x=>b81 op (M7 s x)
 | .convert src dst x=>xJ P H src dst (M7 s x)
 | .fieldAddr t x f=>(xZ P t (M7 s x) f).map (·,none)
 | .field t x f=>(mR P t (M7 s x) f).map (·,none)
 | .indexAddr t x i=>C2 P H t (M7 s x) (M7 s i)
 | .index t x i=>bY P t (M7 s x) (M7 s i)
 | .extract x i=>(tV (M7 s x) i).map (·,none)
 | .call {callee:=.builtin .len,args,argTypes}=>match args.toList,argTypes.toList with
  | [x],[t]=>(a6d P t (M7 s x)).map λn=>(.int .i64 n,none)
  |_,_=>none
 | .slice t x lo hi none=>vX P H t (M7 s x) (lo.map (M7 s)) (hi.map (M7 s))
 | .build t parts=>(mG P s t parts).map (·,none)
 | .makeFunc fn first captured=>match first.toList with
  | []=>some (b92 s fn captured,none)
  |_=>none
 | .lookup t m k false=>pC P H t (M7 s m) (M7 s k)
 | .call {callee:=.builtin .min,args, .. }=>match args.toList with
  | [x,y]=>b7b (M7 s x) (M7 s y)
  |_=>none
 |_=>none

def P2(n:Int):UInt8:=UInt8.ofNat n.toNat

def xR:List T->Option (List Int)
 | []=>some []
 | .int .u8 n::r=>(xR r).map (n:: ·)
 |_=>none

def b3p:List Int->Option Prop
 | []=>none
 |n::r=>match b3p r with
  |none=>some (W7 .u8 n)
  |some p=>some (W7 .u8 n/\p)

def o5(P:Program)(e:TypeId):Bool:=
 match P.underlying e,zeroCells P e with
 |some (.int .u8),some [.int .u8 n]=>decide (n=0)
 |_,_=>false

def wK(a b c:Nat):Prop:=a*b<=c

def a0n(P:Program)(H:Y1)(t:TypeId)(l c:T):Option (T×Y1×Option Prop):=
 match P.underlying t,l,c with
 |some (.slice e),.int .i64 n,.int .i64 m=>match P.info? e,zeroCells P e with
  |some i,some z=>match Nat.beq z.length i.size,Nat.beq i.size 0,z.all J7 with
   |true,false,true=>some (.osl H.length 0 n.toNat,H++[some (match o5 P e with
     |true=>.bys e (List.replicate n.toNat 0)
     |false=>.arr (z.all W5) e i.size n.toNat λ_=>z)],some (Nn n/\LeI n m/\wK i.bytes m.toNat 140737488355328/\Lt m.toNat 9223372036854775808))
   |_,_,_=>none
  |_,_=>none
 |_,_,_=>none

def zY(P:Program)(s:V5)(H:Y1)(t:TypeId)(len:Nat)(parts:Array (Nat×Operand)):Option (T×Y1×Option Prop):=
 match P.underlying t with
 |some (.slice e)=>match P.info? e,zeroCells P e with
  |some i,some z=>match Nat.beq z.length i.size,Nat.beq i.size 0,Nat.ble (len*i.size) 16777216 with
   |true,false,true=>match k5 (λk=>some (k*i.size,i.size)) ((List.replicate len z).flatten) (parts.toList.map λp=>(p.1,M7 s p.2)) with
    |some cs=>match o5 P e with
     |true=>(xR cs).map λns=>(.osl H.length 0 len,H++[some (.bys e (ns.map P2))],b3p ns)
     |false=>match cs.all J7 with
      |true=>some (.osl H.length 0 len,H++[some (.arr (cs.all W5) e i.size len λk=>(cs.drop (k*i.size)).take i.size)],none)
      |false=>none
    |none=>none
   |_,_,_=>none
  |_,_=>none
 |_=>none

def sel(b:Bool)(x y:T):T:=match b with|true=>x|false=>y
def c1Y(b:Bool)(x y:Nat->List T)(i:Nat):List T:=match b with|true=>x i|false=>y i

def mrg(b:Bool)(x y:T):T:=
 match x,y with
 | .int k n,.int k' m=>match decide (k=k') with
  |true=>.int k (cond b n m)
  |false=>sel b (.int k n) (.int k' m)
 | .bool p,.bool q=>.bool (cond b p q)
 | .str l,.str m=>.str (cond b l m)
 | .own ty sz n row,.own ty' sz' n' row'=>match decide (ty=ty'),decide (sz=sz') with
  |true,true=>.own ty sz (cond b n n') (c1Y b row row')
  |_,_=>sel b (.own ty sz n row) (.own ty' sz' n' row')
 |x,y=>sel b x y

def b25(b:Bool):List T->List T->List T
 |x::xs,o::os=>mrg b x o::b25 b xs os
 | [],os=>os
 |_::_,[]=>[]

def b0u(b:Bool):Nat->List T->List T->List T
 |0,xs,os=>b25 b xs os
 |j+1,xs,o::os=>o::b0u b j xs os
 |_+1,_,[]=>[]

def setRow(row:Nat->List T)(i j:Nat)(cs:List T)(k:Nat):List T:=b0u (Nat.beq k i) j cs (row k)

def closedOne(t:T):Bool:=W5 t&&J7 t

def c0x(cs:List T):Bool:=cs.all λt=> !a51 t
def bS(i n:Nat)(cs:List T):Prop:=i<n/\c0x cs=true

structure Abs where
 cs:List T
 ks:List Nat
 side:Option Prop

def rV(H:Y1):List T->Option Abs
 | []=>some ⟨[],[],none⟩
 | .osl m off n::r=>match off,Z0 H m,rV H r with
  |0,some (.arr true ty sz N row),some A=>some ⟨.own ty sz n row::A.cs,m::A.ks,some (match A.side with|none=>Le n N|some p=>Le n N/\p)⟩
  |_,_,_=>none
 |t::r=>match closedOne t,rV H r with
  |true,some A=>some ⟨t::A.cs,A.ks,A.side⟩
  |_,_=>none

def H6:Y1->List Nat->Y1
 |H,[]=>H
 |H,k::r=>H6 (H.set k none) r

def oR:List Nat->Bool
 | []=>true
 |x::r=>r.all (λy=> !Nat.beq x y)&&oR r

def ltS(i n:Nat):Option Prop->Prop
 |none=>i<n
 |some p=>i<n/\p

def tT(P:Program)(H:Y1)(t:TypeId)(a x:T):Option (Y1×Option Prop):=
 match a with
 | .pref k v i j z a b=>match Z0 H k,getOwn H k v i j,z8 P t (V0 x).length,pQ x,(V0 x).all closedOne with
  |some (.fam v' ty sz n row),some A,true,true,true=>match Nat.beq z A.A.sz,Nat.ble (b+(V0 x).length) A.A.sz with
   |true,true=>some (H.set k (some (.fam v' ty sz n (setRow row i j [.own A.A.ty A.A.sz A.A.n (setRow A.A.row a b (V0 x))]))),some (PfB v v' i n a A.A.n))
   |_,_=>none
  |_,_,_,_,_=>none
 | .ref k i j=>match Z0 H k,z8 P t (V0 x).length,pQ x,(V0 x).all J7 with
  |some (.arr cl ty sz n row),true,true,true=>match Nat.ble (j+(V0 x).length) sz with
   |true=>some (H.set k (some (.arr (cl&&(V0 x).all W5) ty sz n (setRow row i j (V0 x)))),inB ty i n)
   |false=>none
  |some (.bys ty l),true,true,true=>match x,j with
   | .int .u8 m,0=>some (H.set k (some (.bys ty (l.set i (P2 m)))),some (Lt i l.length/\W7 .u8 m))
   |_,_=>none
  |some (.fam v ty sz n row),true,true,true=>match Nat.ble (j+(V0 x).length) sz with
   |true=>match(V0 x).all closedOne with
    |true=>some (H.set k (some (.fam v ty sz n (setRow row i j (V0 x)))),some (bS i n (((row i).drop j).take (V0 x).length)))
    |false=>match rV H (V0 x) with
     |some A=>match oR (k::A.ks) with
      |true=>some ((H6 H A.ks).set k (some (.fam (v+1) ty sz n (setRow row i j A.cs))),some (ltS i n A.side))
      |false=>none
     |none=>none
   |false=>none
  |_,_,_,_=>none
 |_=>none

def fH(_P:Program)(H:Y1)(t:TypeId)(cs:List T):Option (T×Y1×Option Prop):=
 match Nat.beq cs.length 0,cs.all J7 with
 |false,true=>some (.ref H.length 0 0,H++[some (.arr (cs.all W5) 1000000 cs.length 1 λ_=>cs)],none)
 |_,_=>none

structure Sr where
 cl:Bool
 n:Nat
 row:Nat->List T
 side:Option Prop

def uO(row:Nat->List T):Nat->Nat->List T
 |0=>row
 |off=>λi=>row (off+i)

def wH(off n m:Nat):Option Prop:=some (Le (off+n) m)

def vR(H:Y1)(d:Option TypeDesc)(sz:Nat)(x:T):Option Sr:=
 match d,x with
 |some (.slice _),.sl sz' n row=>match Nat.beq sz sz' with
  |true=>some ⟨true,n,row,none⟩
  |false=>none
 |some (.slice _),.v (.slice none 0 0)=>some ⟨true,0,λ_=>[],none⟩
 |some (.slice _),.osl k off n=>match Z0 H k with
  |some (.arr cl _ sz' m row)=>match Nat.beq sz sz' with
   |true=>some ⟨cl,n,uO row off,wH off n m⟩
   |false=>none
  |_=>none
 |_,_=>none

def A4(H:Y1)(d:Option TypeDesc)(x:T):Option (List UInt8×Option Prop):=
 match d,x with
 |some .string,.str l=>some (l,none)
 |some (.slice _),.bys l=>some (l,none)
 |some (.slice _),.v (.slice none 0 0)=>some ([],none)
 |some (.slice _),.osl k off n=>match Z0 H k with
  |some (.bys _ l)=>some ((l.drop off).take n,some (Le (off+n) l.length))
  |_=>none
 |_,_=>none

def iX:Option Prop->Prop->Prop
 |none,q=>q
 |some p,q=>p/\q

def X3(row:Nat->List T)(n:Nat)(row':Nat->List T)(i:Nat):List T:=
 match Nat.blt i n with
 |true=>row i
 |false=>row' (i-n)

def W6(n m bytes:Nat):Prop:=(n+m)*bytes<=140737488355328/\n+m<=9223372036854775807

structure SrF where
 n:Nat
 row:Nat->List T
 ks:List Nat
 side:Option Prop

def b6m(H:Y1)(sz:Nat)(x:T):Option SrF:=
 match x with
 | .osl k off n=>match Z0 H k with
  |some (.arr true _ sz' m row)=>match Nat.beq sz sz' with
   |true=>some ⟨n,uO row off,[],wH off n m⟩
   |false=>none
  |some (.arr false _ sz' m row)=>match Nat.beq sz sz',off,n,m with
   |true,0,1,1=>match rV H (row 0) with
    |some A=>some ⟨1,λ_=>A.cs,A.ks,A.side⟩
    |none=>none
   |_,_,_,_=>none
  |_=>none
 |_=>none

def rA(P:Program)(H:Y1)(t tx:TypeId)(d x:T):Option (T×Y1×Option Prop):=
 match P.underlying t with
 |some (.slice e)=>match P.info? e,zeroCells P e with
  |some i,some z=>match Nat.beq z.length i.size,Nat.beq i.size 0,d with
   |true,false,.v (.slice none 0 0)=>match o5 P e with
    |true=>(A4 H (P.underlying tx) x).map λs=>(.osl H.length 0 s.1.length,H++[some (.bys e s.1)],some (iX s.2 (Lt 0 s.1.length/\W6 0 s.1.length i.bytes)))
    |false=>(vR H (P.underlying tx) i.size x).map λs=>(.osl H.length 0 s.n,H++[some (.arr s.cl e i.size s.n s.row)],some (iX s.side (Lt 0 s.n/\W6 0 s.n i.bytes)))
   |true,false,.emp=>match o5 P e with
    |true=>none
    |false=>(vR H (P.underlying tx) i.size x).map λs=>(.osl H.length 0 s.n,H++[some (.arr s.cl e i.size s.n s.row)],some (iX s.side (W6 0 s.n i.bytes)))
   |true,false,.osl k 0 n=>match Z0 H k with
    |some (.bys _ l)=>match o5 P e with
     |true=>(A4 H (P.underlying tx) x).map λs=>(.osl H.length 0 (n+s.1.length),H.set k none++[some (.bys e (l.take n++s.1))],some (iX s.2 (Le n l.length/\W6 n s.1.length i.bytes)))
     |false=>none
    |some (.arr cl _ sz N row)=>match Nat.beq sz i.size with
     |true=>(vR H (P.underlying tx) i.size x).map λs=>(.osl H.length 0 (n+s.n),H.set k none++[some (.arr (cl&&s.cl) e i.size (n+s.n) (X3 row n s.row))],some (iX s.side (Le n N/\W6 n s.n i.bytes)))
     |false=>none
    |some (.fam _ _ sz N row)=>match Nat.beq sz i.size,P.underlying tx,b6m H i.size x with
     |true,some (.slice _),some s=>match oR (k::s.ks) with
      |true=>some (.osl H.length 0 (n+s.n),H6 H (k::s.ks)++[some (.fam 0 e i.size (n+s.n) (X3 row n s.row))],some (iX s.side (Le n N/\W6 n s.n i.bytes)))
      |false=>none
     |_,_,_=>none
    |_=>none
   |_,_,_=>none
  |_,_=>none
 |_=>none

def a6b:T->Bool
 | .sl .. | .osl .. | .posl .. | .v (.slice none 0 0)=>true
 |_=>false

def isZ:T->Bool
 | .int _ i=>decide (i=0)
 |_=>false

def c17:Option T->Bool
 |none=>true
 |some t=>isZ t

def qH(P:Program)(H:Y1)(t:TypeId)(x:T)(lo:Option T)(hi mx:T):Option (T×Y1×Option Prop):=
 match P.underlying t,a6b x&&c17 lo&&isZ hi&&isZ mx with
 |some (.slice e),true=>match P.info? e with
  |some i=>match Nat.beq i.size 0,z8 P e i.size with
   |false,true=>some (.osl H.length 0 0,H++[some (.arr true e i.size 0 λ_=>[])],none)
   |_,_=>none
  |none=>none
 |_,_=>none

def K1(row:Nat->List T)(off n:Nat)(z:List T)(j:Nat):List T:=
 match Nat.ble off j&&Nat.blt j (off+n) with
 |true=>z
 |false=>row j

def a0F(P:Program)(H:Y1)(t:TypeId)(x:T):Option (T×Y1×Option Prop):=
 match P.underlying t,x with
 |some (.slice e),.osl k off n=>match P.info? e,zeroCells P e,Z0 H k with
  |some i,some z,some (.arr true ty sz N row)=>match Nat.beq z.length i.size&&Nat.beq sz i.size&& !Nat.beq i.size 0&&z.all closedOne with
   |true=>some (.und,H.set k (some (.arr true ty sz N (K1 row off n z))),some (Le (off+n) N))
   |false=>none
  |_,_,_=>none
 |_,_=>none

def D3(P:Program)(s:V5)(H:Y1)(op:Op):Option (T×Y1×Option Prop):=
 match op with
 | .box t x=>match pQ (M7 s x) with
  |true=>fH P H t (V0 (M7 s x))
  |false=>none
 | .alloc t=>match zeroCells P t with
  |some z=>fH P H t z
  |none=>none
 | .store t a x=>(tT P H t (M7 s a) (M7 s x)).map λr=>(.und,r.1,r.2)
 | .makeSlice t l c=>a0n P H t (M7 s l) (M7 s c)
 | .buildSlice t len parts=>zY P s H t len parts
 | .convert src dst x=>match P.underlying src,P.underlying dst,M7 s x with
  |some .string,some (.slice e),.str l=>match o5 P e with
   |true=>some (.bys l,H,some (Lt l.length 140737488355329))
   |false=>none
  |_,_,_=>none
 | .call {callee:=.builtin .append,args,argTypes}=>match args.toList,argTypes.toList with
  | [d,x],[t,tx]=>rA P H t tx (M7 s d) (M7 s x)
  |_,_=>none
 | .makeMap t none=>(wN P H t).map λr=>(r.1,r.2,none)
 | .mapUpdate t m k x=>match cN P H t (M7 s m) (M7 s k) (M7 s x) with
  |some r=>some (.und,r,none)
  |none=>(qB P H t (M7 s m) (M7 s k) (M7 s x)).map λr=>(.und,r.1,r.2)
 | .slice t x lo (some hi) (some mx)=>qH P H t (M7 s x) (lo.map (M7 s)) (M7 s hi) (M7 s mx)
 | .call {callee:=.builtin .clear,args,argTypes}=>match args.toList,argTypes.toList with
  | [x],[t]=>a0F P H t (M7 s x)
  |_,_=>none
 |_=>none

def O5{α β:Type}(f:α->Option β):List α->Option (List β)
 | []=>some []
 |a::r=>match f a,O5 f r with
  |some b,some q=>some (b::q)
  |_,_=>none

def qP:Option Prop->Option Prop->Option Prop
 |none,q=>q
 |p,none=>p
 |some p,some q=>some (p/\q)

def wS:List (T×Option Prop)->Option Prop
 | []=>none
 |x::r=>qP x.2 (wS r)

def b9S:T->T
 | .own _ sz n row=>.sl sz n row
 |t=>t

def a4d(row:Nat->List T)(i:Nat):List T:=(row i).map b9S

def PoB(v v' i n a m:Nat):Prop:=v=v'/\i<n/\a<=m

def N3(b:Nat)(H:Y1):Nat->T->Option (T×Option Prop)
 |0,_=>none
 |d+1,t=>match t with
  | .ref k i j=>match Nat.blt k b with
   |true=>some (.ref k i j,none)
   |false=>match getA H k with
    |some A=>match i,A.n with
     |0,1=>match O5 (N3 b H d) ((A.row 0).drop j) with
      |some cs=>match cs.all λx=>W5 x.1 with
       |true=>some (.bref (cs.map (·.1)),wS cs)
       |false=>none
      |none=>none
     |_,_=>none
    |none=>none
  | .osl k off n=>match Nat.blt k b with
   |true=>some (.osl k off n,none)
   |false=>match Z0 H k with
    |some (.arr true _ sz m row)=>some (.sl sz n (uO row off),wH off n m)
    |some (.fam _ _ sz m row)=>some (.sl sz n (a4d (uO row off)),wH off n m)
    |some (.bys _ l)=>some (.bys ((l.drop off).take n),some (Le (off+n) l.length))
    |_=>none
  | .agg cs=>(O5 (N3 b H d) cs).map λcs=>(.agg (cs.map (·.1)),wS cs)
  | .fn f cs=>(O5 (N3 b H d) cs).map λcs=>(.fn f (cs.map (·.1)),wS cs)
  | .tup cs=>(O5 (N3 b H d) cs).map λcs=>(.tup (cs.map (·.1)),wS cs)
  | .mpr _=>none
  | .posl k v i j n=>match Nat.blt k b with
   |true=>some (.posl k v i j n,none)
   |false=>match getOwn H k v i j with
    |some A=>some (.sl A.A.sz n A.A.row,some (PoB v A.v i A.n n A.A.n))
    |none=>none
  | .pref k v i j z a c=>match Nat.blt k b with
   |true=>some (.pref k v i j z a c,none)
   |false=>none
  | .own .. =>none
  |t=>some (t,none)

def closedD:Nat->T->Bool
 |0,_=>false
 |d+1,t=>match t with
  | .agg cs=>cs.all (closedD d)
  | .fn _ cs=>cs.all (closedD d)
  | .tup cs=>cs.all (closedD d)
  | .und=>false
  |t=>W5 t

def sG:Nat->T->Bool
 |0,_=>false
 |d+1,t=>match t with
  | .int .. | .bool _| .str _=>true
  | .agg cs=>cs.all (sG d)
  | .tup cs=>cs.all (sG d)
  |_=>false

structure Rl where
 (ι:Type)
 (args:ι->List T)
 (res:ι->T)
 (side:ι->Prop)

structure Rle where
 (ι:Type)
 (args:ι->List T)
 (pre:ι->Y1)
 (res:ι->T)
 (post:ι->Y1)
 (side:ι->Prop)

inductive Con where
 |pure (c:List T->Option (T×Option Prop))
 |eff (c:List T->Y1->Option (T×Y1×Option Prop))
 |rel (r:Rl)
 |mk (c:List T->Option (T×Y1×Option Prop))
 |reff (r:Rle)
 |rmk (r:Rle)
 |fz (c:List T->Option (T×Option Prop))
 |rfz (r:Rl)
 |tmp

abbrev I2:=List (FuncId×Con)

def gam:I2->FuncId->List T->Option (T×Option Prop)
 | [],_,_=>none
 |(g,c)::r,f,args=>match Nat.beq f g with
  |true=>match c with| .pure c=>c args|_=>none
  |false=>gam r f args

def tB:I2->FuncId->Option (List T->Y1->Option (T×Y1×Option Prop))
 | [],_=>none
 |(g,c)::r,f=>match Nat.beq f g with
  |true=>match c with| .eff c=>some c|_=>none
  |false=>tB r f

def gmk:I2->FuncId->Option (List T->Option (T×Y1×Option Prop))
 | [],_=>none
 |(g,c)::r,f=>match Nat.beq f g with
  |true=>match c with| .mk c=>some c|_=>none
  |false=>gmk r f

def gfz:I2->FuncId->Option (List T->Option (T×Option Prop))
 | [],_=>none
 |(g,c)::r,f=>match Nat.beq f g with
  |true=>match c with| .fz c=>some c|_=>none
  |false=>gfz r f

def Con.isRel:Con->Bool
 | .rel _| .reff _| .rmk _| .rfz _=>true
 |_=>false

def Con.isEff:Con->Bool
 | .eff _| .mk _| .reff _| .rmk _| .fz _| .rfz _=>true
 |_=>false

def Con.isEf:Con->Bool
 | .eff _| .reff _=>true
 |_=>false

def Con.isMk:Con->Bool
 | .mk _| .rmk _=>true
 |_=>false

def y0:I2->FuncId->Option Con
 | [],_=>none
 |(g,c)::r,f=>match Nat.beq f g with
  |true=>some c
  |false=>y0 r f

def b4H(G:I2)(f:FuncId):Option Con:=
 match y0 G f with
 |some c=>match c.isRel with
  |true=>some c
  |false=>none
 |none=>none

def a2F:List T->Option (List Int)
 | []=>some []
 | .int .i64 n::r=>(a2F r).map (n:: ·)
 |_=>none

def b8H(cs:List T)(sz len:Nat):Nat->List T:=
 match a2F cs,Nat.beq sz 1&&Nat.beq cs.length len with
 |some l,true=>λk=>[.int .i64 (l.getD k 0)]
 |_,_=>λk=>(cs.drop (k*sz)).take sz

def aV(P:Program)(s:V5)(t:TypeId)(len:Nat)(parts:Array (Nat×Operand)):Option (T×Option Prop):=
 match P.underlying t with
  |some (.slice e)=>match P.info? e,zeroCells P e with
   |some i,some z=>match Nat.beq z.length i.size,Nat.beq i.size 0,Nat.ble (len*i.size) 16777216 with
    |true,false,true=>match k5 (λk=>some (k*i.size,i.size)) ((List.replicate len z).flatten) (parts.toList.map λp=>(p.1,M7 s p.2)) with
     |some cs=>match o5 P e,cs.all J7,cs.all W5 with
      |false,true,true=>some (.sl i.size len (b8H cs i.size len),none)
      |_,_,_=>none
     |none=>none
    |_,_,_=>none
   |_,_=>none
  |_=>none

def a52(P:Program)(s:V5):Op->Option (T×Option Prop)
 | .buildSlice t 0 parts=>match P.underlying t,parts.toList with
  |some (.slice e),[]=>match P.info? e,zeroCells P e with
   |some i,some z=>match Nat.beq z.length i.size,Nat.beq i.size 0 with
    |true,false=>some (.emp,none)
    |_,_=>none
   |_,_=>none
  |_,_=>none
 | .call {callee:=.builtin .append,args,argTypes}=>match args.toList,argTypes.toList with
  | [d,x],[t,tx]=>match M7 s d,P.underlying t with
   | .emp,some (.slice e)=>match P.info? e,zeroCells P e with
    |some i,some z=>match Nat.beq z.length i.size,vR [] (P.underlying tx) i.size (M7 s x) with
     |true,some q=>match q.cl with
      |true=>some (.sl i.size q.n q.row,some (iX q.side (W6 0 q.n i.bytes)))
      |false=>none
     |_,_=>none
    |_,_=>none
   |_,_=>none
  |_,_=>none
 | .buildSlice t (n+1) parts=>aV P s t (n+1) parts
 |_=>none

def gT:I2->Nat
 | []=>0
 |(_,.tmp)::r=>gT r+1
 |_::r=>gT r

def Q7(n:Nat)(args:List Operand):Bool:=
 match Nat.ble 8 n with
 |true=>false
 |false=>match Nat.ble 4 n with
 |true=>match args with
  | .tmp d::_=>match Nat.beq (n % 2) 0 with
   |true=>Nat.blt n d
   |false=>Nat.blt d n
  |_=>true
 |false=>Nat.ble 3 n

def uD(G:I2):Op->Bool
 | .buildSlice _ (_+1) _=>Nat.ble 1 (gT G)
 | .buildSlice _ 0 _=>Nat.ble 2 (gT G)
 | .call {callee:=.builtin .append,args, .. }=>Q7 (gT G) args.toList
 |_=>false

def anyEff:I2->Bool
 | []=>false
 |(_,c)::r=>c.isEff||anyEff r

def isEff(G:I2):Operand->Bool
 | .func f=>match y0 G f with
  |some c=>c.isEff
  |none=>false
 |_=>anyEff G

def isEf(G:I2):Operand->Bool
 | .func f=>match y0 G f with
  |some c=>c.isEf
  |none=>false
 |_=>false

def isMk(G:I2):Operand->Bool
 | .func f=>match y0 G f with
  |some c=>c.isMk
  |none=>false
 |_=>false

def S4(ρ:Nat->Option Nat):Nat->T->Option T
 |0,_=>none
 |d+1,t=>match t with
  | .ref k i j=>(ρ k).map λm=>.ref m i j
  | .osl k off n=>(ρ k).map λm=>.osl m off n
  | .mpr k=>(ρ k).map .mpr
  | .posl k v i j n=>(ρ k).map λm=>.posl m v i j n
  | .pref k v i j z a b=>(ρ k).map λm=>.pref m v i j z a b
  | .agg cs=>(O5 (S4 ρ d) cs).map .agg
  | .tup cs=>(O5 (S4 ρ d) cs).map .tup
  | .fn f cs=>(O5 (S4 ρ d) cs).map (.fn f)
  |t=>some t

def pH(ρ:Nat->Option Nat)(ob:Ob):Option Ob:=
 match ob with
 | .bys ty l=>some (.bys ty l)
 | .fam v ty sz n row=>some (.fam v ty sz n row)
 | .arr true ty sz n row=>some (.arr true ty sz n row)
 | .arr false ty sz n row=>match n with
  |1=>(O5 (S4 ρ 6) (row 0)).map λr=>.arr false ty sz 1 λ_=>r
  |_=>none
 | .mp bo get=>some (.mp bo get)
 | .mp2 get=>some (.mp2 get)

def memN(k:Nat):List Nat->Bool
 | []=>false
 |x::r=>Nat.beq k x||memN k r

def a0I:List Nat->Bool
 | []=>true
 |x::r=> !memN x r&&a0I r

def nL:List T->List Nat
 | []=>[]
 | .ref k _ _::r=>k::nL r
 | .osl k _ _::r=>k::nL r
 | .agg cs::r=>idsA cs++nL r
 | .fn _ cs::r=>idsA cs++nL r
 |_::r=>nL r
where
 idsA:List T->List Nat
 | []=>[]
 | .ref k _ _::r=>k::idsA r
 | .osl k _ _::r=>k::idsA r
 |_::r=>idsA r

def c13:Option Ob->List Nat
 |some (.arr false _ _ 1 row)=>nL (row 0)
 |_=>[]

def t7(H:Y1):Nat->List Nat->List Nat->List Nat
 |0,_,S1=>S1
 |_+1,[],S1=>S1
 |d+1,k::r,S1=>match memN k S1 with
  |true=>t7 H d r S1
  |false=>t7 H d (c13 (Z0 H k)++r) (S1++[k])

def u7(k:Nat):List Nat->Nat->Option Nat
 | [],_=>none
 |x::r,i=>match Nat.beq k x with
  |true=>some i
  |false=>u7 k r (i+1)

def mA:List Nat->Nat->Option Nat
 | [],_=>none
 |k::_,0=>some k
 |_::r,i+1=>mA r i

def a4v(ks:List Nat)(len i:Nat):Option Nat:=
 match mA ks i with
 |some k=>some k
 |none=>some (len+(i-ks.length))

def O4:Y1->List Nat->List (Option Ob)->Y1
 |H,k::ks,o::os=>O4 (H.set k o) ks os
 |H,_,_=>H

def obB(ρ:Nat->Option Nat):Option Ob->Option (Option Ob)
 |none=>some none
 |some ob=>(pH ρ ob).map some

def m7(c:List T->Y1->Option (T×Y1×Option Prop))(H:Y1)(ks:List Nat)(args:List T):Option (T×Y1×Option Prop):=
 match a0I ks,O5 (S4 (λk=>u7 k ks 0) 6) args,O5 (λk=>(Z0 H k).bind (pH λk=>u7 k ks 0)) ks with
 |true,some as,some obs=>match c as (obs.map some) with
  |some (r,H',p)=>match Nat.ble ks.length H'.length,S4 (a4v ks H.length) 6 r,O5 (obB (a4v ks H.length)) H' with
   |true,some r',some os=>some (r',O4 H ks os++os.drop ks.length,p)
   |_,_,_=>none
  |none=>none
 |_,_,_=>none

def iY:Nat->Option Nat
 |0=>none
 |k+1=>some (k+1)

def c03:Nat->Nat->List Nat
 |_,0=>[]
 |i,n+1=>i::c03 (i+1) n

def okA(t:T):Bool:=
 match t with
 | .ref 0 0 _=>true
 |t=>match S4 iY 6 t with
  |some _=>true
  |none=>false

def b4L:Y1->Nat
 |some (.arr _ _ sz _ _)::_=>sz
 |_=>0

def b49(c:List T->Y1->Option (T×Y1×Option Prop))(sz n:Nat)(H:Y1)(as:List T):Option (T×Y1×Option Prop):=
 match H with
 |some (.arr false ty szW m row)::rest=>match m,O5 (obB iY) rest,O5 (S4 iY 6) (row 0),as.all okA&&Nat.ble sz szW with
  |1,some rest0,some cs,true=>match m7 c (some (.arr false ty sz 1 λ_=>cs.take sz)::rest0) (c03 0 n) as with
   |some (r,some (.arr _ ty' sz' m' row')::rest',p)=>match m',Nat.beq sz' sz,S4 iY 6 r,O5 (obB iY) rest',O5 (S4 iY 6) (row' 0) with
    |1,true,some r',some rest2,some cs'=>some (r',some (.arr false ty' szW 1 λ_=>cs'++cs.drop sz)::rest2,p)
    |_,_,_,_,_=>none
   |_=>none
  |_,_,_,_=>none
 |_=>none

def K3(ks:List Nat):Y1->Nat->Y1
 | [],_=>[]
 |o::r,i=>(match memN i ks with|true=>o|false=>none)::K3 ks r (i+1)

def b6J(c:List T->Option (T×Option Prop))(H:Y1)(ks:List Nat)(args:List T):Option (T×Y1×Option Prop):=
 match O5 (N3 0 (K3 ks H 0) 6) args with
 |some bs=>match c (bs.map (·.1)) with
  |some (r,p)=>some (r,H6 H ks,qP (wS bs) p)
  |none=>none
 |none=>none

def a0C(c:List T->Option (T×Y1×Option Prop))(H:Y1)(args:List T):Option (T×Y1×Option Prop):=
 match O5 (N3 0 H 6) args with
 |some bs=>match c (bs.map (·.1)) with
  |some (r,H',p)=>match S4 (λk=>some (H.length+k)) 6 r,O5 (obB λk=>some (H.length+k)) H' with
   |some r',some os=>some (r',H++os,qP (wS bs) p)
   |_,_=>none
  |none=>none
 |none=>none

def wD(t:T):Bool:=
 match t with
 | .int .. | .bool _| .str _| .v _=>true
 |_=>false

def c2h(v v' i n a m m':Nat)(row:Nat->List T):Prop:=v=v'/\i<n/\a<=m/\m'=m/\∀r,r<m'->∀t ∈ row r,wD t=true

def b1P(c:List T->Y1->Option (T×Y1×Option Prop))(H:Y1)(args:List T):Option (T×Y1×Option Prop):=
 match args with
 | .posl k v i j n::rest=>match rest.all (closedD 6),Z0 H k,getOwn H k v i j with
  |true,some (.fam v' ty sz N row),some A=>match c (.osl 0 0 n::rest) [some (.arr true A.A.ty A.A.sz A.A.n A.A.row)] with
   |some (r,[some (.arr true _ sz' n' row')],p)=>match sG 6 r,Nat.beq sz' A.A.sz with
    |true,true=>some (r,H.set k (some (.fam v' ty sz N (setRow row i j [.own A.A.ty sz' n' row']))),qP p (some (c2h v v' i N n A.A.n n' row')))
    |_,_=>none
   |_=>none
  |_,_,_=>none
 |_=>none

def yD(G:I2)(H:Y1)(f:FuncId)(args:List T):Option (T×Y1×Option Prop):=
 match tB G f with
 |some c=>match args with
  | .posl .. ::_=>b1P c H args
  |_=>m7 c H (t7 H 64 (nL args) []) args
 |none=>match gmk G f with
  |some c=>a0C c H args
  |none=>match gfz G f with
   |some c=>b6J c H (t7 H 64 (nL args) []) args
   |none=>none

def gR(s:V5):Operand->Option (FuncId×List T)
 | .func f=>some (f,[])
 |x=>match M7 s x with
  | .fn (.func f) cs=>some (f,cs)
  | .v (.func (.func f) first caps)=>match first.toList,caps.toList with
   | [],[]=>some (f,[])
   |_,_=>none
  |_=>none

def i8(G:I2)(H:Y1)(f:FuncId)(args:List T):Option (T×Option Prop):=
 match args.all (closedD 6) with
 |true=>gam G f args
 |false=>match O5 (N3 0 H 6) args with
  |some bs=>match gam G f (bs.map (·.1)) with
   |some (r,p)=>match sG 6 r with
    |true=>some (r,qP (wS bs) p)
    |false=>none
   |none=>none
  |none=>none

def L6(P:Program)(G:I2)(s:V5)(H:Y1)(op:Op):Option (T×Y1×Option Prop):=
 match N7 P s H op with
 |some (t,p)=>some (t,H,p)
 |none=>match D3 P s H op with
  |some r=>some r
  |none=>match op with
   | .call {callee:=.value x,args, .. }=>match isEff G x with
    |true=>match x with
     | .func f=>yD G H f (args.toList.map (M7 s))
     |x=>match gR s x with
      |some (f,cs)=>match isEff G (.func f) with
       |true=>yD G H f (args.toList.map (M7 s)++cs)
       |false=>(i8 G H f (args.toList.map (M7 s)++cs)).map λr=>(r.1,H,r.2)
      |none=>none
    |false=>match gR s x with
     |some (f,cs)=>(i8 G H f (args.toList.map (M7 s)++cs)).map λr=>(r.1,H,r.2)
     |none=>none
   |_=>none

def A6(P:Program)(G:I2)(s:V5)(H:Y1)(op:Op):Option (T×Y1×Option Prop):=
 match uD G op with
 |true=>match a52 P s op with
  |some (t,p)=>some (t,H,p)
  |none=>none
 |false=>L6 P G s H op

structure Sy where
 s:V5
 H:Y1

abbrev G8:=List (Nat×Bool)
abbrev C5:=List (Nat×G8)

def S5:C5->Nat->G8
 | [],_=>[]
 |(j,p)::r,t=>match Nat.beq t j with|true=>p|false=>S5 r t

def rN:G8->G8->Bool
 | [],[]=>true
 |(a,b)::p,(c,d)::q=>Nat.beq a c&&(b==d)&&rN p q
 |_,_=>false

def sufB(p:G8):G8->Bool
 | []=>rN p []
 |x::q=>rN p (x::q)||sufB p q

def E5(s:V5):G8->Prop->Prop
 | [],p=>p
 |(t,b)::r,p=>match j7 s t with
  | .bool x=>E5 s r (x=b->p)
  |_=>False

def uC(s:V5):G8->Bool
 | []=>true
 |(t,_)::r=>match j7 s t with
  | .bool _=>uC s r
  |_=>false

def Z6(n:Nat)(row row':Nat->List T):Prop:=∀i,i<n->row i=row' i

def zX:Nat->T->T->Prop
 |0,_,_=>False
 |d+1,t,t'=>
  match t,t' with
  |_,.und=>True
  | .int k a,.int k' b=>match decide (k=k') with|true=>a=b|false=>False
  | .bool a,.bool b=>a=b
  | .str a,.str b=>a=b
  | .bys a,.bys b=>a=b
  | .v (.slice none 0 0),.sl _ n _=>n=0
  | .v (.slice none 0 0),.bys l=>l=[]
  | .emp,.sl _ n _=>n=0
  | .emp,.bys l=>l=[]
  | .emp,.emp=>True
  | .v x,.v y=>x=y
  | .sl sz n row,.sl sz' m row'=>match Nat.beq sz sz' with|true=>n=m/\Z6 n row row'|false=>False
  | .ref k i j,.ref k' i' j'=>match Nat.beq k k' with|true=>i=i'/\j=j'|false=>False
  | .osl k off n,.osl k' off' n'=>match Nat.beq k k' with|true=>off=off'/\n=n'|false=>False
  | .mpr k,.mpr k'=>match Nat.beq k k' with|true=>True|false=>False
  | .agg as,.agg bs=>matsV (zX d) as bs
  | .tup as,.tup bs=>matsV (zX d) as bs
  | .fn f as,.fn g bs=>f=g/\matsV (zX d) as bs
  | .bref as,.bref bs=>match bs.all W5 with|true=>matsP (zX d) as bs|false=>False
  |_,_=>False
where
 matsP (f:T->T->Prop):List T->List T->Prop
 |_,[]=>True
 |a::r,b::q=>f a b/\matsP f r q
 |_,_=>False
 matsV (f:T->T->Prop):List T->List T->Prop
 | [],[]=>True
 |a::r,b::q=>f a b/\matsV f r q
 |_,_=>False

def jM(as bs:List T):Prop:=zX.matsV (zX 6) as bs

def b3t:T->T->Prop
 | .own _ sz n row,.own _ sz' n' row'=>sz=sz'/\n=n'/\Z6 n row row'
 |t,t'=>t=t'

def b00:List T->List T->Prop
 | [],[]=>True
 |a::r,b::q=>b3t a b/\b00 r q
 |_,_=>False

def T9(n:Nat)(row row':Nat->List T):Prop:=∀i,i<n->b00 (row i) (row' i)

def a1j(o o':Option Ob):Prop:=
 match o,o' with
 |some (.arr cl _ sz n row),some (.arr cl' _ sz' n' row')=>match Nat.beq sz sz',cl,cl' with
  |true,true,true=>n=n'/\Z6 n row row'
  |true,_,false=>match(row' 0).all J7 with
   |true=>n=1/\n'=1/\zX.matsV (zX 6) (row 0) (row' 0)
   |false=>False
  |_,_,_=>False
 |some (.fam v _ sz n row),some (.fam v' _ sz' n' row')=>match Nat.beq sz sz' with
  |true=>v=v'/\n=n'/\T9 n row row'
  |false=>False
 |some (.bys _ l),some (.bys _ l')=>l=l'
 |_,_=>False

def a5N:Y1->Y1->Prop
 | [],[]=>True
 |o::r,o'::r'=>a1j o o'/\a5N r r'
 |_,_=>False

def b5C(r:Rle)(x:r.ι)(as:List T)(H:Y1):Option (T×Y1×Option Prop):=
 match Nat.ble 9 (b4L (r.pre x))&& !Nat.beq (b4L H) (b4L (r.pre x)) with
 |false=>some (r.res x,r.post x,some (jM as (r.args x)/\a5N H (r.pre x)/\r.side x))
 |true=>b49 (λas H=>some (r.res x,r.post x,some (jM as (r.args x)/\a5N H (r.pre x)/\r.side x))) (b4L (r.pre x)) (r.pre x).length H as

def b7x(G:I2)(s:V5):Op->Option (FuncId×Con)
 | .call {callee:=.value x, .. }=>match gR s x with
  |some (f,_)=>(b4H G f).map λr=>(f,r)
  |none=>none
 |_=>none

def c14(f:FuncId)(r:Rl)(x:r.ι)(G:I2):I2:=(f,.pure λas=>some (r.res x,some (jM as (r.args x)/\r.side x)))::G
def c1F(f:FuncId)(r:Rle)(x:r.ι)(G:I2):I2:=(f,.eff λas H=>b5C r x as H)::G
def c04(f:FuncId)(r:Rle)(x:r.ι)(G:I2):I2:=(f,.mk λas=>some (r.res x,r.post x,some (jM as (r.args x)/\r.side x)))::G

def c1f(f:FuncId)(r:Rl)(x:r.ι)(G:I2):I2:=(f,.fz λas=>some (r.res x,some (jM as (r.args x)/\r.side x)))::G

def lG(G:I2)(s:V5)(op:Op)(k:I2->Prop):Prop:=
 match b7x G s op with
 |none=>k G
 |some (f,c)=>match c with
  | .rel r=>∃x:r.ι,k (c14 f r x G)
  | .reff r=>∃x:r.ι,k (c1F f r x G)
  | .rmk r=>∃x:r.ι,k (c04 f r x G)
  | .rfz r=>∃x:r.ι,k (c1f f r x G)
  |_=>k G

def nB(s:V5)(pth:G8):Option Prop->Prop->Prop
 |none,q=>q
 |some p,q=>E5 s pth p/\q

def lH(ps:C5)(pth:G8):Operand->Bool
 | .tmp t=>sufB (S5 ps t) pth
 |_=>true

def F4(ps:C5)(pth:G8)(op:Op):Bool:=
 match op with
 | .pick (.tmp t) a b=>sufB (S5 ps t) pth&&lH ps ((t,true)::pth) a&&lH ps ((t,false)::pth) b
 | .pick _ _ _=>false
 |op=>op.operands.toList.all (lH ps pth)

def jX(ps:C5)(d:Nat):Bool:=ps.all λx=> !Nat.beq x.1 d&&x.2.all λy=> !Nat.beq y.1 d

def lN(ps:C5):Option Tmp->Bool
 |none=>true
 |some d=>jX ps d

def xE(s:V5)(d:Option Tmp)(t:T):V5:=match d with|some d=>(d,t)::s|none=>s
def hM(ps:C5)(d:Option Tmp)(p:G8):C5:=match d with|some d=>(d,p)::ps|none=>ps

def gI(s:V5):C5->V5
 | []=>s
 |(d,_)::r=>(d,.und)::gI s r

def z6(G:I2)(op:Op):Bool:=
 match op with
 | .box .. | .alloc .. | .store .. | .makeSlice .. | .buildSlice .. | .makeMap .. | .mapUpdate .. | .slice _ _ _ _ (some _)=>false
 | .call {callee:=.builtin .append, .. }=>false
 | .call {callee:=.builtin .clear, .. }=>false
 | .call {callee:=.value x, .. }=> !isEff G x
 |_=>true

def stays(G:I2)(op:Op):Bool:=
 match uD G op with
 |true=>true
 |false=>z6 G op

def a03(nt:Nat):Option Tmp->Bool
 |none=>true
 |some d=>Nat.blt d nt

def qN(ps:C5)(g:Nat):Option Tmp->Bool
 |none=>false
 |some d=> !Nat.beq d g&&(S5 ps g).all λy=> !Nat.beq y.1 d

def a5C(P:Program)(s:V5):Op->Option (Nat×Bool)
 | .binOp op t x y _=>match P.underlying t,M7 s x,M7 s y,op with
  |some (.slice _),.sl _ n _,.v (.slice none 0 0),.eql=>some (n,false)
  |some (.slice _),.sl _ n _,.v (.slice none 0 0),.neq=>some (n,true)
  |some (.slice _),.osl _ _ n,.v (.slice none 0 0),.eql=>some (n,false)
  |some (.slice _),.osl _ _ n,.v (.slice none 0 0),.neq=>some (n,true)
  |_,_,_,_=>none
 |_=>none

def b90(b:Bool)(n:Nat):Prop:=b=true->n=0

def xB(P:Program)(G:I2)(nt:Nat)(all:Array Oper):List Oper->V5->C5->Y1->(V5->Y1->Prop)->Prop
 | [],s,ps,H,K=>K (gI s ps) H
 |o::rest,s,ps,H,K=>
  match o.guard with
  |none=>match F4 ps [] o.op&&lN ps o.dst&&a03 nt o.dst with
   |false=>False
   |true=>match a5C P s o.op with
    |some (n,neg)=>∀b:Bool,b90 b n->xB P G nt all rest (xE s o.dst (.bool (cond neg (!b) b))) ps H K
    |none=>lG G s o.op λG'=>match A6 P G' s H o.op with
     |some (t,H',side)=>nB s [] side (xB P G nt all rest (xE s o.dst t) ps H' K)
     |none=>False
  |some (j,want)=>match(all[j]?).bind (·.dst) with
   |some g=>match j7 s g with
    | .bool _=>match F4 ps ((g,want)::S5 ps g) o.op&&lN ps o.dst&&a03 nt o.dst&&qN ps g o.dst with
     |false=>False
     |true=>match stays G o.op with
      |true=>lG G s o.op λG'=>match A6 P G' s H o.op with
       |some (t,_,side)=>nB s ((g,want)::S5 ps g) side (xB P G nt all rest (xE s o.dst t) (hM ps o.dst ((g,want)::S5 ps g)) H K)
       |none=>False
      |false=>match uC s ((g,want)::S5 ps g) with
       |false=>False
       |true=>lG G s o.op λG'=>match A6 P G' s H o.op with
        |some (t,H',side)=>nB s ((g,want)::S5 ps g) side (E5 s ((g,want)::S5 ps g) (xB P G nt all rest (xE s o.dst t) (hM ps o.dst ((g,want)::S5 ps g)) H' K)/\
          (E5 s ((g,want)::S5 ps g) False->xB P G nt all rest (xE s o.dst t) (hM ps o.dst ((g,want)::S5 ps g)) H K))
        |none=>False
    |_=>False
   |none=>False

def maskOf(tab:List Nat):List Edge->Nat
 | []=>0
 |e::r=>match Region.binds .any e with
  |true=>Nat.lor (Nat.lor (Nat.shiftLeft 1 e.on) (tab.getD e.on 0)) (maskOf tab r)
  |false=>maskOf tab r

def uM:List Operand->List Nat
 | []=>[]
 | .tmp t::r=>t::uM r
 |_::r=>uM r

def rQ(all:Array Oper)(o:Oper):List Nat:=
 match o.guard with
 |none=>uM o.op.operands.toList
 |some (j,_)=>match(all[j]?).bind (·.dst) with
  |some g=>g::uM o.op.operands.toList
  |none=>uM o.op.operands.toList

def zM(G:I2)(op:Op):Bool:=
 match op with
 | .box .. | .alloc .. | .makeSlice .. | .buildSlice .. | .makeMap .. | .slice _ _ _ (some _) (some _)=>true
 | .call {callee:=.value x, .. }=>isMk G x
 |_=>false

def a6X(op:Op):Bool:=
 match op with
 | .call {callee:=.value _, .. }=>true
 |_=>false

def floatB(G:I2)(op:Op):Bool:=a6X op&&zM G op

def a8u(G:I2)(op:Op):Bool:=
 match op with
 | .call {callee:=.value x, .. }=>isEf G x
 |_=>false

def G6(G:I2):Bool:=Nat.ble 8 (gT G)

def w8(fl:Bool)(o:Oper):Bool:=
 match o.guard with
 |some _=>false
 |none=>match o.op with
  | .alloc _=>true
  | .call {callee:=.builtin .append, .. }=>fl
  |_=>false

def yX(fl:Bool):List Oper->Nat
 | []=>0
 |o::r=>match w8 fl o with
  |true=>yX fl r+1
  |false=>yX fl r

def oS(fl:Bool)(b:Nat)(all:Array Oper)(i:Nat):Nat:=b+yX fl (all.toList.take i)

def a3t(P:Program)(s:V5)(H:Y1)(op:Op)(r:Nat):Option (T×Y1×Option Prop):=
 match op with
 | .alloc t=>match zeroCells P t with
  |some z=>match Nat.beq z.length 0,z.all J7,Z0 H r,Nat.blt r H.length with
   |false,true,none,true=>some (.ref r 0 0,H.set r (some (.arr (z.all W5) 1000000 z.length 1 λ_=>z)),none)
   |_,_,_,_=>none
  |none=>none
 | .call {callee:=.builtin .append,args,argTypes}=>match args.toList,argTypes.toList with
  | [d,x],[t,tx]=>match M7 s d,P.underlying t with
   | .emp,some (.slice e)=>match P.info? e,zeroCells P e with
    |some i,some z=>match Nat.beq z.length i.size,vR [] (P.underlying tx) i.size (M7 s x) with
     |true,some q=>match q.cl,Z0 H r,Nat.blt r H.length with
      |true,none,true=>some (.osl r 0 q.n,H.set r (some (.arr true e i.size q.n q.row)),some (iX q.side (W6 0 q.n i.bytes)))
      |_,_,_=>none
     |_,_=>none
    |_,_=>none
   |_,_=>none
  |_,_=>none
 |_=>none

def iB(H:Y1):Nat->Y1
 |0=>H
 |n+1=>H++List.replicate (n+1) none++[some (.arr true 0 1 0 λ_=>[])]

def a7g(u:Option Tmp)(l:List Nat):Bool:=
 match u with
 |some u=>l.any λv=>Nat.beq u v
 |none=>false

def a0y(a b:Option Tmp):Bool:=
 match a,b with
 |some a,some b=>Nat.beq a b
 |_,_=>false

def pureB(op:Op):Bool:=
 match op with
 | .move _| .assign _| .pick .. | .nilCheck _| .binOp .. | .unOp .. | .fieldAddr .. | .field .. | .extract .. | .build .. | .makeFunc .. | .index .. =>true
 |_=>false

def eJ(s:V5)(op:Op):Option (List Nat):=
 match op with
 | .load _ a=>match M7 s a with
  | .ref k _ _=>some [k]
  | .bref _=>some []
  |_=>none
 | .indexAddr _ x _=>match M7 s x with
  | .sl .. | .bys _=>some []
  | .osl k _ _=>some [k]
  |_=>none
 | .convert _ _ x=>match M7 s x with
  | .str _| .bys _| .int .. =>some []
  |_=>none
 | .slice _ x _ _ none=>match M7 s x with
  | .str _| .bys _| .sl .. =>some []
  | .osl k _ _=>some [k]
  |_=>none
 | .buildSlice .. =>some []
 | .call {callee:=.builtin .len, .. }=>some []
 | .call {callee:=.builtin .append, .. }=>some []
 | .call {callee:=.value x,args, .. }=>match gR s x with
  |some (_,cs)=>match(args.toList.map (M7 s)++cs).all (closedD 6) with
   |true=>some []
   |false=>none
  |none=>none
 |_=>none

def vP(H:Y1)(s:V5)(op:Op):Option (List Nat):=
 match op with
 | .call {callee:=.builtin .append,args, .. }=>match args.toList with
  |d::_=>match M7 s d with
   | .osl k _ _=>match Z0 H k with
    |some (.fam ..)=>none
    |_=>some [k]
   | .v _=>some []
   | .emp=>some []
   |_=>none
  | []=>none
 | .store _ a x=>match M7 s a with
  | .ref k _ _=>match Z0 H k with
   |some (.fam ..)=>match(V0 (M7 s x)).all closedOne with
    |true=>some [k]
    |false=>none
   |_=>some [k]
  | .pref k _ _ _ _ _ _=>some [k]
  |_=>none
 | .call {callee:=.value x,args, .. }=>match gR s x with
  |some (_,cs)=>match args.toList.map (M7 s)++cs with
   | .posl .. ::_=>none
   |as=>some (t7 H 64 (nL as) [])
  |none=>none
 |_=>none

abbrev RW:=Option (List Nat)×Option (List Nat)
def sI(H:Y1)(s:V5)(op:Op):RW:=(eJ s op,vP H s op)

def disjB(r w:Option (List Nat)):Bool:=
 match r,w with
 |some r,some w=>r.all λk=>w.all λj=> !Nat.beq k j
 |_,_=>false

def x1(G:I2)(all:Array Oper)(m i:Nat)(x:Oper)(fx:RW)(o:Oper)(fo:RW):Bool:=
 !a0y x.dst o.dst&&(Nat.testBit m i||(!a7g x.dst (rQ all o)&& !a7g o.dst (rQ all x)&&(match stays G x.op,stays G o.op with
  |true,true=>true
  |true,false=>zM G o.op||pureB x.op||disjB fx.1 fo.2
  |false,true=>zM G x.op||pureB o.op||disjB fo.1 fx.2
  |false,false=>w8 (G6 G) o&&(w8 (G6 G) x||floatB G x.op||(a8u G x.op&&fx.2.isSome)))))

def cB(i:Nat)(o:Oper):Bool:=o.after.toList.all λe=> !Region.binds .any e||Nat.blt e.on i

def C6(H0:Y1):List (Nat×Y1)->Y1
 | []=>H0
 |(_,H)::_=>H

def F0(fl:Bool)(all:Array Oper)(k:Nat):Bool:=
 match all[k]? with
 |some o=>w8 fl o
 |none=>false

def hAt(fl:Bool)(all:Array Oper)(H0:Y1)(m:Nat):List (Nat×Y1)->Y1
 | []=>H0
 |(k,H)::r=>match Nat.testBit m k&& !F0 fl all k with
  |true=>H
  |false=>hAt fl all H0 m r

def xG(P:Program)(G:I2)(nt:Nat)(all:Array Oper)(b:Nat)(H0:Y1):List Oper->Nat->List (Nat×Oper×RW)->List Nat->V5->C5->List (Nat×Y1)->(V5->Y1->Prop)->Prop
 | [],_,_,_,s,ps,hist,K=>K (gI s ps) (C6 H0 hist)
 |o::rest,i,earlier,tab,s,ps,hist,K=>
  match cB i o&&earlier.all (λx=>x1 G all (maskOf tab o.after.toList) x.1 x.2.1 x.2.2 o (sI (C6 H0 hist) s o.op)) with
  |false=>False
  |true=>match o.guard with
   |none=>match F4 ps [] o.op&&lN ps o.dst&&a03 nt o.dst with
    |false=>False
    |true=>match w8 (G6 G) o with
     |true=>match a3t P s (C6 H0 hist) o.op (oS (G6 G) b all i) with
      |some (y,H',side)=>nB s [] side (xG P G nt all b H0 rest (i+1) ((i,o,sI (C6 H0 hist) s o.op)::earlier) (tab++[maskOf tab o.after.toList]) (xE s o.dst y) ps ((i,H')::hist) K)
      |none=>False
     |false=>match stays G o.op with
      |true=>lG G s o.op λG'=>match A6 P G' s (hAt (G6 G) all H0 (maskOf tab o.after.toList) hist) o.op with
       |some (t,_,side)=>nB s [] side (xG P G nt all b H0 rest (i+1) ((i,o,sI (C6 H0 hist) s o.op)::earlier) (tab++[maskOf tab o.after.toList]) (xE s o.dst t) ps hist K)
       |none=>False
      |false=>lG G s o.op λG'=>match A6 P G' s (C6 H0 hist) o.op with
       |some (t,H',side)=>nB s [] side (xG P G nt all b H0 rest (i+1) ((i,o,sI (C6 H0 hist) s o.op)::earlier) (tab++[maskOf tab o.after.toList]) (xE s o.dst t) ps ((i,H')::hist) K)
       |none=>False
   |some (j,want)=>match(all[j]?).bind (·.dst) with
    |some g=>match j7 s g with
     | .bool _=>match Nat.blt j i&&F4 ps ((g,want)::S5 ps g) o.op&&lN ps o.dst&&a03 nt o.dst&&stays G o.op&&qN ps g o.dst with
      |false=>False
      |true=>lG G s o.op λG'=>match A6 P G' s (hAt (G6 G) all H0 (maskOf tab o.after.toList) hist) o.op with
       |some (t,_,side)=>nB s ((g,want)::S5 ps g) side (xG P G nt all b H0 rest (i+1) ((i,o,sI (C6 H0 hist) s o.op)::earlier) (tab++[maskOf tab o.after.toList]) (xE s o.dst t) (hM ps o.dst ((g,want)::S5 ps g)) hist K)
       |none=>False
     |_=>False
    |none=>False

def b1k(body:(Exit->Sy->Prop)->Sy->Prop)(sub:Sy->Sy->Prop)(Q:Exit->Sy->Prop)(σ:Sy):Prop:=
 ∃(ι:Type) (I:ι->Sy) (μ:ι->Nat),(∃x,sub σ (I x))/\∀x,body (λe σ'=>match e with| .normal=>∃y,sub σ' (I y)/\μ y<μ x|e=>Q e σ') (I x)

def vc(P:Program)(G:I2)(nt:Nat)(sub:Sy->Sy->Prop):Code->(Exit->Sy->Prop)->Sy->Prop
 | .skip,Q,σ=>Q .normal σ
 | .region _ ops draw,Q,σ=>match draw with
  |false=>xB P G nt ops ops.toList σ.s [] σ.H λs H=>Q .normal ⟨s,H⟩
  |true=>xG P G nt ops σ.H.length (iB σ.H (yX (G6 G) ops.toList)) ops.toList 0 [] [] σ.s [] [] λs H=>Q .normal ⟨s,H⟩
 | .seq a b,Q,σ=>vc P G nt sub a (λe σ'=>match e with| .normal=>vc P G nt sub b Q σ'|e=>Q e σ') σ
 | .cond c x y,Q,σ=>match M7 σ.s c with
  | .bool b=>(b=true->vc P G nt sub x Q σ)/\(b=false->vc P G nt sub y Q σ)
  |_=>False
 | .block id body,Q,σ=>vc P G nt sub body (λe σ'=>match e with| .exit i=>(match Nat.beq i id with|true=>Q .normal σ'|false=>Q (.exit i) σ')|e=>Q e σ') σ
 | .loop body,Q,σ=>b1k (vc P G nt sub body) sub Q σ
 | .exit id,Q,σ=>Q (.exit id) σ
 | .ret,Q,σ=>Q .ret σ
 |_,_,_=>False

def aF(P:Program)(s:V5)(H:Y1):ResultVar->Option (T×Option Prop)
 | .tmp t=>some (j7 s t,none)
 | .cell a t=>zA P H t (j7 s a)

def b3a(P:Program)(s:V5)(H:Y1)(rs:List ResultVar):Option (T×Option Prop):=
 match O5 (aF P s H) rs with
 |some [x]=>some x
 |some xs=>some (.tup (xs.map (·.1)),wS xs)
 |none=>none

def iM:Option Prop->Prop->Prop
 |none,q=>q
 |some p,q=>p/\q

def b1i(P:Program)(rs:List ResultVar)(post:T->Prop):Exit->Sy->Prop
 | .normal,σ| .ret,σ=>match b3a P σ.s σ.H rs with
  |some (r,p)=>match N3 0 σ.H 6 r with
   |some (r',p')=>iM p (iM p' (post r'))
   |none=>False
  |none=>False
 |_,_=>False

def sV:Nat->List T->V5
 |_,[]=>[]
 |i,t::r=>(i,t)::sV (i+1) r

end Go.SS
