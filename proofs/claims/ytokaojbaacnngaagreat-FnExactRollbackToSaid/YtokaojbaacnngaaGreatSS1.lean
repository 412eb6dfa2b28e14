/- A calculus of symbolic states over the model: definitions. What slots and cells hold is said as trees of data; a piece of code becomes a plain proposition. -/
import Derived.WalkKit
import Derived.WalkSpells
import Derived.WalkLawsBesides
import Derived.Lib.Strings
import Derived.Laws.BytesArg
import Derived.Deep.AppendSrc
namespace Go.SS
open Go.RowKit
abbrev X1:=@Option.some.injEq
abbrev V2:=@Nat.le_refl
abbrev U4:=@Prod.mk.injEq
abbrev L5:=@List.getD_eq_getElem?_getD
abbrev L4:=@List.getElem?_eq_getElem
abbrev J8:=@Option.map_eq_some_iff
abbrev S7:=@Nat.zero_le
abbrev H9:=@Nat.eq_of_beq_eq_true
abbrev A0:=@List.getElem?_eq_some_iff
abbrev J7:=@Result.andThen_ok
abbrev J6:=@Bool.and_eq_true
abbrev C6:=@List.mem_of_getElem?
abbrev F3:=@of_decide_eq_true
abbrev A3:=@List.length_append
abbrev F2:=@Nat.not_lt_zero
abbrev m5:=@Nat.le_of_ble_eq_true
abbrev I9:=@Sem.run_bind
abbrev u9:=@Int.toNat_natCast
abbrev F8:=@Sem.run_pure
abbrev o9:=@decide_eq_true_eq
abbrev m4:=@List.all_eq_true
abbrev C3:=@Nat.zero_add
abbrev q7:=@Option.map_some
abbrev yQ:=@of_decide_eq_false
abbrev tW:=@decide_eq_false_iff_not
abbrev l9:=@List.length_set
abbrev sJ:=@Array.getElem?_eq_getElem
abbrev xO:=@Bool.not_eq_false'
abbrev uL:=@Bool.or_eq_false_iff
abbrev vV:=@Nat.lt_of_lt_of_le
abbrev wD:=@Bool.not_eq_true'
abbrev oX:=@List.getElem?_append_left
abbrev iA:=@List.getElem?_append_right
abbrev uK:=@decide_eq_false
abbrev cT:=@Array.getElem?_eq_some_iff
abbrev sH:=@List.getElem?_map
abbrev vN:=@List.mem_cons
abbrev jX:=@Nat.mul_le_mul_right
abbrev oQ:=@Bool.or_eq_true
abbrev kV:=@List.take_length
abbrev j_l:=@List.getElem?_set_ne
abbrev j_k:=@List.getElem?_set_self
abbrev iZ:=@decide_eq_true
abbrev j_i:=@List.not_mem_nil
abbrev j_h:=@Nat.sub_self
abbrev j_g:=@List.length_range

inductive T where
 |int (k:IntKind) (n:Int)
 |bool (b:Bool)
 |str (l:List UInt8)
 |v (x:Value)
 |bys (l:List UInt8)
 |sl (sz n:Nat) (row:Nat->List T)
 |bref (cells:List T)
 |ref (k i j:Nat)
 |osl (k off n:Nat)
 |agg (cs:List T)
 |tup (cs:List T)
 |fn (f:Fn) (caps:List T)
 |mpr (k:Nat)
 |own (ty:TypeId) (sz n:Nat) (row:Nat->List T)
 |posl (k v i j n:Nat)
 |pref (k v i j z a b:Nat)
 |emp
 |und
 deriving Inhabited

structure Arr where
 cl:Bool
 ty:TypeId
 sz:Nat
 n:Nat
 row:Nat->List T

inductive Ob where
 |arr (cl:Bool) (ty:TypeId) (sz n:Nat) (row:Nat->List T)
 |fam (v:Nat) (ty:TypeId) (sz n:Nat) (row:Nat->List T)
 |bys (ty:TypeId) (l:List UInt8)
 |mp (bo:Bool) (get:Int->Int)
 |mp2 (get:Int->Int->Bool)

def K1(l:List UInt8)(i:Nat):List T:=[.int .u8 ((l.getD i 0).toNat:Int)]

def Ob.toArr:Ob->Arr
 | .arr cl ty sz n row=>⟨cl,ty,sz,n,row⟩
 | .fam _ ty sz n row=>⟨false,ty,sz,n,row⟩
 | .bys ty l=>⟨true,ty,1,l.length,K1 l⟩
 | .mp _ _=>⟨true,0,0,0,λ_=>[]⟩
 | .mp2 _=>⟨true,0,0,0,λ_=>[]⟩

def Ob.isArr:Ob->Bool
 | .mp _ _=>false
 | .mp2 _=>false
 | .fam .. =>false
 |_=>true

def jN(k v i:Nat):Nat->List T->List T
 |_,[]=>[]
 |j,.own _ _ n _::r=>.posl k v i j n::jN k v i (j+1) r
 |j,t::r=>t::jN k v i (j+1) r

def zB(k v:Nat)(row:Nat->List T)(i:Nat):List T:=jN k v i 0 (row i)

abbrev Y3:=List (Option Ob)
abbrev V9:=List (Nat×T)

def q8:V9->Nat->T
 | [],_=>.und
 |(j,t)::r,i=>match Nat.beq i j with|true=>t|false=>q8 r i

def eJ:Value->T
 | .int k n=>.int k n
 | .bool b=>.bool b
 | .string s=>.str s.data.toList
 |x=>.v x

def N7(s:V9):Operand->T
 | .tmp t=>q8 s t
 | .const c=>eJ c
 | .func f=>.v (.func (.func f) #[] #[])
 | .global g=>.v (.pointer (some ⟨g,0,none⟩))

def X4(k:IntKind)(n:Int):Prop:=k.min<=n/\n<=k.max
def W4(i:Int)(n:Nat):Prop:=0<=i/\i<n
def Lt(i n:Nat):Prop:=i<n
def Nn(i:Int):Prop:=0<=i
def oH(i j:Int):Prop:=i<=j
def Nz(i:Int):Prop:=i≠0
def a53(op:BinOp)(a b:Int):Option Bool:=
 match op with
 | .eql=>some (a==b)
 | .neq=>some (a !=b)
 | .lss=>some (decide (a<b))
 | .leq=>some (decide (a<=b))
 | .gtr=>some (decide (a>b))
 | .geq=>some (decide (a≥b))
 |_=>none

def b1l(op:BinOp)(k:IntKind)(a b:Int):Option (T×Option Prop):=
 match op with
 | .add=>some (.int k (a+b),some (X4 k (a+b)))
 | .sub=>some (.int k (a-b),some (X4 k (a-b)))
 | .mul=>some (.int k (a*b),some (X4 k (a*b)))
 | .quo=>some (.int k (a.tdiv b),some (Nz b/\X4 k (a.tdiv b)))
 | .rem=>some (.int k (a.tmod b),some (Nz b))
 | .and=>some (.int k (bits .and k a b),none)
 | .or=>some (.int k (bits .or k a b),none)
 | .xor=>some (.int k (bits .xor k a b),none)
 | .andNot=>some (.int k (bits .andNot k a b),none)
 | .shl=>some (.int k (k.wrap (a*2 ^ (min b.toNat k.bits))),some (Nn b))
 | .shr=>some (.int k (a.fdiv (2 ^ (min b.toNat k.bits))),some (Nn b))
 |op=>(a53 op a b).map λr=>(.bool r,none)

def a9N(op:BinOp)(a b:List UInt8):Option (T×Option Prop):=
 match op with
 | .add=>some (.str (a++b),some (Lt (a.length+b.length) 9223372036854775808))
 | .eql=>some (.bool (a==b),none)
 | .neq=>some (.bool (!(a==b)),none)
 | .lss=>some (.bool (Op.bytesLess a b),none)
 | .leq=>some (.bool (Op.bytesLess a b||a==b),none)
 | .gtr=>some (.bool (!(Op.bytesLess a b||a==b)),none)
 | .geq=>some (.bool (!(Op.bytesLess a b)),none)
 |_=>none

def kX(op:BinOp)(k k':IntKind):Bool:=
 match op with
 | .shl| .shr=>true
 |_=>decide (k=k')

def a2M(P:Program)(t:TypeId):Bool:=
 match P.underlying t with
 |some (.struct _)|some (.array _ _)=>true
 |_=>false

def oM(P:Program)(t:TypeId)(f:Nat):Option Field:=
 match P.underlying t with
 |some (.struct fs)=>fs[f]?
 |_=>none

def zK(P:Program)(t:TypeId)(cs:List T)(off:Nat):Option T:=
 match(P.underlying t).isSome,a2M P t with
 |true,true=>match Nat.ble (off+P.cellsOf t) cs.length with
  |true=>some (.agg ((cs.drop off).take (P.cellsOf t)))
  |false=>none
 |true,false=>cs[off]?
 |false,_=>none

def a98(P:Program)(rec:TypeId->T->T->Option Bool)(xs ys:List T):List Field->Option Bool
 | []=>some true
 |f::r=>match decide (f.name= "_"),zK P f.type xs f.offset,zK P f.type ys f.offset with
  |false,some a,some b=>match rec f.type a b,a98 P rec xs ys r with
   |some p,some q=>some (p&&q)
   |_,_=>none
  |_,_,_=>none

def eqT(P:Program):Nat->TypeId->T->T->Option Bool
 |0,_,_,_=>none
 |d+1,t,x,y=>match P.underlying t,x,y with
  |some (.int _),.int k a,.int k' b=>match decide (k=k') with
   |true=>some (a==b)
   |false=>none
  |some .bool,.bool a,.bool b=>some (a==b)
  |some .string,.str a,.str b=>some (a==b)
  |some (.struct fs),.agg xs,.agg ys=>match P.stoodInHeld t with
   |false=>a98 P (eqT P d) xs ys fs.toList
   |true=>none
  |_,_,_=>none

def b9H(P:Program)(op:BinOp)(t:TypeId)(x y:T):Option (T×Option Prop):=
 match P.eqGuardType P.depth t,op with
 |false,.eql=>(eqT P 20 t x y).map λb=>(.bool b,none)
 |false,.neq=>(eqT P 20 t x y).map λb=>(.bool (!b),none)
 |_,_=>none

def a1p(P:Program)(op:BinOp)(t:TypeId)(b:Bool):Option (T×Option Prop):=
 match P.underlying t,op with
 |some (.pointer e),.eql=>match decide (e=P.pointee t) with
  |true=>some (.bool b,none)
  |false=>none
 |some (.pointer e),.neq=>match decide (e=P.pointee t) with
  |true=>some (.bool (!b),none)
  |false=>none
 |_,_=>none

def b0l(P:Program)(op:BinOp)(t:TypeId)(x y:T):Option (T×Option Prop):=
 match x,y with
 | .int k a,.int k' b=>match kX op k k' with
  |true=>b1l op k a b
  |false=>none
 | .str a,.str b=>a9N op a b
 | .bool a,.bool b=>match P.underlying t,op with
  |some .bool,.eql=>some (.bool (a==b),none)
  |some .bool,.neq=>some (.bool (!(a==b)),none)
  |_,_=>none
 | .agg xs,.agg ys=>b9H P op t (.agg xs) (.agg ys)
 | .ref ..,.v (.pointer none)=>a1p P op t false
 | .pref ..,.v (.pointer none)=>a1p P op t false
 | .v (.pointer none),.v (.pointer none)=>a1p P op t true
 | .v (.slice none 0 0),.v (.slice none 0 0)=>match P.underlying t,op with
  |some (.slice _),.eql=>some (.bool true,none)
  |some (.slice _),.neq=>some (.bool false,none)
  |_,_=>none
 |_,_=>none

def inB(ty i n:Nat):Option Prop:=
 match Nat.beq ty 1000000 with
 |true=>match i,n with
  |0,1=>none
  |i,n=>some (Lt i n)
 |false=>some (Lt i n)

def Z1(H:Y3)(k:Nat):Option Ob:=(H[k]?).bind id
def getA(H:Y3)(k:Nat):Option Arr:=match Z1 H k with
 |some (.fam v ty sz n row)=>some ⟨false,ty,sz,n,zB k v row⟩
 |some ob=>match ob.isArr with
  |true=>some ob.toArr
  |false=>none
 |none=>none

structure Own where
 v:Nat
 n:Nat
 A:Arr

def getOwn(H:Y3)(k _v i j:Nat):Option Own:=match Z1 H k with
 |some (.fam v' _ _ n row)=>match(row i)[j]? with
  |some (.own ty sz m r)=>some ⟨v',n,true,ty,sz,m,r⟩
  |_=>none
 |_=>none

def PfB(v v' i n a m:Nat):Prop:=v=v'/\i<n/\a<m

def g8(P:Program)(H:Y3)(t:TypeId)(a:T):Option (T×Option Prop):=
 match a with
 | .bref cells=>(zK P t cells 0).map λx=>(x,none)
 | .ref k i j=>match getA H k with
  |some A=>(zK P t (A.row i) j).map λx=>(x,inB A.ty i A.n)
  |_=>none
 | .pref k v i j z a b=>match getOwn H k v i j with
  |some A=>match Nat.beq z A.A.sz with
   |true=>(zK P t (A.A.row a) b).map λx=>(x,some (PfB v A.v i A.n a A.A.n))
   |false=>none
  |none=>none
 |_=>none

def B5(P:Program)(t:TypeId)(n:Nat):Bool:=
 match P.info? t with
 |some i=>Nat.beq i.size n
 |none=>false

def E5(P:Program)(H:Y3)(t:TypeId)(x ix:T):Option (T×Option Prop):=
 match ix with
 | .int _ i=>
  match P.underlying t,x with
  |some (.slice e),.sl sz n row=>match B5 P e sz with
   |true=>some (.bref (row i.toNat),some (W4 i n))
   |false=>none
  |some (.slice e),.bys l=>match B5 P e 1 with
   |true=>some (.bref (K1 l i.toNat),some (W4 i l.length))
   |false=>none
  |some (.slice e),.osl k off n=>match getA H k with
   |some A=>match B5 P e A.sz with
    |true=>some (.ref k (off+i.toNat) 0,some (W4 i n))
    |false=>none
   |_=>none
  |some (.slice e),.posl k v i' j n=>match getOwn H k v i' j with
   |some A=>match B5 P e A.A.sz with
    |true=>some (.pref k v i' j A.A.sz i.toNat 0,some (W4 i n))
    |false=>none
   |_=>none
  |some (.array n e),.bref cells=>match(P.info? e).isSome with
   |true=>some (.bref (cells.drop (i.toNat*P.cellsOf e)),some (W4 i n))
   |false=>none
  |some (.array n e),.ref k r j=>match(P.info? e).isSome with
   |true=>some (.ref k r (j+i.toNat*P.cellsOf e),some (W4 i n))
   |false=>none
  |_,_=>none
 |_=>none

def a46(P:Program)(t:TypeId)(x:T):Option Int:=
 match P.underlying t,x with
 |some .string,.str l=>some l.length
 |some (.slice _),.bys l=>some l.length
 |some (.slice _),.sl _ n _=>some n
 |some (.slice _),.osl _ _ n=>some n
 |some (.slice _),.posl _ _ _ _ n=>some n
 |some (.slice _),.v (.slice none n _)=>some n
 |some (.slice _),.emp=>some 0
 |_,_=>none

def zeroCells(P:Program)(t:TypeId):Option (List T):=((P.info? t).bind (·.zero)).map λz=>z.cells.toList.map eJ

def V3:T->List T
 | .agg cs=>cs
 |t=>[t]

def M0:T->Bool
 | .agg _| .tup _| .und=>false
 | .v (.agg _)| .v (.tuple _)=>false
 |_=>true

def W9:T->Bool
 | .ref .. | .osl .. | .agg _| .tup _| .fn .. | .mpr _=>false
 | .own .. | .posl .. | .pref .. =>false
 |_=>true

def a4H:T->Bool
 | .own .. =>true
 |_=>false

def eL(s:V9)(c a b:Operand):Option T:=
 match N7 s c with
 | .bool cb=>match a,b with
  | .const (.bool true),b=>match N7 s b with
   | .bool y=>some (.bool (cb||y))
   |_=>none
  |a,.const (.bool false)=>match N7 s a with
   | .bool x=>some (.bool (cb&&x))
   |_=>none
  |_,_=>none
 |_=>none

def Le(i n:Nat):Prop:=i<=n

def yW(P:Program)(H:Y3)(src dst:TypeId)(x:T):Option (T×Option Prop):=
 match P.underlying src,P.underlying dst,x with
 |some (.int _),some (.int k),.int _ n=>some (.int k (k.wrap n),none)
 |some .string,some .string,.str l=>some (.str l,none)
 |some (.slice e),some .string,.bys l=>match P.underlying e with
  |some (.int .u8)=>some (.str l,none)
  |_=>none
 |some (.slice e),some .string,.osl k off n=>match P.underlying e,Z1 H k with
  |some (.int .u8),some (.bys _ l)=>some (.str ((l.drop off).take n),some (Le (off+n) l.length))
  |_,_=>none
 |_,_,_=>none

def oY(P:Program)(t:TypeId)(x:T)(f:Nat):Option T:=
 match oM P t f,x with
 |some fd,.agg cs=>zK P fd.type cs fd.offset
 |_,_=>none

def zL(P:Program)(t:TypeId)(x:T)(f:Nat):Option T:=
 match oM P t f with
 |some fd=>match B5 P fd.type (P.cellsOf fd.type),Nat.beq (P.cellsOf fd.type) 0,x with
  |true,false,.ref k i j=>some (.ref k i (j+fd.offset))
  |true,false,.bref cs=>some (.bref (cs.drop fd.offset))
  |_,_,_=>none
 |none=>none

def eD(P:Program)(t:TypeId)(x i:T):Option (T×Option Prop):=
 match P.underlying t,x,i with
 |some .string,.str l,.int _ i=>some (.int .u8 ((l.getD i.toNat 0).toNat:Int),some (W4 i l.length))
 |some (.array n e),.agg cs,.int _ i=>match B5 P e 1,zK P e cs i.toNat with
  |true,some x=>some (x,some (W4 i n))
  |_,_=>none
 |_,_,_=>none

def InC(i:Int)(n:Nat):Prop:=0<=i/\i<=n
def b5X(a h:Int)(n:Nat):Prop:=0<=a/\a<=h/\h<=n

def a7i(l:List UInt8):Option Int->Option Int->List UInt8
 |none,none=>l
 |none,some h=>l.take h.toNat
 |some a,none=>l.drop a.toNat
 |some a,some h=>(l.take h.toNat).drop a.toNat

def a4b(n:Nat):Option Int->Option Int->Nat
 |none,none=>n
 |none,some h=>h.toNat
 |some a,none=>n-a.toNat
 |some a,some h=>h.toNat-a.toNat

def b8o(off:Nat):Option Int->Nat
 |none=>off
 |some a=>off+a.toNat

def a37(row:Nat->List T):Option Int->Nat->List T
 |none=>row
 |some a=>λi=>row (a.toNat+i)

def a8V(n:Nat):Option Int->Option Int->Option Prop
 |none,none=>none
 |none,some h=>some (InC h n)
 |some a,none=>some (InC a n)
 |some a,some h=>some (b5X a h n)

def yU:Option T->Option (Option Int)
 |none=>some none
 |some (.int _ i)=>some (some i)
 |_=>none

def wV(P:Program)(H:Y3)(t:TypeId)(x:T)(lo hi:Option T):Option (T×Option Prop):=
 match yU lo,yU hi with
 |some a,some h=>match P.underlying t,x with
  |some .string,.str l=>some (.str (a7i l a h),a8V l.length a h)
  |some (.slice e),.bys l=>match B5 P e 1 with
   |true=>some (.bys (a7i l a h),a8V l.length a h)
   |false=>none
  |some (.slice e),.sl sz n row=>match B5 P e sz with
   |true=>some (.sl sz (a4b n a h) (a37 row a),a8V n a h)
   |false=>none
  |some (.slice e),.osl k off n=>match getA H k with
   |some A=>match B5 P e A.sz with
    |true=>some (.osl k (b8o off a) (a4b n a h),a8V n a h)
    |false=>none
   |none=>none
  |_,_=>none
 |_,_=>none

def rS:T->Bool
 | .agg _=>true
 |x=>M0 x

def t6(place:Nat->Option (Nat×Nat))(cells:List T):List (Nat×T)->Option (List T)
 | []=>some cells
 |(i,x)::rest=>match place i,rS x with
  |some (off,size),true=>match Nat.beq (V3 x).length size,Nat.ble (off+(V3 x).length) cells.length with
   |true,true=>t6 place (cells.take off++V3 x++cells.drop (off+(V3 x).length)) rest
   |_,_=>none
  |_,_=>none

def tX(place:Nat->Option (Nat×Nat))(m:Nat):Nat->List (Nat×T)->Option (List T)
 |n,[]=>match Nat.beq n m with
  |true=>some []
  |false=>none
 |n,(i,x)::rest=>match place i,rS x with
  |some (off,size),true=>match Nat.beq off n,Nat.beq (V3 x).length size with
   |true,true=>(tX place m (n+size) rest).map (V3 x++ ·)
   |_,_=>none
  |_,_=>none

def a5P(place:Nat->Option (Nat×Nat))(z:List T)(parts:List (Nat×T)):Option (List T):=
 match tX place z.length 0 parts with
 |some cs=>some cs
 |none=>t6 place z parts

def oJ(P:Program)(s:V9)(t:TypeId)(parts:Array (Nat×Operand)):Option T:=
 match zeroCells P t,P.underlying t with
 |some z,some (.struct fs)=>match fs.toList.all λf=>(P.info? f.type).isSome with
  |true=>(a5P (λi=>(fs.toList[i]?).map λf=>(f.offset,P.cellsOf f.type)) z (parts.toList.map λp=>(p.1,N7 s p.2))).map .agg
  |false=>none
 |some z,some (.array _ e)=>match(P.info? e).isSome with
  |true=>(a5P (λi=>some (i*P.cellsOf e,P.cellsOf e)) z (parts.toList.map λp=>(p.1,N7 s p.2))).map .agg
  |false=>none
 |_,_=>none

def b72(s:V9)(fn:Fn)(captured:Array Operand):T:=.fn fn (captured.toList.map (N7 s))

def b9a(bo:Bool)(n:Int):T:=match bo with
 |true=>.bool (decide (n≠0))
 |false=>.int .i64 n

def a6x(P:Program)(t:TypeId)(bo:Bool):Bool:=
 match P.underlying t with
 |some (.map kt et)=>match P.underlying kt,(P.info? et).bind (·.zero),bo with
  |some (.int .i64),some (.int .i64 n),false=>decide (n=0)
  |some (.int .i64),some (.bool b),true=> !b
  |_,_,_=>false
 |_=>false

def b4m(P:Program)(t:TypeId):Bool:=
 match P.underlying t with
 |some (.int .i64)=>Nat.beq (P.cellsOf t) 1
 |_=>false

def a0w(P:Program)(kt:TypeId):Bool:=
 match P.underlying kt with
 |some (.struct fs)=>match fs.toList with
  | [f0,f1]=>f0.name != "_" &&f1.name != "_" &&Nat.beq f0.offset 0&&Nat.beq f1.offset 1&&b4m P f0.type&&b4m P f1.type&&Nat.beq (P.cellsOf kt) 2&& !Nat.beq P.types.size 0
  |_=>false
 |_=>false

def a03(P:Program)(t:TypeId):Bool:=
 match P.underlying t with
 |some (.map kt et)=>match(P.info? et).bind (·.zero) with
  |some (.bool b)=> !b&&P.keyTypeAt 2 kt&&P.tiled 2 kt&&P.keyType kt&&a0w P kt
  |_=>false
 |_=>false

def rA(P:Program)(H:Y3)(t:TypeId)(m k:T):Option (T×Option Prop):=
 match m,k with
 | .mpr j,.int .i64 n=>match Z1 H j with
  |some (.mp bo get)=>match a6x P t bo with
   |true=>some (b9a bo (get n),none)
   |false=>none
  |_=>none
 | .mpr j,.agg [.int .i64 a,.int .i64 b]=>match Z1 H j with
  |some (.mp2 get)=>match a03 P t with
   |true=>some (.bool (get a b),some (X4 .i64 a/\X4 .i64 b))
   |false=>none
  |_=>none
 |_,_=>none

def b8R(bo:Bool):T->Option Int
 | .int .i64 n=>match bo with|false=>some n|true=>none
 | .bool b=>match bo with|true=>some (cond b 1 0)|false=>none
 |_=>none

def cY(P:Program)(H:Y3)(t:TypeId)(m k x:T):Option Y3:=
 match m,k with
 | .mpr j,.int .i64 n=>match Z1 H j with
  |some (.mp bo get)=>match a6x P t bo,b8R bo x with
   |true,some v=>some (H.set j (some (.mp bo λi=>cond (decide (i=n)) v (get i))))
   |_,_=>none
  |_=>none
 |_,_=>none

def rK(P:Program)(H:Y3)(t:TypeId)(m k x:T):Option (Y3×Option Prop):=
 match m,k,x with
 | .mpr j,.agg [.int .i64 a,.int .i64 b],.bool v=>match Z1 H j with
  |some (.mp2 get)=>match a03 P t with
   |true=>some (H.set j (some (.mp2 λa' b'=>cond (decide (a'=a/\b'=b)) v (get a' b'))),some (X4 .i64 a/\X4 .i64 b))
   |false=>none
  |_=>none
 |_,_,_=>none

def xY(P:Program)(H:Y3)(t:TypeId):Option (T×Y3):=
 match a6x P t true,a6x P t false with
 |true,_=>some (.mpr H.length,H++[some (.mp true λ_=>0)])
 |_,true=>some (.mpr H.length,H++[some (.mp false λ_=>0)])
 |_,_=>match a03 P t with
  |true=>some (.mpr H.length,H++[some (.mp2 λ_ _=>false)])
  |false=>none

def b8B(op:UnOp)(x:T):Option (T×Option Prop):=
 match op,x with
 | .not,.bool b=>some (.bool (!b),none)
 | .neg,.int k n=>some (.int k (0-n),some (X4 k (0-n)))
 |_,_=>none

def uM(x:T)(i:Nat):Option T:=
 match x with
 | .tup cs=>cs[i]?
 |_=>none

def O6(P:Program)(s:V9)(H:Y3)(op:Op):Option (T×Option Prop):=
 match op with
 | .move x| .assign x=>some (N7 s x,none)
 | .pick c a b=>(eL s c a b).map (·,none)
 | .load t a=>g8 P H t (N7 s a)
 | .nilCheck x=>match N7 s x with
  | .ref k i j=>some (.ref k i j,none)
  | .bref cs=>some (.bref cs,none)
  |_=>none
 | .binOp op t x y _=>b0l P op t (N7 s x) (N7 s y)
 | .unOp op _ x=>b8B op (N7 s x)
 | .convert src dst x=>yW P H src dst (N7 s x)
 | .fieldAddr t x f=>(zL P t (N7 s x) f).map (·,none)
 | .field t x f=>(oY P t (N7 s x) f).map (·,none)
 | .indexAddr t x i=>E5 P H t (N7 s x) (N7 s i)
 | .index t x i=>eD P t (N7 s x) (N7 s i)
 | .extract x i=>(uM (N7 s x) i).map (·,none)
 | .call {callee:=.builtin .len,args,argTypes}=>match args.toList,argTypes.toList with
  | [x],[t]=>(a46 P t (N7 s x)).map λn=>(.int .i64 n,none)
  |_,_=>none
 | .slice t x lo hi none=>wV P H t (N7 s x) (lo.map (N7 s)) (hi.map (N7 s))
 | .build t parts=>(oJ P s t parts).map (·,none)
 | .makeFunc fn first captured=>match first.toList with
  | []=>some (b72 s fn captured,none)
  |_=>none
 | .lookup t m k false=>rA P H t (N7 s m) (N7 s k)
 |_=>none

def P6(n:Int):UInt8:=UInt8.ofNat n.toNat

def sT:List T->Option (List Int)
 | []=>some []
 | .int .u8 n::r=>(sT r).map (n:: ·)
 |_=>none

def a9f:List Int->Option Prop
 | []=>none
 |n::r=>match a9f r with
  |none=>some (X4 .u8 n)
  |some p=>some (X4 .u8 n/\p)

def v3(P:Program)(e:TypeId):Bool:=
 match P.underlying e,zeroCells P e with
 |some (.int .u8),some [.int .u8 n]=>decide (n=0)
 |_,_=>false

def I5(a b c:Nat):Prop:=a*b<=c

def gV(P:Program)(H:Y3)(t:TypeId)(l c:T):Option (T×Y3×Option Prop):=
 match P.underlying t,l,c with
 |some (.slice e),.int .i64 n,.int .i64 m=>match P.info? e,zeroCells P e with
  |some i,some z=>match Nat.beq z.length i.size,Nat.beq i.size 0,z.all M0 with
   |true,false,true=>some (.osl H.length 0 n.toNat,H++[some (match v3 P e with
     |true=>.bys e (List.replicate n.toNat 0)
     |false=>.arr (z.all W9) e i.size n.toNat λ_=>z)],some (Nn n/\oH n m/\I5 i.bytes m.toNat 140737488355328/\Lt m.toNat 9223372036854775808))
   |_,_,_=>none
  |_,_=>none
 |_,_,_=>none

def k7(P:Program)(s:V9)(H:Y3)(t:TypeId)(len:Nat)(parts:Array (Nat×Operand)):Option (T×Y3×Option Prop):=
 match P.underlying t with
 |some (.slice e)=>match P.info? e,zeroCells P e with
  |some i,some z=>match Nat.beq z.length i.size,Nat.beq i.size 0,Nat.ble (len*i.size) 16777216 with
   |true,false,true=>match t6 (λk=>some (k*i.size,i.size)) ((List.replicate len z).flatten) (parts.toList.map λp=>(p.1,N7 s p.2)) with
    |some cs=>match v3 P e with
     |true=>(sT cs).map λns=>(.osl H.length 0 len,H++[some (.bys e (ns.map P6))],a9f ns)
     |false=>match cs.all M0 with
      |true=>some (.osl H.length 0 len,H++[some (.arr (cs.all W9) e i.size len λk=>(cs.drop (k*i.size)).take i.size)],none)
      |false=>none
    |none=>none
   |_,_,_=>none
  |_,_=>none
 |_=>none

def sel(b:Bool)(x y:T):T:=match b with|true=>x|false=>y
def b9O(b:Bool)(x y:Nat->List T)(i:Nat):List T:=match b with|true=>x i|false=>y i

def mrg(b:Bool)(x y:T):T:=
 match x,y with
 | .int k n,.int k' m=>match decide (k=k') with
  |true=>.int k (cond b n m)
  |false=>sel b (.int k n) (.int k' m)
 | .bool p,.bool q=>.bool (cond b p q)
 | .str l,.str m=>.str (cond b l m)
 | .own ty sz n row,.own ty' sz' n' row'=>match decide (ty=ty'),decide (sz=sz') with
  |true,true=>.own ty sz (cond b n n') (b9O b row row')
  |_,_=>sel b (.own ty sz n row) (.own ty' sz' n' row')
 |x,y=>sel b x y

def a9l(b:Bool):List T->List T->List T
 |x::xs,o::os=>mrg b x o::a9l b xs os
 | [],os=>os
 |_::_,[]=>[]

def b27(b:Bool):Nat->List T->List T->List T
 |0,xs,os=>a9l b xs os
 |j+1,xs,o::os=>o::b27 b j xs os
 |_+1,_,[]=>[]

def setRow(row:Nat->List T)(i j:Nat)(cs:List T)(k:Nat):List T:=b27 (Nat.beq k i) j cs (row k)

def closedOne(t:T):Bool:=W9 t&&M0 t

def b9I(cs:List T):Bool:=cs.all λt=> !a4H t
def rD(i n:Nat)(cs:List T):Prop:=i<n/\b9I cs=true

structure Abs where
 cs:List T
 ks:List Nat
 side:Option Prop

def tU(H:Y3):List T->Option Abs
 | []=>some ⟨[],[],none⟩
 | .osl m off n::r=>match off,Z1 H m,tU H r with
  |0,some (.arr true ty sz N row),some A=>some ⟨.own ty sz n row::A.cs,m::A.ks,some (match A.side with|none=>Le n N|some p=>Le n N/\p)⟩
  |_,_,_=>none
 |t::r=>match closedOne t,tU H r with
  |true,some A=>some ⟨t::A.cs,A.ks,A.side⟩
  |_,_=>none

def J3:Y3->List Nat->Y3
 |H,[]=>H
 |H,k::r=>J3 (H.set k none) r

def qY:List Nat->Bool
 | []=>true
 |x::r=>r.all (λy=> !Nat.beq x y)&&qY r

def ltS(i n:Nat):Option Prop->Prop
 |none=>i<n
 |some p=>i<n/\p

def vK(P:Program)(H:Y3)(t:TypeId)(a x:T):Option (Y3×Option Prop):=
 match a with
 | .pref k v i j z a b=>match Z1 H k,getOwn H k v i j,B5 P t (V3 x).length,rS x,(V3 x).all closedOne with
  |some (.fam v' ty sz n row),some A,true,true,true=>match Nat.beq z A.A.sz,Nat.ble (b+(V3 x).length) A.A.sz with
   |true,true=>some (H.set k (some (.fam v' ty sz n (setRow row i j [.own A.A.ty A.A.sz A.A.n (setRow A.A.row a b (V3 x))]))),some (PfB v v' i n a A.A.n))
   |_,_=>none
  |_,_,_,_,_=>none
 | .ref k i j=>match Z1 H k,B5 P t (V3 x).length,rS x,(V3 x).all M0 with
  |some (.arr cl ty sz n row),true,true,true=>match Nat.ble (j+(V3 x).length) sz with
   |true=>some (H.set k (some (.arr (cl&&(V3 x).all W9) ty sz n (setRow row i j (V3 x)))),inB ty i n)
   |false=>none
  |some (.bys ty l),true,true,true=>match x,j with
   | .int .u8 m,0=>some (H.set k (some (.bys ty (l.set i (P6 m)))),some (Lt i l.length/\X4 .u8 m))
   |_,_=>none
  |some (.fam v ty sz n row),true,true,true=>match Nat.ble (j+(V3 x).length) sz with
   |true=>match(V3 x).all closedOne with
    |true=>some (H.set k (some (.fam v ty sz n (setRow row i j (V3 x)))),some (rD i n (((row i).drop j).take (V3 x).length)))
    |false=>match tU H (V3 x) with
     |some A=>match qY (k::A.ks) with
      |true=>some ((J3 H A.ks).set k (some (.fam (v+1) ty sz n (setRow row i j A.cs))),some (ltS i n A.side))
      |false=>none
     |none=>none
   |false=>none
  |_,_,_,_=>none
 |_=>none

def jG(_P:Program)(H:Y3)(t:TypeId)(cs:List T):Option (T×Y3×Option Prop):=
 match Nat.beq cs.length 0,cs.all M0 with
 |false,true=>some (.ref H.length 0 0,H++[some (.arr (cs.all W9) 1000000 cs.length 1 λ_=>cs)],none)
 |_,_=>none

structure Sr where
 cl:Bool
 n:Nat
 row:Nat->List T
 side:Option Prop

def vM(row:Nat->List T):Nat->Nat->List T
 |0=>row
 |off=>λi=>row (off+i)

def wK(off n m:Nat):Option Prop:=some (Le (off+n) m)

def vW(H:Y3)(d:Option TypeDesc)(sz:Nat)(x:T):Option Sr:=
 match d,x with
 |some (.slice _),.sl sz' n row=>match Nat.beq sz sz' with
  |true=>some ⟨true,n,row,none⟩
  |false=>none
 |some (.slice _),.v (.slice none 0 0)=>some ⟨true,0,λ_=>[],none⟩
 |some (.slice _),.osl k off n=>match Z1 H k with
  |some (.arr cl _ sz' m row)=>match Nat.beq sz sz' with
   |true=>some ⟨cl,n,vM row off,wK off n m⟩
   |false=>none
  |_=>none
 |_,_=>none

def a73(H:Y3)(d:Option TypeDesc)(x:T):Option (List UInt8×Option Prop):=
 match d,x with
 |some .string,.str l=>some (l,none)
 |some (.slice _),.bys l=>some (l,none)
 |some (.slice _),.v (.slice none 0 0)=>some ([],none)
 |some (.slice _),.osl k off n=>match Z1 H k with
  |some (.bys _ l)=>some ((l.drop off).take n,some (Le (off+n) l.length))
  |_=>none
 |_,_=>none

def eB:Option Prop->Prop->Prop
 |none,q=>q
 |some p,q=>p/\q

def W6(row:Nat->List T)(n:Nat)(row':Nat->List T)(i:Nat):List T:=
 match Nat.blt i n with
 |true=>row i
 |false=>row' (i-n)

def V6(n m bytes:Nat):Prop:=(n+m)*bytes<=140737488355328/\n+m<=9223372036854775807

structure SrF where
 n:Nat
 row:Nat->List T
 ks:List Nat
 side:Option Prop

def b3s(H:Y3)(sz:Nat)(x:T):Option SrF:=
 match x with
 | .osl k off n=>match Z1 H k with
  |some (.arr true _ sz' m row)=>match Nat.beq sz sz' with
   |true=>some ⟨n,vM row off,[],wK off n m⟩
   |false=>none
  |some (.arr false _ sz' m row)=>match Nat.beq sz sz',off,n,m with
   |true,0,1,1=>match tU H (row 0) with
    |some A=>some ⟨1,λ_=>A.cs,A.ks,A.side⟩
    |none=>none
   |_,_,_,_=>none
  |_=>none
 |_=>none

def rR(P:Program)(H:Y3)(t tx:TypeId)(d x:T):Option (T×Y3×Option Prop):=
 match P.underlying t with
 |some (.slice e)=>match P.info? e,zeroCells P e with
  |some i,some z=>match Nat.beq z.length i.size,Nat.beq i.size 0,d with
   |true,false,.v (.slice none 0 0)=>match v3 P e with
    |true=>(a73 H (P.underlying tx) x).map λs=>(.osl H.length 0 s.1.length,H++[some (.bys e s.1)],some (eB s.2 (Lt 0 s.1.length/\V6 0 s.1.length i.bytes)))
    |false=>(vW H (P.underlying tx) i.size x).map λs=>(.osl H.length 0 s.n,H++[some (.arr s.cl e i.size s.n s.row)],some (eB s.side (Lt 0 s.n/\V6 0 s.n i.bytes)))
   |true,false,.emp=>match v3 P e with
    |true=>none
    |false=>(vW H (P.underlying tx) i.size x).map λs=>(.osl H.length 0 s.n,H++[some (.arr s.cl e i.size s.n s.row)],some (eB s.side (V6 0 s.n i.bytes)))
   |true,false,.osl k 0 n=>match Z1 H k with
    |some (.bys _ l)=>match v3 P e with
     |true=>(a73 H (P.underlying tx) x).map λs=>(.osl H.length 0 (n+s.1.length),H.set k none++[some (.bys e (l.take n++s.1))],some (eB s.2 (Le n l.length/\V6 n s.1.length i.bytes)))
     |false=>none
    |some (.arr cl _ sz N row)=>match Nat.beq sz i.size with
     |true=>(vW H (P.underlying tx) i.size x).map λs=>(.osl H.length 0 (n+s.n),H.set k none++[some (.arr (cl&&s.cl) e i.size (n+s.n) (W6 row n s.row))],some (eB s.side (Le n N/\V6 n s.n i.bytes)))
     |false=>none
    |some (.fam _ _ sz N row)=>match Nat.beq sz i.size,P.underlying tx,b3s H i.size x with
     |true,some (.slice _),some s=>match qY (k::s.ks) with
      |true=>some (.osl H.length 0 (n+s.n),J3 H (k::s.ks)++[some (.fam 0 e i.size (n+s.n) (W6 row n s.row))],some (eB s.side (Le n N/\V6 n s.n i.bytes)))
      |false=>none
     |_,_,_=>none
    |_=>none
   |_,_,_=>none
  |_,_=>none
 |_=>none

def a4E:T->Bool
 | .sl .. | .osl .. | .posl .. | .v (.slice none 0 0)=>true
 |_=>false

def isZ:T->Bool
 | .int _ i=>decide (i=0)
 |_=>false

def b9N:Option T->Bool
 |none=>true
 |some t=>isZ t

def rW(P:Program)(H:Y3)(t:TypeId)(x:T)(lo:Option T)(hi mx:T):Option (T×Y3×Option Prop):=
 match P.underlying t,a4E x&&b9N lo&&isZ hi&&isZ mx with
 |some (.slice e),true=>match P.info? e with
  |some i=>match Nat.beq i.size 0,B5 P e i.size with
   |false,true=>some (.osl H.length 0 0,H++[some (.arr true e i.size 0 λ_=>[])],none)
   |_,_=>none
  |none=>none
 |_,_=>none

def F9(row:Nat->List T)(off n:Nat)(z:List T)(j:Nat):List T:=
 match Nat.ble off j&&Nat.blt j (off+n) with
 |true=>z
 |false=>row j

def dR(P:Program)(H:Y3)(t:TypeId)(x:T):Option (T×Y3×Option Prop):=
 match P.underlying t,x with
 |some (.slice e),.osl k off n=>match P.info? e,zeroCells P e,Z1 H k with
  |some i,some z,some (.arr true ty sz N row)=>match Nat.beq z.length i.size&&Nat.beq sz i.size&& !Nat.beq i.size 0&&z.all closedOne with
   |true=>some (.und,H.set k (some (.arr true ty sz N (F9 row off n z))),some (Le (off+n) N))
   |false=>none
  |_,_,_=>none
 |_,_=>none

def D8(P:Program)(s:V9)(H:Y3)(op:Op):Option (T×Y3×Option Prop):=
 match op with
 | .box t x=>match rS (N7 s x) with
  |true=>jG P H t (V3 (N7 s x))
  |false=>none
 | .alloc t=>match zeroCells P t with
  |some z=>jG P H t z
  |none=>none
 | .store t a x=>(vK P H t (N7 s a) (N7 s x)).map λr=>(.und,r.1,r.2)
 | .makeSlice t l c=>gV P H t (N7 s l) (N7 s c)
 | .buildSlice t len parts=>k7 P s H t len parts
 | .convert src dst x=>match P.underlying src,P.underlying dst,N7 s x with
  |some .string,some (.slice e),.str l=>match v3 P e with
   |true=>some (.bys l,H,some (Lt l.length 140737488355329))
   |false=>none
  |_,_,_=>none
 | .call {callee:=.builtin .append,args,argTypes}=>match args.toList,argTypes.toList with
  | [d,x],[t,tx]=>rR P H t tx (N7 s d) (N7 s x)
  |_,_=>none
 | .makeMap t none=>(xY P H t).map λr=>(r.1,r.2,none)
 | .mapUpdate t m k x=>match cY P H t (N7 s m) (N7 s k) (N7 s x) with
  |some r=>some (.und,r,none)
  |none=>(rK P H t (N7 s m) (N7 s k) (N7 s x)).map λr=>(.und,r.1,r.2)
 | .slice t x lo (some hi) (some mx)=>rW P H t (N7 s x) (lo.map (N7 s)) (N7 s hi) (N7 s mx)
 | .call {callee:=.builtin .clear,args,argTypes}=>match args.toList,argTypes.toList with
  | [x],[t]=>dR P H t (N7 s x)
  |_,_=>none
 |_=>none

def P7{α β:Type}(f:α->Option β):List α->Option (List β)
 | []=>some []
 |a::r=>match f a,P7 f r with
  |some b,some q=>some (b::q)
  |_,_=>none

def rT:Option Prop->Option Prop->Option Prop
 |none,q=>q
 |p,none=>p
 |some p,some q=>some (p/\q)

def xP:List (T×Option Prop)->Option Prop
 | []=>none
 |x::r=>rT x.2 (xP r)

def b6R:T->T
 | .own _ sz n row=>.sl sz n row
 |t=>t

def fI(row:Nat->List T)(i:Nat):List T:=(row i).map b6R

def PoB(v v' i n a m:Nat):Prop:=v=v'/\i<n/\a<=m

def O9(b:Nat)(H:Y3):Nat->T->Option (T×Option Prop)
 |0,_=>none
 |d+1,t=>match t with
  | .ref k i j=>match Nat.blt k b with
   |true=>some (.ref k i j,none)
   |false=>match getA H k with
    |some A=>match i,A.n with
     |0,1=>match P7 (O9 b H d) ((A.row 0).drop j) with
      |some cs=>match cs.all λx=>W9 x.1 with
       |true=>some (.bref (cs.map (·.1)),xP cs)
       |false=>none
      |none=>none
     |_,_=>none
    |none=>none
  | .osl k off n=>match Nat.blt k b with
   |true=>some (.osl k off n,none)
   |false=>match Z1 H k with
    |some (.arr true _ sz m row)=>some (.sl sz n (vM row off),wK off n m)
    |some (.fam _ _ sz m row)=>some (.sl sz n (fI (vM row off)),wK off n m)
    |some (.bys _ l)=>some (.bys ((l.drop off).take n),some (Le (off+n) l.length))
    |_=>none
  | .agg cs=>(P7 (O9 b H d) cs).map λcs=>(.agg (cs.map (·.1)),xP cs)
  | .fn f cs=>(P7 (O9 b H d) cs).map λcs=>(.fn f (cs.map (·.1)),xP cs)
  | .tup cs=>(P7 (O9 b H d) cs).map λcs=>(.tup (cs.map (·.1)),xP cs)
  | .mpr _=>none
  | .posl k v i j n=>match Nat.blt k b with
   |true=>some (.posl k v i j n,none)
   |false=>match getOwn H k v i j with
    |some A=>some (.sl A.A.sz n A.A.row,some (PoB v A.v i A.n n A.A.n))
    |none=>none
  | .pref k v i j z a c=>match Nat.blt k b with
   |true=>some (.pref k v i j z a c,none)
   |false=>none
  | .own .. =>none
  |t=>some (t,none)

def closedD:Nat->T->Bool
 |0,_=>false
 |d+1,t=>match t with
  | .agg cs=>cs.all (closedD d)
  | .fn _ cs=>cs.all (closedD d)
  | .tup cs=>cs.all (closedD d)
  | .und=>false
  |t=>W9 t

def tE:Nat->T->Bool
 |0,_=>false
 |d+1,t=>match t with
  | .int .. | .bool _| .str _=>true
  | .agg cs=>cs.all (tE d)
  | .tup cs=>cs.all (tE d)
  |_=>false

structure Rl where
 (ι:Type)
 (args:ι->List T)
 (res:ι->T)
 (side:ι->Prop)

structure Rle where
 (ι:Type)
 (args:ι->List T)
 (pre:ι->Y3)
 (res:ι->T)
 (post:ι->Y3)
 (side:ι->Prop)

inductive Con where
 |pure (c:List T->Option (T×Option Prop))
 |eff (c:List T->Y3->Option (T×Y3×Option Prop))
 |rel (r:Rl)
 |mk (c:List T->Option (T×Y3×Option Prop))
 |reff (r:Rle)
 |rmk (r:Rle)
 |fz (c:List T->Option (T×Option Prop))
 |rfz (r:Rl)
 |tmp

abbrev I4:=List (FuncId×Con)

def gam:I4->FuncId->List T->Option (T×Option Prop)
 | [],_,_=>none
 |(g,c)::r,f,args=>match Nat.beq f g with
  |true=>match c with| .pure c=>c args|_=>none
  |false=>gam r f args

def pE:I4->FuncId->Option (List T->Y3->Option (T×Y3×Option Prop))
 | [],_=>none
 |(g,c)::r,f=>match Nat.beq f g with
  |true=>match c with| .eff c=>some c|_=>none
  |false=>pE r f

def gmk:I4->FuncId->Option (List T->Option (T×Y3×Option Prop))
 | [],_=>none
 |(g,c)::r,f=>match Nat.beq f g with
  |true=>match c with| .mk c=>some c|_=>none
  |false=>gmk r f

def gfz:I4->FuncId->Option (List T->Option (T×Option Prop))
 | [],_=>none
 |(g,c)::r,f=>match Nat.beq f g with
  |true=>match c with| .fz c=>some c|_=>none
  |false=>gfz r f

def Con.isRel:Con->Bool
 | .rel _| .reff _| .rmk _| .rfz _=>true
 |_=>false

def Con.isEff:Con->Bool
 | .eff _| .mk _| .reff _| .rmk _| .fz _| .rfz _=>true
 |_=>false

def Con.isMk:Con->Bool
 | .mk _| .rmk _=>true
 |_=>false

def d8:I4->FuncId->Option Con
 | [],_=>none
 |(g,c)::r,f=>match Nat.beq f g with
  |true=>some c
  |false=>d8 r f

def b3X(G:I4)(f:FuncId):Option Con:=
 match d8 G f with
 |some c=>match c.isRel with
  |true=>some c
  |false=>none
 |none=>none

def fS(P:Program)(s:V9)(t:TypeId)(len:Nat)(parts:Array (Nat×Operand)):Option (T×Option Prop):=
 match P.underlying t with
  |some (.slice e)=>match P.info? e,zeroCells P e with
   |some i,some z=>match Nat.beq z.length i.size,Nat.beq i.size 0,Nat.ble (len*i.size) 16777216 with
    |true,false,true=>match t6 (λk=>some (k*i.size,i.size)) ((List.replicate len z).flatten) (parts.toList.map λp=>(p.1,N7 s p.2)) with
     |some cs=>match v3 P e,cs.all M0,cs.all W9 with
      |false,true,true=>some (.sl i.size len (λk=>(cs.drop (k*i.size)).take i.size),none)
      |_,_,_=>none
     |none=>none
    |_,_,_=>none
   |_,_=>none
  |_=>none

def a5E(P:Program)(s:V9):Op->Option (T×Option Prop)
 | .buildSlice t 0 parts=>match P.underlying t,parts.toList with
  |some (.slice e),[]=>match P.info? e,zeroCells P e with
   |some i,some z=>match Nat.beq z.length i.size,Nat.beq i.size 0 with
    |true,false=>some (.emp,none)
    |_,_=>none
   |_,_=>none
  |_,_=>none
 | .call {callee:=.builtin .append,args,argTypes}=>match args.toList,argTypes.toList with
  | [d,x],[t,tx]=>match N7 s d,P.underlying t with
   | .emp,some (.slice e)=>match P.info? e,zeroCells P e with
    |some i,some z=>match Nat.beq z.length i.size,vW [] (P.underlying tx) i.size (N7 s x) with
     |true,some q=>match q.cl with
      |true=>some (.sl i.size q.n q.row,some (eB q.side (V6 0 q.n i.bytes)))
      |false=>none
     |_,_=>none
    |_,_=>none
   |_,_=>none
  |_,_=>none
 | .buildSlice t (n+1) parts=>fS P s t (n+1) parts
 |_=>none

def a3s:I4->Nat
 | []=>0
 |(_,.tmp)::r=>a3s r+1
 |_::r=>a3s r

def tI(G:I4):Op->Bool
 | .buildSlice _ (_+1) _=>Nat.ble 1 (a3s G)
 | .buildSlice _ 0 _=>Nat.ble 2 (a3s G)
 | .call {callee:=.builtin .append, .. }=>Nat.ble 3 (a3s G)
 |_=>false

def anyEff:I4->Bool
 | []=>false
 |(_,c)::r=>c.isEff||anyEff r

def isEff(G:I4):Operand->Bool
 | .func f=>match d8 G f with
  |some c=>c.isEff
  |none=>false
 |_=>anyEff G

def isMk(G:I4):Operand->Bool
 | .func f=>match d8 G f with
  |some c=>c.isMk
  |none=>false
 |_=>false

def T5(ρ:Nat->Option Nat):Nat->T->Option T
 |0,_=>none
 |d+1,t=>match t with
  | .ref k i j=>(ρ k).map λm=>.ref m i j
  | .osl k off n=>(ρ k).map λm=>.osl m off n
  | .mpr k=>(ρ k).map .mpr
  | .posl k v i j n=>(ρ k).map λm=>.posl m v i j n
  | .pref k v i j z a b=>(ρ k).map λm=>.pref m v i j z a b
  | .agg cs=>(P7 (T5 ρ d) cs).map .agg
  | .tup cs=>(P7 (T5 ρ d) cs).map .tup
  | .fn f cs=>(P7 (T5 ρ d) cs).map (.fn f)
  |t=>some t

def qA(ρ:Nat->Option Nat)(ob:Ob):Option Ob:=
 match ob with
 | .bys ty l=>some (.bys ty l)
 | .fam v ty sz n row=>some (.fam v ty sz n row)
 | .arr true ty sz n row=>some (.arr true ty sz n row)
 | .arr false ty sz n row=>match n with
  |1=>(P7 (T5 ρ 6) (row 0)).map λr=>.arr false ty sz 1 λ_=>r
  |_=>none
 | .mp bo get=>some (.mp bo get)
 | .mp2 get=>some (.mp2 get)

def memN(k:Nat):List Nat->Bool
 | []=>false
 |x::r=>Nat.beq k x||memN k r

def eX:List Nat->Bool
 | []=>true
 |x::r=> !memN x r&&eX r

def lX:List T->List Nat
 | []=>[]
 | .ref k _ _::r=>k::lX r
 | .osl k _ _::r=>k::lX r
 | .agg cs::r=>idsA cs++lX r
 | .fn _ cs::r=>idsA cs++lX r
 |_::r=>lX r
where
 idsA:List T->List Nat
 | []=>[]
 | .ref k _ _::r=>k::idsA r
 | .osl k _ _::r=>k::idsA r
 |_::r=>idsA r

def b9X:Option Ob->List Nat
 |some (.arr false _ _ 1 row)=>lX (row 0)
 |_=>[]

def nN(H:Y3):Nat->List Nat->List Nat->List Nat
 |0,_,S1=>S1
 |_+1,[],S1=>S1
 |d+1,k::r,S1=>match memN k S1 with
  |true=>nN H d r S1
  |false=>nN H d (b9X (Z1 H k)++r) (S1++[k])

def u6(k:Nat):List Nat->Nat->Option Nat
 | [],_=>none
 |x::r,i=>match Nat.beq k x with
  |true=>some i
  |false=>u6 k r (i+1)

def oF:List Nat->Nat->Option Nat
 | [],_=>none
 |k::_,0=>some k
 |_::r,i+1=>oF r i

def a1S(ks:List Nat)(len i:Nat):Option Nat:=
 match oF ks i with
 |some k=>some k
 |none=>some (len+(i-ks.length))

def D9:Y3->List Nat->List (Option Ob)->Y3
 |H,k::ks,o::os=>D9 (H.set k o) ks os
 |H,_,_=>H

def obB(ρ:Nat->Option Nat):Option Ob->Option (Option Ob)
 |none=>some none
 |some ob=>(qA ρ ob).map some

def sN(c:List T->Y3->Option (T×Y3×Option Prop))(H:Y3)(ks:List Nat)(args:List T):Option (T×Y3×Option Prop):=
 match eX ks,P7 (T5 (λk=>u6 k ks 0) 6) args,P7 (λk=>(Z1 H k).bind (qA λk=>u6 k ks 0)) ks with
 |true,some as,some obs=>match c as (obs.map some) with
  |some (r,H',p)=>match Nat.ble ks.length H'.length,T5 (a1S ks H.length) 6 r,P7 (obB (a1S ks H.length)) H' with
   |true,some r',some os=>some (r',D9 H ks os++os.drop ks.length,p)
   |_,_,_=>none
  |none=>none
 |_,_,_=>none

def nL:Nat->Option Nat
 |0=>none
 |k+1=>some (k+1)

def b9f:Nat->Nat->List Nat
 |_,0=>[]
 |i,n+1=>i::b9f (i+1) n

def okA(t:T):Bool:=
 match t with
 | .ref 0 0 _=>true
 |t=>match T5 nL 6 t with
  |some _=>true
  |none=>false

def b6a:Y3->Nat
 |some (.arr _ _ sz _ _)::_=>sz
 |_=>0

def b4e(c:List T->Y3->Option (T×Y3×Option Prop))(sz n:Nat)(H:Y3)(as:List T):Option (T×Y3×Option Prop):=
 match H with
 |some (.arr false ty szW m row)::rest=>match m,P7 (obB nL) rest,P7 (T5 nL 6) (row 0),as.all okA&&Nat.ble sz szW with
  |1,some rest0,some cs,true=>match sN c (some (.arr false ty sz 1 λ_=>cs.take sz)::rest0) (b9f 0 n) as with
   |some (r,some (.arr _ ty' sz' m' row')::rest',p)=>match m',Nat.beq sz' sz,T5 nL 6 r,P7 (obB nL) rest',P7 (T5 nL 6) (row' 0) with
    |1,true,some r',some rest2,some cs'=>some (r',some (.arr false ty' szW 1 λ_=>cs'++cs.drop sz)::rest2,p)
    |_,_,_,_,_=>none
   |_=>none
  |_,_,_,_=>none
 |_=>none

def M1(ks:List Nat):Y3->Nat->Y3
 | [],_=>[]
 |o::r,i=>(match memN i ks with|true=>o|false=>none)::M1 ks r (i+1)

def b3j(c:List T->Option (T×Option Prop))(H:Y3)(ks:List Nat)(args:List T):Option (T×Y3×Option Prop):=
 match P7 (O9 0 (M1 ks H 0) 6) args with
 |some bs=>match c (bs.map (·.1)) with
  |some (r,p)=>some (r,J3 H ks,rT (xP bs) p)
  |none=>none
 |none=>none

def fT(c:List T->Option (T×Y3×Option Prop))(H:Y3)(args:List T):Option (T×Y3×Option Prop):=
 match P7 (O9 0 H 6) args with
 |some bs=>match c (bs.map (·.1)) with
  |some (r,H',p)=>match T5 (λk=>some (H.length+k)) 6 r,P7 (obB λk=>some (H.length+k)) H' with
   |some r',some os=>some (r',H++os,rT (xP bs) p)
   |_,_=>none
  |none=>none
 |none=>none

def wR(t:T):Bool:=
 match t with
 | .int .. | .bool _| .str _| .v _=>true
 |_=>false

def b84(v v' i n a m m':Nat)(row:Nat->List T):Prop:=v=v'/\i<n/\a<=m/\m'=m/\∀r,r<m'->∀t ∈ row r,wR t=true

def b3b(c:List T->Y3->Option (T×Y3×Option Prop))(H:Y3)(args:List T):Option (T×Y3×Option Prop):=
 match args with
 | .posl k v i j n::rest=>match rest.all (closedD 6),Z1 H k,getOwn H k v i j with
  |true,some (.fam v' ty sz N row),some A=>match c (.osl 0 0 n::rest) [some (.arr true A.A.ty A.A.sz A.A.n A.A.row)] with
   |some (r,[some (.arr true _ sz' n' row')],p)=>match tE 6 r,Nat.beq sz' A.A.sz with
    |true,true=>some (r,H.set k (some (.fam v' ty sz N (setRow row i j [.own A.A.ty sz' n' row']))),rT p (some (b84 v v' i N n A.A.n n' row')))
    |_,_=>none
   |_=>none
  |_,_,_=>none
 |_=>none

def tZ(G:I4)(H:Y3)(f:FuncId)(args:List T):Option (T×Y3×Option Prop):=
 match pE G f with
 |some c=>match args with
  | .posl .. ::_=>b3b c H args
  |_=>sN c H (nN H 64 (lX args) []) args
 |none=>match gmk G f with
  |some c=>fT c H args
  |none=>match gfz G f with
   |some c=>b3j c H (nN H 64 (lX args) []) args
   |none=>none

def dK(s:V9):Operand->Option (FuncId×List T)
 | .func f=>some (f,[])
 |x=>match N7 s x with
  | .fn (.func f) cs=>some (f,cs)
  | .v (.func (.func f) first caps)=>match first.toList,caps.toList with
   | [],[]=>some (f,[])
   |_,_=>none
  |_=>none

def m9(G:I4)(H:Y3)(f:FuncId)(args:List T):Option (T×Option Prop):=
 match args.all (closedD 6) with
 |true=>gam G f args
 |false=>match P7 (O9 0 H 6) args with
  |some bs=>match gam G f (bs.map (·.1)) with
   |some (r,p)=>match tE 6 r with
    |true=>some (r,rT (xP bs) p)
    |false=>none
   |none=>none
  |none=>none

def M6(P:Program)(G:I4)(s:V9)(H:Y3)(op:Op):Option (T×Y3×Option Prop):=
 match O6 P s H op with
 |some (t,p)=>some (t,H,p)
 |none=>match D8 P s H op with
  |some r=>some r
  |none=>match op with
   | .call {callee:=.value x,args, .. }=>match isEff G x with
    |true=>match x with
     | .func f=>tZ G H f (args.toList.map (N7 s))
     |x=>match dK s x with
      |some (f,cs)=>match isEff G (.func f) with
       |true=>tZ G H f (args.toList.map (N7 s)++cs)
       |false=>(m9 G H f (args.toList.map (N7 s)++cs)).map λr=>(r.1,H,r.2)
      |none=>none
    |false=>match dK s x with
     |some (f,cs)=>(m9 G H f (args.toList.map (N7 s)++cs)).map λr=>(r.1,H,r.2)
     |none=>none
   |_=>none

def z6(P:Program)(G:I4)(s:V9)(H:Y3)(op:Op):Option (T×Y3×Option Prop):=
 match tI G op with
 |true=>match a5E P s op with
  |some (t,p)=>some (t,H,p)
  |none=>none
 |false=>M6 P G s H op

structure Sy where
 s:V9
 H:Y3

abbrev J2:=List (Nat×Bool)
abbrev E7:=List (Nat×J2)

def T6:E7->Nat->J2
 | [],_=>[]
 |(j,p)::r,t=>match Nat.beq t j with|true=>p|false=>T6 r t

def tM:J2->J2->Bool
 | [],[]=>true
 |(a,b)::p,(c,d)::q=>Nat.beq a c&&(b==d)&&tM p q
 |_,_=>false

def sufB(p:J2):J2->Bool
 | []=>tM p []
 |x::q=>tM p (x::q)||sufB p q

def G4(s:V9):J2->Prop->Prop
 | [],p=>p
 |(t,b)::r,p=>match q8 s t with
  | .bool x=>G4 s r (x=b->p)
  |_=>False

def vO(s:V9):J2->Bool
 | []=>true
 |(t,_)::r=>match q8 s t with
  | .bool _=>vO s r
  |_=>false

def Z6(n:Nat)(row row':Nat->List T):Prop:=∀i,i<n->row i=row' i

def k8:Nat->T->T->Prop
 |0,_,_=>False
 |d+1,t,t'=>
  match t,t' with
  |_,.und=>True
  | .int k a,.int k' b=>match decide (k=k') with|true=>a=b|false=>False
  | .bool a,.bool b=>a=b
  | .str a,.str b=>a=b
  | .bys a,.bys b=>a=b
  | .v (.slice none 0 0),.sl _ n _=>n=0
  | .v (.slice none 0 0),.bys l=>l=[]
  | .emp,.sl _ n _=>n=0
  | .emp,.bys l=>l=[]
  | .emp,.emp=>True
  | .v x,.v y=>x=y
  | .sl sz n row,.sl sz' m row'=>match Nat.beq sz sz' with|true=>n=m/\Z6 n row row'|false=>False
  | .ref k i j,.ref k' i' j'=>match Nat.beq k k' with|true=>i=i'/\j=j'|false=>False
  | .osl k off n,.osl k' off' n'=>match Nat.beq k k' with|true=>off=off'/\n=n'|false=>False
  | .mpr k,.mpr k'=>match Nat.beq k k' with|true=>True|false=>False
  | .agg as,.agg bs=>matsV (k8 d) as bs
  | .tup as,.tup bs=>matsV (k8 d) as bs
  | .fn f as,.fn g bs=>f=g/\matsV (k8 d) as bs
  | .bref as,.bref bs=>match bs.all W9 with|true=>matsP (k8 d) as bs|false=>False
  |_,_=>False
where
 matsP (f:T->T->Prop):List T->List T->Prop
 |_,[]=>True
 |a::r,b::q=>f a b/\matsP f r q
 |_,_=>False
 matsV (f:T->T->Prop):List T->List T->Prop
 | [],[]=>True
 |a::r,b::q=>f a b/\matsV f r q
 |_,_=>False

def kY(as bs:List T):Prop:=k8.matsV (k8 6) as bs

def b0e:T->T->Prop
 | .own _ sz n row,.own _ sz' n' row'=>sz=sz'/\n=n'/\Z6 n row row'
 |t,t'=>t=t'

def b1v:List T->List T->Prop
 | [],[]=>True
 |a::r,b::q=>b0e a b/\b1v r q
 |_,_=>False

def U9(n:Nat)(row row':Nat->List T):Prop:=∀i,i<n->b1v (row i) (row' i)

def aS(o o':Option Ob):Prop:=
 match o,o' with
 |some (.arr cl _ sz n row),some (.arr cl' _ sz' n' row')=>match Nat.beq sz sz',cl,cl' with
  |true,true,true=>n=n'/\Z6 n row row'
  |true,_,false=>match(row' 0).all M0 with
   |true=>n=1/\n'=1/\k8.matsV (k8 6) (row 0) (row' 0)
   |false=>False
  |_,_,_=>False
 |some (.fam v _ sz n row),some (.fam v' _ sz' n' row')=>match Nat.beq sz sz' with
  |true=>v=v'/\n=n'/\U9 n row row'
  |false=>False
 |some (.bys _ l),some (.bys _ l')=>l=l'
 |_,_=>False

def a17:Y3->Y3->Prop
 | [],[]=>True
 |o::r,o'::r'=>aS o o'/\a17 r r'
 |_,_=>False

def b3A(r:Rle)(x:r.ι)(as:List T)(H:Y3):Option (T×Y3×Option Prop):=
 match Nat.ble 9 (b6a (r.pre x))&& !Nat.beq (b6a H) (b6a (r.pre x)) with
 |false=>some (r.res x,r.post x,some (kY as (r.args x)/\a17 H (r.pre x)/\r.side x))
 |true=>b4e (λas H=>some (r.res x,r.post x,some (kY as (r.args x)/\a17 H (r.pre x)/\r.side x))) (b6a (r.pre x)) (r.pre x).length H as

def b6I(G:I4)(s:V9):Op->Option (FuncId×Con)
 | .call {callee:=.value x, .. }=>match dK s x with
  |some (f,_)=>(b3X G f).map λr=>(f,r)
  |none=>none
 |_=>none

def b9V(f:FuncId)(r:Rl)(x:r.ι)(G:I4):I4:=(f,.pure λas=>some (r.res x,some (kY as (r.args x)/\r.side x)))::G
def b9C(f:FuncId)(r:Rle)(x:r.ι)(G:I4):I4:=(f,.eff λas H=>b3A r x as H)::G
def b85(f:FuncId)(r:Rle)(x:r.ι)(G:I4):I4:=(f,.mk λas=>some (r.res x,r.post x,some (kY as (r.args x)/\r.side x)))::G

def b9g(f:FuncId)(r:Rl)(x:r.ι)(G:I4):I4:=(f,.fz λas=>some (r.res x,some (kY as (r.args x)/\r.side x)))::G

def nS(G:I4)(s:V9)(op:Op)(k:I4->Prop):Prop:=
 match b6I G s op with
 |none=>k G
 |some (f,c)=>match c with
  | .rel r=>∃x:r.ι,k (b9V f r x G)
  | .reff r=>∃x:r.ι,k (b9C f r x G)
  | .rmk r=>∃x:r.ι,k (b85 f r x G)
  | .rfz r=>∃x:r.ι,k (b9g f r x G)
  |_=>k G

def oD(s:V9)(pth:J2):Option Prop->Prop->Prop
 |none,q=>q
 |some p,q=>G4 s pth p/\q

def mS(ps:E7)(pth:J2):Operand->Bool
 | .tmp t=>sufB (T6 ps t) pth
 |_=>true

def H6(ps:E7)(pth:J2)(op:Op):Bool:=
 match op with
 | .pick (.tmp t) a b=>sufB (T6 ps t) pth&&mS ps ((t,true)::pth) a&&mS ps ((t,false)::pth) b
 | .pick _ _ _=>false
 |op=>op.operands.toList.all (mS ps pth)

def lQ(ps:E7)(d:Nat):Bool:=ps.all λx=> !Nat.beq x.1 d&&x.2.all λy=> !Nat.beq y.1 d

def mX(ps:E7):Option Tmp->Bool
 |none=>true
 |some d=>lQ ps d

def xT(s:V9)(d:Option Tmp)(t:T):V9:=match d with|some d=>(d,t)::s|none=>s
def kG(ps:E7)(d:Option Tmp)(p:J2):E7:=match d with|some d=>(d,p)::ps|none=>ps

def P1(s:V9):E7->V9
 | []=>s
 |(d,_)::r=>(d,.und)::P1 s r

def z5(G:I4)(op:Op):Bool:=
 match op with
 | .box .. | .alloc .. | .store .. | .makeSlice .. | .buildSlice .. | .makeMap .. | .mapUpdate .. | .slice _ _ _ _ (some _)=>false
 | .call {callee:=.builtin .append, .. }=>false
 | .call {callee:=.builtin .clear, .. }=>false
 | .call {callee:=.value x, .. }=> !isEff G x
 |_=>true

def stays(G:I4)(op:Op):Bool:=
 match tI G op with
 |true=>true
 |false=>z5 G op

def a0n(nt:Nat):Option Tmp->Bool
 |none=>true
 |some d=>Nat.blt d nt

def rG(ps:E7)(g:Nat):Option Tmp->Bool
 |none=>false
 |some d=> !Nat.beq d g&&(T6 ps g).all λy=> !Nat.beq y.1 d

def a3W(P:Program)(s:V9):Op->Option (Nat×Bool)
 | .binOp op t x y _=>match P.underlying t,N7 s x,N7 s y,op with
  |some (.slice _),.sl _ n _,.v (.slice none 0 0),.eql=>some (n,false)
  |some (.slice _),.sl _ n _,.v (.slice none 0 0),.neq=>some (n,true)
  |some (.slice _),.osl _ _ n,.v (.slice none 0 0),.eql=>some (n,false)
  |some (.slice _),.osl _ _ n,.v (.slice none 0 0),.neq=>some (n,true)
  |_,_,_,_=>none
 |_=>none

def b8g(b:Bool)(n:Nat):Prop:=b=true->n=0

def xR(P:Program)(G:I4)(nt:Nat)(all:Array Oper):List Oper->V9->E7->Y3->(V9->Y3->Prop)->Prop
 | [],s,ps,H,K=>K (P1 s ps) H
 |o::rest,s,ps,H,K=>
  match o.guard with
  |none=>match H6 ps [] o.op&&mX ps o.dst&&a0n nt o.dst with
   |false=>False
   |true=>match a3W P s o.op with
    |some (n,neg)=>∀b:Bool,b8g b n->xR P G nt all rest (xT s o.dst (.bool (cond neg (!b) b))) ps H K
    |none=>nS G s o.op λG'=>match z6 P G' s H o.op with
     |some (t,H',side)=>oD s [] side (xR P G nt all rest (xT s o.dst t) ps H' K)
     |none=>False
  |some (j,want)=>match(all[j]?).bind (·.dst) with
   |some g=>match q8 s g with
    | .bool _=>match H6 ps ((g,want)::T6 ps g) o.op&&mX ps o.dst&&a0n nt o.dst&&rG ps g o.dst with
     |false=>False
     |true=>match stays G o.op with
      |true=>nS G s o.op λG'=>match z6 P G' s H o.op with
       |some (t,_,side)=>oD s ((g,want)::T6 ps g) side (xR P G nt all rest (xT s o.dst t) (kG ps o.dst ((g,want)::T6 ps g)) H K)
       |none=>False
      |false=>match vO s ((g,want)::T6 ps g) with
       |false=>False
       |true=>nS G s o.op λG'=>match z6 P G' s H o.op with
        |some (t,H',side)=>oD s ((g,want)::T6 ps g) side (G4 s ((g,want)::T6 ps g) (xR P G nt all rest (xT s o.dst t) (kG ps o.dst ((g,want)::T6 ps g)) H' K)/\
          (G4 s ((g,want)::T6 ps g) False->xR P G nt all rest (xT s o.dst t) (kG ps o.dst ((g,want)::T6 ps g)) H K))
        |none=>False
    |_=>False
   |none=>False

def maskOf(tab:List Nat):List Edge->Nat
 | []=>0
 |e::r=>match Region.binds .any e with
  |true=>Nat.lor (Nat.lor (Nat.shiftLeft 1 e.on) (tab.getD e.on 0)) (maskOf tab r)
  |false=>maskOf tab r

def vU:List Operand->List Nat
 | []=>[]
 | .tmp t::r=>t::vU r
 |_::r=>vU r

def tN(all:Array Oper)(o:Oper):List Nat:=
 match o.guard with
 |none=>vU o.op.operands.toList
 |some (j,_)=>match(all[j]?).bind (·.dst) with
  |some g=>g::vU o.op.operands.toList
  |none=>vU o.op.operands.toList

def m8(G:I4)(op:Op):Bool:=
 match op with
 | .box .. | .alloc .. | .makeSlice .. | .buildSlice .. | .makeMap .. | .slice _ _ _ (some _) (some _)=>true
 | .call {callee:=.value x, .. }=>isMk G x
 |_=>false

def a4L(op:Op):Bool:=
 match op with
 | .call {callee:=.value _, .. }=>true
 |_=>false

def floatB(G:I4)(op:Op):Bool:=a4L op&&m8 G op

def qH(o:Oper):Option TypeId:=
 match o.op,o.guard with
 | .alloc t,none=>some t
 |_,_=>none

def xQ(o:Oper):Bool:=
 match qH o with
 |some _=>true
 |none=>false

def zN:List Oper->Nat
 | []=>0
 |o::r=>match xQ o with
  |true=>zN r+1
  |false=>zN r

def kR(b:Nat)(all:Array Oper)(i:Nat):Nat:=b+zN (all.toList.take i)

def b17(P:Program)(H:Y3)(t:TypeId)(r:Nat):Option (T×Y3):=
 match zeroCells P t with
 |some z=>match Nat.beq z.length 0,z.all M0,Z1 H r,Nat.blt r H.length with
  |false,true,none,true=>some (.ref r 0 0,H.set r (some (.arr (z.all W9) 1000000 z.length 1 λ_=>z)))
  |_,_,_,_=>none
 |none=>none

def gG(H:Y3):Nat->Y3
 |0=>H
 |n+1=>H++List.replicate (n+1) none++[some (.arr true 0 1 0 λ_=>[])]

def a5N(u:Option Tmp)(l:List Nat):Bool:=
 match u with
 |some u=>l.any λv=>Nat.beq u v
 |none=>false

def cZ(a b:Option Tmp):Bool:=
 match a,b with
 |some a,some b=>Nat.beq a b
 |_,_=>false

def pureB(op:Op):Bool:=
 match op with
 | .move _| .assign _| .pick .. | .nilCheck _| .binOp .. | .unOp .. | .fieldAddr .. | .field .. | .extract .. | .build .. | .makeFunc .. | .index .. =>true
 |_=>false

def iB(s:V9)(op:Op):Option (List Nat):=
 match op with
 | .load _ a=>match N7 s a with
  | .ref k _ _=>some [k]
  | .bref _=>some []
  |_=>none
 | .indexAddr _ x _=>match N7 s x with
  | .sl .. | .bys _=>some []
  | .osl k _ _=>some [k]
  |_=>none
 | .convert _ _ x=>match N7 s x with
  | .str _| .bys _| .int .. =>some []
  |_=>none
 | .slice _ x _ _ none=>match N7 s x with
  | .str _| .bys _| .sl .. =>some []
  | .osl k _ _=>some [k]
  |_=>none
 | .buildSlice .. =>some []
 | .call {callee:=.builtin .len, .. }=>some []
 | .call {callee:=.value x,args, .. }=>match dK s x with
  |some (_,cs)=>match(args.toList.map (N7 s)++cs).all (closedD 6) with
   |true=>some []
   |false=>none
  |none=>none
 |_=>none

def qF(H:Y3)(s:V9)(op:Op):Option (List Nat):=
 match op with
 | .call {callee:=.builtin .append,args, .. }=>match args.toList with
  |d::_=>match N7 s d with
   | .osl k _ _=>match Z1 H k with
    |some (.fam ..)=>none
    |_=>some [k]
   | .v _=>some []
   | .emp=>some []
   |_=>none
  | []=>none
 | .store _ a x=>match N7 s a with
  | .ref k _ _=>match Z1 H k with
   |some (.fam ..)=>match(V3 (N7 s x)).all closedOne with
    |true=>some [k]
    |false=>none
   |_=>some [k]
  | .pref k _ _ _ _ _ _=>some [k]
  |_=>none
 | .call {callee:=.value x,args, .. }=>match dK s x with
  |some (_,cs)=>match args.toList.map (N7 s)++cs with
   | .posl .. ::_=>none
   |as=>some (nN H 64 (lX as) [])
  |none=>none
 |_=>none

abbrev RW:=Option (List Nat)×Option (List Nat)
def sR(H:Y3)(s:V9)(op:Op):RW:=(iB s op,qF H s op)

def disjB(r w:Option (List Nat)):Bool:=
 match r,w with
 |some r,some w=>r.all λk=>w.all λj=> !Nat.beq k j
 |_,_=>false

def B7(G:I4)(all:Array Oper)(m i:Nat)(x:Oper)(fx:RW)(o:Oper)(fo:RW):Bool:=
 !cZ x.dst o.dst&&(Nat.testBit m i||(!a5N x.dst (tN all o)&& !a5N o.dst (tN all x)&&(match stays G x.op,stays G o.op with
  |true,true=>true
  |true,false=>m8 G o.op||pureB x.op||disjB fx.1 fo.2
  |false,true=>m8 G x.op||pureB o.op||disjB fo.1 fx.2
  |false,false=>xQ o&&(xQ x||floatB G x.op))))

def dL(i:Nat)(o:Oper):Bool:=o.after.toList.all λe=> !Region.binds .any e||Nat.blt e.on i

def D6(H0:Y3):List (Nat×Y3)->Y3
 | []=>H0
 |(_,H)::_=>H

def C9(all:Array Oper)(k:Nat):Bool:=
 match all[k]? with
 |some o=>xQ o
 |none=>false

def hAt(all:Array Oper)(H0:Y3)(m:Nat):List (Nat×Y3)->Y3
 | []=>H0
 |(k,H)::r=>match Nat.testBit m k&& !C9 all k with
  |true=>H
  |false=>hAt all H0 m r

def xX(P:Program)(G:I4)(nt:Nat)(all:Array Oper)(b:Nat)(H0:Y3):List Oper->Nat->List (Nat×Oper×RW)->List Nat->V9->E7->List (Nat×Y3)->(V9->Y3->Prop)->Prop
 | [],_,_,_,s,ps,hist,K=>K (P1 s ps) (D6 H0 hist)
 |o::rest,i,earlier,tab,s,ps,hist,K=>
  match dL i o&&earlier.all (λx=>B7 G all (maskOf tab o.after.toList) x.1 x.2.1 x.2.2 o (sR (D6 H0 hist) s o.op)) with
  |false=>False
  |true=>match o.guard with
   |none=>match H6 ps [] o.op&&mX ps o.dst&&a0n nt o.dst with
    |false=>False
    |true=>match qH o with
     |some t=>match b17 P (D6 H0 hist) t (kR b all i) with
      |some (y,H')=>xX P G nt all b H0 rest (i+1) ((i,o,sR (D6 H0 hist) s o.op)::earlier) (tab++[maskOf tab o.after.toList]) (xT s o.dst y) ps ((i,H')::hist) K
      |none=>False
     |none=>match stays G o.op with
      |true=>nS G s o.op λG'=>match z6 P G' s (hAt all H0 (maskOf tab o.after.toList) hist) o.op with
       |some (t,_,side)=>oD s [] side (xX P G nt all b H0 rest (i+1) ((i,o,sR (D6 H0 hist) s o.op)::earlier) (tab++[maskOf tab o.after.toList]) (xT s o.dst t) ps hist K)
       |none=>False
      |false=>nS G s o.op λG'=>match z6 P G' s (D6 H0 hist) o.op with
       |some (t,H',side)=>oD s [] side (xX P G nt all b H0 rest (i+1) ((i,o,sR (D6 H0 hist) s o.op)::earlier) (tab++[maskOf tab o.after.toList]) (xT s o.dst t) ps ((i,H')::hist) K)
       |none=>False
   |some (j,want)=>match(all[j]?).bind (·.dst) with
    |some g=>match q8 s g with
     | .bool _=>match Nat.blt j i&&H6 ps ((g,want)::T6 ps g) o.op&&mX ps o.dst&&a0n nt o.dst&&stays G o.op&&rG ps g o.dst with
      |false=>False
      |true=>nS G s o.op λG'=>match z6 P G' s (hAt all H0 (maskOf tab o.after.toList) hist) o.op with
       |some (t,_,side)=>oD s ((g,want)::T6 ps g) side (xX P G nt all b H0 rest (i+1) ((i,o,sR (D6 H0 hist) s o.op)::earlier) (tab++[maskOf tab o.after.toList]) (xT s o.dst t) (kG ps o.dst ((g,want)::T6 ps g)) hist K)
       |none=>False
     |_=>False
    |none=>False

def b1K(body:(Exit->Sy->Prop)->Sy->Prop)(sub:Sy->Sy->Prop)(Q:Exit->Sy->Prop)(σ:Sy):Prop:=
 ∃(ι:Type) (I:ι->Sy) (μ:ι->Nat),(∃x,sub σ (I x))/\∀x,body (λe σ'=>match e with| .normal=>∃y,sub σ' (I y)/\μ y<μ x|e=>Q e σ') (I x)

def vc(P:Program)(G:I4)(nt:Nat)(sub:Sy->Sy->Prop):Code->(Exit->Sy->Prop)->Sy->Prop
 | .skip,Q,σ=>Q .normal σ
 | .region _ ops draw,Q,σ=>match draw with
  |false=>xR P G nt ops ops.toList σ.s [] σ.H λs H=>Q .normal ⟨s,H⟩
  |true=>xX P G nt ops σ.H.length (gG σ.H (zN ops.toList)) ops.toList 0 [] [] σ.s [] [] λs H=>Q .normal ⟨s,H⟩
 | .seq a b,Q,σ=>vc P G nt sub a (λe σ'=>match e with| .normal=>vc P G nt sub b Q σ'|e=>Q e σ') σ
 | .cond c x y,Q,σ=>match N7 σ.s c with
  | .bool b=>(b=true->vc P G nt sub x Q σ)/\(b=false->vc P G nt sub y Q σ)
  |_=>False
 | .block id body,Q,σ=>vc P G nt sub body (λe σ'=>match e with| .exit i=>(match Nat.beq i id with|true=>Q .normal σ'|false=>Q (.exit i) σ')|e=>Q e σ') σ
 | .loop body,Q,σ=>b1K (vc P G nt sub body) sub Q σ
 | .exit id,Q,σ=>Q (.exit id) σ
 | .ret,Q,σ=>Q .ret σ
 |_,_,_=>False

def gE(P:Program)(s:V9)(H:Y3):ResultVar->Option (T×Option Prop)
 | .tmp t=>some (q8 s t,none)
 | .cell a t=>g8 P H t (q8 s a)

def b19(P:Program)(s:V9)(H:Y3)(rs:List ResultVar):Option (T×Option Prop):=
 match P7 (gE P s H) rs with
 |some [x]=>some x
 |some xs=>some (.tup (xs.map (·.1)),xP xs)
 |none=>none

def kS:Option Prop->Prop->Prop
 |none,q=>q
 |some p,q=>p/\q

def b0y(P:Program)(rs:List ResultVar)(post:T->Prop):Exit->Sy->Prop
 | .normal,σ| .ret,σ=>match b19 P σ.s σ.H rs with
  |some (r,p)=>match O9 0 σ.H 6 r with
   |some (r',p')=>kS p (kS p' (post r'))
   |none=>False
  |none=>False
 |_,_=>False

def tY:Nat->List T->V9
 |_,[]=>[]
 |i,t::r=>(i,t)::tY (i+1) r

end Go.SS
