/- A calculus of symbolic states over the model: definitions. What slots and cells hold is said as trees of data; a piece of code becomes a plain proposition. -/
import Derived.WalkKit
import Derived.WalkSpells
import Derived.WalkLawsBesides
import Derived.Lib.Strings
import Derived.Laws.BytesArg
import Derived.Deep.AppendSrc
namespace Go.SS
open Go.RowKit
abbrev X6:=@Option.some.injEq
abbrev V1:=@Prod.mk.injEq
abbrev V5:=@Nat.le_refl
abbrev O1:=@List.getElem?_eq_getElem
abbrev L8:=@Option.map_eq_some_iff
abbrev K1:=@Nat.eq_of_beq_eq_true
abbrev T0:=@Nat.zero_le
abbrev C0:=@List.getD_eq_getElem?_getD
abbrev C8:=@List.getElem?_eq_some_iff
abbrev L7:=@Result.andThen_ok
abbrev E8:=@List.mem_of_getElem?
abbrev K5:=@Bool.and_eq_true
abbrev J2:=@Nat.not_lt_zero
abbrev D8:=@of_decide_eq_true
abbrev L1:=@Sem.run_bind
abbrev I1:=@Sem.run_pure
abbrev v4:=@Int.toNat_natCast
abbrev s7:=@List.length_append
abbrev t9:=@decide_eq_true_eq
abbrev vC:=@Array.getElem?_eq_getElem
abbrev t5:=@List.all_eq_true
abbrev u5:=@Option.map_some
abbrev yQ:=@of_decide_eq_false
abbrev vS:=@Nat.le_of_ble_eq_true
abbrev tV:=@decide_eq_false_iff_not
abbrev vG:=@Bool.or_eq_false_iff
abbrev xF:=@Nat.lt_of_lt_of_le
abbrev kE:=@List.getElem?_append_left
abbrev zJ:=@List.mem_cons
abbrev tE:=@Bool.not_eq_false'
abbrev eE:=@Array.getElem?_eq_some_iff
abbrev eT:=@List.getElem?_append_right
abbrev sB:=@Bool.not_eq_true'
abbrev sJ:=@List.getElem?_map
abbrev uY:=@decide_eq_false
abbrev yO:=@Nat.zero_add
abbrev jK:=@Nat.mul_le_mul_right
abbrev nQ:=@List.take_length
abbrev oU:=@Bool.or_eq_true
abbrev jB:=@decide_eq_true
abbrev j_l:=@List.length_set
abbrev j_k:=@Nat.sub_self
abbrev j_j:=@List.not_mem_nil
abbrev j_i:=@List.length_range
abbrev j_h:=@List.getElem?_set_ne

inductive T where
 |int (k:IntKind) (n:Int)
 |bool (b:Bool)
 |str (l:List UInt8)
 |v (x:Value)
 |bys (l:List UInt8)
 |sl (sz n:Nat) (row:Nat->List T)
 |bref (cells:List T)
 |ref (k i j:Nat)
 |osl (k off n:Nat)
 |agg (cs:List T)
 |tup (cs:List T)
 |fn (f:Fn) (caps:List T)
 |mpr (k:Nat)
 |own (ty:TypeId) (sz n:Nat) (row:Nat->List T)
 |posl (k v i j n:Nat)
 |pref (k v i j z a b:Nat)
 |emp
 |und
 deriving Inhabited

structure Arr where
 cl:Bool
 ty:TypeId
 sz:Nat
 n:Nat
 row:Nat->List T

inductive Ob where
 |arr (cl:Bool) (ty:TypeId) (sz n:Nat) (row:Nat->List T)
 |fam (v:Nat) (ty:TypeId) (sz n:Nat) (row:Nat->List T)
 |bys (ty:TypeId) (l:List UInt8)
 |mp (bo:Bool) (get:Int->Int)
 |mp2 (get:Int->Int->Bool)

def M3(l:List UInt8)(i:Nat):List T:=[.int .u8 ((l.getD i 0).toNat:Int)]

def Ob.toArr:Ob->Arr
 | .arr cl ty sz n row=>⟨cl,ty,sz,n,row⟩
 | .fam _ ty sz n row=>⟨false,ty,sz,n,row⟩
 | .bys ty l=>⟨true,ty,1,l.length,M3 l⟩
 | .mp _ _=>⟨true,0,0,0,fun _=>[]⟩
 | .mp2 _=>⟨true,0,0,0,fun _=>[]⟩

def Ob.isArr:Ob->Bool
 | .mp _ _=>false
 | .mp2 _=>false
 | .fam .. =>false
 |_=>true

def gH(k v i:Nat):Nat->List T->List T
 |_,[]=>[]
 |j,.own _ _ n _::r=>.posl k v i j n::gH k v i (j+1) r
 |j,t::r=>t::gH k v i (j+1) r

def zZ(k v:Nat)(row:Nat->List T)(i:Nat):List T:=gH k v i 0 (row i)

abbrev Y6:=List (Option Ob)
abbrev W9:=List (Nat×T)

def u6:W9->Nat->T
 | [],_=>.und
 |(j,t)::r,i=>match Nat.beq i j with|true=>t|false=>u6 r i

def bQ:Value->T
 | .int k n=>.int k n
 | .bool b=>.bool b
 | .string s=>.str s.data.toList
 |x=>.v x

def P0(s:W9):Operand->T
 | .tmp t=>u6 s t
 | .const c=>bQ c
 | .func f=>.v (.func (.func f) #[] #[])
 | .global g=>.v (.pointer (some ⟨g,0,none⟩))

def X8(k:IntKind)(n:Int):Prop:=k.min<=n/\n<=k.max
def X0(i:Int)(n:Nat):Prop:=0<=i/\i<n
def Lt(i n:Nat):Prop:=i<n
def Nn(i:Int):Prop:=0<=i
def kF(i j:Int):Prop:=i<=j
def Nz(i:Int):Prop:=i≠0
def a9K(op:BinOp)(a b:Int):Option Bool:=
 match op with
 | .eql=>some (a==b)
 | .neq=>some (a !=b)
 | .lss=>some (decide (a<b))
 | .leq=>some (decide (a<=b))
 | .gtr=>some (decide (a>b))
 | .geq=>some (decide (a≥b))
 |_=>none

def b5G(op:BinOp)(k:IntKind)(a b:Int):Option (T×Option Prop):=
 match op with
 | .add=>some (.int k (a+b),some (X8 k (a+b)))
 | .sub=>some (.int k (a-b),some (X8 k (a-b)))
 | .mul=>some (.int k (a*b),some (X8 k (a*b)))
 | .quo=>some (.int k (a.tdiv b),some (Nz b/\X8 k (a.tdiv b)))
 | .rem=>some (.int k (a.tmod b),some (Nz b))
 | .and=>some (.int k (bits .and k a b),none)
 | .or=>some (.int k (bits .or k a b),none)
 | .xor=>some (.int k (bits .xor k a b),none)
 | .andNot=>some (.int k (bits .andNot k a b),none)
 | .shl=>some (.int k (k.wrap (a*2 ^ (min b.toNat k.bits))),some (Nn b))
 | .shr=>some (.int k (a.fdiv (2 ^ (min b.toNat k.bits))),some (Nn b))
 |op=>(a9K op a b).map fun r=>(.bool r,none)

def b7u(op:BinOp)(a b:List UInt8):Option (T×Option Prop):=
 match op with
 | .add=>some (.str (a++b),some (Lt (a.length+b.length) 9223372036854775808))
 | .eql=>some (.bool (a==b),none)
 | .neq=>some (.bool (!(a==b)),none)
 | .lss=>some (.bool (Op.bytesLess a b),none)
 | .leq=>some (.bool (Op.bytesLess a b||a==b),none)
 | .gtr=>some (.bool (!(Op.bytesLess a b||a==b)),none)
 | .geq=>some (.bool (!(Op.bytesLess a b)),none)
 |_=>none

def lD(op:BinOp)(k k':IntKind):Bool:=
 match op with
 | .shl| .shr=>true
 |_=>decide (k=k')

def a7u(P:Program)(t:TypeId):Bool:=
 match P.underlying t with
 |some (.struct _)|some (.array _ _)=>true
 |_=>false

def oQ(P:Program)(t:TypeId)(f:Nat):Option Field:=
 match P.underlying t with
 |some (.struct fs)=>fs[f]?
 |_=>none

def d7(P:Program)(t:TypeId)(cs:List T)(off:Nat):Option T:=
 match(P.underlying t).isSome,a7u P t with
 |true,true=>match Nat.ble (off+P.cellsOf t) cs.length with
  |true=>some (.agg ((cs.drop off).take (P.cellsOf t)))
  |false=>none
 |true,false=>cs[off]?
 |false,_=>none

def c0l(P:Program)(rec:TypeId->T->T->Option Bool)(xs ys:List T):List Field->Option Bool
 | []=>some true
 |f::r=>match decide (f.name= "_"),d7 P f.type xs f.offset,d7 P f.type ys f.offset with
  |false,some a,some b=>match rec f.type a b,c0l P rec xs ys r with
   |some p,some q=>some (p&&q)
   |_,_=>none
  |_,_,_=>none

def eqT(P:Program):Nat->TypeId->T->T->Option Bool
 |0,_,_,_=>none
 |d+1,t,x,y=>match P.underlying t,x,y with
  |some (.int _),.int k a,.int k' b=>match decide (k=k') with
   |true=>some (a==b)
   |false=>none
  |some .bool,.bool a,.bool b=>some (a==b)
  |some .string,.str a,.str b=>some (a==b)
  |some (.struct fs),.agg xs,.agg ys=>match P.stoodInHeld t with
   |false=>c0l P (eqT P d) xs ys fs.toList
   |true=>none
  |_,_,_=>none

def c7I(P:Program)(op:BinOp)(t:TypeId)(x y:T):Option (T×Option Prop):=
 match P.eqGuardType P.depth t,op with
 |false,.eql=>(eqT P 20 t x y).map fun b=>(.bool b,none)
 |false,.neq=>(eqT P 20 t x y).map fun b=>(.bool (!b),none)
 |_,_=>none

def a33(P:Program)(op:BinOp)(t:TypeId)(b:Bool):Option (T×Option Prop):=
 match P.underlying t,op with
 |some (.pointer e),.eql=>match decide (e=P.pointee t) with
  |true=>some (.bool b,none)
  |false=>none
 |some (.pointer e),.neq=>match decide (e=P.pointee t) with
  |true=>some (.bool (!b),none)
  |false=>none
 |_,_=>none

def c0e(P:Program)(op:BinOp)(t:TypeId)(x y:T):Option (T×Option Prop):=
 match x,y with
 | .int k a,.int k' b=>match lD op k k' with
  |true=>b5G op k a b
  |false=>none
 | .str a,.str b=>b7u op a b
 | .bool a,.bool b=>match P.underlying t,op with
  |some .bool,.eql=>some (.bool (a==b),none)
  |some .bool,.neq=>some (.bool (!(a==b)),none)
  |_,_=>none
 | .agg xs,.agg ys=>c7I P op t (.agg xs) (.agg ys)
 | .ref ..,.v (.pointer none)=>a33 P op t false
 | .pref ..,.v (.pointer none)=>a33 P op t false
 | .v (.pointer none),.v (.pointer none)=>a33 P op t true
 | .v (.slice none 0 0),.v (.slice none 0 0)=>match P.underlying t,op with
  |some (.slice _),.eql=>some (.bool true,none)
  |some (.slice _),.neq=>some (.bool false,none)
  |_,_=>none
 |_,_=>none

def inB(ty i n:Nat):Option Prop:=
 match Nat.beq ty 1000000 with
 |true=>match i,n with
  |0,1=>none
  |i,n=>some (Lt i n)
 |false=>some (Lt i n)

def Z4(H:Y6)(k:Nat):Option Ob:=(H[k]?).bind id
def getA(H:Y6)(k:Nat):Option Arr:=match Z4 H k with
 |some (.fam v ty sz n row)=>some ⟨false,ty,sz,n,zZ k v row⟩
 |some ob=>match ob.isArr with
  |true=>some ob.toArr
  |false=>none
 |none=>none

structure Own where
 v:Nat
 n:Nat
 A:Arr

def getOwn(H:Y6)(k _v i j:Nat):Option Own:=match Z4 H k with
 |some (.fam v' _ _ n row)=>match(row i)[j]? with
  |some (.own ty sz m r)=>some ⟨v',n,true,ty,sz,m,r⟩
  |_=>none
 |_=>none

def PfB(v v' i n a m:Nat):Prop:=v=v'/\i<n/\a<m

def k5(P:Program)(H:Y6)(t:TypeId)(a:T):Option (T×Option Prop):=
 match a with
 | .bref cells=>(d7 P t cells 0).map fun x=>(x,none)
 | .ref k i j=>match getA H k with
  |some A=>(d7 P t (A.row i) j).map fun x=>(x,inB A.ty i A.n)
  |_=>none
 | .pref k v i j z a b=>match getOwn H k v i j with
  |some A=>match Nat.beq z A.A.sz with
   |true=>(d7 P t (A.A.row a) b).map fun x=>(x,some (PfB v A.v i A.n a A.A.n))
   |false=>none
  |none=>none
 |_=>none

def D3(P:Program)(t:TypeId)(n:Nat):Bool:=
 match P.info? t with
 |some i=>Nat.beq i.size n
 |none=>false

def G0(P:Program)(H:Y6)(t:TypeId)(x ix:T):Option (T×Option Prop):=
 match ix with
 | .int _ i=>
  match P.underlying t,x with
  |some (.slice e),.sl sz n row=>match D3 P e sz with
   |true=>some (.bref (row i.toNat),some (X0 i n))
   |false=>none
  |some (.slice e),.bys l=>match D3 P e 1 with
   |true=>some (.bref (M3 l i.toNat),some (X0 i l.length))
   |false=>none
  |some (.slice e),.osl k off n=>match getA H k with
   |some A=>match D3 P e A.sz with
    |true=>some (.ref k (off+i.toNat) 0,some (X0 i n))
    |false=>none
   |_=>none
  |some (.slice e),.posl k v i' j n=>match getOwn H k v i' j with
   |some A=>match D3 P e A.A.sz with
    |true=>some (.pref k v i' j A.A.sz i.toNat 0,some (X0 i n))
    |false=>none
   |_=>none
  |some (.array n e),.bref cells=>match(P.info? e).isSome with
   |true=>some (.bref (cells.drop (i.toNat*P.cellsOf e)),some (X0 i n))
   |false=>none
  |some (.array n e),.ref k r j=>match(P.info? e).isSome with
   |true=>some (.ref k r (j+i.toNat*P.cellsOf e),some (X0 i n))
   |false=>none
  |_,_=>none
 |_=>none

def a9T(P:Program)(t:TypeId)(x:T):Option Int:=
 match P.underlying t,x with
 |some .string,.str l=>some l.length
 |some (.slice _),.bys l=>some l.length
 |some (.slice _),.sl _ n _=>some n
 |some (.slice _),.osl _ _ n=>some n
 |some (.slice _),.posl _ _ _ _ n=>some n
 |some (.slice _),.v (.slice none n _)=>some n
 |some (.slice _),.emp=>some 0
 |_,_=>none

def zeroCells(P:Program)(t:TypeId):Option (List T):=((P.info? t).bind (·.zero)).map fun z=>z.cells.toList.map bQ

def V8:T->List T
 | .agg cs=>cs
 |t=>[t]

def O2:T->Bool
 | .agg _| .tup _| .und=>false
 | .v (.agg _)| .v (.tuple _)=>false
 |_=>true

def X4:T->Bool
 | .ref .. | .osl .. | .agg _| .tup _| .fn .. | .mpr _=>false
 | .own .. | .posl .. | .pref .. =>false
 |_=>true

def a9J:T->Bool
 | .own .. =>true
 |_=>false

def aK(s:W9)(c a b:Operand):Option T:=
 match P0 s c with
 | .bool cb=>match a,b with
  | .const (.bool true),b=>match P0 s b with
   | .bool y=>some (.bool (cb||y))
   |_=>none
  |a,.const (.bool false)=>match P0 s a with
   | .bool x=>some (.bool (cb&&x))
   |_=>none
  |_,_=>none
 |_=>none

def Le(i n:Nat):Prop:=i<=n

def zV(P:Program)(H:Y6)(src dst:TypeId)(x:T):Option (T×Option Prop):=
 match P.underlying src,P.underlying dst,x with
 |some (.int _),some (.int k),.int _ n=>some (.int k (k.wrap n),none)
 |some .string,some .string,.str l=>some (.str l,none)
 |some (.slice e),some .string,.bys l=>match P.underlying e with
  |some (.int .u8)=>some (.str l,none)
  |_=>none
 |some (.slice e),some .string,.osl k off n=>match P.underlying e,Z4 H k with
  |some (.int .u8),some (.bys _ l)=>some (.str ((l.drop off).take n),some (Le (off+n) l.length))
  |_,_=>none
 |_,_,_=>none

def oO(P:Program)(t:TypeId)(x:T)(f:Nat):Option T:=
 match oQ P t f,x with
 |some fd,.agg cs=>d7 P fd.type cs fd.offset
 |_,_=>none

def d6(P:Program)(t:TypeId)(x:T)(f:Nat):Option T:=
 match oQ P t f with
 |some fd=>match D3 P fd.type (P.cellsOf fd.type),Nat.beq (P.cellsOf fd.type) 0,x with
  |true,false,.ref k i j=>some (.ref k i (j+fd.offset))
  |true,false,.bref cs=>some (.bref (cs.drop fd.offset))
  |_,_,_=>none
 |none=>none

def bI(P:Program)(t:TypeId)(x i:T):Option (T×Option Prop):=
 match P.underlying t,x,i with
 |some .string,.str l,.int _ i=>some (.int .u8 ((l.getD i.toNat 0).toNat:Int),some (X0 i l.length))
 |some (.array n e),.agg cs,.int _ i=>match D3 P e 1,d7 P e cs i.toNat with
  |true,some x=>some (x,some (X0 i n))
  |_,_=>none
 |_,_,_=>none

def InC(i:Int)(n:Nat):Prop:=0<=i/\i<=n
def c3o(a h:Int)(n:Nat):Prop:=0<=a/\a<=h/\h<=n

def b3q(l:List UInt8):Option Int->Option Int->List UInt8
 |none,none=>l
 |none,some h=>l.take h.toNat
 |some a,none=>l.drop a.toNat
 |some a,some h=>(l.take h.toNat).drop a.toNat

def a5T(n:Nat):Option Int->Option Int->Nat
 |none,none=>n
 |none,some h=>h.toNat
 |some a,none=>n-a.toNat
 |some a,some h=>h.toNat-a.toNat

def c6F(off:Nat):Option Int->Nat
 |none=>off
 |some a=>off+a.toNat

def a6Y(row:Nat->List T):Option Int->Nat->List T
 |none=>row
 |some a=>fun i=>row (a.toNat+i)

def b4l(n:Nat):Option Int->Option Int->Option Prop
 |none,none=>none
 |none,some h=>some (InC h n)
 |some a,none=>some (InC a n)
 |some a,some h=>some (c3o a h n)

def zS:Option T->Option (Option Int)
 |none=>some none
 |some (.int _ i)=>some (some i)
 |_=>none

def yE(P:Program)(H:Y6)(t:TypeId)(x:T)(lo hi:Option T):Option (T×Option Prop):=
 match zS lo,zS hi with
 |some a,some h=>match P.underlying t,x with
  |some .string,.str l=>some (.str (b3q l a h),b4l l.length a h)
  |some (.slice e),.bys l=>match D3 P e 1 with
   |true=>some (.bys (b3q l a h),b4l l.length a h)
   |false=>none
  |some (.slice e),.sl sz n row=>match D3 P e sz with
   |true=>some (.sl sz (a5T n a h) (a6Y row a),b4l n a h)
   |false=>none
  |some (.slice e),.osl k off n=>match getA H k with
   |some A=>match D3 P e A.sz with
    |true=>some (.osl k (c6F off a) (a5T n a h),b4l n a h)
    |false=>none
   |none=>none
  |_,_=>none
 |_,_=>none

def sH:T->Bool
 | .agg _=>true
 |x=>O2 x

def w3(place:Nat->Option (Nat×Nat))(cells:List T):List (Nat×T)->Option (List T)
 | []=>some cells
 |(i,x)::rest=>match place i,sH x with
  |some (off,size),true=>match Nat.beq (V8 x).length size,Nat.ble (off+(V8 x).length) cells.length with
   |true,true=>w3 place (cells.take off++V8 x++cells.drop (off+(V8 x).length)) rest
   |_,_=>none
  |_,_=>none

def uV(place:Nat->Option (Nat×Nat))(m:Nat):Nat->List (Nat×T)->Option (List T)
 |n,[]=>match Nat.beq n m with
  |true=>some []
  |false=>none
 |n,(i,x)::rest=>match place i,sH x with
  |some (off,size),true=>match Nat.beq off n,Nat.beq (V8 x).length size with
   |true,true=>(uV place m (n+size) rest).map (V8 x++ ·)
   |_,_=>none
  |_,_=>none

def a9I(place:Nat->Option (Nat×Nat))(z:List T)(parts:List (Nat×T)):Option (List T):=
 match uV place z.length 0 parts with
 |some cs=>some cs
 |none=>w3 place z parts

def oE(P:Program)(s:W9)(t:TypeId)(parts:Array (Nat×Operand)):Option T:=
 match zeroCells P t,P.underlying t with
 |some z,some (.struct fs)=>match fs.toList.all fun f=>(P.info? f.type).isSome with
  |true=>(a9I (fun i=>(fs.toList[i]?).map fun f=>(f.offset,P.cellsOf f.type)) z (parts.toList.map fun p=>(p.1,P0 s p.2))).map .agg
  |false=>none
 |some z,some (.array _ e)=>match(P.info? e).isSome with
  |true=>(a9I (fun i=>some (i*P.cellsOf e,P.cellsOf e)) z (parts.toList.map fun p=>(p.1,P0 s p.2))).map .agg
  |false=>none
 |_,_=>none

def c5E(s:W9)(fn:Fn)(captured:Array Operand):T:=.fn fn (captured.toList.map (P0 s))

def c7h(bo:Bool)(n:Int):T:=match bo with
 |true=>.bool (decide (n≠0))
 |false=>.int .i64 n

def b3U(P:Program)(t:TypeId)(bo:Bool):Bool:=
 match P.underlying t with
 |some (.map kt et)=>match P.underlying kt,(P.info? et).bind (·.zero),bo with
  |some (.int .i64),some (.int .i64 n),false=>decide (n=0)
  |some (.int .i64),some (.bool b),true=> !b
  |_,_,_=>false
 |_=>false

def c24(P:Program)(t:TypeId):Bool:=
 match P.underlying t with
 |some (.int .i64)=>Nat.beq (P.cellsOf t) 1
 |_=>false

def a20(P:Program)(kt:TypeId):Bool:=
 match P.underlying kt with
 |some (.struct fs)=>match fs.toList with
  | [f0,f1]=>f0.name != "_" &&f1.name != "_" &&Nat.beq f0.offset 0&&Nat.beq f1.offset 1&&c24 P f0.type&&c24 P f1.type&&Nat.beq (P.cellsOf kt) 2&& !Nat.beq P.types.size 0
  |_=>false
 |_=>false

def a2e(P:Program)(t:TypeId):Bool:=
 match P.underlying t with
 |some (.map kt et)=>match(P.info? et).bind (·.zero) with
  |some (.bool b)=> !b&&P.keyTypeAt 2 kt&&P.tiled 2 kt&&P.keyType kt&&a20 P kt
  |_=>false
 |_=>false

def rK(P:Program)(H:Y6)(t:TypeId)(m k:T):Option (T×Option Prop):=
 match m,k with
 | .mpr j,.int .i64 n=>match Z4 H j with
  |some (.mp bo get)=>match b3U P t bo with
   |true=>some (c7h bo (get n),none)
   |false=>none
  |_=>none
 | .mpr j,.agg [.int .i64 a,.int .i64 b]=>match Z4 H j with
  |some (.mp2 get)=>match a2e P t with
   |true=>some (.bool (get a b),some (X8 .i64 a/\X8 .i64 b))
   |false=>none
  |_=>none
 |_,_=>none

def c7x(bo:Bool):T->Option Int
 | .int .i64 n=>match bo with|false=>some n|true=>none
 | .bool b=>match bo with|true=>some (cond b 1 0)|false=>none
 |_=>none

def dX(P:Program)(H:Y6)(t:TypeId)(m k x:T):Option Y6:=
 match m,k with
 | .mpr j,.int .i64 n=>match Z4 H j with
  |some (.mp bo get)=>match b3U P t bo,c7x bo x with
   |true,some v=>some (H.set j (some (.mp bo fun i=>cond (decide (i=n)) v (get i))))
   |_,_=>none
  |_=>none
 |_,_=>none

def rW(P:Program)(H:Y6)(t:TypeId)(m k x:T):Option (Y6×Option Prop):=
 match m,k,x with
 | .mpr j,.agg [.int .i64 a,.int .i64 b],.bool v=>match Z4 H j with
  |some (.mp2 get)=>match a2e P t with
   |true=>some (H.set j (some (.mp2 fun a' b'=>cond (decide (a'=a/\b'=b)) v (get a' b'))),some (X8 .i64 a/\X8 .i64 b))
   |false=>none
  |_=>none
 |_,_,_=>none

def yY(P:Program)(H:Y6)(t:TypeId):Option (T×Y6):=
 match b3U P t true,b3U P t false with
 |true,_=>some (.mpr H.length,H++[some (.mp true fun _=>0)])
 |_,true=>some (.mpr H.length,H++[some (.mp false fun _=>0)])
 |_,_=>match a2e P t with
  |true=>some (.mpr H.length,H++[some (.mp2 fun _ _=>false)])
  |false=>none

def c5G(op:UnOp)(x:T):Option (T×Option Prop):=
 match op,x with
 | .not,.bool b=>some (.bool (!b),none)
 | .neg,.int k n=>some (.int k (0-n),some (X8 k (0-n)))
 |_,_=>none

def wP(x:T)(i:Nat):Option T:=
 match x with
 | .tup cs=>cs[i]?
 |_=>none

def P9(P:Program)(s:W9)(H:Y6)(op:Op):Option (T×Option Prop):=
 match op with
 | .move x| .assign x=>some (P0 s x,none)
 | .pick c a b=>(aK s c a b).map (·,none)
 | .load t a=>k5 P H t (P0 s a)
 | .nilCheck x=>match P0 s x with
  | .ref k i j=>some (.ref k i j,none)
  | .bref cs=>some (.bref cs,none)
  |_=>none
 | .binOp op t x y _=>c0e P op t (P0 s x) (P0 s y)
 | .unOp op _ x=>c5G op (P0 s x)
 | .convert src dst x=>zV P H src dst (P0 s x)
 | .fieldAddr t x f=>(d6 P t (P0 s x) f).map (·,none)
 | .field t x f=>(oO P t (P0 s x) f).map (·,none)
 | .indexAddr t x i=>G0 P H t (P0 s x) (P0 s i)
 | .index t x i=>bI P t (P0 s x) (P0 s i)
 | .extract x i=>(wP (P0 s x) i).map (·,none)
 | .call {callee:=.builtin .len,args,argTypes}=>match args.toList,argTypes.toList with
  | [x],[t]=>(a9T P t (P0 s x)).map fun n=>(.int .i64 n,none)
  |_,_=>none
 | .slice t x lo hi none=>yE P H t (P0 s x) (lo.map (P0 s)) (hi.map (P0 s))
 | .build t parts=>(oE P s t parts).map (·,none)
 | .makeFunc fn first captured=>match first.toList with
  | []=>some (c5E s fn captured,none)
  |_=>none
 | .lookup t m k false=>rK P H t (P0 s m) (P0 s k)
 |_=>none

def P4(n:Int):UInt8:=UInt8.ofNat n.toNat

def uE:List T->Option (List Int)
 | []=>some []
 | .int .u8 n::r=>(uE r).map (n:: ·)
 |_=>none

def b7V:List Int->Option Prop
 | []=>none
 |n::r=>match b7V r with
  |none=>some (X8 .u8 n)
  |some p=>some (X8 .u8 n/\p)

def y6(P:Program)(e:TypeId):Bool:=
 match P.underlying e,zeroCells P e with
 |some (.int .u8),some [.int .u8 n]=>decide (n=0)
 |_,_=>false

def I4(a b c:Nat):Prop:=a*b<=c

def cK(P:Program)(H:Y6)(t:TypeId)(l c:T):Option (T×Y6×Option Prop):=
 match P.underlying t,l,c with
 |some (.slice e),.int .i64 n,.int .i64 m=>match P.info? e,zeroCells P e with
  |some i,some z=>match Nat.beq z.length i.size,Nat.beq i.size 0,z.all O2 with
   |true,false,true=>some (.osl H.length 0 n.toNat,H++[some (match y6 P e with
     |true=>.bys e (List.replicate n.toNat 0)
     |false=>.arr (z.all X4) e i.size n.toNat fun _=>z)],some (Nn n/\kF n m/\I4 i.bytes m.toNat 140737488355328/\Lt m.toNat 9223372036854775808))
   |_,_,_=>none
  |_,_=>none
 |_,_,_=>none

def s6(P:Program)(s:W9)(H:Y6)(t:TypeId)(len:Nat)(parts:Array (Nat×Operand)):Option (T×Y6×Option Prop):=
 match P.underlying t with
 |some (.slice e)=>match P.info? e,zeroCells P e with
  |some i,some z=>match Nat.beq z.length i.size,Nat.beq i.size 0,Nat.ble (len*i.size) 16777216 with
   |true,false,true=>match w3 (fun k=>some (k*i.size,i.size)) ((List.replicate len z).flatten) (parts.toList.map fun p=>(p.1,P0 s p.2)) with
    |some cs=>match y6 P e with
     |true=>(uE cs).map fun ns=>(.osl H.length 0 len,H++[some (.bys e (ns.map P4))],b7V ns)
     |false=>match cs.all O2 with
      |true=>some (.osl H.length 0 len,H++[some (.arr (cs.all X4) e i.size len fun k=>(cs.drop (k*i.size)).take i.size)],none)
      |false=>none
    |none=>none
   |_,_,_=>none
  |_,_=>none
 |_=>none

def sel(b:Bool)(x y:T):T:=match b with|true=>x|false=>y
def c78(b:Bool)(x y:Nat->List T)(i:Nat):List T:=match b with|true=>x i|false=>y i

def mrg(b:Bool)(x y:T):T:=
 match x,y with
 | .int k n,.int k' m=>match decide (k=k') with
  |true=>.int k (cond b n m)
  |false=>sel b (.int k n) (.int k' m)
 | .bool p,.bool q=>.bool (cond b p q)
 | .str l,.str m=>.str (cond b l m)
 | .own ty sz n row,.own ty' sz' n' row'=>match decide (ty=ty'),decide (sz=sz') with
  |true,true=>.own ty sz (cond b n n') (c78 b row row')
  |_,_=>sel b (.own ty sz n row) (.own ty' sz' n' row')
 |x,y=>sel b x y

def b9n(b:Bool):List T->List T->List T
 |x::xs,o::os=>mrg b x o::b9n b xs os
 | [],os=>os
 |_::_,[]=>[]

def b8h(b:Bool):Nat->List T->List T->List T
 |0,xs,os=>b9n b xs os
 |j+1,xs,o::os=>o::b8h b j xs os
 |_+1,_,[]=>[]

def setRow(row:Nat->List T)(i j:Nat)(cs:List T)(k:Nat):List T:=b8h (Nat.beq k i) j cs (row k)

def closedOne(t:T):Bool:=X4 t&&O2 t

def c7P(cs:List T):Bool:=cs.all fun t=> !a9J t
def b2Z(i n:Nat)(cs:List T):Prop:=i<n/\c7P cs=true

structure Abs where
 cs:List T
 ks:List Nat
 side:Option Prop

def uB(H:Y6):List T->Option Abs
 | []=>some ⟨[],[],none⟩
 | .osl m off n::r=>match off,Z4 H m,uB H r with
  |0,some (.arr true ty sz N row),some A=>some ⟨.own ty sz n row::A.cs,m::A.ks,some (match A.side with|none=>Le n N|some p=>Le n N/\p)⟩
  |_,_,_=>none
 |t::r=>match closedOne t,uB H r with
  |true,some A=>some ⟨t::A.cs,A.ks,A.side⟩
  |_,_=>none

def L0:Y6->List Nat->Y6
 |H,[]=>H
 |H,k::r=>L0 (H.set k none) r

def rJ:List Nat->Bool
 | []=>true
 |x::r=>r.all (fun y=> !Nat.beq x y)&&rJ r

def ltS(i n:Nat):Option Prop->Prop
 |none=>i<n
 |some p=>i<n/\p

def wL(P:Program)(H:Y6)(t:TypeId)(a x:T):Option (Y6×Option Prop):=
 match a with
 | .pref k v i j z a b=>match Z4 H k,getOwn H k v i j,D3 P t (V8 x).length,sH x,(V8 x).all closedOne with
  |some (.fam v' ty sz n row),some A,true,true,true=>match Nat.beq z A.A.sz,Nat.ble (b+(V8 x).length) A.A.sz with
   |true,true=>some (H.set k (some (.fam v' ty sz n (setRow row i j [.own A.A.ty A.A.sz A.A.n (setRow A.A.row a b (V8 x))]))),some (PfB v v' i n a A.A.n))
   |_,_=>none
  |_,_,_,_,_=>none
 | .ref k i j=>match Z4 H k,D3 P t (V8 x).length,sH x,(V8 x).all O2 with
  |some (.arr cl ty sz n row),true,true,true=>match Nat.ble (j+(V8 x).length) sz with
   |true=>some (H.set k (some (.arr (cl&&(V8 x).all X4) ty sz n (setRow row i j (V8 x)))),inB ty i n)
   |false=>none
  |some (.bys ty l),true,true,true=>match x,j with
   | .int .u8 m,0=>some (H.set k (some (.bys ty (l.set i (P4 m)))),some (Lt i l.length/\X8 .u8 m))
   |_,_=>none
  |some (.fam v ty sz n row),true,true,true=>match Nat.ble (j+(V8 x).length) sz with
   |true=>match(V8 x).all closedOne with
    |true=>some (H.set k (some (.fam v ty sz n (setRow row i j (V8 x)))),some (b2Z i n (((row i).drop j).take (V8 x).length)))
    |false=>match uB H (V8 x) with
     |some A=>match rJ (k::A.ks) with
      |true=>some ((L0 H A.ks).set k (some (.fam (v+1) ty sz n (setRow row i j A.cs))),some (ltS i n A.side))
      |false=>none
     |none=>none
   |false=>none
  |_,_,_,_=>none
 |_=>none

def gV(_P:Program)(H:Y6)(t:TypeId)(cs:List T):Option (T×Y6×Option Prop):=
 match Nat.beq cs.length 0,cs.all O2 with
 |false,true=>some (.ref H.length 0 0,H++[some (.arr (cs.all X4) 1000000 cs.length 1 fun _=>cs)],none)
 |_,_=>none

structure Sr where
 cl:Bool
 n:Nat
 row:Nat->List T
 side:Option Prop

def wR(row:Nat->List T):Nat->Nat->List T
 |0=>row
 |off=>fun i=>row (off+i)

def xY(off n m:Nat):Option Prop:=some (Le (off+n) m)

def wV(H:Y6)(d:Option TypeDesc)(sz:Nat)(x:T):Option Sr:=
 match d,x with
 |some (.slice _),.sl sz' n row=>match Nat.beq sz sz' with
  |true=>some ⟨true,n,row,none⟩
  |false=>none
 |some (.slice _),.v (.slice none 0 0)=>some ⟨true,0,fun _=>[],none⟩
 |some (.slice _),.osl k off n=>match Z4 H k with
  |some (.arr cl _ sz' m row)=>match Nat.beq sz sz' with
   |true=>some ⟨cl,n,wR row off,xY off n m⟩
   |false=>none
  |_=>none
 |_,_=>none

def b0I(H:Y6)(d:Option TypeDesc)(x:T):Option (List UInt8×Option Prop):=
 match d,x with
 |some .string,.str l=>some (l,none)
 |some (.slice _),.bys l=>some (l,none)
 |some (.slice _),.v (.slice none 0 0)=>some ([],none)
 |some (.slice _),.osl k off n=>match Z4 H k with
  |some (.bys _ l)=>some ((l.drop off).take n,some (Le (off+n) l.length))
  |_=>none
 |_,_=>none

def cQ:Option Prop->Prop->Prop
 |none,q=>q
 |some p,q=>p/\q

def W6(row:Nat->List T)(n:Nat)(row':Nat->List T)(i:Nat):List T:=
 match Nat.blt i n with
 |true=>row i
 |false=>row' (i-n)

def V7(n m bytes:Nat):Prop:=(n+m)*bytes<=140737488355328/\n+m<=9223372036854775807

structure SrF where
 n:Nat
 row:Nat->List T
 ks:List Nat
 side:Option Prop

def c0R(H:Y6)(sz:Nat)(x:T):Option SrF:=
 match x with
 | .osl k off n=>match Z4 H k with
  |some (.arr true _ sz' m row)=>match Nat.beq sz sz' with
   |true=>some ⟨n,wR row off,[],xY off n m⟩
   |false=>none
  |some (.arr false _ sz' m row)=>match Nat.beq sz sz',off,n,m with
   |true,0,1,1=>match uB H (row 0) with
    |some A=>some ⟨1,fun _=>A.cs,A.ks,A.side⟩
    |none=>none
   |_,_,_,_=>none
  |_=>none
 |_=>none

def sV(P:Program)(H:Y6)(t tx:TypeId)(d x:T):Option (T×Y6×Option Prop):=
 match P.underlying t with
 |some (.slice e)=>match P.info? e,zeroCells P e with
  |some i,some z=>match Nat.beq z.length i.size,Nat.beq i.size 0,d with
   |true,false,.v (.slice none 0 0)=>match y6 P e with
    |true=>(b0I H (P.underlying tx) x).map fun s=>(.osl H.length 0 s.1.length,H++[some (.bys e s.1)],some (cQ s.2 (Lt 0 s.1.length/\V7 0 s.1.length i.bytes)))
    |false=>(wV H (P.underlying tx) i.size x).map fun s=>(.osl H.length 0 s.n,H++[some (.arr s.cl e i.size s.n s.row)],some (cQ s.side (Lt 0 s.n/\V7 0 s.n i.bytes)))
   |true,false,.emp=>match y6 P e with
    |true=>none
    |false=>(wV H (P.underlying tx) i.size x).map fun s=>(.osl H.length 0 s.n,H++[some (.arr s.cl e i.size s.n s.row)],some (cQ s.side (V7 0 s.n i.bytes)))
   |true,false,.osl k 0 n=>match Z4 H k with
    |some (.bys _ l)=>match y6 P e with
     |true=>(b0I H (P.underlying tx) x).map fun s=>(.osl H.length 0 (n+s.1.length),H.set k none++[some (.bys e (l.take n++s.1))],some (cQ s.2 (Le n l.length/\V7 n s.1.length i.bytes)))
     |false=>none
    |some (.arr cl _ sz N row)=>match Nat.beq sz i.size with
     |true=>(wV H (P.underlying tx) i.size x).map fun s=>(.osl H.length 0 (n+s.n),H.set k none++[some (.arr (cl&&s.cl) e i.size (n+s.n) (W6 row n s.row))],some (cQ s.side (Le n N/\V7 n s.n i.bytes)))
     |false=>none
    |some (.fam _ _ sz N row)=>match Nat.beq sz i.size,P.underlying tx,c0R H i.size x with
     |true,some (.slice _),some s=>match rJ (k::s.ks) with
      |true=>some (.osl H.length 0 (n+s.n),L0 H (k::s.ks)++[some (.fam 0 e i.size (n+s.n) (W6 row n s.row))],some (cQ s.side (Le n N/\V7 n s.n i.bytes)))
      |false=>none
     |_,_,_=>none
    |_=>none
   |_,_,_=>none
  |_,_=>none
 |_=>none

def a9C:T->Bool
 | .sl .. | .osl .. | .posl .. | .v (.slice none 0 0)=>true
 |_=>false

def isZ:T->Bool
 | .int _ i=>decide (i=0)
 |_=>false

def c8f:Option T->Bool
 |none=>true
 |some t=>isZ t

def rV(P:Program)(H:Y6)(t:TypeId)(x:T)(lo:Option T)(hi mx:T):Option (T×Y6×Option Prop):=
 match P.underlying t,a9C x&&c8f lo&&isZ hi&&isZ mx with
 |some (.slice e),true=>match P.info? e with
  |some i=>match Nat.beq i.size 0,D3 P e i.size with
   |false,true=>some (.osl H.length 0 0,H++[some (.arr true e i.size 0 fun _=>[])],none)
   |_,_=>none
  |none=>none
 |_,_=>none

def H8(row:Nat->List T)(off n:Nat)(z:List T)(j:Nat):List T:=
 match Nat.ble off j&&Nat.blt j (off+n) with
 |true=>z
 |false=>row j

def bZ(P:Program)(H:Y6)(t:TypeId)(x:T):Option (T×Y6×Option Prop):=
 match P.underlying t,x with
 |some (.slice e),.osl k off n=>match P.info? e,zeroCells P e,Z4 H k with
  |some i,some z,some (.arr true ty sz N row)=>match Nat.beq z.length i.size&&Nat.beq sz i.size&& !Nat.beq i.size 0&&z.all closedOne with
   |true=>some (.und,H.set k (some (.arr true ty sz N (H8 row off n z))),some (Le (off+n) N))
   |false=>none
  |_,_,_=>none
 |_,_=>none

def G5(P:Program)(s:W9)(H:Y6)(op:Op):Option (T×Y6×Option Prop):=
 match op with
 | .box t x=>match sH (P0 s x) with
  |true=>gV P H t (V8 (P0 s x))
  |false=>none
 | .alloc t=>match zeroCells P t with
  |some z=>gV P H t z
  |none=>none
 | .store t a x=>(wL P H t (P0 s a) (P0 s x)).map fun r=>(.und,r.1,r.2)
 | .makeSlice t l c=>cK P H t (P0 s l) (P0 s c)
 | .buildSlice t len parts=>s6 P s H t len parts
 | .convert src dst x=>match P.underlying src,P.underlying dst,P0 s x with
  |some .string,some (.slice e),.str l=>match y6 P e with
   |true=>some (.bys l,H,some (Lt l.length 140737488355329))
   |false=>none
  |_,_,_=>none
 | .call {callee:=.builtin .append,args,argTypes}=>match args.toList,argTypes.toList with
  | [d,x],[t,tx]=>sV P H t tx (P0 s d) (P0 s x)
  |_,_=>none
 | .makeMap t none=>(yY P H t).map fun r=>(r.1,r.2,none)
 | .mapUpdate t m k x=>match dX P H t (P0 s m) (P0 s k) (P0 s x) with
  |some r=>some (.und,r,none)
  |none=>(rW P H t (P0 s m) (P0 s k) (P0 s x)).map fun r=>(.und,r.1,r.2)
 | .slice t x lo (some hi) (some mx)=>rV P H t (P0 s x) (lo.map (P0 s)) (P0 s hi) (P0 s mx)
 | .call {callee:=.builtin .clear,args,argTypes}=>match args.toList,argTypes.toList with
  | [x],[t]=>bZ P H t (P0 s x)
  |_,_=>none
 |_=>none

def Q9{α β:Type}(f:α->Option β):List α->Option (List β)
 | []=>some []
 |a::r=>match f a,Q9 f r with
  |some b,some q=>some (b::q)
  |_,_=>none

def sS:Option Prop->Option Prop->Option Prop
 |none,q=>q
 |p,none=>p
 |some p,some q=>some (p/\q)

def zO:List (T×Option Prop)->Option Prop
 | []=>none
 |x::r=>sS x.2 (zO r)

def c6x:T->T
 | .own _ sz n row=>.sl sz n row
 |t=>t

def a0n(row:Nat->List T)(i:Nat):List T:=(row i).map c6x

def PoB(v v' i n a m:Nat):Prop:=v=v'/\i<n/\a<=m

def Q2(b:Nat)(H:Y6):Nat->T->Option (T×Option Prop)
 |0,_=>none
 |d+1,t=>match t with
  | .ref k i j=>match Nat.blt k b with
   |true=>some (.ref k i j,none)
   |false=>match getA H k with
    |some A=>match i,A.n with
     |0,1=>match Q9 (Q2 b H d) ((A.row 0).drop j) with
      |some cs=>match cs.all fun x=>X4 x.1 with
       |true=>some (.bref (cs.map (·.1)),zO cs)
       |false=>none
      |none=>none
     |_,_=>none
    |none=>none
  | .osl k off n=>match Nat.blt k b with
   |true=>some (.osl k off n,none)
   |false=>match Z4 H k with
    |some (.arr true _ sz m row)=>some (.sl sz n (wR row off),xY off n m)
    |some (.fam _ _ sz m row)=>some (.sl sz n (a0n (wR row off)),xY off n m)
    |some (.bys _ l)=>some (.bys ((l.drop off).take n),some (Le (off+n) l.length))
    |_=>none
  | .agg cs=>(Q9 (Q2 b H d) cs).map fun cs=>(.agg (cs.map (·.1)),zO cs)
  | .fn f cs=>(Q9 (Q2 b H d) cs).map fun cs=>(.fn f (cs.map (·.1)),zO cs)
  | .tup cs=>(Q9 (Q2 b H d) cs).map fun cs=>(.tup (cs.map (·.1)),zO cs)
  | .mpr _=>none
  | .posl k v i j n=>match Nat.blt k b with
   |true=>some (.posl k v i j n,none)
   |false=>match getOwn H k v i j with
    |some A=>some (.sl A.A.sz n A.A.row,some (PoB v A.v i A.n n A.A.n))
    |none=>none
  | .pref k v i j z a c=>match Nat.blt k b with
   |true=>some (.pref k v i j z a c,none)
   |false=>none
  | .own .. =>none
  |t=>some (t,none)

def closedD:Nat->T->Bool
 |0,_=>false
 |d+1,t=>match t with
  | .agg cs=>cs.all (closedD d)
  | .fn _ cs=>cs.all (closedD d)
  | .tup cs=>cs.all (closedD d)
  | .und=>false
  |t=>X4 t

def uK:Nat->T->Bool
 |0,_=>false
 |d+1,t=>match t with
  | .int .. | .bool _| .str _=>true
  | .agg cs=>cs.all (uK d)
  | .tup cs=>cs.all (uK d)
  |_=>false

structure Rl where
 (ι:Type)
 (args:ι->List T)
 (res:ι->T)
 (side:ι->Prop)

structure Rle where
 (ι:Type)
 (args:ι->List T)
 (pre:ι->Y6)
 (res:ι->T)
 (post:ι->Y6)
 (side:ι->Prop)

inductive Con where
 |pure (c:List T->Option (T×Option Prop))
 |eff (c:List T->Y6->Option (T×Y6×Option Prop))
 |rel (r:Rl)
 |mk (c:List T->Option (T×Y6×Option Prop))
 |reff (r:Rle)
 |rmk (r:Rle)
 |fz (c:List T->Option (T×Option Prop))
 |rfz (r:Rl)
 |tmp

abbrev K3:=List (FuncId×Con)

def gam:K3->FuncId->List T->Option (T×Option Prop)
 | [],_,_=>none
 |(g,c)::r,f,args=>match Nat.beq f g with
  |true=>match c with| .pure c=>c args|_=>none
  |false=>gam r f args

def pH:K3->FuncId->Option (List T->Y6->Option (T×Y6×Option Prop))
 | [],_=>none
 |(g,c)::r,f=>match Nat.beq f g with
  |true=>match c with| .eff c=>some c|_=>none
  |false=>pH r f

def gmk:K3->FuncId->Option (List T->Option (T×Y6×Option Prop))
 | [],_=>none
 |(g,c)::r,f=>match Nat.beq f g with
  |true=>match c with| .mk c=>some c|_=>none
  |false=>gmk r f

def gfz:K3->FuncId->Option (List T->Option (T×Option Prop))
 | [],_=>none
 |(g,c)::r,f=>match Nat.beq f g with
  |true=>match c with| .fz c=>some c|_=>none
  |false=>gfz r f

def Con.isRel:Con->Bool
 | .rel _| .reff _| .rmk _| .rfz _=>true
 |_=>false

def Con.isEff:Con->Bool
 | .eff _| .mk _| .reff _| .rmk _| .fz _| .rfz _=>true
 |_=>false

def Con.isMk:Con->Bool
 | .mk _| .rmk _=>true
 |_=>false

def k4:K3->FuncId->Option Con
 | [],_=>none
 |(g,c)::r,f=>match Nat.beq f g with
  |true=>some c
  |false=>k4 r f

def c3b(G:K3)(f:FuncId):Option Con:=
 match k4 G f with
 |some c=>match c.isRel with
  |true=>some c
  |false=>none
 |none=>none

def aE(P:Program)(s:W9)(t:TypeId)(len:Nat)(parts:Array (Nat×Operand)):Option (T×Option Prop):=
 match P.underlying t with
  |some (.slice e)=>match P.info? e,zeroCells P e with
   |some i,some z=>match Nat.beq z.length i.size,Nat.beq i.size 0,Nat.ble (len*i.size) 16777216 with
    |true,false,true=>match w3 (fun k=>some (k*i.size,i.size)) ((List.replicate len z).flatten) (parts.toList.map fun p=>(p.1,P0 s p.2)) with
     |some cs=>match y6 P e,cs.all O2,cs.all X4 with
      |false,true,true=>some (.sl i.size len (fun k=>(cs.drop (k*i.size)).take i.size),none)
      |_,_,_=>none
     |none=>none
    |_,_,_=>none
   |_,_=>none
  |_=>none

def a9q(P:Program)(s:W9):Op->Option (T×Option Prop)
 | .buildSlice t 0 parts=>match P.underlying t,parts.toList with
  |some (.slice e),[]=>match P.info? e,zeroCells P e with
   |some i,some z=>match Nat.beq z.length i.size,Nat.beq i.size 0 with
    |true,false=>some (.emp,none)
    |_,_=>none
   |_,_=>none
  |_,_=>none
 | .call {callee:=.builtin .append,args,argTypes}=>match args.toList,argTypes.toList with
  | [d,x],[t,tx]=>match P0 s d,P.underlying t with
   | .emp,some (.slice e)=>match P.info? e,zeroCells P e with
    |some i,some z=>match Nat.beq z.length i.size,wV [] (P.underlying tx) i.size (P0 s x) with
     |true,some q=>match q.cl with
      |true=>some (.sl i.size q.n q.row,some (cQ q.side (V7 0 q.n i.bytes)))
      |false=>none
     |_,_=>none
    |_,_=>none
   |_,_=>none
  |_,_=>none
 | .buildSlice t (n+1) parts=>aE P s t (n+1) parts
 |_=>none

def a57:K3->Nat
 | []=>0
 |(_,.tmp)::r=>a57 r+1
 |_::r=>a57 r

def uA(G:K3):Op->Bool
 | .buildSlice _ (_+1) _=>Nat.ble 1 (a57 G)
 | .buildSlice _ 0 _=>Nat.ble 2 (a57 G)
 | .call {callee:=.builtin .append, .. }=>Nat.ble 3 (a57 G)
 |_=>false

def anyEff:K3->Bool
 | []=>false
 |(_,c)::r=>c.isEff||anyEff r

def isEff(G:K3):Operand->Bool
 | .func f=>match k4 G f with
  |some c=>c.isEff
  |none=>false
 |_=>anyEff G

def isMk(G:K3):Operand->Bool
 | .func f=>match k4 G f with
  |some c=>c.isMk
  |none=>false
 |_=>false

def U5(ρ:Nat->Option Nat):Nat->T->Option T
 |0,_=>none
 |d+1,t=>match t with
  | .ref k i j=>(ρ k).map fun m=>.ref m i j
  | .osl k off n=>(ρ k).map fun m=>.osl m off n
  | .mpr k=>(ρ k).map .mpr
  | .posl k v i j n=>(ρ k).map fun m=>.posl m v i j n
  | .pref k v i j z a b=>(ρ k).map fun m=>.pref m v i j z a b
  | .agg cs=>(Q9 (U5 ρ d) cs).map .agg
  | .tup cs=>(Q9 (U5 ρ d) cs).map .tup
  | .fn f cs=>(Q9 (U5 ρ d) cs).map (.fn f)
  |t=>some t

def pW(ρ:Nat->Option Nat)(ob:Ob):Option Ob:=
 match ob with
 | .bys ty l=>some (.bys ty l)
 | .fam v ty sz n row=>some (.fam v ty sz n row)
 | .arr true ty sz n row=>some (.arr true ty sz n row)
 | .arr false ty sz n row=>match n with
  |1=>(Q9 (U5 ρ 6) (row 0)).map fun r=>.arr false ty sz 1 fun _=>r
  |_=>none
 | .mp bo get=>some (.mp bo get)
 | .mp2 get=>some (.mp2 get)

def memN(k:Nat):List Nat->Bool
 | []=>false
 |x::r=>Nat.beq k x||memN k r

def dJ:List Nat->Bool
 | []=>true
 |x::r=> !memN x r&&dJ r

def kZ:List T->List Nat
 | []=>[]
 | .ref k _ _::r=>k::kZ r
 | .osl k _ _::r=>k::kZ r
 | .agg cs::r=>idsA cs++kZ r
 | .fn _ cs::r=>idsA cs++kZ r
 |_::r=>kZ r
where
 idsA:List T->List Nat
 | []=>[]
 | .ref k _ _::r=>k::idsA r
 | .osl k _ _::r=>k::idsA r
 |_::r=>idsA r

def c8o:Option Ob->List Nat
 |some (.arr false _ _ 1 row)=>kZ (row 0)
 |_=>[]

def lF(H:Y6):Nat->List Nat->List Nat->List Nat
 |0,_,S6=>S6
 |_+1,[],S6=>S6
 |d+1,k::r,S6=>match memN k S6 with
  |true=>lF H d r S6
  |false=>lF H d (c8o (Z4 H k)++r) (S6++[k])

def w4(k:Nat):List Nat->Nat->Option Nat
 | [],_=>none
 |x::r,i=>match Nat.beq k x with
  |true=>some i
  |false=>w4 k r (i+1)

def nE:List Nat->Nat->Option Nat
 | [],_=>none
 |k::_,0=>some k
 |_::r,i+1=>nE r i

def a4S(ks:List Nat)(len i:Nat):Option Nat:=
 match nE ks i with
 |some k=>some k
 |none=>some (len+(i-ks.length))

def F4:Y6->List Nat->List (Option Ob)->Y6
 |H,k::ks,o::os=>F4 (H.set k o) ks os
 |H,_,_=>H

def obB(ρ:Nat->Option Nat):Option Ob->Option (Option Ob)
 |none=>some none
 |some ob=>(pW ρ ob).map some

def sO(c:List T->Y6->Option (T×Y6×Option Prop))(H:Y6)(ks:List Nat)(args:List T):Option (T×Y6×Option Prop):=
 match dJ ks,Q9 (U5 (fun k=>w4 k ks 0) 6) args,Q9 (fun k=>(Z4 H k).bind (pW fun k=>w4 k ks 0)) ks with
 |true,some as,some obs=>match c as (obs.map some) with
  |some (r,H',p)=>match Nat.ble ks.length H'.length,U5 (a4S ks H.length) 6 r,Q9 (obB (a4S ks H.length)) H' with
   |true,some r',some os=>some (r',F4 H ks os++os.drop ks.length,p)
   |_,_,_=>none
  |none=>none
 |_,_,_=>none

def kH:Nat->Option Nat
 |0=>none
 |k+1=>some (k+1)

def c7w:Nat->Nat->List Nat
 |_,0=>[]
 |i,n+1=>i::c7w (i+1) n

def okA(t:T):Bool:=
 match t with
 | .ref 0 0 _=>true
 |t=>match U5 kH 6 t with
  |some _=>true
  |none=>false

def c0C:Y6->Nat
 |some (.arr _ _ sz _ _)::_=>sz
 |_=>0

def c3L(c:List T->Y6->Option (T×Y6×Option Prop))(sz n:Nat)(H:Y6)(as:List T):Option (T×Y6×Option Prop):=
 match H with
 |some (.arr false ty szW m row)::rest=>match m,Q9 (obB kH) rest,Q9 (U5 kH 6) (row 0),as.all okA&&Nat.ble sz szW with
  |1,some rest0,some cs,true=>match sO c (some (.arr false ty sz 1 fun _=>cs.take sz)::rest0) (c7w 0 n) as with
   |some (r,some (.arr _ ty' sz' m' row')::rest',p)=>match m',Nat.beq sz' sz,U5 kH 6 r,Q9 (obB kH) rest',Q9 (U5 kH 6) (row' 0) with
    |1,true,some r',some rest2,some cs'=>some (r',some (.arr false ty' szW 1 fun _=>cs'++cs.drop sz)::rest2,p)
    |_,_,_,_,_=>none
   |_=>none
  |_,_,_,_=>none
 |_=>none

def N8(ks:List Nat):Y6->Nat->Y6
 | [],_=>[]
 |o::r,i=>(match memN i ks with|true=>o|false=>none)::N8 ks r (i+1)

def c06(c:List T->Option (T×Option Prop))(H:Y6)(ks:List Nat)(args:List T):Option (T×Y6×Option Prop):=
 match Q9 (Q2 0 (N8 ks H 0) 6) args with
 |some bs=>match c (bs.map (·.1)) with
  |some (r,p)=>some (r,L0 H ks,sS (zO bs) p)
  |none=>none
 |none=>none

def aV(c:List T->Option (T×Y6×Option Prop))(H:Y6)(args:List T):Option (T×Y6×Option Prop):=
 match Q9 (Q2 0 H 6) args with
 |some bs=>match c (bs.map (·.1)) with
  |some (r,H',p)=>match U5 (fun k=>some (H.length+k)) 6 r,Q9 (obB fun k=>some (H.length+k)) H' with
   |some r',some os=>some (r',H++os,sS (zO bs) p)
   |_,_=>none
  |none=>none
 |none=>none

def yI(t:T):Bool:=
 match t with
 | .int .. | .bool _| .str _| .v _=>true
 |_=>false

def c7Z(v v' i n a m m':Nat)(row:Nat->List T):Prop:=v=v'/\i<n/\a<=m/\m'=m/\∀r,r<m'->∀t ∈ row r,yI t=true

def b8K(c:List T->Y6->Option (T×Y6×Option Prop))(H:Y6)(args:List T):Option (T×Y6×Option Prop):=
 match args with
 | .posl k v i j n::rest=>match rest.all (closedD 6),Z4 H k,getOwn H k v i j with
  |true,some (.fam v' ty sz N row),some A=>match c (.osl 0 0 n::rest) [some (.arr true A.A.ty A.A.sz A.A.n A.A.row)] with
   |some (r,[some (.arr true _ sz' n' row')],p)=>match uK 6 r,Nat.beq sz' A.A.sz with
    |true,true=>some (r,H.set k (some (.fam v' ty sz N (setRow row i j [.own A.A.ty sz' n' row']))),sS p (some (c7Z v v' i N n A.A.n n' row')))
    |_,_=>none
   |_=>none
  |_,_,_=>none
 |_=>none

def uW(G:K3)(H:Y6)(f:FuncId)(args:List T):Option (T×Y6×Option Prop):=
 match pH G f with
 |some c=>match args with
  | .posl .. ::_=>b8K c H args
  |_=>sO c H (lF H 64 (kZ args) []) args
 |none=>match gmk G f with
  |some c=>aV c H args
  |none=>match gfz G f with
   |some c=>c06 c H (lF H 64 (kZ args) []) args
   |none=>none

def a0f(s:W9):Operand->Option (FuncId×List T)
 | .func f=>some (f,[])
 |x=>match P0 s x with
  | .fn (.func f) cs=>some (f,cs)
  | .v (.func (.func f) first caps)=>match first.toList,caps.toList with
   | [],[]=>some (f,[])
   |_,_=>none
  |_=>none

def u3(G:K3)(H:Y6)(f:FuncId)(args:List T):Option (T×Option Prop):=
 match args.all (closedD 6) with
 |true=>gam G f args
 |false=>match Q9 (Q2 0 H 6) args with
  |some bs=>match gam G f (bs.map (·.1)) with
   |some (r,p)=>match uK 6 r with
    |true=>some (r,sS (zO bs) p)
    |false=>none
   |none=>none
  |none=>none

def O6(P:Program)(G:K3)(s:W9)(H:Y6)(op:Op):Option (T×Y6×Option Prop):=
 match P9 P s H op with
 |some (t,p)=>some (t,H,p)
 |none=>match G5 P s H op with
  |some r=>some r
  |none=>match op with
   | .call {callee:=.value x,args, .. }=>match isEff G x with
    |true=>match x with
     | .func f=>uW G H f (args.toList.map (P0 s))
     |x=>match a0f s x with
      |some (f,cs)=>match isEff G (.func f) with
       |true=>uW G H f (args.toList.map (P0 s)++cs)
       |false=>(u3 G H f (args.toList.map (P0 s)++cs)).map fun r=>(r.1,H,r.2)
      |none=>none
    |false=>match a0f s x with
     |some (f,cs)=>(u3 G H f (args.toList.map (P0 s)++cs)).map fun r=>(r.1,H,r.2)
     |none=>none
   |_=>none

def B7(P:Program)(G:K3)(s:W9)(H:Y6)(op:Op):Option (T×Y6×Option Prop):=
 match uA G op with
 |true=>match a9q P s op with
  |some (t,p)=>some (t,H,p)
  |none=>none
 |false=>O6 P G s H op

structure Sy where
 s:W9
 H:Y6

abbrev K8:=List (Nat×Bool)
abbrev F9:=List (Nat×K8)

def U4:F9->Nat->K8
 | [],_=>[]
 |(j,p)::r,t=>match Nat.beq t j with|true=>p|false=>U4 r t

def uM:K8->K8->Bool
 | [],[]=>true
 |(a,b)::p,(c,d)::q=>Nat.beq a c&&(b==d)&&uM p q
 |_,_=>false

def sufB(p:K8):K8->Bool
 | []=>uM p []
 |x::q=>uM p (x::q)||sufB p q

def I9(s:W9):K8->Prop->Prop
 | [],p=>p
 |(t,b)::r,p=>match u6 s t with
  | .bool x=>I9 s r (x=b->p)
  |_=>False

def xG(s:W9):K8->Bool
 | []=>true
 |(t,_)::r=>match u6 s t with
  | .bool _=>xG s r
  |_=>false

def Z8(n:Nat)(row row':Nat->List T):Prop:=∀i,i<n->row i=row' i

def r8:Nat->T->T->Prop
 |0,_,_=>False
 |d+1,t,t'=>
  match t,t' with
  |_,.und=>True
  | .int k a,.int k' b=>match decide (k=k') with|true=>a=b|false=>False
  | .bool a,.bool b=>a=b
  | .str a,.str b=>a=b
  | .bys a,.bys b=>a=b
  | .v (.slice none 0 0),.sl _ n _=>n=0
  | .v (.slice none 0 0),.bys l=>l=[]
  | .emp,.sl _ n _=>n=0
  | .emp,.bys l=>l=[]
  | .emp,.emp=>True
  | .v x,.v y=>x=y
  | .sl sz n row,.sl sz' m row'=>match Nat.beq sz sz' with|true=>n=m/\Z8 n row row'|false=>False
  | .ref k i j,.ref k' i' j'=>match Nat.beq k k' with|true=>i=i'/\j=j'|false=>False
  | .osl k off n,.osl k' off' n'=>match Nat.beq k k' with|true=>off=off'/\n=n'|false=>False
  | .mpr k,.mpr k'=>match Nat.beq k k' with|true=>True|false=>False
  | .agg as,.agg bs=>matsV (r8 d) as bs
  | .tup as,.tup bs=>matsV (r8 d) as bs
  | .fn f as,.fn g bs=>f=g/\matsV (r8 d) as bs
  | .bref as,.bref bs=>match bs.all X4 with|true=>matsP (r8 d) as bs|false=>False
  |_,_=>False
where
 matsP (f:T->T->Prop):List T->List T->Prop
 |_,[]=>True
 |a::r,b::q=>f a b/\matsP f r q
 |_,_=>False
 matsV (f:T->T->Prop):List T->List T->Prop
 | [],[]=>True
 |a::r,b::q=>f a b/\matsV f r q
 |_,_=>False

def nO(as bs:List T):Prop:=r8.matsV (r8 6) as bs

def b9F:T->T->Prop
 | .own _ sz n row,.own _ sz' n' row'=>sz=sz'/\n=n'/\Z8 n row row'
 |t,t'=>t=t'

def c2I:List T->List T->Prop
 | [],[]=>True
 |a::r,b::q=>b9F a b/\c2I r q
 |_,_=>False

def T5(n:Nat)(row row':Nat->List T):Prop:=∀i,i<n->c2I (row i) (row' i)

def a2f(o o':Option Ob):Prop:=
 match o,o' with
 |some (.arr cl _ sz n row),some (.arr cl' _ sz' n' row')=>match Nat.beq sz sz',cl,cl' with
  |true,true,true=>n=n'/\Z8 n row row'
  |true,_,false=>match(row' 0).all O2 with
   |true=>n=1/\n'=1/\r8.matsV (r8 6) (row 0) (row' 0)
   |false=>False
  |_,_,_=>False
 |some (.fam v _ sz n row),some (.fam v' _ sz' n' row')=>match Nat.beq sz sz' with
  |true=>v=v'/\n=n'/\T5 n row row'
  |false=>False
 |some (.bys _ l),some (.bys _ l')=>l=l'
 |_,_=>False

def a4P:Y6->Y6->Prop
 | [],[]=>True
 |o::r,o'::r'=>a2f o o'/\a4P r r'
 |_,_=>False

def c3J(r:Rle)(x:r.ι)(as:List T)(H:Y6):Option (T×Y6×Option Prop):=
 match Nat.ble 9 (c0C (r.pre x))&& !Nat.beq (c0C H) (c0C (r.pre x)) with
 |false=>some (r.res x,r.post x,some (nO as (r.args x)/\a4P H (r.pre x)/\r.side x))
 |true=>c3L (fun as H=>some (r.res x,r.post x,some (nO as (r.args x)/\a4P H (r.pre x)/\r.side x))) (c0C (r.pre x)) (r.pre x).length H as

def c4V(G:K3)(s:W9):Op->Option (FuncId×Con)
 | .call {callee:=.value x, .. }=>match a0f s x with
  |some (f,_)=>(c3b G f).map fun r=>(f,r)
  |none=>none
 |_=>none

def c8n(f:FuncId)(r:Rl)(x:r.ι)(G:K3):K3:=(f,.pure fun as=>some (r.res x,some (nO as (r.args x)/\r.side x)))::G
def c7G(f:FuncId)(r:Rle)(x:r.ι)(G:K3):K3:=(f,.eff fun as H=>c3J r x as H)::G
def c7i(f:FuncId)(r:Rle)(x:r.ι)(G:K3):K3:=(f,.mk fun as=>some (r.res x,r.post x,some (nO as (r.args x)/\r.side x)))::G

def c7z(f:FuncId)(r:Rl)(x:r.ι)(G:K3):K3:=(f,.fz fun as=>some (r.res x,some (nO as (r.args x)/\r.side x)))::G

def kX(G:K3)(s:W9)(op:Op)(k:K3->Prop):Prop:=
 match c4V G s op with
 |none=>k G
 |some (f,c)=>match c with
  | .rel r=>∃x:r.ι,k (c8n f r x G)
  | .reff r=>∃x:r.ι,k (c7G f r x G)
  | .rmk r=>∃x:r.ι,k (c7i f r x G)
  | .rfz r=>∃x:r.ι,k (c7z f r x G)
  |_=>k G

def nV(s:W9)(pth:K8):Option Prop->Prop->Prop
 |none,q=>q
 |some p,q=>I9 s pth p/\q

def lT(ps:F9)(pth:K8):Operand->Bool
 | .tmp t=>sufB (U4 ps t) pth
 |_=>true

def J1(ps:F9)(pth:K8)(op:Op):Bool:=
 match op with
 | .pick (.tmp t) a b=>sufB (U4 ps t) pth&&lT ps ((t,true)::pth) a&&lT ps ((t,false)::pth) b
 | .pick _ _ _=>false
 |op=>op.operands.toList.all (lT ps pth)

def mH(ps:F9)(d:Nat):Bool:=ps.all fun x=> !Nat.beq x.1 d&&x.2.all fun y=> !Nat.beq y.1 d

def mB(ps:F9):Option Tmp->Bool
 |none=>true
 |some d=>mH ps d

def zC(s:W9)(d:Option Tmp)(t:T):W9:=match d with|some d=>(d,t)::s|none=>s
def iP(ps:F9)(d:Option Tmp)(p:K8):F9:=match d with|some d=>(d,p)::ps|none=>ps

def R0(s:W9):F9->W9
 | []=>s
 |(d,_)::r=>(d,.und)::R0 s r

def B0(G:K3)(op:Op):Bool:=
 match op with
 | .box .. | .alloc .. | .store .. | .makeSlice .. | .buildSlice .. | .makeMap .. | .mapUpdate .. | .slice _ _ _ _ (some _)=>false
 | .call {callee:=.builtin .append, .. }=>false
 | .call {callee:=.builtin .clear, .. }=>false
 | .call {callee:=.value x, .. }=> !isEff G x
 |_=>true

def stays(G:K3)(op:Op):Bool:=
 match uA G op with
 |true=>true
 |false=>B0 G op

def a1O(nt:Nat):Option Tmp->Bool
 |none=>true
 |some d=>Nat.blt d nt

def tQ(ps:F9)(g:Nat):Option Tmp->Bool
 |none=>false
 |some d=> !Nat.beq d g&&(U4 ps g).all fun y=> !Nat.beq y.1 d

def a7P(P:Program)(s:W9):Op->Option (Nat×Bool)
 | .binOp op t x y _=>match P.underlying t,P0 s x,P0 s y,op with
  |some (.slice _),.sl _ n _,.v (.slice none 0 0),.eql=>some (n,false)
  |some (.slice _),.sl _ n _,.v (.slice none 0 0),.neq=>some (n,true)
  |some (.slice _),.osl _ _ n,.v (.slice none 0 0),.eql=>some (n,false)
  |some (.slice _),.osl _ _ n,.v (.slice none 0 0),.neq=>some (n,true)
  |_,_,_,_=>none
 |_=>none

def c6t(b:Bool)(n:Nat):Prop:=b=true->n=0

def zI(P:Program)(G:K3)(nt:Nat)(all:Array Oper):List Oper->W9->F9->Y6->(W9->Y6->Prop)->Prop
 | [],s,ps,H,K=>K (R0 s ps) H
 |o::rest,s,ps,H,K=>
  match o.guard with
  |none=>match J1 ps [] o.op&&mB ps o.dst&&a1O nt o.dst with
   |false=>False
   |true=>match a7P P s o.op with
    |some (n,neg)=>∀b:Bool,c6t b n->zI P G nt all rest (zC s o.dst (.bool (cond neg (!b) b))) ps H K
    |none=>kX G s o.op fun G'=>match B7 P G' s H o.op with
     |some (t,H',side)=>nV s [] side (zI P G nt all rest (zC s o.dst t) ps H' K)
     |none=>False
  |some (j,want)=>match(all[j]?).bind (·.dst) with
   |some g=>match u6 s g with
    | .bool _=>match J1 ps ((g,want)::U4 ps g) o.op&&mB ps o.dst&&a1O nt o.dst&&tQ ps g o.dst with
     |false=>False
     |true=>match stays G o.op with
      |true=>kX G s o.op fun G'=>match B7 P G' s H o.op with
       |some (t,_,side)=>nV s ((g,want)::U4 ps g) side (zI P G nt all rest (zC s o.dst t) (iP ps o.dst ((g,want)::U4 ps g)) H K)
       |none=>False
      |false=>match xG s ((g,want)::U4 ps g) with
       |false=>False
       |true=>kX G s o.op fun G'=>match B7 P G' s H o.op with
        |some (t,H',side)=>nV s ((g,want)::U4 ps g) side (I9 s ((g,want)::U4 ps g) (zI P G nt all rest (zC s o.dst t) (iP ps o.dst ((g,want)::U4 ps g)) H' K)/\
          (I9 s ((g,want)::U4 ps g) False->zI P G nt all rest (zC s o.dst t) (iP ps o.dst ((g,want)::U4 ps g)) H K))
        |none=>False
    |_=>False
   |none=>False

def maskOf(tab:List Nat):List Edge->Nat
 | []=>0
 |e::r=>match Region.binds .any e with
  |true=>Nat.lor (Nat.lor (Nat.shiftLeft 1 e.on) (tab.getD e.on 0)) (maskOf tab r)
  |false=>maskOf tab r

def wT:List Operand->List Nat
 | []=>[]
 | .tmp t::r=>t::wT r
 |_::r=>wT r

def uJ(all:Array Oper)(o:Oper):List Nat:=
 match o.guard with
 |none=>wT o.op.operands.toList
 |some (j,_)=>match(all[j]?).bind (·.dst) with
  |some g=>g::wT o.op.operands.toList
  |none=>wT o.op.operands.toList

def t3(G:K3)(op:Op):Bool:=
 match op with
 | .box .. | .alloc .. | .makeSlice .. | .buildSlice .. | .makeMap .. | .slice _ _ _ (some _) (some _)=>true
 | .call {callee:=.value x, .. }=>isMk G x
 |_=>false

def a9b(op:Op):Bool:=
 match op with
 | .call {callee:=.value _, .. }=>true
 |_=>false

def floatB(G:K3)(op:Op):Bool:=a9b op&&t3 G op

def qO(o:Oper):Option TypeId:=
 match o.op,o.guard with
 | .alloc t,none=>some t
 |_,_=>none

def zG(o:Oper):Bool:=
 match qO o with
 |some _=>true
 |none=>false

def i8:List Oper->Nat
 | []=>0
 |o::r=>match zG o with
  |true=>i8 r+1
  |false=>i8 r

def gY(b:Nat)(all:Array Oper)(i:Nat):Nat:=b+i8 (all.toList.take i)

def b5c(P:Program)(H:Y6)(t:TypeId)(r:Nat):Option (T×Y6):=
 match zeroCells P t with
 |some z=>match Nat.beq z.length 0,z.all O2,Z4 H r,Nat.blt r H.length with
  |false,true,none,true=>some (.ref r 0 0,H.set r (some (.arr (z.all X4) 1000000 z.length 1 fun _=>z)))
  |_,_,_,_=>none
 |none=>none

def bF(H:Y6):Nat->Y6
 |0=>H
 |n+1=>H++List.replicate (n+1) none++[some (.arr true 0 1 0 fun _=>[])]

def a9s(u:Option Tmp)(l:List Nat):Bool:=
 match u with
 |some u=>l.any fun v=>Nat.beq u v
 |none=>false

def dG(a b:Option Tmp):Bool:=
 match a,b with
 |some a,some b=>Nat.beq a b
 |_,_=>false

def pureB(op:Op):Bool:=
 match op with
 | .move _| .assign _| .pick .. | .nilCheck _| .binOp .. | .unOp .. | .fieldAddr .. | .field .. | .extract .. | .build .. | .makeFunc .. | .index .. =>true
 |_=>false

def gS(s:W9)(op:Op):Option (List Nat):=
 match op with
 | .load _ a=>match P0 s a with
  | .ref k _ _=>some [k]
  | .bref _=>some []
  |_=>none
 | .indexAddr _ x _=>match P0 s x with
  | .sl .. | .bys _=>some []
  | .osl k _ _=>some [k]
  |_=>none
 | .convert _ _ x=>match P0 s x with
  | .str _| .bys _| .int .. =>some []
  |_=>none
 | .slice _ x _ _ none=>match P0 s x with
  | .str _| .bys _| .sl .. =>some []
  | .osl k _ _=>some [k]
  |_=>none
 | .buildSlice .. =>some []
 | .call {callee:=.builtin .len, .. }=>some []
 | .call {callee:=.value x,args, .. }=>match a0f s x with
  |some (_,cs)=>match(args.toList.map (P0 s)++cs).all (closedD 6) with
   |true=>some []
   |false=>none
  |none=>none
 |_=>none

def qY(H:Y6)(s:W9)(op:Op):Option (List Nat):=
 match op with
 | .call {callee:=.builtin .append,args, .. }=>match args.toList with
  |d::_=>match P0 s d with
   | .osl k _ _=>match Z4 H k with
    |some (.fam ..)=>none
    |_=>some [k]
   | .v _=>some []
   | .emp=>some []
   |_=>none
  | []=>none
 | .store _ a x=>match P0 s a with
  | .ref k _ _=>match Z4 H k with
   |some (.fam ..)=>match(V8 (P0 s x)).all closedOne with
    |true=>some [k]
    |false=>none
   |_=>some [k]
  | .pref k _ _ _ _ _ _=>some [k]
  |_=>none
 | .call {callee:=.value x,args, .. }=>match a0f s x with
  |some (_,cs)=>match args.toList.map (P0 s)++cs with
   | .posl .. ::_=>none
   |as=>some (lF H 64 (kZ as) [])
  |none=>none
 |_=>none

abbrev RW:=Option (List Nat)×Option (List Nat)
def uR(H:Y6)(s:W9)(op:Op):RW:=(gS s op,qY H s op)

def disjB(r w:Option (List Nat)):Bool:=
 match r,w with
 |some r,some w=>r.all fun k=>w.all fun j=> !Nat.beq k j
 |_,_=>false

def D2(G:K3)(all:Array Oper)(m i:Nat)(x:Oper)(fx:RW)(o:Oper)(fo:RW):Bool:=
 !dG x.dst o.dst&&(Nat.testBit m i||(!a9s x.dst (uJ all o)&& !a9s o.dst (uJ all x)&&(match stays G x.op,stays G o.op with
  |true,true=>true
  |true,false=>t3 G o.op||pureB x.op||disjB fx.1 fo.2
  |false,true=>t3 G x.op||pureB o.op||disjB fo.1 fx.2
  |false,false=>zG o&&(zG x||floatB G x.op))))

def eG(i:Nat)(o:Oper):Bool:=o.after.toList.all fun e=> !Region.binds .any e||Nat.blt e.on i

def F1(H0:Y6):List (Nat×Y6)->Y6
 | []=>H0
 |(_,H)::_=>H

def E9(all:Array Oper)(k:Nat):Bool:=
 match all[k]? with
 |some o=>zG o
 |none=>false

def hAt(all:Array Oper)(H0:Y6)(m:Nat):List (Nat×Y6)->Y6
 | []=>H0
 |(k,H)::r=>match Nat.testBit m k&& !E9 all k with
  |true=>H
  |false=>hAt all H0 m r

def zQ(P:Program)(G:K3)(nt:Nat)(all:Array Oper)(b:Nat)(H0:Y6):List Oper->Nat->List (Nat×Oper×RW)->List Nat->W9->F9->List (Nat×Y6)->(W9->Y6->Prop)->Prop
 | [],_,_,_,s,ps,hist,K=>K (R0 s ps) (F1 H0 hist)
 |o::rest,i,earlier,tab,s,ps,hist,K=>
  match eG i o&&earlier.all (fun x=>D2 G all (maskOf tab o.after.toList) x.1 x.2.1 x.2.2 o (uR (F1 H0 hist) s o.op)) with
  |false=>False
  |true=>match o.guard with
   |none=>match J1 ps [] o.op&&mB ps o.dst&&a1O nt o.dst with
    |false=>False
    |true=>match qO o with
     |some t=>match b5c P (F1 H0 hist) t (gY b all i) with
      |some (y,H')=>zQ P G nt all b H0 rest (i+1) ((i,o,uR (F1 H0 hist) s o.op)::earlier) (tab++[maskOf tab o.after.toList]) (zC s o.dst y) ps ((i,H')::hist) K
      |none=>False
     |none=>match stays G o.op with
      |true=>kX G s o.op fun G'=>match B7 P G' s (hAt all H0 (maskOf tab o.after.toList) hist) o.op with
       |some (t,_,side)=>nV s [] side (zQ P G nt all b H0 rest (i+1) ((i,o,uR (F1 H0 hist) s o.op)::earlier) (tab++[maskOf tab o.after.toList]) (zC s o.dst t) ps hist K)
       |none=>False
      |false=>kX G s o.op fun G'=>match B7 P G' s (F1 H0 hist) o.op with
       |some (t,H',side)=>nV s [] side (zQ P G nt all b H0 rest (i+1) ((i,o,uR (F1 H0 hist) s o.op)::earlier) (tab++[maskOf tab o.after.toList]) (zC s o.dst t) ps ((i,H')::hist) K)
       |none=>False
   |some (j,want)=>match(all[j]?).bind (·.dst) with
    |some g=>match u6 s g with
     | .bool _=>match Nat.blt j i&&J1 ps ((g,want)::U4 ps g) o.op&&mB ps o.dst&&a1O nt o.dst&&stays G o.op&&tQ ps g o.dst with
      |false=>False
      |true=>kX G s o.op fun G'=>match B7 P G' s (hAt all H0 (maskOf tab o.after.toList) hist) o.op with
       |some (t,_,side)=>nV s ((g,want)::U4 ps g) side (zQ P G nt all b H0 rest (i+1) ((i,o,uR (F1 H0 hist) s o.op)::earlier) (tab++[maskOf tab o.after.toList]) (zC s o.dst t) (iP ps o.dst ((g,want)::U4 ps g)) hist K)
       |none=>False
     |_=>False
    |none=>False

def b83(body:(Exit->Sy->Prop)->Sy->Prop)(sub:Sy->Sy->Prop)(Q:Exit->Sy->Prop)(σ:Sy):Prop:=
 ∃(ι:Type) (I:ι->Sy) (μ:ι->Nat),(∃x,sub σ (I x))/\∀x,body (fun e σ'=>match e with| .normal=>∃y,sub σ' (I y)/\μ y<μ x|e=>Q e σ') (I x)

def vc(P:Program)(G:K3)(nt:Nat)(sub:Sy->Sy->Prop):Code->(Exit->Sy->Prop)->Sy->Prop
 | .skip,Q,σ=>Q .normal σ
 | .region _ ops draw,Q,σ=>match draw with
  |false=>zI P G nt ops ops.toList σ.s [] σ.H fun s H=>Q .normal ⟨s,H⟩
  |true=>zQ P G nt ops σ.H.length (bF σ.H (i8 ops.toList)) ops.toList 0 [] [] σ.s [] [] fun s H=>Q .normal ⟨s,H⟩
 | .seq a b,Q,σ=>vc P G nt sub a (fun e σ'=>match e with| .normal=>vc P G nt sub b Q σ'|e=>Q e σ') σ
 | .cond c x y,Q,σ=>match P0 σ.s c with
  | .bool b=>(b=true->vc P G nt sub x Q σ)/\(b=false->vc P G nt sub y Q σ)
  |_=>False
 | .block id body,Q,σ=>vc P G nt sub body (fun e σ'=>match e with| .exit i=>(match Nat.beq i id with|true=>Q .normal σ'|false=>Q (.exit i) σ')|e=>Q e σ') σ
 | .loop body,Q,σ=>b83 (vc P G nt sub body) sub Q σ
 | .exit id,Q,σ=>Q (.exit id) σ
 | .ret,Q,σ=>Q .ret σ
 |_,_,_=>False

def dD(P:Program)(s:W9)(H:Y6):ResultVar->Option (T×Option Prop)
 | .tmp t=>some (u6 s t,none)
 | .cell a t=>k5 P H t (u6 s a)

def b6g(P:Program)(s:W9)(H:Y6)(rs:List ResultVar):Option (T×Option Prop):=
 match Q9 (dD P s H) rs with
 |some [x]=>some x
 |some xs=>some (.tup (xs.map (·.1)),zO xs)
 |none=>none

def jU:Option Prop->Prop->Prop
 |none,q=>q
 |some p,q=>p/\q

def b76(P:Program)(rs:List ResultVar)(post:T->Prop):Exit->Sy->Prop
 | .normal,σ| .ret,σ=>match b6g P σ.s σ.H rs with
  |some (r,p)=>match Q2 0 σ.H 6 r with
   |some (r',p')=>jU p (jU p' (post r'))
   |none=>False
  |none=>False
 |_,_=>False

def vF:Nat->List T->W9
 |_,[]=>[]
 |i,t::r=>(i,t)::vF (i+1) r

end Go.SS
