/- A calculus of symbolic states over the model: definitions. What slots and cells hold is said as trees of data; a piece of code becomes a plain proposition. -/
import Derived.WalkKit
import Derived.WalkSpells
import Derived.WalkLawsBesides
import Derived.Lib.Strings
import Derived.Laws.BytesArg
import Derived.Deep.AppendSrc
namespace Go.SS
open Go.RowKit

inductive T where
 |int (k:IntKind) (n:Int)
 |bool (b:Bool)
 |str (l:List UInt8)
 |v (x:Value)
 |bys (l:List UInt8)
 |sl (sz n:Nat) (row:Nat->List T)
 |bref (cells:List T)
 |ref (k i j:Nat)
 |osl (k off n:Nat)
 |agg (cs:List T)
 |tup (cs:List T)
 |fn (f:Fn) (caps:List T)
 |mpr (k:Nat)
 |own (ty:TypeId) (sz n:Nat) (row:Nat->List T)
 |posl (k v i j n:Nat)
 |pref (k v i j z a b:Nat)
 |emp
 |und
 deriving Inhabited

structure Arr where
 cl:Bool
 ty:TypeId
 sz:Nat
 n:Nat
 row:Nat->List T

inductive Ob where
 |arr (cl:Bool) (ty:TypeId) (sz n:Nat) (row:Nat->List T)
 |fam (v:Nat) (ty:TypeId) (sz n:Nat) (row:Nat->List T)
 |bys (ty:TypeId) (l:List UInt8)
 |mp (bo:Bool) (get:Int->Int)
 |mp2 (get:Int->Int->Bool)

def M5(l:List UInt8)(i:Nat):List T:=[.int .u8 ((l.getD i 0).toNat:Int)]

def Ob.toArr:Ob->Arr
 | .arr cl ty sz n row=>⟨cl,ty,sz,n,row⟩
 | .fam _ ty sz n row=>⟨false,ty,sz,n,row⟩
 | .bys ty l=>⟨true,ty,1,l.length,M5 l⟩
 | .mp _ _=>⟨true,0,0,0,fun _=>[]⟩
 | .mp2 _=>⟨true,0,0,0,fun _=>[]⟩

def Ob.isArr:Ob->Bool
 | .mp _ _=>false
 | .mp2 _=>false
 | .fam .. =>false
 |_=>true

def a65(k v i:Nat):Nat->List T->List T
 |_,[]=>[]
 |j,.own _ _ n _::r=>.posl k v i j n::a65 k v i (j+1) r
 |j,t::r=>t::a65 k v i (j+1) r

def j8(k v:Nat)(row:Nat->List T)(i:Nat):List T:=a65 k v i 0 (row i)

abbrev Y5:=List (Option Ob)
abbrev X2:=List (Nat×T)

def z5:X2->Nat->T
 | [],_=>.und
 |(j,t)::r,i=>match Nat.beq i j with|true=>t|false=>z5 r i

def a80:Value->T
 | .int k n=>.int k n
 | .bool b=>.bool b
 | .string s=>.str s.data.toList
 |x=>.v x

def P2(s:X2):Operand->T
 | .tmp t=>z5 s t
 | .const c=>a80 c
 | .func f=>.v (.func (.func f) #[] #[])
 | .global g=>.v (.pointer (some ⟨g,0,none⟩))

def X6(k:IntKind)(n:Int):Prop:=k.min<=n/\n<=k.max
def W7(i:Int)(n:Nat):Prop:=0<=i/\i<n
def Lt(i n:Nat):Prop:=i<n
def Nn(i:Int):Prop:=0<=i
def LeI(i j:Int):Prop:=i<=j
def Nz(i:Int):Prop:=i≠0
def b8t(op:BinOp)(a b:Int):Option Bool:=
 match op with
 | .eql=>some (a==b)
 | .neq=>some (a !=b)
 | .lss=>some (decide (a<b))
 | .leq=>some (decide (a<=b))
 | .gtr=>some (decide (a>b))
 | .geq=>some (decide (a≥b))
 |_=>none

def c6x(op:BinOp)(k:IntKind)(a b:Int):Option (T×Option Prop):=
 match op with
 | .add=>some (.int k (a+b),some (X6 k (a+b)))
 | .sub=>some (.int k (a-b),some (X6 k (a-b)))
 | .mul=>some (.int k (a*b),some (X6 k (a*b)))
 | .quo=>some (.int k (a.tdiv b),some (Nz b/\X6 k (a.tdiv b)))
 | .rem=>some (.int k (a.tmod b),some (Nz b))
 | .and=>some (.int k (bits .and k a b),none)
 | .or=>some (.int k (bits .or k a b),none)
 | .xor=>some (.int k (bits .xor k a b),none)
 | .andNot=>some (.int k (bits .andNot k a b),none)
 | .shl=>some (.int k (k.wrap (a*2 ^ (min b.toNat k.bits))),some (Nn b))
 | .shr=>some (.int k (a.fdiv (2 ^ (min b.toNat k.bits))),some (Nn b))
 |op=>(b8t op a b).map fun r=>(.bool r,none)

def c30(op:BinOp)(a b:List UInt8):Option (T×Option Prop):=
 match op with
 | .add=>some (.str (a++b),some (Lt (a.length+b.length) 9223372036854775808))
 | .eql=>some (.bool (a==b),none)
 | .neq=>some (.bool (!(a==b)),none)
 | .lss=>some (.bool (Op.bytesLess a b),none)
 | .leq=>some (.bool (Op.bytesLess a b||a==b),none)
 | .gtr=>some (.bool (!(Op.bytesLess a b||a==b)),none)
 | .geq=>some (.bool (!(Op.bytesLess a b)),none)
 |_=>none

def a36(op:BinOp)(k k':IntKind):Bool:=
 match op with
 | .shl| .shr=>true
 |_=>decide (k=k')

def b6y(P:Program)(t:TypeId):Bool:=
 match P.underlying t with
 |some (.struct _)|some (.array _ _)=>true
 |_=>false

def a3Q(P:Program)(t:TypeId)(f:Nat):Option Field:=
 match P.underlying t with
 |some (.struct fs)=>fs[f]?
 |_=>none

def l8(P:Program)(t:TypeId)(cs:List T)(off:Nat):Option T:=
 match(P.underlying t).isSome,b6y P t with
 |true,true=>match Nat.ble (off+P.cellsOf t) cs.length with
  |true=>some (.agg ((cs.drop off).take (P.cellsOf t)))
  |false=>none
 |true,false=>cs[off]?
 |false,_=>none

def c3C(P:Program)(rec:TypeId->T->T->Option Bool)(xs ys:List T):List Field->Option Bool
 | []=>some true
 |f::r=>match decide (f.name= "_"),l8 P f.type xs f.offset,l8 P f.type ys f.offset with
  |false,some a,some b=>match rec f.type a b,c3C P rec xs ys r with
   |some p,some q=>some (p&&q)
   |_,_=>none
  |_,_,_=>none

def eqT(P:Program):Nat->TypeId->T->T->Option Bool
 |0,_,_,_=>none
 |d+1,t,x,y=>match P.underlying t,x,y with
  |some (.int _),.int k a,.int k' b=>match decide (k=k') with
   |true=>some (a==b)
   |false=>none
  |some .bool,.bool a,.bool b=>some (a==b)
  |some .string,.str a,.str b=>some (a==b)
  |some (.struct fs),.agg xs,.agg ys=>match P.stoodInHeld t with
   |false=>c3C P (eqT P d) xs ys fs.toList
   |true=>none
  |_,_,_=>none

def d6i(P:Program)(op:BinOp)(t:TypeId)(x y:T):Option (T×Option Prop):=
 match P.eqGuardType P.depth t,op with
 |false,.eql=>(eqT P 20 t x y).map fun b=>(.bool b,none)
 |false,.neq=>(eqT P 20 t x y).map fun b=>(.bool (!b),none)
 |_,_=>none

def b19(P:Program)(op:BinOp)(t:TypeId)(b:Bool):Option (T×Option Prop):=
 match P.underlying t,op with
 |some (.pointer e),.eql=>match decide (e=P.pointee t) with
  |true=>some (.bool b,none)
  |false=>none
 |some (.pointer e),.neq=>match decide (e=P.pointee t) with
  |true=>some (.bool (!b),none)
  |false=>none
 |_,_=>none

def c49(P:Program)(op:BinOp)(t:TypeId)(x y:T):Option (T×Option Prop):=
 match x,y with
 | .int k a,.int k' b=>match a36 op k k' with
  |true=>c6x op k a b
  |false=>none
 | .str a,.str b=>c30 op a b
 | .bool a,.bool b=>match P.underlying t,op with
  |some .bool,.eql=>some (.bool (a==b),none)
  |some .bool,.neq=>some (.bool (!(a==b)),none)
  |_,_=>none
 | .agg xs,.agg ys=>d6i P op t (.agg xs) (.agg ys)
 | .ref ..,.v (.pointer none)=>b19 P op t false
 | .pref ..,.v (.pointer none)=>b19 P op t false
 | .v (.pointer none),.v (.pointer none)=>b19 P op t true
 | .v (.slice none 0 0),.v (.slice none 0 0)=>match P.underlying t,op with
  |some (.slice _),.eql=>some (.bool true,none)
  |some (.slice _),.neq=>some (.bool false,none)
  |_,_=>none
 |_,_=>none

def inB(ty i n:Nat):Option Prop:=
 match Nat.beq ty 1000000 with
 |true=>match i,n with
  |0,1=>none
  |i,n=>some (Lt i n)
 |false=>some (Lt i n)

def Z4(H:Y5)(k:Nat):Option Ob:=(H[k]?).bind id
def getA(H:Y5)(k:Nat):Option Arr:=match Z4 H k with
 |some (.fam v ty sz n row)=>some ⟨false,ty,sz,n,j8 k v row⟩
 |some ob=>match ob.isArr with
  |true=>some ob.toArr
  |false=>none
 |none=>none

structure Own where
 v:Nat
 n:Nat
 A:Arr

def getOwn(H:Y5)(k _v i j:Nat):Option Own:=match Z4 H k with
 |some (.fam v' _ _ n row)=>match(row i)[j]? with
  |some (.own ty sz m r)=>some ⟨v',n,true,ty,sz,m,r⟩
  |_=>none
 |_=>none

def PfB(v v' i n a m:Nat):Prop:=v=v'/\i<n/\a<m

def s6(P:Program)(H:Y5)(t:TypeId)(a:T):Option (T×Option Prop):=
 match a with
 | .bref cells=>(l8 P t cells 0).map fun x=>(x,none)
 | .ref k i j=>match getA H k with
  |some A=>(l8 P t (A.row i) j).map fun x=>(x,inB A.ty i A.n)
  |_=>none
 | .pref k v i j z a b=>match getOwn H k v i j with
  |some A=>match Nat.beq z A.A.sz with
   |true=>(l8 P t (A.A.row a) b).map fun x=>(x,some (PfB v A.v i A.n a A.A.n))
   |false=>none
  |none=>none
 |_=>none

def F2(P:Program)(t:TypeId)(n:Nat):Bool:=
 match P.info? t with
 |some i=>Nat.beq i.size n
 |none=>false

def I1(P:Program)(H:Y5)(t:TypeId)(x ix:T):Option (T×Option Prop):=
 match ix with
 | .int _ i=>
  match P.underlying t,x with
  |some (.slice e),.sl sz n row=>match F2 P e sz with
   |true=>some (.bref (row i.toNat),some (W7 i n))
   |false=>none
  |some (.slice e),.bys l=>match F2 P e 1 with
   |true=>some (.bref (M5 l i.toNat),some (W7 i l.length))
   |false=>none
  |some (.slice e),.osl k off n=>match getA H k with
   |some A=>match F2 P e A.sz with
    |true=>some (.ref k (off+i.toNat) 0,some (W7 i n))
    |false=>none
   |_=>none
  |some (.slice e),.posl k v i' j n=>match getOwn H k v i' j with
   |some A=>match F2 P e A.A.sz with
    |true=>some (.pref k v i' j A.A.sz i.toNat 0,some (W7 i n))
    |false=>none
   |_=>none
  |some (.array n e),.bref cells=>match(P.info? e).isSome with
   |true=>some (.bref (cells.drop (i.toNat*P.cellsOf e)),some (W7 i n))
   |false=>none
  |some (.array n e),.ref k r j=>match(P.info? e).isSome with
   |true=>some (.ref k r (j+i.toNat*P.cellsOf e),some (W7 i n))
   |false=>none
  |_,_=>none
 |_=>none

def b8g(P:Program)(t:TypeId)(x:T):Option Int:=
 match P.underlying t,x with
 |some .string,.str l=>some l.length
 |some (.slice _),.bys l=>some l.length
 |some (.slice _),.sl _ n _=>some n
 |some (.slice _),.osl _ _ n=>some n
 |some (.slice _),.posl _ _ _ _ n=>some n
 |some (.slice _),.v (.slice none n _)=>some n
 |some (.slice _),.emp=>some 0
 |_,_=>none

def zeroCells(P:Program)(t:TypeId):Option (List T):=((P.info? t).bind (·.zero)).map fun z=>z.cells.toList.map a80

def V9:T->List T
 | .agg cs=>cs
 |t=>[t]

def O0:T->Bool
 | .agg _| .tup _| .und=>false
 | .v (.agg _)| .v (.tuple _)=>false
 |_=>true

def X4:T->Bool
 | .ref .. | .osl .. | .agg _| .tup _| .fn .. | .mpr _=>false
 | .own .. | .posl .. | .pref .. =>false
 |_=>true

def b71:T->Bool
 | .own .. =>true
 |_=>false

def a85(s:X2)(c a b:Operand):Option T:=
 match P2 s c with
 | .bool cb=>match a,b with
  | .const (.bool true),b=>match P2 s b with
   | .bool y=>some (.bool (cb||y))
   |_=>none
  |a,.const (.bool false)=>match P2 s a with
   | .bool x=>some (.bool (cb&&x))
   |_=>none
  |_,_=>none
 |_=>none

def Le(i n:Nat):Prop:=i<=n

def j5(P:Program)(H:Y5)(src dst:TypeId)(x:T):Option (T×Option Prop):=
 match P.underlying src,P.underlying dst,x with
 |some (.int _),some (.int k),.int _ n=>some (.int k (k.wrap n),none)
 |some .string,some .string,.str l=>some (.str l,none)
 |some (.slice e),some .string,.bys l=>match P.underlying e with
  |some (.int .u8)=>some (.str l,none)
  |_=>none
 |some (.slice e),some .string,.osl k off n=>match P.underlying e,Z4 H k with
  |some (.int .u8),some (.bys _ l)=>some (.str ((l.drop off).take n),some (Le (off+n) l.length))
  |_,_=>none
 |_,_,_=>none

def a3W(P:Program)(t:TypeId)(x:T)(f:Nat):Option T:=
 match a3Q P t f,x with
 |some fd,.agg cs=>l8 P fd.type cs fd.offset
 |_,_=>none

def l6(P:Program)(t:TypeId)(x:T)(f:Nat):Option T:=
 match a3Q P t f with
 |some fd=>match F2 P fd.type (P.cellsOf fd.type),Nat.beq (P.cellsOf fd.type) 0,x with
  |true,false,.ref k i j=>some (.ref k i (j+fd.offset))
  |true,false,.bref cs=>some (.bref (cs.drop fd.offset))
  |_,_,_=>none
 |none=>none

def a8S(P:Program)(t:TypeId)(x i:T):Option (T×Option Prop):=
 match P.underlying t,x,i with
 |some .string,.str l,.int _ i=>some (.int .u8 ((l.getD i.toNat 0).toNat:Int),some (W7 i l.length))
 |some (.array n e),.agg cs,.int _ i=>match F2 P e 1,l8 P e cs i.toNat with
  |true,some x=>some (x,some (W7 i n))
  |_,_=>none
 |_,_,_=>none

def InC(i:Int)(n:Nat):Prop:=0<=i/\i<=n
def d2q(a h:Int)(n:Nat):Prop:=0<=a/\a<=h/\h<=n

def v5(l:List UInt8):Option Int->Option Int->List UInt8
 |none,none=>l
 |none,some h=>l.take h.toNat
 |some a,none=>l.drop a.toNat
 |some a,some h=>(l.take h.toNat).drop a.toNat

def b5Q(n:Nat):Option Int->Option Int->Nat
 |none,none=>n
 |none,some h=>h.toNat
 |some a,none=>n-a.toNat
 |some a,some h=>h.toNat-a.toNat

def d5h(off:Nat):Option Int->Nat
 |none=>off
 |some a=>off+a.toNat

def b52(row:Nat->List T):Option Int->Nat->List T
 |none=>row
 |some a=>fun i=>row (a.toNat+i)

def c0I(n:Nat):Option Int->Option Int->Option Prop
 |none,none=>none
 |none,some h=>some (InC h n)
 |some a,none=>some (InC a n)
 |some a,some h=>some (d2q a h n)

def j4:Option T->Option (Option Int)
 |none=>some none
 |some (.int _ i)=>some (some i)
 |_=>none

def a0s(P:Program)(H:Y5)(t:TypeId)(x:T)(lo hi:Option T):Option (T×Option Prop):=
 match j4 lo,j4 hi with
 |some a,some h=>match P.underlying t,x with
  |some .string,.str l=>some (.str (v5 l a h),c0I l.length a h)
  |some (.slice e),.bys l=>match F2 P e 1 with
   |true=>some (.bys (v5 l a h),c0I l.length a h)
   |false=>none
  |some (.slice e),.sl sz n row=>match F2 P e sz with
   |true=>some (.sl sz (b5Q n a h) (b52 row a),c0I n a h)
   |false=>none
  |some (.slice e),.osl k off n=>match getA H k with
   |some A=>match F2 P e A.sz with
    |true=>some (.osl k (d5h off a) (b5Q n a h),c0I n a h)
    |false=>none
   |none=>none
  |_,_=>none
 |_,_=>none

def a2n:T->Bool
 | .agg _=>true
 |x=>O0 x

def A6(place:Nat->Option (Nat×Nat))(cells:List T):List (Nat×T)->Option (List T)
 | []=>some cells
 |(i,x)::rest=>match place i,a2n x with
  |some (off,size),true=>match Nat.beq (V9 x).length size,Nat.ble (off+(V9 x).length) cells.length with
   |true,true=>A6 place (cells.take off++V9 x++cells.drop (off+(V9 x).length)) rest
   |_,_=>none
  |_,_=>none

def a1s(place:Nat->Option (Nat×Nat))(m:Nat):Nat->List (Nat×T)->Option (List T)
 |n,[]=>match Nat.beq n m with
  |true=>some []
  |false=>none
 |n,(i,x)::rest=>match place i,a2n x with
  |some (off,size),true=>match Nat.beq off n,Nat.beq (V9 x).length size with
   |true,true=>(a1s place m (n+size) rest).map (V9 x++ ·)
   |_,_=>none
  |_,_=>none

def b72(place:Nat->Option (Nat×Nat))(z:List T)(parts:List (Nat×T)):Option (List T):=
 match a1s place z.length 0 parts with
 |some cs=>some cs
 |none=>A6 place z parts

def a3X(P:Program)(s:X2)(t:TypeId)(parts:Array (Nat×Operand)):Option T:=
 match zeroCells P t,P.underlying t with
 |some z,some (.struct fs)=>match fs.toList.all fun f=>(P.info? f.type).isSome with
  |true=>(b72 (fun i=>(fs.toList[i]?).map fun f=>(f.offset,P.cellsOf f.type)) z (parts.toList.map fun p=>(p.1,P2 s p.2))).map .agg
  |false=>none
 |some z,some (.array _ e)=>match(P.info? e).isSome with
  |true=>(b72 (fun i=>some (i*P.cellsOf e,P.cellsOf e)) z (parts.toList.map fun p=>(p.1,P2 s p.2))).map .agg
  |false=>none
 |_,_=>none

def d5w(s:X2)(fn:Fn)(captured:Array Operand):T:=.fn fn (captured.toList.map (P2 s))

def d6j(bo:Bool)(n:Int):T:=match bo with
 |true=>.bool (decide (n≠0))
 |false=>.int .i64 n

def c0D(P:Program)(t:TypeId)(bo:Bool):Bool:=
 match P.underlying t with
 |some (.map kt et)=>match P.underlying kt,(P.info? et).bind (·.zero),bo with
  |some (.int .i64),some (.int .i64 n),false=>decide (n=0)
  |some (.int .i64),some (.bool b),true=> !b
  |_,_,_=>false
 |_=>false

def d1v(P:Program)(t:TypeId):Bool:=
 match P.underlying t with
 |some (.int .i64)=>Nat.beq (P.cellsOf t) 1
 |_=>false

def a9D(P:Program)(kt:TypeId):Bool:=
 match P.underlying kt with
 |some (.struct fs)=>match fs.toList with
  | [f0,f1]=>f0.name != "_" &&f1.name != "_" &&Nat.beq f0.offset 0&&Nat.beq f1.offset 1&&d1v P f0.type&&d1v P f1.type&&Nat.beq (P.cellsOf kt) 2&& !Nat.beq P.types.size 0
  |_=>false
 |_=>false

def b0G(P:Program)(t:TypeId):Bool:=
 match P.underlying t with
 |some (.map kt et)=>match(P.info? et).bind (·.zero) with
  |some (.bool b)=> !b&&P.keyTypeAt 2 kt&&P.tiled 2 kt&&P.keyType kt&&a9D P kt
  |_=>false
 |_=>false

def a20(P:Program)(H:Y5)(t:TypeId)(m k:T):Option (T×Option Prop):=
 match m,k with
 | .mpr j,.int .i64 n=>match Z4 H j with
  |some (.mp bo get)=>match c0D P t bo with
   |true=>some (d6j bo (get n),none)
   |false=>none
  |_=>none
 | .mpr j,.agg [.int .i64 a,.int .i64 b]=>match Z4 H j with
  |some (.mp2 get)=>match b0G P t with
   |true=>some (.bool (get a b),some (X6 .i64 a/\X6 .i64 b))
   |false=>none
  |_=>none
 |_,_=>none

def d6s(bo:Bool):T->Option Int
 | .int .i64 n=>match bo with|false=>some n|true=>none
 | .bool b=>match bo with|true=>some (cond b 1 0)|false=>none
 |_=>none

def a8r(P:Program)(H:Y5)(t:TypeId)(m k x:T):Option Y5:=
 match m,k with
 | .mpr j,.int .i64 n=>match Z4 H j with
  |some (.mp bo get)=>match c0D P t bo,d6s bo x with
   |true,some v=>some (H.set j (some (.mp bo fun i=>cond (decide (i=n)) v (get i))))
   |_,_=>none
  |_=>none
 |_,_=>none

def a2q(P:Program)(H:Y5)(t:TypeId)(m k x:T):Option (Y5×Option Prop):=
 match m,k,x with
 | .mpr j,.agg [.int .i64 a,.int .i64 b],.bool v=>match Z4 H j with
  |some (.mp2 get)=>match b0G P t with
   |true=>some (H.set j (some (.mp2 fun a' b'=>cond (decide (a'=a/\b'=b)) v (get a' b'))),some (X6 .i64 a/\X6 .i64 b))
   |false=>none
  |_=>none
 |_,_,_=>none

def a0e(P:Program)(H:Y5)(t:TypeId):Option (T×Y5):=
 match c0D P t true,c0D P t false with
 |true,_=>some (.mpr H.length,H++[some (.mp true fun _=>0)])
 |_,true=>some (.mpr H.length,H++[some (.mp false fun _=>0)])
 |_,_=>match b0G P t with
  |true=>some (.mpr H.length,H++[some (.mp2 fun _ _=>false)])
  |false=>none

def d4H(op:UnOp)(x:T):Option (T×Option Prop):=
 match op,x with
 | .not,.bool b=>some (.bool (!b),none)
 | .neg,.int k n=>some (.int k (0-n),some (X6 k (0-n)))
 |_,_=>none

def a04(x:T)(i:Nat):Option T:=
 match x with
 | .tup cs=>cs[i]?
 |_=>none

def Q0(P:Program)(s:X2)(H:Y5)(op:Op):Option (T×Option Prop):=
 match op with
 | .move x| .assign x=>some (P2 s x,none)
 | .pick c a b=>(a85 s c a b).map (·,none)
 | .load t a=>s6 P H t (P2 s a)
 | .nilCheck x=>match P2 s x with
  | .ref k i j=>some (.ref k i j,none)
  | .bref cs=>some (.bref cs,none)
  |_=>none
 | .binOp op t x y _=>c49 P op t (P2 s x) (P2 s y)
 | .unOp op _ x=>d4H op (P2 s x)
 | .convert src dst x=>j5 P H src dst (P2 s x)
 | .fieldAddr t x f=>(l6 P t (P2 s x) f).map (·,none)
 | .field t x f=>(a3W P t (P2 s x) f).map (·,none)
 | .indexAddr t x i=>I1 P H t (P2 s x) (P2 s i)
 | .index t x i=>a8S P t (P2 s x) (P2 s i)
 | .extract x i=>(a04 (P2 s x) i).map (·,none)
 | .call {callee:=.builtin .len,args,argTypes}=>match args.toList,argTypes.toList with
  | [x],[t]=>(b8g P t (P2 s x)).map fun n=>(.int .i64 n,none)
  |_,_=>none
 | .slice t x lo hi none=>a0s P H t (P2 s x) (lo.map (P2 s)) (hi.map (P2 s))
 | .build t parts=>(a3X P s t parts).map (·,none)
 | .makeFunc fn first captured=>match first.toList with
  | []=>some (d5w s fn captured,none)
  |_=>none
 | .lookup t m k false=>a20 P H t (P2 s m) (P2 s k)
 |_=>none

def O4(n:Int):UInt8:=UInt8.ofNat n.toNat

def a1V:List T->Option (List Int)
 | []=>some []
 | .int .u8 n::r=>(a1V r).map (n:: ·)
 |_=>none

def c34:List Int->Option Prop
 | []=>none
 |n::r=>match c34 r with
  |none=>some (X6 .u8 n)
  |some p=>some (X6 .u8 n/\p)

def B0(P:Program)(e:TypeId):Bool:=
 match P.underlying e,zeroCells P e with
 |some (.int .u8),some [.int .u8 n]=>decide (n=0)
 |_,_=>false

def J8(a b c:Nat):Prop:=a*b<=c

def a7o(P:Program)(H:Y5)(t:TypeId)(l c:T):Option (T×Y5×Option Prop):=
 match P.underlying t,l,c with
 |some (.slice e),.int .i64 n,.int .i64 m=>match P.info? e,zeroCells P e with
  |some i,some z=>match Nat.beq z.length i.size,Nat.beq i.size 0,z.all O0 with
   |true,false,true=>some (.osl H.length 0 n.toNat,H++[some (match B0 P e with
     |true=>.bys e (List.replicate n.toNat 0)
     |false=>.arr (z.all X4) e i.size n.toNat fun _=>z)],some (Nn n/\LeI n m/\J8 i.bytes m.toNat 140737488355328/\Lt m.toNat 9223372036854775808))
   |_,_,_=>none
  |_,_=>none
 |_,_,_=>none

def w5(P:Program)(s:X2)(H:Y5)(t:TypeId)(len:Nat)(parts:Array (Nat×Operand)):Option (T×Y5×Option Prop):=
 match P.underlying t with
 |some (.slice e)=>match P.info? e,zeroCells P e with
  |some i,some z=>match Nat.beq z.length i.size,Nat.beq i.size 0,Nat.ble (len*i.size) 16777216 with
   |true,false,true=>match A6 (fun k=>some (k*i.size,i.size)) ((List.replicate len z).flatten) (parts.toList.map fun p=>(p.1,P2 s p.2)) with
    |some cs=>match B0 P e with
     |true=>(a1V cs).map fun ns=>(.osl H.length 0 len,H++[some (.bys e (ns.map O4))],c34 ns)
     |false=>match cs.all O0 with
      |true=>some (.osl H.length 0 len,H++[some (.arr (cs.all X4) e i.size len fun k=>(cs.drop (k*i.size)).take i.size)],none)
      |false=>none
    |none=>none
   |_,_,_=>none
  |_,_=>none
 |_=>none

def sel(b:Bool)(x y:T):T:=match b with|true=>x|false=>y
def d7o(b:Bool)(x y:Nat->List T)(i:Nat):List T:=match b with|true=>x i|false=>y i

def mrg(b:Bool)(x y:T):T:=
 match x,y with
 | .int k n,.int k' m=>match decide (k=k') with
  |true=>.int k (cond b n m)
  |false=>sel b (.int k n) (.int k' m)
 | .bool p,.bool q=>.bool (cond b p q)
 | .str l,.str m=>.str (cond b l m)
 | .own ty sz n row,.own ty' sz' n' row'=>match decide (ty=ty'),decide (sz=sz') with
  |true,true=>.own ty sz (cond b n n') (d7o b row row')
  |_,_=>sel b (.own ty sz n row) (.own ty' sz' n' row')
 |x,y=>sel b x y

def c78(b:Bool):List T->List T->List T
 |x::xs,o::os=>mrg b x o::c78 b xs os
 | [],os=>os
 |_::_,[]=>[]

def c5k(b:Bool):Nat->List T->List T->List T
 |0,xs,os=>c78 b xs os
 |j+1,xs,o::os=>o::c5k b j xs os
 |_+1,_,[]=>[]

def setRow(row:Nat->List T)(i j:Nat)(cs:List T)(k:Nat):List T:=c5k (Nat.beq k i) j cs (row k)

def closedOne(t:T):Bool:=X4 t&&O0 t

def d68(cs:List T):Bool:=cs.all fun t=> !b71 t
def c3z(i n:Nat)(cs:List T):Prop:=i<n/\d68 cs=true

structure Abs where
 cs:List T
 ks:List Nat
 side:Option Prop

def a1K(H:Y5):List T->Option Abs
 | []=>some ⟨[],[],none⟩
 | .osl m off n::r=>match off,Z4 H m,a1K H r with
  |0,some (.arr true ty sz N row),some A=>some ⟨.own ty sz n row::A.cs,m::A.ks,some (match A.side with|none=>Le n N|some p=>Le n N/\p)⟩
  |_,_,_=>none
 |t::r=>match closedOne t,a1K H r with
  |true,some A=>some ⟨t::A.cs,A.ks,A.side⟩
  |_,_=>none

def L4:Y5->List Nat->Y5
 |H,[]=>H
 |H,k::r=>L4 (H.set k none) r

def a2W:List Nat->Bool
 | []=>true
 |x::r=>r.all (fun y=> !Nat.beq x y)&&a2W r

def ltS(i n:Nat):Option Prop->Prop
 |none=>i<n
 |some p=>i<n/\p

def a09(P:Program)(H:Y5)(t:TypeId)(a x:T):Option (Y5×Option Prop):=
 match a with
 | .pref k v i j z a b=>match Z4 H k,getOwn H k v i j,F2 P t (V9 x).length,a2n x,(V9 x).all closedOne with
  |some (.fam v' ty sz n row),some A,true,true,true=>match Nat.beq z A.A.sz,Nat.ble (b+(V9 x).length) A.A.sz with
   |true,true=>some (H.set k (some (.fam v' ty sz n (setRow row i j [.own A.A.ty A.A.sz A.A.n (setRow A.A.row a b (V9 x))]))),some (PfB v v' i n a A.A.n))
   |_,_=>none
  |_,_,_,_,_=>none
 | .ref k i j=>match Z4 H k,F2 P t (V9 x).length,a2n x,(V9 x).all O0 with
  |some (.arr cl ty sz n row),true,true,true=>match Nat.ble (j+(V9 x).length) sz with
   |true=>some (H.set k (some (.arr (cl&&(V9 x).all X4) ty sz n (setRow row i j (V9 x)))),inB ty i n)
   |false=>none
  |some (.bys ty l),true,true,true=>match x,j with
   | .int .u8 m,0=>some (H.set k (some (.bys ty (l.set i (O4 m)))),some (Lt i l.length/\X6 .u8 m))
   |_,_=>none
  |some (.fam v ty sz n row),true,true,true=>match Nat.ble (j+(V9 x).length) sz with
   |true=>match(V9 x).all closedOne with
    |true=>some (H.set k (some (.fam v ty sz n (setRow row i j (V9 x)))),some (c3z i n (((row i).drop j).take (V9 x).length)))
    |false=>match a1K H (V9 x) with
     |some A=>match a2W (k::A.ks) with
      |true=>some ((L4 H A.ks).set k (some (.fam (v+1) ty sz n (setRow row i j A.cs))),some (ltS i n A.side))
      |false=>none
     |none=>none
   |false=>none
  |_,_,_,_=>none
 |_=>none

def a6I(_P:Program)(H:Y5)(t:TypeId)(cs:List T):Option (T×Y5×Option Prop):=
 match Nat.beq cs.length 0,cs.all O0 with
 |false,true=>some (.ref H.length 0 0,H++[some (.arr (cs.all X4) 1000000 cs.length 1 fun _=>cs)],none)
 |_,_=>none

structure Sr where
 cl:Bool
 n:Nat
 row:Nat->List T
 side:Option Prop

def a0N(row:Nat->List T):Nat->Nat->List T
 |0=>row
 |off=>fun i=>row (off+i)

def a0u(off n m:Nat):Option Prop:=some (Le (off+n) m)

def a0P(H:Y5)(d:Option TypeDesc)(sz:Nat)(x:T):Option Sr:=
 match d,x with
 |some (.slice _),.sl sz' n row=>match Nat.beq sz sz' with
  |true=>some ⟨true,n,row,none⟩
  |false=>none
 |some (.slice _),.v (.slice none 0 0)=>some ⟨true,0,fun _=>[],none⟩
 |some (.slice _),.osl k off n=>match Z4 H k with
  |some (.arr cl _ sz' m row)=>match Nat.beq sz sz' with
   |true=>some ⟨cl,n,a0N row off,a0u off n m⟩
   |false=>none
  |_=>none
 |_,_=>none

def c0y(H:Y5)(d:Option TypeDesc)(x:T):Option (List UInt8×Option Prop):=
 match d,x with
 |some .string,.str l=>some (l,none)
 |some (.slice _),.bys l=>some (l,none)
 |some (.slice _),.v (.slice none 0 0)=>some ([],none)
 |some (.slice _),.osl k off n=>match Z4 H k with
  |some (.bys _ l)=>some ((l.drop off).take n,some (Le (off+n) l.length))
  |_=>none
 |_,_=>none

def a9m:Option Prop->Prop->Prop
 |none,q=>q
 |some p,q=>p/\q

def W4(row:Nat->List T)(n:Nat)(row':Nat->List T)(i:Nat):List T:=
 match Nat.blt i n with
 |true=>row i
 |false=>row' (i-n)

def V6(n m bytes:Nat):Prop:=(n+m)*bytes<=140737488355328/\n+m<=9223372036854775807

structure SrF where
 n:Nat
 row:Nat->List T
 ks:List Nat
 side:Option Prop

def d2T(H:Y5)(sz:Nat)(x:T):Option SrF:=
 match x with
 | .osl k off n=>match Z4 H k with
  |some (.arr true _ sz' m row)=>match Nat.beq sz sz' with
   |true=>some ⟨n,a0N row off,[],a0u off n m⟩
   |false=>none
  |some (.arr false _ sz' m row)=>match Nat.beq sz sz',off,n,m with
   |true,0,1,1=>match a1K H (row 0) with
    |some A=>some ⟨1,fun _=>A.cs,A.ks,A.side⟩
    |none=>none
   |_,_,_,_=>none
  |_=>none
 |_=>none

def a2i(P:Program)(H:Y5)(t tx:TypeId)(d x:T):Option (T×Y5×Option Prop):=
 match P.underlying t with
 |some (.slice e)=>match P.info? e,zeroCells P e with
  |some i,some z=>match Nat.beq z.length i.size,Nat.beq i.size 0,d with
   |true,false,.v (.slice none 0 0)=>match B0 P e with
    |true=>(c0y H (P.underlying tx) x).map fun s=>(.osl H.length 0 s.1.length,H++[some (.bys e s.1)],some (a9m s.2 (Lt 0 s.1.length/\V6 0 s.1.length i.bytes)))
    |false=>(a0P H (P.underlying tx) i.size x).map fun s=>(.osl H.length 0 s.n,H++[some (.arr s.cl e i.size s.n s.row)],some (a9m s.side (Lt 0 s.n/\V6 0 s.n i.bytes)))
   |true,false,.emp=>match B0 P e with
    |true=>none
    |false=>(a0P H (P.underlying tx) i.size x).map fun s=>(.osl H.length 0 s.n,H++[some (.arr s.cl e i.size s.n s.row)],some (a9m s.side (V6 0 s.n i.bytes)))
   |true,false,.osl k 0 n=>match Z4 H k with
    |some (.bys _ l)=>match B0 P e with
     |true=>(c0y H (P.underlying tx) x).map fun s=>(.osl H.length 0 (n+s.1.length),H.set k none++[some (.bys e (l.take n++s.1))],some (a9m s.2 (Le n l.length/\V6 n s.1.length i.bytes)))
     |false=>none
    |some (.arr cl _ sz N row)=>match Nat.beq sz i.size with
     |true=>(a0P H (P.underlying tx) i.size x).map fun s=>(.osl H.length 0 (n+s.n),H.set k none++[some (.arr (cl&&s.cl) e i.size (n+s.n) (W4 row n s.row))],some (a9m s.side (Le n N/\V6 n s.n i.bytes)))
     |false=>none
    |some (.fam _ _ sz N row)=>match Nat.beq sz i.size,P.underlying tx,d2T H i.size x with
     |true,some (.slice _),some s=>match a2W (k::s.ks) with
      |true=>some (.osl H.length 0 (n+s.n),L4 H (k::s.ks)++[some (.fam 0 e i.size (n+s.n) (W4 row n s.row))],some (a9m s.side (Le n N/\V6 n s.n i.bytes)))
      |false=>none
     |_,_,_=>none
    |_=>none
   |_,_,_=>none
  |_,_=>none
 |_=>none

def b7I:T->Bool
 | .sl .. | .osl .. | .posl .. | .v (.slice none 0 0)=>true
 |_=>false

def isZ:T->Bool
 | .int _ i=>decide (i=0)
 |_=>false

def d7q:Option T->Bool
 |none=>true
 |some t=>isZ t

def a2c(P:Program)(H:Y5)(t:TypeId)(x:T)(lo:Option T)(hi mx:T):Option (T×Y5×Option Prop):=
 match P.underlying t,b7I x&&d7q lo&&isZ hi&&isZ mx with
 |some (.slice e),true=>match P.info? e with
  |some i=>match Nat.beq i.size 0,F2 P e i.size with
   |false,true=>some (.osl H.length 0 0,H++[some (.arr true e i.size 0 fun _=>[])],none)
   |_,_=>none
  |none=>none
 |_,_=>none

def O1(row:Nat->List T)(off n:Nat)(z:List T)(j:Nat):List T:=
 match Nat.ble off j&&Nat.blt j (off+n) with
 |true=>z
 |false=>row j

def a7g(P:Program)(H:Y5)(t:TypeId)(x:T):Option (T×Y5×Option Prop):=
 match P.underlying t,x with
 |some (.slice e),.osl k off n=>match P.info? e,zeroCells P e,Z4 H k with
  |some i,some z,some (.arr true ty sz N row)=>match Nat.beq z.length i.size&&Nat.beq sz i.size&& !Nat.beq i.size 0&&z.all closedOne with
   |true=>some (.und,H.set k (some (.arr true ty sz N (O1 row off n z))),some (Le (off+n) N))
   |false=>none
  |_,_,_=>none
 |_,_=>none

def H3(P:Program)(s:X2)(H:Y5)(op:Op):Option (T×Y5×Option Prop):=
 match op with
 | .box t x=>match a2n (P2 s x) with
  |true=>a6I P H t (V9 (P2 s x))
  |false=>none
 | .alloc t=>match zeroCells P t with
  |some z=>a6I P H t z
  |none=>none
 | .store t a x=>(a09 P H t (P2 s a) (P2 s x)).map fun r=>(.und,r.1,r.2)
 | .makeSlice t l c=>a7o P H t (P2 s l) (P2 s c)
 | .buildSlice t len parts=>w5 P s H t len parts
 | .convert src dst x=>match P.underlying src,P.underlying dst,P2 s x with
  |some .string,some (.slice e),.str l=>match B0 P e with
   |true=>some (.bys l,H,some (Lt l.length 140737488355329))
   |false=>none
  |_,_,_=>none
 | .call {callee:=.builtin .append,args,argTypes}=>match args.toList,argTypes.toList with
  | [d,x],[t,tx]=>a2i P H t tx (P2 s d) (P2 s x)
  |_,_=>none
 | .makeMap t none=>(a0e P H t).map fun r=>(r.1,r.2,none)
 | .mapUpdate t m k x=>match a8r P H t (P2 s m) (P2 s k) (P2 s x) with
  |some r=>some (.und,r,none)
  |none=>(a2q P H t (P2 s m) (P2 s k) (P2 s x)).map fun r=>(.und,r.1,r.2)
 | .slice t x lo (some hi) (some mx)=>a2c P H t (P2 s x) (lo.map (P2 s)) (P2 s hi) (P2 s mx)
 | .call {callee:=.builtin .clear,args,argTypes}=>match args.toList,argTypes.toList with
  | [x],[t]=>a7g P H t (P2 s x)
  |_,_=>none
 |_=>none

def Q9{α β:Type}(f:α->Option β):List α->Option (List β)
 | []=>some []
 |a::r=>match f a,Q9 f r with
  |some b,some q=>some (b::q)
  |_,_=>none

def a2m:Option Prop->Option Prop->Option Prop
 |none,q=>q
 |p,none=>p
 |some p,some q=>some (p/\q)

def f9:List (T×Option Prop)->Option Prop
 | []=>none
 |x::r=>a2m x.2 (f9 r)

def d41:T->T
 | .own _ sz n row=>.sl sz n row
 |t=>t

def a9X(row:Nat->List T)(i:Nat):List T:=(row i).map d41

def PoB(v v' i n a m:Nat):Prop:=v=v'/\i<n/\a<=m

def Q3(b:Nat)(H:Y5):Nat->T->Option (T×Option Prop)
 |0,_=>none
 |d+1,t=>match t with
  | .ref k i j=>match Nat.blt k b with
   |true=>some (.ref k i j,none)
   |false=>match getA H k with
    |some A=>match i,A.n with
     |0,1=>match Q9 (Q3 b H d) ((A.row 0).drop j) with
      |some cs=>match cs.all fun x=>X4 x.1 with
       |true=>some (.bref (cs.map (·.1)),f9 cs)
       |false=>none
      |none=>none
     |_,_=>none
    |none=>none
  | .osl k off n=>match Nat.blt k b with
   |true=>some (.osl k off n,none)
   |false=>match Z4 H k with
    |some (.arr true _ sz m row)=>some (.sl sz n (a0N row off),a0u off n m)
    |some (.fam _ _ sz m row)=>some (.sl sz n (a9X (a0N row off)),a0u off n m)
    |some (.bys _ l)=>some (.bys ((l.drop off).take n),some (Le (off+n) l.length))
    |_=>none
  | .agg cs=>(Q9 (Q3 b H d) cs).map fun cs=>(.agg (cs.map (·.1)),f9 cs)
  | .fn f cs=>(Q9 (Q3 b H d) cs).map fun cs=>(.fn f (cs.map (·.1)),f9 cs)
  | .tup cs=>(Q9 (Q3 b H d) cs).map fun cs=>(.tup (cs.map (·.1)),f9 cs)
  | .mpr _=>none
  | .posl k v i j n=>match Nat.blt k b with
   |true=>some (.posl k v i j n,none)
   |false=>match getOwn H k v i j with
    |some A=>some (.sl A.A.sz n A.A.row,some (PoB v A.v i A.n n A.A.n))
    |none=>none
  | .pref k v i j z a c=>match Nat.blt k b with
   |true=>some (.pref k v i j z a c,none)
   |false=>none
  | .own .. =>none
  |t=>some (t,none)

def closedD:Nat->T->Bool
 |0,_=>false
 |d+1,t=>match t with
  | .agg cs=>cs.all (closedD d)
  | .fn _ cs=>cs.all (closedD d)
  | .tup cs=>cs.all (closedD d)
  | .und=>false
  |t=>X4 t

def a1M:Nat->T->Bool
 |0,_=>false
 |d+1,t=>match t with
  | .int .. | .bool _| .str _=>true
  | .agg cs=>cs.all (a1M d)
  | .tup cs=>cs.all (a1M d)
  |_=>false

structure Rl where
 (ι:Type)
 (args:ι->List T)
 (res:ι->T)
 (side:ι->Prop)

structure Rle where
 (ι:Type)
 (args:ι->List T)
 (pre:ι->Y5)
 (res:ι->T)
 (post:ι->Y5)
 (side:ι->Prop)

inductive Con where
 |pure (c:List T->Option (T×Option Prop))
 |eff (c:List T->Y5->Option (T×Y5×Option Prop))
 |rel (r:Rl)
 |mk (c:List T->Option (T×Y5×Option Prop))
 |reff (r:Rle)
 |rmk (r:Rle)
 |fz (c:List T->Option (T×Option Prop))
 |rfz (r:Rl)
 |tmp

abbrev K8:=List (FuncId×Con)

def gam:K8->FuncId->List T->Option (T×Option Prop)
 | [],_,_=>none
 |(g,c)::r,f,args=>match Nat.beq f g with
  |true=>match c with| .pure c=>c args|_=>none
  |false=>gam r f args

def a3x:K8->FuncId->Option (List T->Y5->Option (T×Y5×Option Prop))
 | [],_=>none
 |(g,c)::r,f=>match Nat.beq f g with
  |true=>match c with| .eff c=>some c|_=>none
  |false=>a3x r f

def gmk:K8->FuncId->Option (List T->Option (T×Y5×Option Prop))
 | [],_=>none
 |(g,c)::r,f=>match Nat.beq f g with
  |true=>match c with| .mk c=>some c|_=>none
  |false=>gmk r f

def gfz:K8->FuncId->Option (List T->Option (T×Option Prop))
 | [],_=>none
 |(g,c)::r,f=>match Nat.beq f g with
  |true=>match c with| .fz c=>some c|_=>none
  |false=>gfz r f

def Con.isRel:Con->Bool
 | .rel _| .reff _| .rmk _| .rfz _=>true
 |_=>false

def Con.isEff:Con->Bool
 | .eff _| .mk _| .reff _| .rmk _| .fz _| .rfz _=>true
 |_=>false

def Con.isMk:Con->Bool
 | .mk _| .rmk _=>true
 |_=>false

def s5:K8->FuncId->Option Con
 | [],_=>none
 |(g,c)::r,f=>match Nat.beq f g with
  |true=>some c
  |false=>s5 r f

def d04(G:K8)(f:FuncId):Option Con:=
 match s5 G f with
 |some c=>match c.isRel with
  |true=>some c
  |false=>none
 |none=>none

def a9k(P:Program)(s:X2)(t:TypeId)(len:Nat)(parts:Array (Nat×Operand)):Option (T×Option Prop):=
 match P.underlying t with
  |some (.slice e)=>match P.info? e,zeroCells P e with
   |some i,some z=>match Nat.beq z.length i.size,Nat.beq i.size 0,Nat.ble (len*i.size) 16777216 with
    |true,false,true=>match A6 (fun k=>some (k*i.size,i.size)) ((List.replicate len z).flatten) (parts.toList.map fun p=>(p.1,P2 s p.2)) with
     |some cs=>match B0 P e,cs.all O0,cs.all X4 with
      |false,true,true=>some (.sl i.size len (fun k=>(cs.drop (k*i.size)).take i.size),none)
      |_,_,_=>none
     |none=>none
    |_,_,_=>none
   |_,_=>none
  |_=>none

def b7W(P:Program)(s:X2):Op->Option (T×Option Prop)
 | .buildSlice t 0 parts=>match P.underlying t,parts.toList with
  |some (.slice e),[]=>match P.info? e,zeroCells P e with
   |some i,some z=>match Nat.beq z.length i.size,Nat.beq i.size 0 with
    |true,false=>some (.emp,none)
    |_,_=>none
   |_,_=>none
  |_,_=>none
 | .call {callee:=.builtin .append,args,argTypes}=>match args.toList,argTypes.toList with
  | [d,x],[t,tx]=>match P2 s d,P.underlying t with
   | .emp,some (.slice e)=>match P.info? e,zeroCells P e with
    |some i,some z=>match Nat.beq z.length i.size,a0P [] (P.underlying tx) i.size (P2 s x) with
     |true,some q=>match q.cl with
      |true=>some (.sl i.size q.n q.row,some (a9m q.side (V6 0 q.n i.bytes)))
      |false=>none
     |_,_=>none
    |_,_=>none
   |_,_=>none
  |_,_=>none
 | .buildSlice t (n+1) parts=>a9k P s t (n+1) parts
 |_=>none

def b3O:K8->Nat
 | []=>0
 |(_,.tmp)::r=>b3O r+1
 |_::r=>b3O r

def a1G(G:K8):Op->Bool
 | .buildSlice _ (_+1) _=>Nat.ble 1 (b3O G)
 | .buildSlice _ 0 _=>Nat.ble 2 (b3O G)
 | .call {callee:=.builtin .append, .. }=>Nat.ble 3 (b3O G)
 |_=>false

def anyEff:K8->Bool
 | []=>false
 |(_,c)::r=>c.isEff||anyEff r

def isEff(G:K8):Operand->Bool
 | .func f=>match s5 G f with
  |some c=>c.isEff
  |none=>false
 |_=>anyEff G

def isMk(G:K8):Operand->Bool
 | .func f=>match s5 G f with
  |some c=>c.isMk
  |none=>false
 |_=>false

def U6(ρ:Nat->Option Nat):Nat->T->Option T
 |0,_=>none
 |d+1,t=>match t with
  | .ref k i j=>(ρ k).map fun m=>.ref m i j
  | .osl k off n=>(ρ k).map fun m=>.osl m off n
  | .mpr k=>(ρ k).map .mpr
  | .posl k v i j n=>(ρ k).map fun m=>.posl m v i j n
  | .pref k v i j z a b=>(ρ k).map fun m=>.pref m v i j z a b
  | .agg cs=>(Q9 (U6 ρ d) cs).map .agg
  | .tup cs=>(Q9 (U6 ρ d) cs).map .tup
  | .fn f cs=>(Q9 (U6 ρ d) cs).map (.fn f)
  |t=>some t

def obF(ρ:Nat->Option Nat)(ob:Ob):Option Ob:=
 match ob with
 | .bys ty l=>some (.bys ty l)
 | .fam v ty sz n row=>some (.fam v ty sz n row)
 | .arr true ty sz n row=>some (.arr true ty sz n row)
 | .arr false ty sz n row=>match n with
  |1=>(Q9 (U6 ρ 6) (row 0)).map fun r=>.arr false ty sz 1 fun _=>r
  |_=>none
 | .mp bo get=>some (.mp bo get)
 | .mp2 get=>some (.mp2 get)

def memN(k:Nat):List Nat->Bool
 | []=>false
 |x::r=>Nat.beq k x||memN k r

def a7K:List Nat->Bool
 | []=>true
 |x::r=> !memN x r&&a7K r

def a5u:List T->List Nat
 | []=>[]
 | .ref k _ _::r=>k::a5u r
 | .osl k _ _::r=>k::a5u r
 | .agg cs::r=>idsA cs++a5u r
 | .fn _ cs::r=>idsA cs++a5u r
 |_::r=>a5u r
where
 idsA:List T->List Nat
 | []=>[]
 | .ref k _ _::r=>k::idsA r
 | .osl k _ _::r=>k::idsA r
 |_::r=>idsA r

def d7m:Option Ob->List Nat
 |some (.arr false _ _ 1 row)=>a5u (row 0)
 |_=>[]

def a4t(H:Y5):Nat->List Nat->List Nat->List Nat
 |0,_,S7=>S7
 |_+1,[],S7=>S7
 |d+1,k::r,S7=>match memN k S7 with
  |true=>a4t H d r S7
  |false=>a4t H d (d7m (Z4 H k)++r) (S7++[k])

def A4(k:Nat):List Nat->Nat->Option Nat
 | [],_=>none
 |x::r,i=>match Nat.beq k x with
  |true=>some i
  |false=>A4 k r (i+1)

def a5h:List Nat->Nat->Option Nat
 | [],_=>none
 |k::_,0=>some k
 |_::r,i+1=>a5h r i

def b3g(ks:List Nat)(len i:Nat):Option Nat:=
 match a5h ks i with
 |some k=>some k
 |none=>some (len+(i-ks.length))

def H6:Y5->List Nat->List (Option Ob)->Y5
 |H,k::ks,o::os=>H6 (H.set k o) ks os
 |H,_,_=>H

def obB(ρ:Nat->Option Nat):Option Ob->Option (Option Ob)
 |none=>some none
 |some ob=>(obF ρ ob).map some

def a2p(c:List T->Y5->Option (T×Y5×Option Prop))(H:Y5)(ks:List Nat)(args:List T):Option (T×Y5×Option Prop):=
 match a7K ks,Q9 (U6 (fun k=>A4 k ks 0) 6) args,Q9 (fun k=>(Z4 H k).bind (obF fun k=>A4 k ks 0)) ks with
 |true,some as,some obs=>match c as (obs.map some) with
  |some (r,H',p)=>match Nat.ble ks.length H'.length,U6 (b3g ks H.length) 6 r,Q9 (obB (b3g ks H.length)) H' with
   |true,some r',some os=>some (r',H6 H ks os++os.drop ks.length,p)
   |_,_,_=>none
  |none=>none
 |_,_,_=>none

def no0:Nat->Option Nat
 |0=>none
 |k+1=>some (k+1)

def d6J:Nat->Nat->List Nat
 |_,0=>[]
 |i,n+1=>i::d6J (i+1) n

def okA(t:T):Bool:=
 match t with
 | .ref 0 0 _=>true
 |t=>match U6 no0 6 t with
  |some _=>true
  |none=>false

def c9F:Y5->Nat
 |some (.arr _ _ sz _ _)::_=>sz
 |_=>0

def d0H(c:List T->Y5->Option (T×Y5×Option Prop))(sz n:Nat)(H:Y5)(as:List T):Option (T×Y5×Option Prop):=
 match H with
 |some (.arr false ty szW m row)::rest=>match m,Q9 (obB no0) rest,Q9 (U6 no0 6) (row 0),as.all okA&&Nat.ble sz szW with
  |1,some rest0,some cs,true=>match a2p c (some (.arr false ty sz 1 fun _=>cs.take sz)::rest0) (d6J 0 n) as with
   |some (r,some (.arr _ ty' sz' m' row')::rest',p)=>match m',Nat.beq sz' sz,U6 no0 6 r,Q9 (obB no0) rest',Q9 (U6 no0 6) (row' 0) with
    |1,true,some r',some rest2,some cs'=>some (r',some (.arr false ty' szW 1 fun _=>cs'++cs.drop sz)::rest2,p)
    |_,_,_,_,_=>none
   |_=>none
  |_,_,_,_=>none
 |_=>none

def O2(ks:List Nat):Y5->Nat->Y5
 | [],_=>[]
 |o::r,i=>(match memN i ks with|true=>o|false=>none)::O2 ks r (i+1)

def d1u(c:List T->Option (T×Option Prop))(H:Y5)(ks:List Nat)(args:List T):Option (T×Y5×Option Prop):=
 match Q9 (Q3 0 (O2 ks H 0) 6) args with
 |some bs=>match c (bs.map (·.1)) with
  |some (r,p)=>some (r,L4 H ks,a2m (f9 bs) p)
  |none=>none
 |none=>none

def a7m(c:List T->Option (T×Y5×Option Prop))(H:Y5)(args:List T):Option (T×Y5×Option Prop):=
 match Q9 (Q3 0 H 6) args with
 |some bs=>match c (bs.map (·.1)) with
  |some (r,H',p)=>match U6 (fun k=>some (H.length+k)) 6 r,Q9 (obB fun k=>some (H.length+k)) H' with
   |some r',some os=>some (r',H++os,a2m (f9 bs) p)
   |_,_=>none
  |none=>none
 |none=>none

def a0h(t:T):Bool:=
 match t with
 | .int .. | .bool _| .str _| .v _=>true
 |_=>false

def d6O(v v' i n a m m':Nat)(row:Nat->List T):Prop:=v=v'/\i<n/\a<=m/\m'=m/\∀r,r<m'->∀t ∈ row r,a0h t=true

def c5P(c:List T->Y5->Option (T×Y5×Option Prop))(H:Y5)(args:List T):Option (T×Y5×Option Prop):=
 match args with
 | .posl k v i j n::rest=>match rest.all (closedD 6),Z4 H k,getOwn H k v i j with
  |true,some (.fam v' ty sz N row),some A=>match c (.osl 0 0 n::rest) [some (.arr true A.A.ty A.A.sz A.A.n A.A.row)] with
   |some (r,[some (.arr true _ sz' n' row')],p)=>match a1M 6 r,Nat.beq sz' A.A.sz with
    |true,true=>some (r,H.set k (some (.fam v' ty sz N (setRow row i j [.own A.A.ty sz' n' row']))),a2m p (some (d6O v v' i N n A.A.n n' row')))
    |_,_=>none
   |_=>none
  |_,_,_=>none
 |_=>none

def a1n(G:K8)(H:Y5)(f:FuncId)(args:List T):Option (T×Y5×Option Prop):=
 match a3x G f with
 |some c=>match args with
  | .posl .. ::_=>c5P c H args
  |_=>a2p c H (a4t H 64 (a5u args) []) args
 |none=>match gmk G f with
  |some c=>a7m c H args
  |none=>match gfz G f with
   |some c=>d1u c H (a4t H 64 (a5u args) []) args
   |none=>none

def a73(s:X2):Operand->Option (FuncId×List T)
 | .func f=>some (f,[])
 |x=>match P2 s x with
  | .fn (.func f) cs=>some (f,cs)
  | .v (.func (.func f) first caps)=>match first.toList,caps.toList with
   | [],[]=>some (f,[])
   |_,_=>none
  |_=>none

def y5(G:K8)(H:Y5)(f:FuncId)(args:List T):Option (T×Option Prop):=
 match args.all (closedD 6) with
 |true=>gam G f args
 |false=>match Q9 (Q3 0 H 6) args with
  |some bs=>match gam G f (bs.map (·.1)) with
   |some (r,p)=>match a1M 6 r with
    |true=>some (r,a2m (f9 bs) p)
    |false=>none
   |none=>none
  |none=>none

def O7(P:Program)(G:K8)(s:X2)(H:Y5)(op:Op):Option (T×Y5×Option Prop):=
 match Q0 P s H op with
 |some (t,p)=>some (t,H,p)
 |none=>match H3 P s H op with
  |some r=>some r
  |none=>match op with
   | .call {callee:=.value x,args, .. }=>match isEff G x with
    |true=>match x with
     | .func f=>a1n G H f (args.toList.map (P2 s))
     |x=>match a73 s x with
      |some (f,cs)=>match isEff G (.func f) with
       |true=>a1n G H f (args.toList.map (P2 s)++cs)
       |false=>(y5 G H f (args.toList.map (P2 s)++cs)).map fun r=>(r.1,H,r.2)
      |none=>none
    |false=>match a73 s x with
     |some (f,cs)=>(y5 G H f (args.toList.map (P2 s)++cs)).map fun r=>(r.1,H,r.2)
     |none=>none
   |_=>none

def D5(P:Program)(G:K8)(s:X2)(H:Y5)(op:Op):Option (T×Y5×Option Prop):=
 match a1G G op with
 |true=>match b7W P s op with
  |some (t,p)=>some (t,H,p)
  |none=>none
 |false=>O7 P G s H op

structure Sy where
 s:X2
 H:Y5

abbrev L3:=List (Nat×Bool)
abbrev H9:=List (Nat×L3)

def U5:H9->Nat->L3
 | [],_=>[]
 |(j,p)::r,t=>match Nat.beq t j with|true=>p|false=>U5 r t

def a1X:L3->L3->Bool
 | [],[]=>true
 |(a,b)::p,(c,d)::q=>Nat.beq a c&&(b==d)&&a1X p q
 |_,_=>false

def sufB(p:L3):L3->Bool
 | []=>a1X p []
 |x::q=>a1X p (x::q)||sufB p q

def J6(s:X2):L3->Prop->Prop
 | [],p=>p
 |(t,b)::r,p=>match z5 s t with
  | .bool x=>J6 s r (x=b->p)
  |_=>False

def a0I(s:X2):L3->Bool
 | []=>true
 |(t,_)::r=>match z5 s t with
  | .bool _=>a0I s r
  |_=>false

def Z7(n:Nat)(row row':Nat->List T):Prop:=∀i,i<n->row i=row' i

def v7:Nat->T->T->Prop
 |0,_,_=>False
 |d+1,t,t'=>
  match t,t' with
  |_,.und=>True
  | .int k a,.int k' b=>match decide (k=k') with|true=>a=b|false=>False
  | .bool a,.bool b=>a=b
  | .str a,.str b=>a=b
  | .bys a,.bys b=>a=b
  | .v (.slice none 0 0),.sl _ n _=>n=0
  | .v (.slice none 0 0),.bys l=>l=[]
  | .emp,.sl _ n _=>n=0
  | .emp,.bys l=>l=[]
  | .emp,.emp=>True
  | .v x,.v y=>x=y
  | .sl sz n row,.sl sz' m row'=>match Nat.beq sz sz' with|true=>n=m/\Z7 n row row'|false=>False
  | .ref k i j,.ref k' i' j'=>match Nat.beq k k' with|true=>i=i'/\j=j'|false=>False
  | .osl k off n,.osl k' off' n'=>match Nat.beq k k' with|true=>off=off'/\n=n'|false=>False
  | .mpr k,.mpr k'=>match Nat.beq k k' with|true=>True|false=>False
  | .agg as,.agg bs=>matsV (v7 d) as bs
  | .tup as,.tup bs=>matsV (v7 d) as bs
  | .fn f as,.fn g bs=>f=g/\matsV (v7 d) as bs
  | .bref as,.bref bs=>match bs.all X4 with|true=>matsP (v7 d) as bs|false=>False
  |_,_=>False
where
 matsP (f:T->T->Prop):List T->List T->Prop
 |_,[]=>True
 |a::r,b::q=>f a b/\matsP f r q
 |_,_=>False
 matsV (f:T->T->Prop):List T->List T->Prop
 | [],[]=>True
 |a::r,b::q=>f a b/\matsV f r q
 |_,_=>False

def a4o(as bs:List T):Prop:=v7.matsV (v7 6) as bs

def c4M:T->T->Prop
 | .own _ sz n row,.own _ sz' n' row'=>sz=sz'/\n=n'/\Z7 n row row'
 |t,t'=>t=t'

def c92:List T->List T->Prop
 | [],[]=>True
 |a::r,b::q=>c4M a b/\c92 r q
 |_,_=>False

def T9(n:Nat)(row row':Nat->List T):Prop:=∀i,i<n->c92 (row i) (row' i)

def b0p(o o':Option Ob):Prop:=
 match o,o' with
 |some (.arr cl _ sz n row),some (.arr cl' _ sz' n' row')=>match Nat.beq sz sz',cl,cl' with
  |true,true,true=>n=n'/\Z7 n row row'
  |true,_,false=>match(row' 0).all O0 with
   |true=>n=1/\n'=1/\v7.matsV (v7 6) (row 0) (row' 0)
   |false=>False
  |_,_,_=>False
 |some (.fam v _ sz n row),some (.fam v' _ sz' n' row')=>match Nat.beq sz sz' with
  |true=>v=v'/\n=n'/\T9 n row row'
  |false=>False
 |some (.bys _ l),some (.bys _ l')=>l=l'
 |_,_=>False

def b7n:Y5->Y5->Prop
 | [],[]=>True
 |o::r,o'::r'=>b0p o o'/\b7n r r'
 |_,_=>False

def d1p(r:Rle)(x:r.ι)(as:List T)(H:Y5):Option (T×Y5×Option Prop):=
 match Nat.ble 9 (c9F (r.pre x))&& !Nat.beq (c9F H) (c9F (r.pre x)) with
 |false=>some (r.res x,r.post x,some (a4o as (r.args x)/\b7n H (r.pre x)/\r.side x))
 |true=>d0H (fun as H=>some (r.res x,r.post x,some (a4o as (r.args x)/\b7n H (r.pre x)/\r.side x))) (c9F (r.pre x)) (r.pre x).length H as

def d3i(G:K8)(s:X2):Op->Option (FuncId×Con)
 | .call {callee:=.value x, .. }=>match a73 s x with
  |some (f,_)=>(d04 G f).map fun r=>(f,r)
  |none=>none
 |_=>none

def d7r(f:FuncId)(r:Rl)(x:r.ι)(G:K8):K8:=(f,.pure fun as=>some (r.res x,some (a4o as (r.args x)/\r.side x)))::G
def d66(f:FuncId)(r:Rle)(x:r.ι)(G:K8):K8:=(f,.eff fun as H=>d1p r x as H)::G
def d6m(f:FuncId)(r:Rle)(x:r.ι)(G:K8):K8:=(f,.mk fun as=>some (r.res x,r.post x,some (a4o as (r.args x)/\r.side x)))::G

def d6N(f:FuncId)(r:Rl)(x:r.ι)(G:K8):K8:=(f,.fz fun as=>some (r.res x,some (a4o as (r.args x)/\r.side x)))::G

def a4a(G:K8)(s:X2)(op:Op)(k:K8->Prop):Prop:=
 match d3i G s op with
 |none=>k G
 |some (f,c)=>match c with
  | .rel r=>∃x:r.ι,k (d7r f r x G)
  | .reff r=>∃x:r.ι,k (d66 f r x G)
  | .rmk r=>∃x:r.ι,k (d6m f r x G)
  | .rfz r=>∃x:r.ι,k (d6N f r x G)
  |_=>k G

def a5n(s:X2)(pth:L3):Option Prop->Prop->Prop
 |none,q=>q
 |some p,q=>J6 s pth p/\q

def a4R(ps:H9)(pth:L3):Operand->Bool
 | .tmp t=>sufB (U5 ps t) pth
 |_=>true

def K2(ps:H9)(pth:L3)(op:Op):Bool:=
 match op with
 | .pick (.tmp t) a b=>sufB (U5 ps t) pth&&a4R ps ((t,true)::pth) a&&a4R ps ((t,false)::pth) b
 | .pick _ _ _=>false
 |op=>op.operands.toList.all (a4R ps pth)

def a45(ps:H9)(d:Nat):Bool:=ps.all fun x=> !Nat.beq x.1 d&&x.2.all fun y=> !Nat.beq y.1 d

def a4Z(ps:H9):Option Tmp->Bool
 |none=>true
 |some d=>a45 ps d

def a0b(s:X2)(d:Option Tmp)(t:T):X2:=match d with|some d=>(d,t)::s|none=>s
def a52(ps:H9)(d:Option Tmp)(p:L3):H9:=match d with|some d=>(d,p)::ps|none=>ps

def R0(s:X2):H9->X2
 | []=>s
 |(d,_)::r=>(d,.und)::R0 s r

def D0(G:K8)(op:Op):Bool:=
 match op with
 | .box .. | .alloc .. | .store .. | .makeSlice .. | .buildSlice .. | .makeMap .. | .mapUpdate .. | .slice _ _ _ _ (some _)=>false
 | .call {callee:=.builtin .append, .. }=>false
 | .call {callee:=.builtin .clear, .. }=>false
 | .call {callee:=.value x, .. }=> !isEff G x
 |_=>true

def stays(G:K8)(op:Op):Bool:=
 match a1G G op with
 |true=>true
 |false=>D0 G op

def b14(nt:Nat):Option Tmp->Bool
 |none=>true
 |some d=>Nat.blt d nt

def a2t(ps:H9)(g:Nat):Option Tmp->Bool
 |none=>false
 |some d=> !Nat.beq d g&&(U5 ps g).all fun y=> !Nat.beq y.1 d

def b3h(P:Program)(s:X2):Op->Option (Nat×Bool)
 | .binOp op t x y _=>match P.underlying t,P2 s x,P2 s y,op with
  |some (.slice _),.sl _ n _,.v (.slice none 0 0),.eql=>some (n,false)
  |some (.slice _),.sl _ n _,.v (.slice none 0 0),.neq=>some (n,true)
  |some (.slice _),.osl _ _ n,.v (.slice none 0 0),.eql=>some (n,false)
  |some (.slice _),.osl _ _ n,.v (.slice none 0 0),.neq=>some (n,true)
  |_,_,_,_=>none
 |_=>none

def d5n(b:Bool)(n:Nat):Prop:=b=true->n=0

def d9(P:Program)(G:K8)(nt:Nat)(all:Array Oper):List Oper->X2->H9->Y5->(X2->Y5->Prop)->Prop
 | [],s,ps,H,K=>K (R0 s ps) H
 |o::rest,s,ps,H,K=>
  match o.guard with
  |none=>match K2 ps [] o.op&&a4Z ps o.dst&&b14 nt o.dst with
   |false=>False
   |true=>match b3h P s o.op with
    |some (n,neg)=>∀b:Bool,d5n b n->d9 P G nt all rest (a0b s o.dst (.bool (cond neg (!b) b))) ps H K
    |none=>a4a G s o.op fun G'=>match D5 P G' s H o.op with
     |some (t,H',side)=>a5n s [] side (d9 P G nt all rest (a0b s o.dst t) ps H' K)
     |none=>False
  |some (j,want)=>match(all[j]?).bind (·.dst) with
   |some g=>match z5 s g with
    | .bool _=>match K2 ps ((g,want)::U5 ps g) o.op&&a4Z ps o.dst&&b14 nt o.dst&&a2t ps g o.dst with
     |false=>False
     |true=>match stays G o.op with
      |true=>a4a G s o.op fun G'=>match D5 P G' s H o.op with
       |some (t,_,side)=>a5n s ((g,want)::U5 ps g) side (d9 P G nt all rest (a0b s o.dst t) (a52 ps o.dst ((g,want)::U5 ps g)) H K)
       |none=>False
      |false=>match a0I s ((g,want)::U5 ps g) with
       |false=>False
       |true=>a4a G s o.op fun G'=>match D5 P G' s H o.op with
        |some (t,H',side)=>a5n s ((g,want)::U5 ps g) side (J6 s ((g,want)::U5 ps g) (d9 P G nt all rest (a0b s o.dst t) (a52 ps o.dst ((g,want)::U5 ps g)) H' K)/\
          (J6 s ((g,want)::U5 ps g) False->d9 P G nt all rest (a0b s o.dst t) (a52 ps o.dst ((g,want)::U5 ps g)) H K))
        |none=>False
    |_=>False
   |none=>False

def maskOf(tab:List Nat):List Edge->Nat
 | []=>0
 |e::r=>match Region.binds .any e with
  |true=>Nat.lor (Nat.lor (Nat.shiftLeft 1 e.on) (tab.getD e.on 0)) (maskOf tab r)
  |false=>maskOf tab r

def a0W:List Operand->List Nat
 | []=>[]
 | .tmp t::r=>t::a0W r
 |_::r=>a0W r

def a1F(all:Array Oper)(o:Oper):List Nat:=
 match o.guard with
 |none=>a0W o.op.operands.toList
 |some (j,_)=>match(all[j]?).bind (·.dst) with
  |some g=>g::a0W o.op.operands.toList
  |none=>a0W o.op.operands.toList

def w8(G:K8)(op:Op):Bool:=
 match op with
 | .box .. | .alloc .. | .makeSlice .. | .buildSlice .. | .makeMap .. | .slice _ _ _ (some _) (some _)=>true
 | .call {callee:=.value x, .. }=>isMk G x
 |_=>false

def b7y(op:Op):Bool:=
 match op with
 | .call {callee:=.value _, .. }=>true
 |_=>false

def floatB(G:K8)(op:Op):Bool:=b7y op&&w8 G op

def a23(o:Oper):Option TypeId:=
 match o.op,o.guard with
 | .alloc t,none=>some t
 |_,_=>none

def g9(o:Oper):Bool:=
 match a23 o with
 |some _=>true
 |none=>false

def m6:List Oper->Nat
 | []=>0
 |o::r=>match g9 o with
  |true=>m6 r+1
  |false=>m6 r

def plA(b:Nat)(all:Array Oper)(i:Nat):Nat:=b+m6 (all.toList.take i)

def c6B(P:Program)(H:Y5)(t:TypeId)(r:Nat):Option (T×Y5):=
 match zeroCells P t with
 |some z=>match Nat.beq z.length 0,z.all O0,Z4 H r,Nat.blt r H.length with
  |false,true,none,true=>some (.ref r 0 0,H.set r (some (.arr (z.all X4) 1000000 z.length 1 fun _=>z)))
  |_,_,_,_=>none
 |none=>none

def a78(H:Y5):Nat->Y5
 |0=>H
 |n+1=>H++List.replicate (n+1) none++[some (.arr true 0 1 0 fun _=>[])]

def b8B(u:Option Tmp)(l:List Nat):Bool:=
 match u with
 |some u=>l.any fun v=>Nat.beq u v
 |none=>false

def a9g(a b:Option Tmp):Bool:=
 match a,b with
 |some a,some b=>Nat.beq a b
 |_,_=>false

def pureB(op:Op):Bool:=
 match op with
 | .move _| .assign _| .pick .. | .nilCheck _| .binOp .. | .unOp .. | .fieldAddr .. | .field .. | .extract .. | .build .. | .makeFunc .. | .index .. =>true
 |_=>false

def a6r(s:X2)(op:Op):Option (List Nat):=
 match op with
 | .load _ a=>match P2 s a with
  | .ref k _ _=>some [k]
  | .bref _=>some []
  |_=>none
 | .indexAddr _ x _=>match P2 s x with
  | .sl .. | .bys _=>some []
  | .osl k _ _=>some [k]
  |_=>none
 | .convert _ _ x=>match P2 s x with
  | .str _| .bys _| .int .. =>some []
  |_=>none
 | .slice _ x _ _ none=>match P2 s x with
  | .str _| .bys _| .sl .. =>some []
  | .osl k _ _=>some [k]
  |_=>none
 | .buildSlice .. =>some []
 | .call {callee:=.builtin .len, .. }=>some []
 | .call {callee:=.value x,args, .. }=>match a73 s x with
  |some (_,cs)=>match(args.toList.map (P2 s)++cs).all (closedD 6) with
   |true=>some []
   |false=>none
  |none=>none
 |_=>none

def a24(H:Y5)(s:X2)(op:Op):Option (List Nat):=
 match op with
 | .call {callee:=.builtin .append,args, .. }=>match args.toList with
  |d::_=>match P2 s d with
   | .osl k _ _=>match Z4 H k with
    |some (.fam ..)=>none
    |_=>some [k]
   | .v _=>some []
   | .emp=>some []
   |_=>none
  | []=>none
 | .store _ a x=>match P2 s a with
  | .ref k _ _=>match Z4 H k with
   |some (.fam ..)=>match(V9 (P2 s x)).all closedOne with
    |true=>some [k]
    |false=>none
   |_=>some [k]
  | .pref k _ _ _ _ _ _=>some [k]
  |_=>none
 | .call {callee:=.value x,args, .. }=>match a73 s x with
  |some (_,cs)=>match args.toList.map (P2 s)++cs with
   | .posl .. ::_=>none
   |as=>some (a4t H 64 (a5u as) [])
  |none=>none
 |_=>none

abbrev RW:=Option (List Nat)×Option (List Nat)
def a1H(H:Y5)(s:X2)(op:Op):RW:=(a6r s op,a24 H s op)

def disjB(r w:Option (List Nat)):Bool:=
 match r,w with
 |some r,some w=>r.all fun k=>w.all fun j=> !Nat.beq k j
 |_,_=>false

def F3(G:K8)(all:Array Oper)(m i:Nat)(x:Oper)(fx:RW)(o:Oper)(fo:RW):Bool:=
 !a9g x.dst o.dst&&(Nat.testBit m i||(!b8B x.dst (a1F all o)&& !b8B o.dst (a1F all x)&&(match stays G x.op,stays G o.op with
  |true,true=>true
  |true,false=>w8 G o.op||pureB x.op||disjB fx.1 fo.2
  |false,true=>w8 G x.op||pureB o.op||disjB fo.1 fx.2
  |false,false=>g9 o&&(g9 x||floatB G x.op))))

def a8j(i:Nat)(o:Oper):Bool:=o.after.toList.all fun e=> !Region.binds .any e||Nat.blt e.on i

def G6(H0:Y5):List (Nat×Y5)->Y5
 | []=>H0
 |(_,H)::_=>H

def G0(all:Array Oper)(k:Nat):Bool:=
 match all[k]? with
 |some o=>g9 o
 |none=>false

def hAt(all:Array Oper)(H0:Y5)(m:Nat):List (Nat×Y5)->Y5
 | []=>H0
 |(k,H)::r=>match Nat.testBit m k&& !G0 all k with
  |true=>H
  |false=>hAt all H0 m r

def a0c(P:Program)(G:K8)(nt:Nat)(all:Array Oper)(b:Nat)(H0:Y5):List Oper->Nat->List (Nat×Oper×RW)->List Nat->X2->H9->List (Nat×Y5)->(X2->Y5->Prop)->Prop
 | [],_,_,_,s,ps,hist,K=>K (R0 s ps) (G6 H0 hist)
 |o::rest,i,earlier,tab,s,ps,hist,K=>
  match a8j i o&&earlier.all (fun x=>F3 G all (maskOf tab o.after.toList) x.1 x.2.1 x.2.2 o (a1H (G6 H0 hist) s o.op)) with
  |false=>False
  |true=>match o.guard with
   |none=>match K2 ps [] o.op&&a4Z ps o.dst&&b14 nt o.dst with
    |false=>False
    |true=>match a23 o with
     |some t=>match c6B P (G6 H0 hist) t (plA b all i) with
      |some (y,H')=>a0c P G nt all b H0 rest (i+1) ((i,o,a1H (G6 H0 hist) s o.op)::earlier) (tab++[maskOf tab o.after.toList]) (a0b s o.dst y) ps ((i,H')::hist) K
      |none=>False
     |none=>match stays G o.op with
      |true=>a4a G s o.op fun G'=>match D5 P G' s (hAt all H0 (maskOf tab o.after.toList) hist) o.op with
       |some (t,_,side)=>a5n s [] side (a0c P G nt all b H0 rest (i+1) ((i,o,a1H (G6 H0 hist) s o.op)::earlier) (tab++[maskOf tab o.after.toList]) (a0b s o.dst t) ps hist K)
       |none=>False
      |false=>a4a G s o.op fun G'=>match D5 P G' s (G6 H0 hist) o.op with
       |some (t,H',side)=>a5n s [] side (a0c P G nt all b H0 rest (i+1) ((i,o,a1H (G6 H0 hist) s o.op)::earlier) (tab++[maskOf tab o.after.toList]) (a0b s o.dst t) ps ((i,H')::hist) K)
       |none=>False
   |some (j,want)=>match(all[j]?).bind (·.dst) with
    |some g=>match z5 s g with
     | .bool _=>match Nat.blt j i&&K2 ps ((g,want)::U5 ps g) o.op&&a4Z ps o.dst&&b14 nt o.dst&&stays G o.op&&a2t ps g o.dst with
      |false=>False
      |true=>a4a G s o.op fun G'=>match D5 P G' s (hAt all H0 (maskOf tab o.after.toList) hist) o.op with
       |some (t,_,side)=>a5n s ((g,want)::U5 ps g) side (a0c P G nt all b H0 rest (i+1) ((i,o,a1H (G6 H0 hist) s o.op)::earlier) (tab++[maskOf tab o.after.toList]) (a0b s o.dst t) (a52 ps o.dst ((g,want)::U5 ps g)) hist K)
       |none=>False
     |_=>False
    |none=>False

def c6E(body:(Exit->Sy->Prop)->Sy->Prop)(sub:Sy->Sy->Prop)(Q:Exit->Sy->Prop)(σ:Sy):Prop:=
 ∃(ι:Type) (I:ι->Sy) (μ:ι->Nat),(∃x,sub σ (I x))/\∀x,body (fun e σ'=>match e with| .normal=>∃y,sub σ' (I y)/\μ y<μ x|e=>Q e σ') (I x)

def vc(P:Program)(G:K8)(nt:Nat)(sub:Sy->Sy->Prop):Code->(Exit->Sy->Prop)->Sy->Prop
 | .skip,Q,σ=>Q .normal σ
 | .region _ ops draw,Q,σ=>match draw with
  |false=>d9 P G nt ops ops.toList σ.s [] σ.H fun s H=>Q .normal ⟨s,H⟩
  |true=>a0c P G nt ops σ.H.length (a78 σ.H (m6 ops.toList)) ops.toList 0 [] [] σ.s [] [] fun s H=>Q .normal ⟨s,H⟩
 | .seq a b,Q,σ=>vc P G nt sub a (fun e σ'=>match e with| .normal=>vc P G nt sub b Q σ'|e=>Q e σ') σ
 | .cond c x y,Q,σ=>match P2 σ.s c with
  | .bool b=>(b=true->vc P G nt sub x Q σ)/\(b=false->vc P G nt sub y Q σ)
  |_=>False
 | .block id body,Q,σ=>vc P G nt sub body (fun e σ'=>match e with| .exit i=>(match Nat.beq i id with|true=>Q .normal σ'|false=>Q (.exit i) σ')|e=>Q e σ') σ
 | .loop body,Q,σ=>c6E (vc P G nt sub body) sub Q σ
 | .exit id,Q,σ=>Q (.exit id) σ
 | .ret,Q,σ=>Q .ret σ
 |_,_,_=>False

def a7z(P:Program)(s:X2)(H:Y5):ResultVar->Option (T×Option Prop)
 | .tmp t=>some (z5 s t,none)
 | .cell a t=>s6 P H t (z5 s a)

def c4B(P:Program)(s:X2)(H:Y5)(rs:List ResultVar):Option (T×Option Prop):=
 match Q9 (a7z P s H) rs with
 |some [x]=>some x
 |some xs=>some (.tup (xs.map (·.1)),f9 xs)
 |none=>none

def a6h:Option Prop->Prop->Prop
 |none,q=>q
 |some p,q=>p/\q

def c7l(P:Program)(rs:List ResultVar)(post:T->Prop):Exit->Sy->Prop
 | .normal,σ| .ret,σ=>match c4B P σ.s σ.H rs with
  |some (r,p)=>match Q3 0 σ.H 6 r with
   |some (r',p')=>a6h p (a6h p' (post r'))
   |none=>False
  |none=>False
 |_,_=>False

def a1u:Nat->List T->X2
 |_,[]=>[]
 |i,t::r=>(i,t)::a1u (i+1) r

end Go.SS
