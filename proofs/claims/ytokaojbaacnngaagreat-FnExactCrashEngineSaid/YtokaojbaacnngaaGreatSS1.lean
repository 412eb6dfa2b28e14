/- A calculus of symbolic states over the model: definitions. What slots and cells hold is said as trees of data; a piece of code becomes a plain proposition. -/
import Derived.WalkKit
import Derived.WalkSpells
import Derived.WalkLawsBesides
import Derived.Lib.Strings
import Derived.Laws.BytesArg
import Derived.Deep.AppendSrc
namespace Go.SS
open Go.RowKit

inductive T where
 |int (k:IntKind) (n:Int)
 |bool (b:Bool)
 |str (l:List UInt8)
 |v (x:Value)
 |bys (l:List UInt8)
 |sl (sz n:Nat) (row:Nat->List T)
 |bref (cells:List T)
 |ref (k i j:Nat)
 |osl (k off n:Nat)
 |agg (cs:List T)
 |tup (cs:List T)
 |fn (f:Fn) (caps:List T)
 |mpr (k:Nat)
 |own (ty:TypeId) (sz n:Nat) (row:Nat->List T)
 |posl (k v i j n:Nat)
 |pref (k v i j z a b:Nat)
 |emp
 |und
 deriving Inhabited

structure Arr where
 cl:Bool
 ty:TypeId
 sz:Nat
 n:Nat
 row:Nat->List T

inductive Ob where
 |arr (cl:Bool) (ty:TypeId) (sz n:Nat) (row:Nat->List T)
 |fam (v:Nat) (ty:TypeId) (sz n:Nat) (row:Nat->List T)
 |bys (ty:TypeId) (l:List UInt8)
 |mp (bo:Bool) (get:Int->Int)
 |mp2 (get:Int->Int->Bool)

def byRow(l:List UInt8)(i:Nat):List T:=[.int .u8 ((l.getD i 0).toNat:Int)]

def Ob.toArr:Ob->Arr
 | .arr cl ty sz n row=>⟨cl,ty,sz,n,row⟩
 | .fam _ ty sz n row=>⟨false,ty,sz,n,row⟩
 | .bys ty l=>⟨true,ty,1,l.length,byRow l⟩
 | .mp _ _=>⟨true,0,0,0,fun _=>[]⟩
 | .mp2 _=>⟨true,0,0,0,fun _=>[]⟩

def Ob.isArr:Ob->Bool
 | .mp _ _=>false
 | .mp2 _=>false
 | .fam .. =>false
 |_=>true

def viewC(k v i:Nat):Nat->List T->List T
 |_,[]=>[]
 |j,.own _ _ n _::r=>.posl k v i j n::viewC k v i (j+1) r
 |j,t::r=>t::viewC k v i (j+1) r

def viewR(k v:Nat)(row:Nat->List T)(i:Nat):List T:=viewC k v i 0 (row i)

abbrev Heap:=List (Option Ob)
abbrev Slots:=List (Nat×T)

def slk:Slots->Nat->T
 | [],_=>.und
 |(j,t)::r,i=>match Nat.beq i j with|true=>t|false=>slk r i

def ofConst:Value->T
 | .int k n=>.int k n
 | .bool b=>.bool b
 | .string s=>.str s.data.toList
 |x=>.v x

def opT(s:Slots):Operand->T
 | .tmp t=>slk s t
 | .const c=>ofConst c
 | .func f=>.v (.func (.func f) #[] #[])
 | .global g=>.v (.pointer (some ⟨g,0,none⟩))

def Rng(k:IntKind)(n:Int):Prop:=k.min<=n/\n<=k.max
def InB(i:Int)(n:Nat):Prop:=0<=i/\i<n
def Lt(i n:Nat):Prop:=i<n
def Nn(i:Int):Prop:=0<=i
def LeI(i j:Int):Prop:=i<=j
def Nz(i:Int):Prop:=i≠0
def evCmp(op:BinOp)(a b:Int):Option Bool:=
 match op with
 | .eql=>some (a==b)
 | .neq=>some (a !=b)
 | .lss=>some (decide (a<b))
 | .leq=>some (decide (a<=b))
 | .gtr=>some (decide (a>b))
 | .geq=>some (decide (a≥b))
 |_=>none

def evInt(op:BinOp)(k:IntKind)(a b:Int):Option (T×Option Prop):=
 match op with
 | .add=>some (.int k (a+b),some (Rng k (a+b)))
 | .sub=>some (.int k (a-b),some (Rng k (a-b)))
 | .mul=>some (.int k (a*b),some (Rng k (a*b)))
 | .quo=>some (.int k (a.tdiv b),some (Nz b/\Rng k (a.tdiv b)))
 | .rem=>some (.int k (a.tmod b),some (Nz b))
 | .and=>some (.int k (bits .and k a b),none)
 | .or=>some (.int k (bits .or k a b),none)
 | .xor=>some (.int k (bits .xor k a b),none)
 | .andNot=>some (.int k (bits .andNot k a b),none)
 | .shl=>some (.int k (k.wrap (a*2 ^ (min b.toNat k.bits))),some (Nn b))
 | .shr=>some (.int k (a.fdiv (2 ^ (min b.toNat k.bits))),some (Nn b))
 |op=>(evCmp op a b).map fun r=>(.bool r,none)

def evStr(op:BinOp)(a b:List UInt8):Option (T×Option Prop):=
 match op with
 | .add=>some (.str (a++b),some (Lt (a.length+b.length) 9223372036854775808))
 | .eql=>some (.bool (a==b),none)
 | .neq=>some (.bool (!(a==b)),none)
 | .lss=>some (.bool (Op.bytesLess a b),none)
 | .leq=>some (.bool (Op.bytesLess a b||a==b),none)
 | .gtr=>some (.bool (!(Op.bytesLess a b||a==b)),none)
 | .geq=>some (.bool (!(Op.bytesLess a b)),none)
 |_=>none

def sameKind(op:BinOp)(k k':IntKind):Bool:=
 match op with
 | .shl| .shr=>true
 |_=>decide (k=k')

def isAggT(P:Program)(t:TypeId):Bool:=
 match P.underlying t with
 |some (.struct _)|some (.array _ _)=>true
 |_=>false

def fieldOf(P:Program)(t:TypeId)(f:Nat):Option Field:=
 match P.underlying t with
 |some (.struct fs)=>fs[f]?
 |_=>none

def takeT(P:Program)(t:TypeId)(cs:List T)(off:Nat):Option T:=
 match(P.underlying t).isSome,isAggT P t with
 |true,true=>match Nat.ble (off+P.cellsOf t) cs.length with
  |true=>some (.agg ((cs.drop off).take (P.cellsOf t)))
  |false=>none
 |true,false=>cs[off]?
 |false,_=>none

def eqFs(P:Program)(rec:TypeId->T->T->Option Bool)(xs ys:List T):List Field->Option Bool
 | []=>some true
 |f::r=>match decide (f.name= "_"),takeT P f.type xs f.offset,takeT P f.type ys f.offset with
  |false,some a,some b=>match rec f.type a b,eqFs P rec xs ys r with
   |some p,some q=>some (p&&q)
   |_,_=>none
  |_,_,_=>none

def eqT(P:Program):Nat->TypeId->T->T->Option Bool
 |0,_,_,_=>none
 |d+1,t,x,y=>match P.underlying t,x,y with
  |some (.int _),.int k a,.int k' b=>match decide (k=k') with
   |true=>some (a==b)
   |false=>none
  |some .bool,.bool a,.bool b=>some (a==b)
  |some .string,.str a,.str b=>some (a==b)
  |some (.struct fs),.agg xs,.agg ys=>match P.stoodInHeld t with
   |false=>eqFs P (eqT P d) xs ys fs.toList
   |true=>none
  |_,_,_=>none

def evEq(P:Program)(op:BinOp)(t:TypeId)(x y:T):Option (T×Option Prop):=
 match P.eqGuardType P.depth t,op with
 |false,.eql=>(eqT P 20 t x y).map fun b=>(.bool b,none)
 |false,.neq=>(eqT P 20 t x y).map fun b=>(.bool (!b),none)
 |_,_=>none

def evPtr(P:Program)(op:BinOp)(t:TypeId)(b:Bool):Option (T×Option Prop):=
 match P.underlying t,op with
 |some (.pointer e),.eql=>match decide (e=P.pointee t) with
  |true=>some (.bool b,none)
  |false=>none
 |some (.pointer e),.neq=>match decide (e=P.pointee t) with
  |true=>some (.bool (!b),none)
  |false=>none
 |_,_=>none

def evBin(P:Program)(op:BinOp)(t:TypeId)(x y:T):Option (T×Option Prop):=
 match x,y with
 | .int k a,.int k' b=>match sameKind op k k' with
  |true=>evInt op k a b
  |false=>none
 | .str a,.str b=>evStr op a b
 | .bool a,.bool b=>match P.underlying t,op with
  |some .bool,.eql=>some (.bool (a==b),none)
  |some .bool,.neq=>some (.bool (!(a==b)),none)
  |_,_=>none
 | .agg xs,.agg ys=>evEq P op t (.agg xs) (.agg ys)
 | .ref ..,.v (.pointer none)=>evPtr P op t false
 | .pref ..,.v (.pointer none)=>evPtr P op t false
 | .v (.pointer none),.v (.pointer none)=>evPtr P op t true
 | .v (.slice none 0 0),.v (.slice none 0 0)=>match P.underlying t,op with
  |some (.slice _),.eql=>some (.bool true,none)
  |some (.slice _),.neq=>some (.bool false,none)
  |_,_=>none
 |_,_=>none

def inB(ty i n:Nat):Option Prop:=
 match Nat.beq ty 1000000 with
 |true=>match i,n with
  |0,1=>none
  |i,n=>some (Lt i n)
 |false=>some (Lt i n)

def getOb(H:Heap)(k:Nat):Option Ob:=(H[k]?).bind id
def getA(H:Heap)(k:Nat):Option Arr:=match getOb H k with
 |some (.fam v ty sz n row)=>some ⟨false,ty,sz,n,viewR k v row⟩
 |some ob=>match ob.isArr with
  |true=>some ob.toArr
  |false=>none
 |none=>none

structure Own where
 v:Nat
 n:Nat
 A:Arr

def getOwn(H:Heap)(k _v i j:Nat):Option Own:=match getOb H k with
 |some (.fam v' _ _ n row)=>match(row i)[j]? with
  |some (.own ty sz m r)=>some ⟨v',n,true,ty,sz,m,r⟩
  |_=>none
 |_=>none

def PfB(v v' i n a m:Nat):Prop:=v=v'/\i<n/\a<m

def evLoad(P:Program)(H:Heap)(t:TypeId)(a:T):Option (T×Option Prop):=
 match a with
 | .bref cells=>(takeT P t cells 0).map fun x=>(x,none)
 | .ref k i j=>match getA H k with
  |some A=>(takeT P t (A.row i) j).map fun x=>(x,inB A.ty i A.n)
  |_=>none
 | .pref k v i j z a b=>match getOwn H k v i j with
  |some A=>match Nat.beq z A.A.sz with
   |true=>(takeT P t (A.A.row a) b).map fun x=>(x,some (PfB v A.v i A.n a A.A.n))
   |false=>none
  |none=>none
 |_=>none

def cellsB(P:Program)(t:TypeId)(n:Nat):Bool:=
 match P.info? t with
 |some i=>Nat.beq i.size n
 |none=>false

def evIndexAddr(P:Program)(H:Heap)(t:TypeId)(x ix:T):Option (T×Option Prop):=
 match ix with
 | .int _ i=>
  match P.underlying t,x with
  |some (.slice e),.sl sz n row=>match cellsB P e sz with
   |true=>some (.bref (row i.toNat),some (InB i n))
   |false=>none
  |some (.slice e),.bys l=>match cellsB P e 1 with
   |true=>some (.bref (byRow l i.toNat),some (InB i l.length))
   |false=>none
  |some (.slice e),.osl k off n=>match getA H k with
   |some A=>match cellsB P e A.sz with
    |true=>some (.ref k (off+i.toNat) 0,some (InB i n))
    |false=>none
   |_=>none
  |some (.slice e),.posl k v i' j n=>match getOwn H k v i' j with
   |some A=>match cellsB P e A.A.sz with
    |true=>some (.pref k v i' j A.A.sz i.toNat 0,some (InB i n))
    |false=>none
   |_=>none
  |some (.array n e),.bref cells=>match(P.info? e).isSome with
   |true=>some (.bref (cells.drop (i.toNat*P.cellsOf e)),some (InB i n))
   |false=>none
  |some (.array n e),.ref k r j=>match(P.info? e).isSome with
   |true=>some (.ref k r (j+i.toNat*P.cellsOf e),some (InB i n))
   |false=>none
  |_,_=>none
 |_=>none

def evLen(P:Program)(t:TypeId)(x:T):Option Int:=
 match P.underlying t,x with
 |some .string,.str l=>some l.length
 |some (.slice _),.bys l=>some l.length
 |some (.slice _),.sl _ n _=>some n
 |some (.slice _),.osl _ _ n=>some n
 |some (.slice _),.posl _ _ _ _ n=>some n
 |some (.slice _),.v (.slice none n _)=>some n
 |some (.slice _),.emp=>some 0
 |_,_=>none

def zeroCells(P:Program)(t:TypeId):Option (List T):=((P.info? t).bind (·.zero)).map fun z=>z.cells.toList.map ofConst

def cellsT:T->List T
 | .agg cs=>cs
 |t=>[t]

def oneT:T->Bool
 | .agg _| .tup _| .und=>false
 | .v (.agg _)| .v (.tuple _)=>false
 |_=>true

def closedT:T->Bool
 | .ref .. | .osl .. | .agg _| .tup _| .fn .. | .mpr _=>false
 | .own .. | .posl .. | .pref .. =>false
 |_=>true

def isOwn:T->Bool
 | .own .. =>true
 |_=>false

def evPick(s:Slots)(c a b:Operand):Option T:=
 match opT s c with
 | .bool cb=>match a,b with
  | .const (.bool true),b=>match opT s b with
   | .bool y=>some (.bool (cb||y))
   |_=>none
  |a,.const (.bool false)=>match opT s a with
   | .bool x=>some (.bool (cb&&x))
   |_=>none
  |_,_=>none
 |_=>none

def Le(i n:Nat):Prop:=i<=n

def evConv(P:Program)(H:Heap)(src dst:TypeId)(x:T):Option (T×Option Prop):=
 match P.underlying src,P.underlying dst,x with
 |some (.int _),some (.int k),.int _ n=>some (.int k (k.wrap n),none)
 |some .string,some .string,.str l=>some (.str l,none)
 |some (.slice e),some .string,.bys l=>match P.underlying e with
  |some (.int .u8)=>some (.str l,none)
  |_=>none
 |some (.slice e),some .string,.osl k off n=>match P.underlying e,getOb H k with
  |some (.int .u8),some (.bys _ l)=>some (.str ((l.drop off).take n),some (Le (off+n) l.length))
  |_,_=>none
 |_,_,_=>none

def evField(P:Program)(t:TypeId)(x:T)(f:Nat):Option T:=
 match fieldOf P t f,x with
 |some fd,.agg cs=>takeT P fd.type cs fd.offset
 |_,_=>none

def evFieldAddr(P:Program)(t:TypeId)(x:T)(f:Nat):Option T:=
 match fieldOf P t f with
 |some fd=>match cellsB P fd.type (P.cellsOf fd.type),Nat.beq (P.cellsOf fd.type) 0,x with
  |true,false,.ref k i j=>some (.ref k i (j+fd.offset))
  |true,false,.bref cs=>some (.bref (cs.drop fd.offset))
  |_,_,_=>none
 |none=>none

def evIndex(P:Program)(t:TypeId)(x i:T):Option (T×Option Prop):=
 match P.underlying t,x,i with
 |some .string,.str l,.int _ i=>some (.int .u8 ((l.getD i.toNat 0).toNat:Int),some (InB i l.length))
 |some (.array n e),.agg cs,.int _ i=>match cellsB P e 1,takeT P e cs i.toNat with
  |true,some x=>some (x,some (InB i n))
  |_,_=>none
 |_,_,_=>none

def InC(i:Int)(n:Nat):Prop:=0<=i/\i<=n
def InC2(a h:Int)(n:Nat):Prop:=0<=a/\a<=h/\h<=n

def cutL(l:List UInt8):Option Int->Option Int->List UInt8
 |none,none=>l
 |none,some h=>l.take h.toNat
 |some a,none=>l.drop a.toNat
 |some a,some h=>(l.take h.toNat).drop a.toNat

def cutN(n:Nat):Option Int->Option Int->Nat
 |none,none=>n
 |none,some h=>h.toNat
 |some a,none=>n-a.toNat
 |some a,some h=>h.toNat-a.toNat

def cutO(off:Nat):Option Int->Nat
 |none=>off
 |some a=>off+a.toNat

def cutRow(row:Nat->List T):Option Int->Nat->List T
 |none=>row
 |some a=>fun i=>row (a.toNat+i)

def cutS(n:Nat):Option Int->Option Int->Option Prop
 |none,none=>none
 |none,some h=>some (InC h n)
 |some a,none=>some (InC a n)
 |some a,some h=>some (InC2 a h n)

def intOfT:Option T->Option (Option Int)
 |none=>some none
 |some (.int _ i)=>some (some i)
 |_=>none

def evSlice(P:Program)(H:Heap)(t:TypeId)(x:T)(lo hi:Option T):Option (T×Option Prop):=
 match intOfT lo,intOfT hi with
 |some a,some h=>match P.underlying t,x with
  |some .string,.str l=>some (.str (cutL l a h),cutS l.length a h)
  |some (.slice e),.bys l=>match cellsB P e 1 with
   |true=>some (.bys (cutL l a h),cutS l.length a h)
   |false=>none
  |some (.slice e),.sl sz n row=>match cellsB P e sz with
   |true=>some (.sl sz (cutN n a h) (cutRow row a),cutS n a h)
   |false=>none
  |some (.slice e),.osl k off n=>match getA H k with
   |some A=>match cellsB P e A.sz with
    |true=>some (.osl k (cutO off a) (cutN n a h),cutS n a h)
    |false=>none
   |none=>none
  |_,_=>none
 |_,_=>none

def partB:T->Bool
 | .agg _=>true
 |x=>oneT x

def fillT(place:Nat->Option (Nat×Nat))(cells:List T):List (Nat×T)->Option (List T)
 | []=>some cells
 |(i,x)::rest=>match place i,partB x with
  |some (off,size),true=>match Nat.beq (cellsT x).length size,Nat.ble (off+(cellsT x).length) cells.length with
   |true,true=>fillT place (cells.take off++cellsT x++cells.drop (off+(cellsT x).length)) rest
   |_,_=>none
  |_,_=>none

def fillS(place:Nat->Option (Nat×Nat))(m:Nat):Nat->List (Nat×T)->Option (List T)
 |n,[]=>match Nat.beq n m with
  |true=>some []
  |false=>none
 |n,(i,x)::rest=>match place i,partB x with
  |some (off,size),true=>match Nat.beq off n,Nat.beq (cellsT x).length size with
   |true,true=>(fillS place m (n+size) rest).map (cellsT x++ ·)
   |_,_=>none
  |_,_=>none

def fillQ(place:Nat->Option (Nat×Nat))(z:List T)(parts:List (Nat×T)):Option (List T):=
 match fillS place z.length 0 parts with
 |some cs=>some cs
 |none=>fillT place z parts

def evBuild(P:Program)(s:Slots)(t:TypeId)(parts:Array (Nat×Operand)):Option T:=
 match zeroCells P t,P.underlying t with
 |some z,some (.struct fs)=>match fs.toList.all fun f=>(P.info? f.type).isSome with
  |true=>(fillQ (fun i=>(fs.toList[i]?).map fun f=>(f.offset,P.cellsOf f.type)) z (parts.toList.map fun p=>(p.1,opT s p.2))).map .agg
  |false=>none
 |some z,some (.array _ e)=>match(P.info? e).isSome with
  |true=>(fillQ (fun i=>some (i*P.cellsOf e,P.cellsOf e)) z (parts.toList.map fun p=>(p.1,opT s p.2))).map .agg
  |false=>none
 |_,_=>none

def evFunc(s:Slots)(fn:Fn)(captured:Array Operand):T:=.fn fn (captured.toList.map (opT s))

def mval(bo:Bool)(n:Int):T:=match bo with
 |true=>.bool (decide (n≠0))
 |false=>.int .i64 n

def mapB(P:Program)(t:TypeId)(bo:Bool):Bool:=
 match P.underlying t with
 |some (.map kt et)=>match P.underlying kt,(P.info? et).bind (·.zero),bo with
  |some (.int .i64),some (.int .i64 n),false=>decide (n=0)
  |some (.int .i64),some (.bool b),true=> !b
  |_,_,_=>false
 |_=>false

def i64B(P:Program)(t:TypeId):Bool:=
 match P.underlying t with
 |some (.int .i64)=>Nat.beq (P.cellsOf t) 1
 |_=>false

def pairB(P:Program)(kt:TypeId):Bool:=
 match P.underlying kt with
 |some (.struct fs)=>match fs.toList with
  | [f0,f1]=>f0.name != "_" &&f1.name != "_" &&Nat.beq f0.offset 0&&Nat.beq f1.offset 1&&i64B P f0.type&&i64B P f1.type&&Nat.beq (P.cellsOf kt) 2&& !Nat.beq P.types.size 0
  |_=>false
 |_=>false

def map2B(P:Program)(t:TypeId):Bool:=
 match P.underlying t with
 |some (.map kt et)=>match(P.info? et).bind (·.zero) with
  |some (.bool b)=> !b&&P.keyTypeAt 2 kt&&P.tiled 2 kt&&P.keyType kt&&pairB P kt
  |_=>false
 |_=>false

def evLook(P:Program)(H:Heap)(t:TypeId)(m k:T):Option (T×Option Prop):=
 match m,k with
 | .mpr j,.int .i64 n=>match getOb H j with
  |some (.mp bo get)=>match mapB P t bo with
   |true=>some (mval bo (get n),none)
   |false=>none
  |_=>none
 | .mpr j,.agg [.int .i64 a,.int .i64 b]=>match getOb H j with
  |some (.mp2 get)=>match map2B P t with
   |true=>some (.bool (get a b),some (Rng .i64 a/\Rng .i64 b))
   |false=>none
  |_=>none
 |_,_=>none

def munT(bo:Bool):T->Option Int
 | .int .i64 n=>match bo with|false=>some n|true=>none
 | .bool b=>match bo with|true=>some (cond b 1 0)|false=>none
 |_=>none

def evMapUp(P:Program)(H:Heap)(t:TypeId)(m k x:T):Option Heap:=
 match m,k with
 | .mpr j,.int .i64 n=>match getOb H j with
  |some (.mp bo get)=>match mapB P t bo,munT bo x with
   |true,some v=>some (H.set j (some (.mp bo fun i=>cond (decide (i=n)) v (get i))))
   |_,_=>none
  |_=>none
 |_,_=>none

def evMapUp2(P:Program)(H:Heap)(t:TypeId)(m k x:T):Option (Heap×Option Prop):=
 match m,k,x with
 | .mpr j,.agg [.int .i64 a,.int .i64 b],.bool v=>match getOb H j with
  |some (.mp2 get)=>match map2B P t with
   |true=>some (H.set j (some (.mp2 fun a' b'=>cond (decide (a'=a/\b'=b)) v (get a' b'))),some (Rng .i64 a/\Rng .i64 b))
   |false=>none
  |_=>none
 |_,_,_=>none

def evMakeMap(P:Program)(H:Heap)(t:TypeId):Option (T×Heap):=
 match mapB P t true,mapB P t false with
 |true,_=>some (.mpr H.length,H++[some (.mp true fun _=>0)])
 |_,true=>some (.mpr H.length,H++[some (.mp false fun _=>0)])
 |_,_=>match map2B P t with
  |true=>some (.mpr H.length,H++[some (.mp2 fun _ _=>false)])
  |false=>none

def evUn(op:UnOp)(x:T):Option (T×Option Prop):=
 match op,x with
 | .not,.bool b=>some (.bool (!b),none)
 | .neg,.int k n=>some (.int k (0-n),some (Rng k (0-n)))
 |_,_=>none

def evExtract(x:T)(i:Nat):Option T:=
 match x with
 | .tup cs=>cs[i]?
 |_=>none

def evVal(P:Program)(s:Slots)(H:Heap)(op:Op):Option (T×Option Prop):=
 match op with
 | .move x| .assign x=>some (opT s x,none)
 | .pick c a b=>(evPick s c a b).map (·,none)
 | .load t a=>evLoad P H t (opT s a)
 | .nilCheck x=>match opT s x with
  | .ref k i j=>some (.ref k i j,none)
  | .bref cs=>some (.bref cs,none)
  |_=>none
 | .binOp op t x y _=>evBin P op t (opT s x) (opT s y)
 | .unOp op _ x=>evUn op (opT s x)
 | .convert src dst x=>evConv P H src dst (opT s x)
 | .fieldAddr t x f=>(evFieldAddr P t (opT s x) f).map (·,none)
 | .field t x f=>(evField P t (opT s x) f).map (·,none)
 | .indexAddr t x i=>evIndexAddr P H t (opT s x) (opT s i)
 | .index t x i=>evIndex P t (opT s x) (opT s i)
 | .extract x i=>(evExtract (opT s x) i).map (·,none)
 | .call {callee:=.builtin .len,args,argTypes}=>match args.toList,argTypes.toList with
  | [x],[t]=>(evLen P t (opT s x)).map fun n=>(.int .i64 n,none)
  |_,_=>none
 | .slice t x lo hi none=>evSlice P H t (opT s x) (lo.map (opT s)) (hi.map (opT s))
 | .build t parts=>(evBuild P s t parts).map (·,none)
 | .makeFunc fn first captured=>match first.toList with
  | []=>some (evFunc s fn captured,none)
  |_=>none
 | .lookup t m k false=>evLook P H t (opT s m) (opT s k)
 |_=>none

def ofI(n:Int):UInt8:=UInt8.ofNat n.toNat

def bytesT:List T->Option (List Int)
 | []=>some []
 | .int .u8 n::r=>(bytesT r).map (n:: ·)
 |_=>none

def rngs:List Int->Option Prop
 | []=>none
 |n::r=>match rngs r with
  |none=>some (Rng .u8 n)
  |some p=>some (Rng .u8 n/\p)

def isByteT(P:Program)(e:TypeId):Bool:=
 match P.underlying e,zeroCells P e with
 |some (.int .u8),some [.int .u8 n]=>decide (n=0)
 |_,_=>false

def sizeB(a b c:Nat):Prop:=a*b<=c

def evMake(P:Program)(H:Heap)(t:TypeId)(l c:T):Option (T×Heap×Option Prop):=
 match P.underlying t,l,c with
 |some (.slice e),.int .i64 n,.int .i64 m=>match P.info? e,zeroCells P e with
  |some i,some z=>match Nat.beq z.length i.size,Nat.beq i.size 0,z.all oneT with
   |true,false,true=>some (.osl H.length 0 n.toNat,H++[some (match isByteT P e with
     |true=>.bys e (List.replicate n.toNat 0)
     |false=>.arr (z.all closedT) e i.size n.toNat fun _=>z)],some (Nn n/\LeI n m/\sizeB i.bytes m.toNat 140737488355328/\Lt m.toNat 9223372036854775808))
   |_,_,_=>none
  |_,_=>none
 |_,_,_=>none

def evBuildSlice(P:Program)(s:Slots)(H:Heap)(t:TypeId)(len:Nat)(parts:Array (Nat×Operand)):Option (T×Heap×Option Prop):=
 match P.underlying t with
 |some (.slice e)=>match P.info? e,zeroCells P e with
  |some i,some z=>match Nat.beq z.length i.size,Nat.beq i.size 0,Nat.ble (len*i.size) 16777216 with
   |true,false,true=>match fillT (fun k=>some (k*i.size,i.size)) ((List.replicate len z).flatten) (parts.toList.map fun p=>(p.1,opT s p.2)) with
    |some cs=>match isByteT P e with
     |true=>(bytesT cs).map fun ns=>(.osl H.length 0 len,H++[some (.bys e (ns.map ofI))],rngs ns)
     |false=>match cs.all oneT with
      |true=>some (.osl H.length 0 len,H++[some (.arr (cs.all closedT) e i.size len fun k=>(cs.drop (k*i.size)).take i.size)],none)
      |false=>none
    |none=>none
   |_,_,_=>none
  |_,_=>none
 |_=>none

def sel(b:Bool)(x y:T):T:=match b with|true=>x|false=>y
def selR(b:Bool)(x y:Nat->List T)(i:Nat):List T:=match b with|true=>x i|false=>y i

def mrg(b:Bool)(x y:T):T:=
 match x,y with
 | .int k n,.int k' m=>match decide (k=k') with
  |true=>.int k (cond b n m)
  |false=>sel b (.int k n) (.int k' m)
 | .bool p,.bool q=>.bool (cond b p q)
 | .str l,.str m=>.str (cond b l m)
 | .own ty sz n row,.own ty' sz' n' row'=>match decide (ty=ty'),decide (sz=sz') with
  |true,true=>.own ty sz (cond b n n') (selR b row row')
  |_,_=>sel b (.own ty sz n row) (.own ty' sz' n' row')
 |x,y=>sel b x y

def zipB(b:Bool):List T->List T->List T
 |x::xs,o::os=>mrg b x o::zipB b xs os
 | [],os=>os
 |_::_,[]=>[]

def putB(b:Bool):Nat->List T->List T->List T
 |0,xs,os=>zipB b xs os
 |j+1,xs,o::os=>o::putB b j xs os
 |_+1,_,[]=>[]

def setRow(row:Nat->List T)(i j:Nat)(cs:List T)(k:Nat):List T:=putB (Nat.beq k i) j cs (row k)

def closedOne(t:T):Bool:=closedT t&&oneT t

def noOwn(cs:List T):Bool:=cs.all fun t=> !isOwn t
def FamB(i n:Nat)(cs:List T):Prop:=i<n/\noOwn cs=true

structure Abs where
 cs:List T
 ks:List Nat
 side:Option Prop

def absorb(H:Heap):List T->Option Abs
 | []=>some ⟨[],[],none⟩
 | .osl m off n::r=>match off,getOb H m,absorb H r with
  |0,some (.arr true ty sz N row),some A=>some ⟨.own ty sz n row::A.cs,m::A.ks,some (match A.side with|none=>Le n N|some p=>Le n N/\p)⟩
  |_,_,_=>none
 |t::r=>match closedOne t,absorb H r with
  |true,some A=>some ⟨t::A.cs,A.ks,A.side⟩
  |_,_=>none

def dropObs:Heap->List Nat->Heap
 |H,[]=>H
 |H,k::r=>dropObs (H.set k none) r

def nodupN:List Nat->Bool
 | []=>true
 |x::r=>r.all (fun y=> !Nat.beq x y)&&nodupN r

def ltS(i n:Nat):Option Prop->Prop
 |none=>i<n
 |some p=>i<n/\p

def evStore(P:Program)(H:Heap)(t:TypeId)(a x:T):Option (Heap×Option Prop):=
 match a with
 | .pref k v i j z a b=>match getOb H k,getOwn H k v i j,cellsB P t (cellsT x).length,partB x,(cellsT x).all closedOne with
  |some (.fam v' ty sz n row),some A,true,true,true=>match Nat.beq z A.A.sz,Nat.ble (b+(cellsT x).length) A.A.sz with
   |true,true=>some (H.set k (some (.fam v' ty sz n (setRow row i j [.own A.A.ty A.A.sz A.A.n (setRow A.A.row a b (cellsT x))]))),some (PfB v v' i n a A.A.n))
   |_,_=>none
  |_,_,_,_,_=>none
 | .ref k i j=>match getOb H k,cellsB P t (cellsT x).length,partB x,(cellsT x).all oneT with
  |some (.arr cl ty sz n row),true,true,true=>match Nat.ble (j+(cellsT x).length) sz with
   |true=>some (H.set k (some (.arr (cl&&(cellsT x).all closedT) ty sz n (setRow row i j (cellsT x)))),inB ty i n)
   |false=>none
  |some (.bys ty l),true,true,true=>match x,j with
   | .int .u8 m,0=>some (H.set k (some (.bys ty (l.set i (ofI m)))),some (Lt i l.length/\Rng .u8 m))
   |_,_=>none
  |some (.fam v ty sz n row),true,true,true=>match Nat.ble (j+(cellsT x).length) sz with
   |true=>match(cellsT x).all closedOne with
    |true=>some (H.set k (some (.fam v ty sz n (setRow row i j (cellsT x)))),some (FamB i n (((row i).drop j).take (cellsT x).length)))
    |false=>match absorb H (cellsT x) with
     |some A=>match nodupN (k::A.ks) with
      |true=>some ((dropObs H A.ks).set k (some (.fam (v+1) ty sz n (setRow row i j A.cs))),some (ltS i n A.side))
      |false=>none
     |none=>none
   |false=>none
  |_,_,_,_=>none
 |_=>none

def evBox(_P:Program)(H:Heap)(t:TypeId)(cs:List T):Option (T×Heap×Option Prop):=
 match Nat.beq cs.length 0,cs.all oneT with
 |false,true=>some (.ref H.length 0 0,H++[some (.arr (cs.all closedT) 1000000 cs.length 1 fun _=>cs)],none)
 |_,_=>none

structure Sr where
 cl:Bool
 n:Nat
 row:Nat->List T
 side:Option Prop

def offRow(row:Nat->List T):Nat->Nat->List T
 |0=>row
 |off=>fun i=>row (off+i)

def offSide(off n m:Nat):Option Prop:=some (Le (off+n) m)

def srcT(H:Heap)(d:Option TypeDesc)(sz:Nat)(x:T):Option Sr:=
 match d,x with
 |some (.slice _),.sl sz' n row=>match Nat.beq sz sz' with
  |true=>some ⟨true,n,row,none⟩
  |false=>none
 |some (.slice _),.v (.slice none 0 0)=>some ⟨true,0,fun _=>[],none⟩
 |some (.slice _),.osl k off n=>match getOb H k with
  |some (.arr cl _ sz' m row)=>match Nat.beq sz sz' with
   |true=>some ⟨cl,n,offRow row off,offSide off n m⟩
   |false=>none
  |_=>none
 |_,_=>none

def srcB(H:Heap)(d:Option TypeDesc)(x:T):Option (List UInt8×Option Prop):=
 match d,x with
 |some .string,.str l=>some (l,none)
 |some (.slice _),.bys l=>some (l,none)
 |some (.slice _),.v (.slice none 0 0)=>some ([],none)
 |some (.slice _),.osl k off n=>match getOb H k with
  |some (.bys _ l)=>some ((l.drop off).take n,some (Le (off+n) l.length))
  |_=>none
 |_,_=>none

def andS:Option Prop->Prop->Prop
 |none,q=>q
 |some p,q=>p/\q

def appRow(row:Nat->List T)(n:Nat)(row':Nat->List T)(i:Nat):List T:=
 match Nat.blt i n with
 |true=>row i
 |false=>row' (i-n)

def AppB(n m bytes:Nat):Prop:=(n+m)*bytes<=140737488355328/\n+m<=9223372036854775807

structure SrF where
 n:Nat
 row:Nat->List T
 ks:List Nat
 side:Option Prop

def srcF(H:Heap)(sz:Nat)(x:T):Option SrF:=
 match x with
 | .osl k off n=>match getOb H k with
  |some (.arr true _ sz' m row)=>match Nat.beq sz sz' with
   |true=>some ⟨n,offRow row off,[],offSide off n m⟩
   |false=>none
  |some (.arr false _ sz' m row)=>match Nat.beq sz sz',off,n,m with
   |true,0,1,1=>match absorb H (row 0) with
    |some A=>some ⟨1,fun _=>A.cs,A.ks,A.side⟩
    |none=>none
   |_,_,_,_=>none
  |_=>none
 |_=>none

def evAppend(P:Program)(H:Heap)(t tx:TypeId)(d x:T):Option (T×Heap×Option Prop):=
 match P.underlying t with
 |some (.slice e)=>match P.info? e,zeroCells P e with
  |some i,some z=>match Nat.beq z.length i.size,Nat.beq i.size 0,d with
   |true,false,.v (.slice none 0 0)=>match isByteT P e with
    |true=>(srcB H (P.underlying tx) x).map fun s=>(.osl H.length 0 s.1.length,H++[some (.bys e s.1)],some (andS s.2 (Lt 0 s.1.length/\AppB 0 s.1.length i.bytes)))
    |false=>(srcT H (P.underlying tx) i.size x).map fun s=>(.osl H.length 0 s.n,H++[some (.arr s.cl e i.size s.n s.row)],some (andS s.side (Lt 0 s.n/\AppB 0 s.n i.bytes)))
   |true,false,.emp=>match isByteT P e with
    |true=>none
    |false=>(srcT H (P.underlying tx) i.size x).map fun s=>(.osl H.length 0 s.n,H++[some (.arr s.cl e i.size s.n s.row)],some (andS s.side (AppB 0 s.n i.bytes)))
   |true,false,.osl k 0 n=>match getOb H k with
    |some (.bys _ l)=>match isByteT P e with
     |true=>(srcB H (P.underlying tx) x).map fun s=>(.osl H.length 0 (n+s.1.length),H.set k none++[some (.bys e (l.take n++s.1))],some (andS s.2 (Le n l.length/\AppB n s.1.length i.bytes)))
     |false=>none
    |some (.arr cl _ sz N row)=>match Nat.beq sz i.size with
     |true=>(srcT H (P.underlying tx) i.size x).map fun s=>(.osl H.length 0 (n+s.n),H.set k none++[some (.arr (cl&&s.cl) e i.size (n+s.n) (appRow row n s.row))],some (andS s.side (Le n N/\AppB n s.n i.bytes)))
     |false=>none
    |some (.fam _ _ sz N row)=>match Nat.beq sz i.size,P.underlying tx,srcF H i.size x with
     |true,some (.slice _),some s=>match nodupN (k::s.ks) with
      |true=>some (.osl H.length 0 (n+s.n),dropObs H (k::s.ks)++[some (.fam 0 e i.size (n+s.n) (appRow row n s.row))],some (andS s.side (Le n N/\AppB n s.n i.bytes)))
      |false=>none
     |_,_,_=>none
    |_=>none
   |_,_,_=>none
  |_,_=>none
 |_=>none

def isSlT:T->Bool
 | .sl .. | .osl .. | .posl .. | .v (.slice none 0 0)=>true
 |_=>false

def isZ:T->Bool
 | .int _ i=>decide (i=0)
 |_=>false

def isZo:Option T->Bool
 |none=>true
 |some t=>isZ t

def evSlice0(P:Program)(H:Heap)(t:TypeId)(x:T)(lo:Option T)(hi mx:T):Option (T×Heap×Option Prop):=
 match P.underlying t,isSlT x&&isZo lo&&isZ hi&&isZ mx with
 |some (.slice e),true=>match P.info? e with
  |some i=>match Nat.beq i.size 0,cellsB P e i.size with
   |false,true=>some (.osl H.length 0 0,H++[some (.arr true e i.size 0 fun _=>[])],none)
   |_,_=>none
  |none=>none
 |_,_=>none

def clrRow(row:Nat->List T)(off n:Nat)(z:List T)(j:Nat):List T:=
 match Nat.ble off j&&Nat.blt j (off+n) with
 |true=>z
 |false=>row j

def evClear(P:Program)(H:Heap)(t:TypeId)(x:T):Option (T×Heap×Option Prop):=
 match P.underlying t,x with
 |some (.slice e),.osl k off n=>match P.info? e,zeroCells P e,getOb H k with
  |some i,some z,some (.arr true ty sz N row)=>match Nat.beq z.length i.size&&Nat.beq sz i.size&& !Nat.beq i.size 0&&z.all closedOne with
   |true=>some (.und,H.set k (some (.arr true ty sz N (clrRow row off n z))),some (Le (off+n) N))
   |false=>none
  |_,_,_=>none
 |_,_=>none

def evMem(P:Program)(s:Slots)(H:Heap)(op:Op):Option (T×Heap×Option Prop):=
 match op with
 | .box t x=>match partB (opT s x) with
  |true=>evBox P H t (cellsT (opT s x))
  |false=>none
 | .alloc t=>match zeroCells P t with
  |some z=>evBox P H t z
  |none=>none
 | .store t a x=>(evStore P H t (opT s a) (opT s x)).map fun r=>(.und,r.1,r.2)
 | .makeSlice t l c=>evMake P H t (opT s l) (opT s c)
 | .buildSlice t len parts=>evBuildSlice P s H t len parts
 | .convert src dst x=>match P.underlying src,P.underlying dst,opT s x with
  |some .string,some (.slice e),.str l=>match isByteT P e with
   |true=>some (.bys l,H,some (Lt l.length 140737488355329))
   |false=>none
  |_,_,_=>none
 | .call {callee:=.builtin .append,args,argTypes}=>match args.toList,argTypes.toList with
  | [d,x],[t,tx]=>evAppend P H t tx (opT s d) (opT s x)
  |_,_=>none
 | .makeMap t none=>(evMakeMap P H t).map fun r=>(r.1,r.2,none)
 | .mapUpdate t m k x=>match evMapUp P H t (opT s m) (opT s k) (opT s x) with
  |some r=>some (.und,r,none)
  |none=>(evMapUp2 P H t (opT s m) (opT s k) (opT s x)).map fun r=>(.und,r.1,r.2)
 | .slice t x lo (some hi) (some mx)=>evSlice0 P H t (opT s x) (lo.map (opT s)) (opT s hi) (opT s mx)
 | .call {callee:=.builtin .clear,args,argTypes}=>match args.toList,argTypes.toList with
  | [x],[t]=>evClear P H t (opT s x)
  |_,_=>none
 |_=>none

def mapO{α β:Type}(f:α->Option β):List α->Option (List β)
 | []=>some []
 |a::r=>match f a,mapO f r with
  |some b,some q=>some (b::q)
  |_,_=>none

def andOO:Option Prop->Option Prop->Option Prop
 |none,q=>q
 |p,none=>p
 |some p,some q=>some (p/\q)

def sides:List (T×Option Prop)->Option Prop
 | []=>none
 |x::r=>andOO x.2 (sides r)

def frzC:T->T
 | .own _ sz n row=>.sl sz n row
 |t=>t

def frzR(row:Nat->List T)(i:Nat):List T:=(row i).map frzC

def PoB(v v' i n a m:Nat):Prop:=v=v'/\i<n/\a<=m

def borrow(b:Nat)(H:Heap):Nat->T->Option (T×Option Prop)
 |0,_=>none
 |d+1,t=>match t with
  | .ref k i j=>match Nat.blt k b with
   |true=>some (.ref k i j,none)
   |false=>match getA H k with
    |some A=>match i,A.n with
     |0,1=>match mapO (borrow b H d) ((A.row 0).drop j) with
      |some cs=>match cs.all fun x=>closedT x.1 with
       |true=>some (.bref (cs.map (·.1)),sides cs)
       |false=>none
      |none=>none
     |_,_=>none
    |none=>none
  | .osl k off n=>match Nat.blt k b with
   |true=>some (.osl k off n,none)
   |false=>match getOb H k with
    |some (.arr true _ sz m row)=>some (.sl sz n (offRow row off),offSide off n m)
    |some (.fam _ _ sz m row)=>some (.sl sz n (frzR (offRow row off)),offSide off n m)
    |some (.bys _ l)=>some (.bys ((l.drop off).take n),some (Le (off+n) l.length))
    |_=>none
  | .agg cs=>(mapO (borrow b H d) cs).map fun cs=>(.agg (cs.map (·.1)),sides cs)
  | .fn f cs=>(mapO (borrow b H d) cs).map fun cs=>(.fn f (cs.map (·.1)),sides cs)
  | .tup cs=>(mapO (borrow b H d) cs).map fun cs=>(.tup (cs.map (·.1)),sides cs)
  | .mpr _=>none
  | .posl k v i j n=>match Nat.blt k b with
   |true=>some (.posl k v i j n,none)
   |false=>match getOwn H k v i j with
    |some A=>some (.sl A.A.sz n A.A.row,some (PoB v A.v i A.n n A.A.n))
    |none=>none
  | .pref k v i j z a c=>match Nat.blt k b with
   |true=>some (.pref k v i j z a c,none)
   |false=>none
  | .own .. =>none
  |t=>some (t,none)

def closedD:Nat->T->Bool
 |0,_=>false
 |d+1,t=>match t with
  | .agg cs=>cs.all (closedD d)
  | .fn _ cs=>cs.all (closedD d)
  | .tup cs=>cs.all (closedD d)
  | .und=>false
  |t=>closedT t

def plainD:Nat->T->Bool
 |0,_=>false
 |d+1,t=>match t with
  | .int .. | .bool _| .str _=>true
  | .agg cs=>cs.all (plainD d)
  | .tup cs=>cs.all (plainD d)
  |_=>false

structure Rl where
 (ι:Type)
 (args:ι->List T)
 (res:ι->T)
 (side:ι->Prop)

structure Rle where
 (ι:Type)
 (args:ι->List T)
 (pre:ι->Heap)
 (res:ι->T)
 (post:ι->Heap)
 (side:ι->Prop)

inductive Con where
 |pure (c:List T->Option (T×Option Prop))
 |eff (c:List T->Heap->Option (T×Heap×Option Prop))
 |rel (r:Rl)
 |mk (c:List T->Option (T×Heap×Option Prop))
 |reff (r:Rle)
 |rmk (r:Rle)
 |fz (c:List T->Option (T×Option Prop))
 |rfz (r:Rl)
 |tmp

abbrev Gam:=List (FuncId×Con)

def gam:Gam->FuncId->List T->Option (T×Option Prop)
 | [],_,_=>none
 |(g,c)::r,f,args=>match Nat.beq f g with
  |true=>match c with| .pure c=>c args|_=>none
  |false=>gam r f args

def geff:Gam->FuncId->Option (List T->Heap->Option (T×Heap×Option Prop))
 | [],_=>none
 |(g,c)::r,f=>match Nat.beq f g with
  |true=>match c with| .eff c=>some c|_=>none
  |false=>geff r f

def gmk:Gam->FuncId->Option (List T->Option (T×Heap×Option Prop))
 | [],_=>none
 |(g,c)::r,f=>match Nat.beq f g with
  |true=>match c with| .mk c=>some c|_=>none
  |false=>gmk r f

def gfz:Gam->FuncId->Option (List T->Option (T×Option Prop))
 | [],_=>none
 |(g,c)::r,f=>match Nat.beq f g with
  |true=>match c with| .fz c=>some c|_=>none
  |false=>gfz r f

def Con.isRel:Con->Bool
 | .rel _| .reff _| .rmk _| .rfz _=>true
 |_=>false

def Con.isEff:Con->Bool
 | .eff _| .mk _| .reff _| .rmk _| .fz _| .rfz _=>true
 |_=>false

def Con.isMk:Con->Bool
 | .mk _| .rmk _=>true
 |_=>false

def gfind:Gam->FuncId->Option Con
 | [],_=>none
 |(g,c)::r,f=>match Nat.beq f g with
  |true=>some c
  |false=>gfind r f

def grel(G:Gam)(f:FuncId):Option Con:=
 match gfind G f with
 |some c=>match c.isRel with
  |true=>some c
  |false=>none
 |none=>none

def evTmpL(P:Program)(s:Slots)(t:TypeId)(len:Nat)(parts:Array (Nat×Operand)):Option (T×Option Prop):=
 match P.underlying t with
  |some (.slice e)=>match P.info? e,zeroCells P e with
   |some i,some z=>match Nat.beq z.length i.size,Nat.beq i.size 0,Nat.ble (len*i.size) 16777216 with
    |true,false,true=>match fillT (fun k=>some (k*i.size,i.size)) ((List.replicate len z).flatten) (parts.toList.map fun p=>(p.1,opT s p.2)) with
     |some cs=>match isByteT P e,cs.all oneT,cs.all closedT with
      |false,true,true=>some (.sl i.size len (fun k=>(cs.drop (k*i.size)).take i.size),none)
      |_,_,_=>none
     |none=>none
    |_,_,_=>none
   |_,_=>none
  |_=>none

def evTmp(P:Program)(s:Slots):Op->Option (T×Option Prop)
 | .buildSlice t 0 parts=>match P.underlying t,parts.toList with
  |some (.slice e),[]=>match P.info? e,zeroCells P e with
   |some i,some z=>match Nat.beq z.length i.size,Nat.beq i.size 0 with
    |true,false=>some (.emp,none)
    |_,_=>none
   |_,_=>none
  |_,_=>none
 | .call {callee:=.builtin .append,args,argTypes}=>match args.toList,argTypes.toList with
  | [d,x],[t,tx]=>match opT s d,P.underlying t with
   | .emp,some (.slice e)=>match P.info? e,zeroCells P e with
    |some i,some z=>match Nat.beq z.length i.size,srcT [] (P.underlying tx) i.size (opT s x) with
     |true,some q=>match q.cl with
      |true=>some (.sl i.size q.n q.row,some (andS q.side (AppB 0 q.n i.bytes)))
      |false=>none
     |_,_=>none
    |_,_=>none
   |_,_=>none
  |_,_=>none
 | .buildSlice t (n+1) parts=>evTmpL P s t (n+1) parts
 |_=>none

def tmpN:Gam->Nat
 | []=>0
 |(_,.tmp)::r=>tmpN r+1
 |_::r=>tmpN r

def tmpS(G:Gam):Op->Bool
 | .buildSlice _ (_+1) _=>Nat.ble 1 (tmpN G)
 | .buildSlice _ 0 _=>Nat.ble 2 (tmpN G)
 | .call {callee:=.builtin .append, .. }=>Nat.ble 3 (tmpN G)
 |_=>false

def anyEff:Gam->Bool
 | []=>false
 |(_,c)::r=>c.isEff||anyEff r

def isEff(G:Gam):Operand->Bool
 | .func f=>match gfind G f with
  |some c=>c.isEff
  |none=>false
 |_=>anyEff G

def isMk(G:Gam):Operand->Bool
 | .func f=>match gfind G f with
  |some c=>c.isMk
  |none=>false
 |_=>false

def renT(ρ:Nat->Option Nat):Nat->T->Option T
 |0,_=>none
 |d+1,t=>match t with
  | .ref k i j=>(ρ k).map fun m=>.ref m i j
  | .osl k off n=>(ρ k).map fun m=>.osl m off n
  | .mpr k=>(ρ k).map .mpr
  | .posl k v i j n=>(ρ k).map fun m=>.posl m v i j n
  | .pref k v i j z a b=>(ρ k).map fun m=>.pref m v i j z a b
  | .agg cs=>(mapO (renT ρ d) cs).map .agg
  | .tup cs=>(mapO (renT ρ d) cs).map .tup
  | .fn f cs=>(mapO (renT ρ d) cs).map (.fn f)
  |t=>some t

def obF(ρ:Nat->Option Nat)(ob:Ob):Option Ob:=
 match ob with
 | .bys ty l=>some (.bys ty l)
 | .fam v ty sz n row=>some (.fam v ty sz n row)
 | .arr true ty sz n row=>some (.arr true ty sz n row)
 | .arr false ty sz n row=>match n with
  |1=>(mapO (renT ρ 6) (row 0)).map fun r=>.arr false ty sz 1 fun _=>r
  |_=>none
 | .mp bo get=>some (.mp bo get)
 | .mp2 get=>some (.mp2 get)

def memN(k:Nat):List Nat->Bool
 | []=>false
 |x::r=>Nat.beq k x||memN k r

def nodupB:List Nat->Bool
 | []=>true
 |x::r=> !memN x r&&nodupB r

def idsT:List T->List Nat
 | []=>[]
 | .ref k _ _::r=>k::idsT r
 | .osl k _ _::r=>k::idsT r
 | .agg cs::r=>idsA cs++idsT r
 | .fn _ cs::r=>idsA cs++idsT r
 |_::r=>idsT r
where
 idsA:List T->List Nat
 | []=>[]
 | .ref k _ _::r=>k::idsA r
 | .osl k _ _::r=>k::idsA r
 |_::r=>idsA r

def idsO:Option Ob->List Nat
 |some (.arr false _ _ 1 row)=>idsT (row 0)
 |_=>[]

def reach(H:Heap):Nat->List Nat->List Nat->List Nat
 |0,_,seen=>seen
 |_+1,[],seen=>seen
 |d+1,k::r,seen=>match memN k seen with
  |true=>reach H d r seen
  |false=>reach H d (idsO (getOb H k)++r) (seen++[k])

def idxOf(k:Nat):List Nat->Nat->Option Nat
 | [],_=>none
 |x::r,i=>match Nat.beq k x with
  |true=>some i
  |false=>idxOf k r (i+1)

def nthN:List Nat->Nat->Option Nat
 | [],_=>none
 |k::_,0=>some k
 |_::r,i+1=>nthN r i

def nthX(ks:List Nat)(len i:Nat):Option Nat:=
 match nthN ks i with
 |some k=>some k
 |none=>some (len+(i-ks.length))

def setObs:Heap->List Nat->List (Option Ob)->Heap
 |H,k::ks,o::os=>setObs (H.set k o) ks os
 |H,_,_=>H

def obB(ρ:Nat->Option Nat):Option Ob->Option (Option Ob)
 |none=>some none
 |some ob=>(obF ρ ob).map some

def evEffAt(c:List T->Heap->Option (T×Heap×Option Prop))(H:Heap)(ks:List Nat)(args:List T):Option (T×Heap×Option Prop):=
 match nodupB ks,mapO (renT (fun k=>idxOf k ks 0) 6) args,mapO (fun k=>(getOb H k).bind (obF fun k=>idxOf k ks 0)) ks with
 |true,some as,some obs=>match c as (obs.map some) with
  |some (r,H',p)=>match Nat.ble ks.length H'.length,renT (nthX ks H.length) 6 r,mapO (obB (nthX ks H.length)) H' with
   |true,some r',some os=>some (r',setObs H ks os++os.drop ks.length,p)
   |_,_,_=>none
  |none=>none
 |_,_,_=>none

def no0:Nat->Option Nat
 |0=>none
 |k+1=>some (k+1)

def seqN:Nat->Nat->List Nat
 |_,0=>[]
 |i,n+1=>i::seqN (i+1) n

def okA(t:T):Bool:=
 match t with
 | .ref 0 0 _=>true
 |t=>match renT no0 6 t with
  |some _=>true
  |none=>false

def szOf:Heap->Nat
 |some (.arr _ _ sz _ _)::_=>sz
 |_=>0

def widE(c:List T->Heap->Option (T×Heap×Option Prop))(sz n:Nat)(H:Heap)(as:List T):Option (T×Heap×Option Prop):=
 match H with
 |some (.arr false ty szW m row)::rest=>match m,mapO (obB no0) rest,mapO (renT no0 6) (row 0),as.all okA&&Nat.ble sz szW with
  |1,some rest0,some cs,true=>match evEffAt c (some (.arr false ty sz 1 fun _=>cs.take sz)::rest0) (seqN 0 n) as with
   |some (r,some (.arr _ ty' sz' m' row')::rest',p)=>match m',Nat.beq sz' sz,renT no0 6 r,mapO (obB no0) rest',mapO (renT no0 6) (row' 0) with
    |1,true,some r',some rest2,some cs'=>some (r',some (.arr false ty' szW 1 fun _=>cs'++cs.drop sz)::rest2,p)
    |_,_,_,_,_=>none
   |_=>none
  |_,_,_,_=>none
 |_=>none

def keepObs(ks:List Nat):Heap->Nat->Heap
 | [],_=>[]
 |o::r,i=>(match memN i ks with|true=>o|false=>none)::keepObs ks r (i+1)

def evFz(c:List T->Option (T×Option Prop))(H:Heap)(ks:List Nat)(args:List T):Option (T×Heap×Option Prop):=
 match mapO (borrow 0 (keepObs ks H 0) 6) args with
 |some bs=>match c (bs.map (·.1)) with
  |some (r,p)=>some (r,dropObs H ks,andOO (sides bs) p)
  |none=>none
 |none=>none

def evMk(c:List T->Option (T×Heap×Option Prop))(H:Heap)(args:List T):Option (T×Heap×Option Prop):=
 match mapO (borrow 0 H 6) args with
 |some bs=>match c (bs.map (·.1)) with
  |some (r,H',p)=>match renT (fun k=>some (H.length+k)) 6 r,mapO (obB fun k=>some (H.length+k)) H' with
   |some r',some os=>some (r',H++os,andOO (sides bs) p)
   |_,_=>none
  |none=>none
 |none=>none

def plainV(t:T):Bool:=
 match t with
 | .int .. | .bool _| .str _| .v _=>true
 |_=>false

def SubB(v v' i n a m m':Nat)(row:Nat->List T):Prop:=v=v'/\i<n/\a<=m/\m'=m/\∀r,r<m'->∀t ∈ row r,plainV t=true

def evSub(c:List T->Heap->Option (T×Heap×Option Prop))(H:Heap)(args:List T):Option (T×Heap×Option Prop):=
 match args with
 | .posl k v i j n::rest=>match rest.all (closedD 6),getOb H k,getOwn H k v i j with
  |true,some (.fam v' ty sz N row),some A=>match c (.osl 0 0 n::rest) [some (.arr true A.A.ty A.A.sz A.A.n A.A.row)] with
   |some (r,[some (.arr true _ sz' n' row')],p)=>match plainD 6 r,Nat.beq sz' A.A.sz with
    |true,true=>some (r,H.set k (some (.fam v' ty sz N (setRow row i j [.own A.A.ty sz' n' row']))),andOO p (some (SubB v v' i N n A.A.n n' row')))
    |_,_=>none
   |_=>none
  |_,_,_=>none
 |_=>none

def evEff(G:Gam)(H:Heap)(f:FuncId)(args:List T):Option (T×Heap×Option Prop):=
 match geff G f with
 |some c=>match args with
  | .posl .. ::_=>evSub c H args
  |_=>evEffAt c H (reach H 64 (idsT args) []) args
 |none=>match gmk G f with
  |some c=>evMk c H args
  |none=>match gfz G f with
   |some c=>evFz c H (reach H 64 (idsT args) []) args
   |none=>none

def fnOf(s:Slots):Operand->Option (FuncId×List T)
 | .func f=>some (f,[])
 |x=>match opT s x with
  | .fn (.func f) cs=>some (f,cs)
  | .v (.func (.func f) first caps)=>match first.toList,caps.toList with
   | [],[]=>some (f,[])
   |_,_=>none
  |_=>none

def evPure(G:Gam)(H:Heap)(f:FuncId)(args:List T):Option (T×Option Prop):=
 match args.all (closedD 6) with
 |true=>gam G f args
 |false=>match mapO (borrow 0 H 6) args with
  |some bs=>match gam G f (bs.map (·.1)) with
   |some (r,p)=>match plainD 6 r with
    |true=>some (r,andOO (sides bs) p)
    |false=>none
   |none=>none
  |none=>none

def evOp0(P:Program)(G:Gam)(s:Slots)(H:Heap)(op:Op):Option (T×Heap×Option Prop):=
 match evVal P s H op with
 |some (t,p)=>some (t,H,p)
 |none=>match evMem P s H op with
  |some r=>some r
  |none=>match op with
   | .call {callee:=.value x,args, .. }=>match isEff G x with
    |true=>match x with
     | .func f=>evEff G H f (args.toList.map (opT s))
     |x=>match fnOf s x with
      |some (f,cs)=>match isEff G (.func f) with
       |true=>evEff G H f (args.toList.map (opT s)++cs)
       |false=>(evPure G H f (args.toList.map (opT s)++cs)).map fun r=>(r.1,H,r.2)
      |none=>none
    |false=>match fnOf s x with
     |some (f,cs)=>(evPure G H f (args.toList.map (opT s)++cs)).map fun r=>(r.1,H,r.2)
     |none=>none
   |_=>none

def evOp(P:Program)(G:Gam)(s:Slots)(H:Heap)(op:Op):Option (T×Heap×Option Prop):=
 match tmpS G op with
 |true=>match evTmp P s op with
  |some (t,p)=>some (t,H,p)
  |none=>none
 |false=>evOp0 P G s H op

structure Sy where
 s:Slots
 H:Heap

abbrev Path:=List (Nat×Bool)
abbrev Paths:=List (Nat×Path)

def pathOf:Paths->Nat->Path
 | [],_=>[]
 |(j,p)::r,t=>match Nat.beq t j with|true=>p|false=>pathOf r t

def pathEq:Path->Path->Bool
 | [],[]=>true
 |(a,b)::p,(c,d)::q=>Nat.beq a c&&(b==d)&&pathEq p q
 |_,_=>false

def sufB(p:Path):Path->Bool
 | []=>pathEq p []
 |x::q=>pathEq p (x::q)||sufB p q

def pathProp(s:Slots):Path->Prop->Prop
 | [],p=>p
 |(t,b)::r,p=>match slk s t with
  | .bool x=>pathProp s r (x=b->p)
  |_=>False

def boolPath(s:Slots):Path->Bool
 | []=>true
 |(t,_)::r=>match slk s t with
  | .bool _=>boolPath s r
  |_=>false

def RowsEq(n:Nat)(row row':Nat->List T):Prop:=∀i,i<n->row i=row' i

def matV:Nat->T->T->Prop
 |0,_,_=>False
 |d+1,t,t'=>
  match t,t' with
  |_,.und=>True
  | .int k a,.int k' b=>match decide (k=k') with|true=>a=b|false=>False
  | .bool a,.bool b=>a=b
  | .str a,.str b=>a=b
  | .bys a,.bys b=>a=b
  | .v (.slice none 0 0),.sl _ n _=>n=0
  | .v (.slice none 0 0),.bys l=>l=[]
  | .emp,.sl _ n _=>n=0
  | .emp,.bys l=>l=[]
  | .emp,.emp=>True
  | .v x,.v y=>x=y
  | .sl sz n row,.sl sz' m row'=>match Nat.beq sz sz' with|true=>n=m/\RowsEq n row row'|false=>False
  | .ref k i j,.ref k' i' j'=>match Nat.beq k k' with|true=>i=i'/\j=j'|false=>False
  | .osl k off n,.osl k' off' n'=>match Nat.beq k k' with|true=>off=off'/\n=n'|false=>False
  | .mpr k,.mpr k'=>match Nat.beq k k' with|true=>True|false=>False
  | .agg as,.agg bs=>matsV (matV d) as bs
  | .tup as,.tup bs=>matsV (matV d) as bs
  | .fn f as,.fn g bs=>f=g/\matsV (matV d) as bs
  | .bref as,.bref bs=>match bs.all closedT with|true=>matsP (matV d) as bs|false=>False
  |_,_=>False
where
 matsP (f:T->T->Prop):List T->List T->Prop
 |_,[]=>True
 |a::r,b::q=>f a b/\matsP f r q
 |_,_=>False
 matsV (f:T->T->Prop):List T->List T->Prop
 | [],[]=>True
 |a::r,b::q=>f a b/\matsV f r q
 |_,_=>False

def matA(as bs:List T):Prop:=matV.matsV (matV 6) as bs

def famC:T->T->Prop
 | .own _ sz n row,.own _ sz' n' row'=>sz=sz'/\n=n'/\RowsEq n row row'
 |t,t'=>t=t'

def famL:List T->List T->Prop
 | [],[]=>True
 |a::r,b::q=>famC a b/\famL r q
 |_,_=>False

def FamEq(n:Nat)(row row':Nat->List T):Prop:=∀i,i<n->famL (row i) (row' i)

def matO(o o':Option Ob):Prop:=
 match o,o' with
 |some (.arr cl _ sz n row),some (.arr cl' _ sz' n' row')=>match Nat.beq sz sz',cl,cl' with
  |true,true,true=>n=n'/\RowsEq n row row'
  |true,_,false=>match(row' 0).all oneT with
   |true=>n=1/\n'=1/\matV.matsV (matV 6) (row 0) (row' 0)
   |false=>False
  |_,_,_=>False
 |some (.fam v _ sz n row),some (.fam v' _ sz' n' row')=>match Nat.beq sz sz' with
  |true=>v=v'/\n=n'/\FamEq n row row'
  |false=>False
 |some (.bys _ l),some (.bys _ l')=>l=l'
 |_,_=>False

def matH:Heap->Heap->Prop
 | [],[]=>True
 |o::r,o'::r'=>matO o o'/\matH r r'
 |_,_=>False

def widR(r:Rle)(x:r.ι)(as:List T)(H:Heap):Option (T×Heap×Option Prop):=
 match Nat.ble 9 (szOf (r.pre x))&& !Nat.beq (szOf H) (szOf (r.pre x)) with
 |false=>some (r.res x,r.post x,some (matA as (r.args x)/\matH H (r.pre x)/\r.side x))
 |true=>widE (fun as H=>some (r.res x,r.post x,some (matA as (r.args x)/\matH H (r.pre x)/\r.side x))) (szOf (r.pre x)) (r.pre x).length H as

def relOp(G:Gam)(s:Slots):Op->Option (FuncId×Con)
 | .call {callee:=.value x, .. }=>match fnOf s x with
  |some (f,_)=>(grel G f).map fun r=>(f,r)
  |none=>none
 |_=>none

def inst(f:FuncId)(r:Rl)(x:r.ι)(G:Gam):Gam:=(f,.pure fun as=>some (r.res x,some (matA as (r.args x)/\r.side x)))::G
def instE(f:FuncId)(r:Rle)(x:r.ι)(G:Gam):Gam:=(f,.eff fun as H=>widR r x as H)::G
def instM(f:FuncId)(r:Rle)(x:r.ι)(G:Gam):Gam:=(f,.mk fun as=>some (r.res x,r.post x,some (matA as (r.args x)/\r.side x)))::G

def instF(f:FuncId)(r:Rl)(x:r.ι)(G:Gam):Gam:=(f,.fz fun as=>some (r.res x,some (matA as (r.args x)/\r.side x)))::G

def relP(G:Gam)(s:Slots)(op:Op)(k:Gam->Prop):Prop:=
 match relOp G s op with
 |none=>k G
 |some (f,c)=>match c with
  | .rel r=>∃x:r.ι,k (inst f r x G)
  | .reff r=>∃x:r.ι,k (instE f r x G)
  | .rmk r=>∃x:r.ι,k (instM f r x G)
  | .rfz r=>∃x:r.ι,k (instF f r x G)
  |_=>k G

def andP(s:Slots)(pth:Path):Option Prop->Prop->Prop
 |none,q=>q
 |some p,q=>pathProp s pth p/\q

def tmpOk(ps:Paths)(pth:Path):Operand->Bool
 | .tmp t=>sufB (pathOf ps t) pth
 |_=>true

def pathsOk(ps:Paths)(pth:Path)(op:Op):Bool:=
 match op with
 | .pick (.tmp t) a b=>sufB (pathOf ps t) pth&&tmpOk ps ((t,true)::pth) a&&tmpOk ps ((t,false)::pth) b
 | .pick _ _ _=>false
 |op=>op.operands.toList.all (tmpOk ps pth)

def freshB(ps:Paths)(d:Nat):Bool:=ps.all fun x=> !Nat.beq x.1 d&&x.2.all fun y=> !Nat.beq y.1 d

def freshO(ps:Paths):Option Tmp->Bool
 |none=>true
 |some d=>freshB ps d

def putS(s:Slots)(d:Option Tmp)(t:T):Slots:=match d with|some d=>(d,t)::s|none=>s
def putP(ps:Paths)(d:Option Tmp)(p:Path):Paths:=match d with|some d=>(d,p)::ps|none=>ps

def endS(s:Slots):Paths->Slots
 | []=>s
 |(d,_)::r=>(d,.und)::endS s r

def stays0(G:Gam)(op:Op):Bool:=
 match op with
 | .box .. | .alloc .. | .store .. | .makeSlice .. | .buildSlice .. | .makeMap .. | .mapUpdate .. | .slice _ _ _ _ (some _)=>false
 | .call {callee:=.builtin .append, .. }=>false
 | .call {callee:=.builtin .clear, .. }=>false
 | .call {callee:=.value x, .. }=> !isEff G x
 |_=>true

def stays(G:Gam)(op:Op):Bool:=
 match tmpS G op with
 |true=>true
 |false=>stays0 G op

def dstOk(nt:Nat):Option Tmp->Bool
 |none=>true
 |some d=>Nat.blt d nt

def guardOk(ps:Paths)(g:Nat):Option Tmp->Bool
 |none=>false
 |some d=> !Nat.beq d g&&(pathOf ps g).all fun y=> !Nat.beq y.1 d

def nilCmp(P:Program)(s:Slots):Op->Option (Nat×Bool)
 | .binOp op t x y _=>match P.underlying t,opT s x,opT s y,op with
  |some (.slice _),.sl _ n _,.v (.slice none 0 0),.eql=>some (n,false)
  |some (.slice _),.sl _ n _,.v (.slice none 0 0),.neq=>some (n,true)
  |some (.slice _),.osl _ _ n,.v (.slice none 0 0),.eql=>some (n,false)
  |some (.slice _),.osl _ _ n,.v (.slice none 0 0),.neq=>some (n,true)
  |_,_,_,_=>none
 |_=>none

def NilB(b:Bool)(n:Nat):Prop:=b=true->n=0

def vcOps(P:Program)(G:Gam)(nt:Nat)(all:Array Oper):List Oper->Slots->Paths->Heap->(Slots->Heap->Prop)->Prop
 | [],s,ps,H,K=>K (endS s ps) H
 |o::rest,s,ps,H,K=>
  match o.guard with
  |none=>match pathsOk ps [] o.op&&freshO ps o.dst&&dstOk nt o.dst with
   |false=>False
   |true=>match nilCmp P s o.op with
    |some (n,neg)=>∀b:Bool,NilB b n->vcOps P G nt all rest (putS s o.dst (.bool (cond neg (!b) b))) ps H K
    |none=>relP G s o.op fun G'=>match evOp P G' s H o.op with
     |some (t,H',side)=>andP s [] side (vcOps P G nt all rest (putS s o.dst t) ps H' K)
     |none=>False
  |some (j,want)=>match(all[j]?).bind (·.dst) with
   |some g=>match slk s g with
    | .bool _=>match pathsOk ps ((g,want)::pathOf ps g) o.op&&freshO ps o.dst&&dstOk nt o.dst&&guardOk ps g o.dst with
     |false=>False
     |true=>match stays G o.op with
      |true=>relP G s o.op fun G'=>match evOp P G' s H o.op with
       |some (t,_,side)=>andP s ((g,want)::pathOf ps g) side (vcOps P G nt all rest (putS s o.dst t) (putP ps o.dst ((g,want)::pathOf ps g)) H K)
       |none=>False
      |false=>match boolPath s ((g,want)::pathOf ps g) with
       |false=>False
       |true=>relP G s o.op fun G'=>match evOp P G' s H o.op with
        |some (t,H',side)=>andP s ((g,want)::pathOf ps g) side (pathProp s ((g,want)::pathOf ps g) (vcOps P G nt all rest (putS s o.dst t) (putP ps o.dst ((g,want)::pathOf ps g)) H' K)/\
          (pathProp s ((g,want)::pathOf ps g) False->vcOps P G nt all rest (putS s o.dst t) (putP ps o.dst ((g,want)::pathOf ps g)) H K))
        |none=>False
    |_=>False
   |none=>False

def maskOf(tab:List Nat):List Edge->Nat
 | []=>0
 |e::r=>match Region.binds .any e with
  |true=>Nat.lor (Nat.lor (Nat.shiftLeft 1 e.on) (tab.getD e.on 0)) (maskOf tab r)
  |false=>maskOf tab r

def tmpsOf:List Operand->List Nat
 | []=>[]
 | .tmp t::r=>t::tmpsOf r
 |_::r=>tmpsOf r

def usesOf(all:Array Oper)(o:Oper):List Nat:=
 match o.guard with
 |none=>tmpsOf o.op.operands.toList
 |some (j,_)=>match(all[j]?).bind (·.dst) with
  |some g=>g::tmpsOf o.op.operands.toList
  |none=>tmpsOf o.op.operands.toList

def growB(G:Gam)(op:Op):Bool:=
 match op with
 | .box .. | .alloc .. | .makeSlice .. | .buildSlice .. | .makeMap .. | .slice _ _ _ (some _) (some _)=>true
 | .call {callee:=.value x, .. }=>isMk G x
 |_=>false

def isCallV(op:Op):Bool:=
 match op with
 | .call {callee:=.value _, .. }=>true
 |_=>false

def floatB(G:Gam)(op:Op):Bool:=isCallV op&&growB G op

def isAl(o:Oper):Option TypeId:=
 match o.op,o.guard with
 | .alloc t,none=>some t
 |_,_=>none

def isAlB(o:Oper):Bool:=
 match isAl o with
 |some _=>true
 |none=>false

def cntA:List Oper->Nat
 | []=>0
 |o::r=>match isAlB o with
  |true=>cntA r+1
  |false=>cntA r

def plA(b:Nat)(all:Array Oper)(i:Nat):Nat:=b+cntA (all.toList.take i)

def evAl(P:Program)(H:Heap)(t:TypeId)(r:Nat):Option (T×Heap):=
 match zeroCells P t with
 |some z=>match Nat.beq z.length 0,z.all oneT,getOb H r,Nat.blt r H.length with
  |false,true,none,true=>some (.ref r 0 0,H.set r (some (.arr (z.all closedT) 1000000 z.length 1 fun _=>z)))
  |_,_,_,_=>none
 |none=>none

def padA(H:Heap):Nat->Heap
 |0=>H
 |n+1=>H++List.replicate (n+1) none++[some (.arr true 0 1 0 fun _=>[])]

def usesB(u:Option Tmp)(l:List Nat):Bool:=
 match u with
 |some u=>l.any fun v=>Nat.beq u v
 |none=>false

def sameDst(a b:Option Tmp):Bool:=
 match a,b with
 |some a,some b=>Nat.beq a b
 |_,_=>false

def pureB(op:Op):Bool:=
 match op with
 | .move _| .assign _| .pick .. | .nilCheck _| .binOp .. | .unOp .. | .fieldAddr .. | .field .. | .extract .. | .build .. | .makeFunc .. | .index .. =>true
 |_=>false

def readB(s:Slots)(op:Op):Option (List Nat):=
 match op with
 | .load _ a=>match opT s a with
  | .ref k _ _=>some [k]
  | .bref _=>some []
  |_=>none
 | .indexAddr _ x _=>match opT s x with
  | .sl .. | .bys _=>some []
  | .osl k _ _=>some [k]
  |_=>none
 | .convert _ _ x=>match opT s x with
  | .str _| .bys _| .int .. =>some []
  |_=>none
 | .slice _ x _ _ none=>match opT s x with
  | .str _| .bys _| .sl .. =>some []
  | .osl k _ _=>some [k]
  |_=>none
 | .buildSlice .. =>some []
 | .call {callee:=.builtin .len, .. }=>some []
 | .call {callee:=.value x,args, .. }=>match fnOf s x with
  |some (_,cs)=>match(args.toList.map (opT s)++cs).all (closedD 6) with
   |true=>some []
   |false=>none
  |none=>none
 |_=>none

def writeB(H:Heap)(s:Slots)(op:Op):Option (List Nat):=
 match op with
 | .call {callee:=.builtin .append,args, .. }=>match args.toList with
  |d::_=>match opT s d with
   | .osl k _ _=>match getOb H k with
    |some (.fam ..)=>none
    |_=>some [k]
   | .v _=>some []
   | .emp=>some []
   |_=>none
  | []=>none
 | .store _ a x=>match opT s a with
  | .ref k _ _=>match getOb H k with
   |some (.fam ..)=>match(cellsT (opT s x)).all closedOne with
    |true=>some [k]
    |false=>none
   |_=>some [k]
  | .pref k _ _ _ _ _ _=>some [k]
  |_=>none
 | .call {callee:=.value x,args, .. }=>match fnOf s x with
  |some (_,cs)=>match args.toList.map (opT s)++cs with
   | .posl .. ::_=>none
   |as=>some (reach H 64 (idsT as) [])
  |none=>none
 |_=>none

abbrev RW:=Option (List Nat)×Option (List Nat)
def rwOf(H:Heap)(s:Slots)(op:Op):RW:=(readB s op,writeB H s op)

def disjB(r w:Option (List Nat)):Bool:=
 match r,w with
 |some r,some w=>r.all fun k=>w.all fun j=> !Nat.beq k j
 |_,_=>false

def pairOk(G:Gam)(all:Array Oper)(m i:Nat)(x:Oper)(fx:RW)(o:Oper)(fo:RW):Bool:=
 !sameDst x.dst o.dst&&(Nat.testBit m i||(!usesB x.dst (usesOf all o)&& !usesB o.dst (usesOf all x)&&(match stays G x.op,stays G o.op with
  |true,true=>true
  |true,false=>growB G o.op||pureB x.op||disjB fx.1 fo.2
  |false,true=>growB G x.op||pureB o.op||disjB fo.1 fx.2
  |false,false=>isAlB o&&(isAlB x||floatB G x.op))))

def edgesOk(i:Nat)(o:Oper):Bool:=o.after.toList.all fun e=> !Region.binds .any e||Nat.blt e.on i

def hCur(H0:Heap):List (Nat×Heap)->Heap
 | []=>H0
 |(_,H)::_=>H

def alAt(all:Array Oper)(k:Nat):Bool:=
 match all[k]? with
 |some o=>isAlB o
 |none=>false

def hAt(all:Array Oper)(H0:Heap)(m:Nat):List (Nat×Heap)->Heap
 | []=>H0
 |(k,H)::r=>match Nat.testBit m k&& !alAt all k with
  |true=>H
  |false=>hAt all H0 m r

def vcAny(P:Program)(G:Gam)(nt:Nat)(all:Array Oper)(b:Nat)(H0:Heap):List Oper->Nat->List (Nat×Oper×RW)->List Nat->Slots->Paths->List (Nat×Heap)->(Slots->Heap->Prop)->Prop
 | [],_,_,_,s,ps,hist,K=>K (endS s ps) (hCur H0 hist)
 |o::rest,i,earlier,tab,s,ps,hist,K=>
  match edgesOk i o&&earlier.all (fun x=>pairOk G all (maskOf tab o.after.toList) x.1 x.2.1 x.2.2 o (rwOf (hCur H0 hist) s o.op)) with
  |false=>False
  |true=>match o.guard with
   |none=>match pathsOk ps [] o.op&&freshO ps o.dst&&dstOk nt o.dst with
    |false=>False
    |true=>match isAl o with
     |some t=>match evAl P (hCur H0 hist) t (plA b all i) with
      |some (y,H')=>vcAny P G nt all b H0 rest (i+1) ((i,o,rwOf (hCur H0 hist) s o.op)::earlier) (tab++[maskOf tab o.after.toList]) (putS s o.dst y) ps ((i,H')::hist) K
      |none=>False
     |none=>match stays G o.op with
      |true=>relP G s o.op fun G'=>match evOp P G' s (hAt all H0 (maskOf tab o.after.toList) hist) o.op with
       |some (t,_,side)=>andP s [] side (vcAny P G nt all b H0 rest (i+1) ((i,o,rwOf (hCur H0 hist) s o.op)::earlier) (tab++[maskOf tab o.after.toList]) (putS s o.dst t) ps hist K)
       |none=>False
      |false=>relP G s o.op fun G'=>match evOp P G' s (hCur H0 hist) o.op with
       |some (t,H',side)=>andP s [] side (vcAny P G nt all b H0 rest (i+1) ((i,o,rwOf (hCur H0 hist) s o.op)::earlier) (tab++[maskOf tab o.after.toList]) (putS s o.dst t) ps ((i,H')::hist) K)
       |none=>False
   |some (j,want)=>match(all[j]?).bind (·.dst) with
    |some g=>match slk s g with
     | .bool _=>match Nat.blt j i&&pathsOk ps ((g,want)::pathOf ps g) o.op&&freshO ps o.dst&&dstOk nt o.dst&&stays G o.op&&guardOk ps g o.dst with
      |false=>False
      |true=>relP G s o.op fun G'=>match evOp P G' s (hAt all H0 (maskOf tab o.after.toList) hist) o.op with
       |some (t,_,side)=>andP s ((g,want)::pathOf ps g) side (vcAny P G nt all b H0 rest (i+1) ((i,o,rwOf (hCur H0 hist) s o.op)::earlier) (tab++[maskOf tab o.after.toList]) (putS s o.dst t) (putP ps o.dst ((g,want)::pathOf ps g)) hist K)
       |none=>False
     |_=>False
    |none=>False

def LoopVC(body:(Exit->Sy->Prop)->Sy->Prop)(sub:Sy->Sy->Prop)(Q:Exit->Sy->Prop)(σ:Sy):Prop:=
 ∃(ι:Type) (I:ι->Sy) (μ:ι->Nat),(∃x,sub σ (I x))/\∀x,body (fun e σ'=>match e with| .normal=>∃y,sub σ' (I y)/\μ y<μ x|e=>Q e σ') (I x)

def vc(P:Program)(G:Gam)(nt:Nat)(sub:Sy->Sy->Prop):Code->(Exit->Sy->Prop)->Sy->Prop
 | .skip,Q,σ=>Q .normal σ
 | .region _ ops draw,Q,σ=>match draw with
  |false=>vcOps P G nt ops ops.toList σ.s [] σ.H fun s H=>Q .normal ⟨s,H⟩
  |true=>vcAny P G nt ops σ.H.length (padA σ.H (cntA ops.toList)) ops.toList 0 [] [] σ.s [] [] fun s H=>Q .normal ⟨s,H⟩
 | .seq a b,Q,σ=>vc P G nt sub a (fun e σ'=>match e with| .normal=>vc P G nt sub b Q σ'|e=>Q e σ') σ
 | .cond c x y,Q,σ=>match opT σ.s c with
  | .bool b=>(b=true->vc P G nt sub x Q σ)/\(b=false->vc P G nt sub y Q σ)
  |_=>False
 | .block id body,Q,σ=>vc P G nt sub body (fun e σ'=>match e with| .exit i=>(match Nat.beq i id with|true=>Q .normal σ'|false=>Q (.exit i) σ')|e=>Q e σ') σ
 | .loop body,Q,σ=>LoopVC (vc P G nt sub body) sub Q σ
 | .exit id,Q,σ=>Q (.exit id) σ
 | .ret,Q,σ=>Q .ret σ
 |_,_,_=>False

def resOne(P:Program)(s:Slots)(H:Heap):ResultVar->Option (T×Option Prop)
 | .tmp t=>some (slk s t,none)
 | .cell a t=>evLoad P H t (slk s a)

def resT(P:Program)(s:Slots)(H:Heap)(rs:List ResultVar):Option (T×Option Prop):=
 match mapO (resOne P s H) rs with
 |some [x]=>some x
 |some xs=>some (.tup (xs.map (·.1)),sides xs)
 |none=>none

def andO:Option Prop->Prop->Prop
 |none,q=>q
 |some p,q=>p/\q

def retQ(P:Program)(rs:List ResultVar)(post:T->Prop):Exit->Sy->Prop
 | .normal,σ| .ret,σ=>match resT P σ.s σ.H rs with
  |some (r,p)=>match borrow 0 σ.H 6 r with
   |some (r',p')=>andO p (andO p' (post r'))
   |none=>False
  |none=>False
 |_,_=>False

def initS:Nat->List T->Slots
 |_,[]=>[]
 |i,t::r=>(i,t)::initS (i+1) r

end Go.SS
