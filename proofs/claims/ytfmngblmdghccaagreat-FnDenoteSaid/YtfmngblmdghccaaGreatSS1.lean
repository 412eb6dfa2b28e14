/- A part of the proof. -/
import Derived.WalkKit
import Derived.WalkSpells
import Derived.WalkLawsBesides
import Derived.Lib.Strings
import Derived.Laws.BytesArg
import Derived.Deep.AppendSrc
import Derived.MapKept
import Derived.DeepKeys3
namespace Go.SS
open Go.RowKit

inductive T where
 |int (k:IntKind) (n:Int)
 |bool (b:Bool)
 |str (l:List UInt8)
 |v (x:Value)
 |bys (l:List UInt8)
 |sl (sz n:Nat) (row:Nat->List T)
 |bref (cells:List T)
 |ref (k i j:Nat)
 |osl (k off n:Nat)
 |agg (cs:List T)
 |tup (cs:List T)
 |fn (f:Fn) (caps:List T)
 |mpr (k:Nat)
 |ifp (t:TypeId) (k:Nat) (ms:List (String×FuncId))
 |own (ty:TypeId) (sz n:Nat) (row:Nat->List T)
 |posl (k v i j n:Nat)
 |pref (k v i j z a b:Nat)
 |emp
 |und
 deriving Inhabited

structure Arr where
 cl:Bool
 ty:TypeId
 sz:Nat
 n:Nat
 row:Nat->List T

inductive Ob where
 |arr (cl:Bool) (ty:TypeId) (sz n:Nat) (row:Nat->List T)
 |fam (v:Nat) (ty:TypeId) (sz n:Nat) (row:Nat->List T)
 |bys (ty:TypeId) (l:List UInt8)
 |mp (bo:Bool) (get:Int->Int)
 |mp2 (get:Int->Int->Bool)

def byRow(l:List UInt8)(i:Nat):List T:=[.int .u8 ((l.getD i 0).toNat:Int)]

def Ob.toArr:Ob->Arr
 | .arr cl ty sz n row=>⟨cl,ty,sz,n,row⟩
 | .fam _ ty sz n row=>⟨false,ty,sz,n,row⟩
 | .bys ty l=>⟨true,ty,1,l.length,byRow l⟩
 | .mp _ _=>⟨true,0,0,0,fun _=>[]⟩
 | .mp2 _=>⟨true,0,0,0,fun _=>[]⟩

def Ob.isArr:Ob->Bool
 | .mp _ _=>false
 | .mp2 _=>false
 | .fam .. =>false
 |_=>true

def viewC(k v i:Nat):Nat->List T->List T
 |_,[]=>[]
 |j,.own _ _ n _::r=>.posl k v i j n::viewC k v i (j+1) r
 |j,t::r=>t::viewC k v i (j+1) r

def viewR(k v:Nat)(row:Nat->List T)(i:Nat):List T:=viewC k v i 0 (row i)

abbrev Heap:=List (Option Ob)
abbrev Slots:=List (Nat×T)

def slk:Slots->Nat->T
 | [],_=>.und
 |(j,t)::r,i=>match Nat.beq i j with|true=>t|false=>slk r i

def ofConst:Value->T
 | .int k n=>.int k n
 | .bool b=>.bool b
 | .string s=>.str s.data.toList
 |x=>.v x

def opT(s:Slots):Operand->T
 | .tmp t=>slk s t
 | .const c=>ofConst c
 | .func f=>.v (.func (.func f) #[] #[])
 | .global g=>.v (.pointer (some ⟨g,0,none⟩))

def Rng(k:IntKind)(n:Int):Prop:=k.min<=n/\n<=k.max
def InB(i:Int)(n:Nat):Prop:=0<=i/\i<n
def Lt(i n:Nat):Prop:=i<n
def Nn(i:Int):Prop:=0<=i
def LeI(i j:Int):Prop:=i<=j
def Nz(i:Int):Prop:=i≠0
def evCmp(op:BinOp)(a b:Int):Option Bool:=
 match op with
 | .eql=>some (a==b)
 | .neq=>some (a !=b)
 | .lss=>some (decide (a<b))
 | .leq=>some (decide (a<=b))
 | .gtr=>some (decide (a>b))
 | .geq=>some (decide (a≥b))
 |_=>none

def evInt(op:BinOp)(k:IntKind)(a b:Int):Option (T×Option Prop):=
 match op with
 | .add=>some (.int k (a+b),some (Rng k (a+b)))
 | .sub=>some (.int k (a-b),some (Rng k (a-b)))
 | .mul=>some (.int k (a*b),some (Rng k (a*b)))
 | .quo=>some (.int k (a.tdiv b),some (Nz b/\Rng k (a.tdiv b)))
 | .rem=>some (.int k (a.tmod b),some (Nz b))
 | .and=>some (.int k (bits .and k a b),none)
 | .or=>some (.int k (bits .or k a b),none)
 | .xor=>some (.int k (bits .xor k a b),none)
 | .andNot=>some (.int k (bits .andNot k a b),none)
 | .shl=>some (.int k (k.wrap (a*2 ^ (min b.toNat k.bits))),some (Nn b))
 | .shr=>some (.int k (a.fdiv (2 ^ (min b.toNat k.bits))),some (Nn b))
 |op=>(evCmp op a b).map fun r=>(.bool r,none)

def evStr(op:BinOp)(a b:List UInt8):Option (T×Option Prop):=
 match op with
 | .add=>some (.str (a++b),some (Lt (a.length+b.length) 9223372036854775808))
 | .eql=>some (.bool (a==b),none)
 | .neq=>some (.bool (!(a==b)),none)
 | .lss=>some (.bool (Op.bytesLess a b),none)
 | .leq=>some (.bool (Op.bytesLess a b||a==b),none)
 | .gtr=>some (.bool (!(Op.bytesLess a b||a==b)),none)
 | .geq=>some (.bool (!(Op.bytesLess a b)),none)
 |_=>none

def sameKind(op:BinOp)(k k':IntKind):Bool:=
 match op with
 | .shl| .shr=>true
 |_=>decide (k=k')

def isAggT(P:Program)(t:TypeId):Bool:=
 match P.underlying t with
 |some (.struct _)|some (.array _ _)=>true
 |_=>false

def fieldOf(P:Program)(t:TypeId)(f:Nat):Option Field:=
 match P.underlying t with
 |some (.struct fs)=>fs[f]?
 |_=>none

def takeT(P:Program)(t:TypeId)(cs:List T)(off:Nat):Option T:=
 match(P.underlying t).isSome,isAggT P t with
 |true,true=>match Nat.ble (off+P.cellsOf t) cs.length with
  |true=>some (.agg ((cs.drop off).take (P.cellsOf t)))
  |false=>none
 |true,false=>cs[off]?
 |false,_=>none

def eqFs(P:Program)(rec:TypeId->T->T->Option Bool)(xs ys:List T):List Field->Option Bool
 | []=>some true
 |f::r=>match decide (f.name= "_"),takeT P f.type xs f.offset,takeT P f.type ys f.offset with
  |false,some a,some b=>match rec f.type a b,eqFs P rec xs ys r with
   |some p,some q=>some (p&&q)
   |_,_=>none
  |_,_,_=>none

def eqT(P:Program):Nat->TypeId->T->T->Option Bool
 |0,_,_,_=>none
 |d+1,t,x,y=>match P.underlying t,x,y with
  |some (.int _),.int k a,.int k' b=>match decide (k=k') with
   |true=>some (a==b)
   |false=>none
  |some .bool,.bool a,.bool b=>some (a==b)
  |some .string,.str a,.str b=>some (a==b)
  |some (.struct fs),.agg xs,.agg ys=>match P.stoodInHeld t with
   |false=>eqFs P (eqT P d) xs ys fs.toList
   |true=>none
  |_,_,_=>none

def evEq(P:Program)(op:BinOp)(t:TypeId)(x y:T):Option (T×Option Prop):=
 match P.eqGuardType P.depth t,op with
 |false,.eql=>(eqT P 20 t x y).map fun b=>(.bool b,none)
 |false,.neq=>(eqT P 20 t x y).map fun b=>(.bool (!b),none)
 |_,_=>none

def evPtr(P:Program)(op:BinOp)(t:TypeId)(b:Bool):Option (T×Option Prop):=
 match P.underlying t,op with
 |some (.pointer e),.eql=>match decide (e=P.pointee t) with
  |true=>some (.bool b,none)
  |false=>none
 |some (.pointer e),.neq=>match decide (e=P.pointee t) with
  |true=>some (.bool (!b),none)
  |false=>none
 |_,_=>none

def evBin(P:Program)(op:BinOp)(t:TypeId)(x y:T):Option (T×Option Prop):=
 match x,y with
 | .int k a,.int k' b=>match sameKind op k k' with
  |true=>evInt op k a b
  |false=>none
 | .str a,.str b=>evStr op a b
 | .bool a,.bool b=>match P.underlying t,op with
  |some .bool,.eql=>some (.bool (a==b),none)
  |some .bool,.neq=>some (.bool (!(a==b)),none)
  |_,_=>none
 | .agg xs,.agg ys=>evEq P op t (.agg xs) (.agg ys)
 | .ref ..,.v (.pointer none)=>evPtr P op t false
 | .pref ..,.v (.pointer none)=>evPtr P op t false
 | .v (.pointer none),.v (.pointer none)=>evPtr P op t true
 | .v (.slice none 0 0),.v (.slice none 0 0)=>match P.underlying t,op with
  |some (.slice _),.eql=>some (.bool true,none)
  |some (.slice _),.neq=>some (.bool false,none)
  |_,_=>none
 |_,_=>none

def inB(ty i n:Nat):Option Prop:=
 match Nat.beq ty 1000000 with
 |true=>match i,n with
  |0,1=>none
  |i,n=>some (Lt i n)
 |false=>some (Lt i n)

def getOb(H:Heap)(k:Nat):Option Ob:=(H[k]?).bind id
def getA(H:Heap)(k:Nat):Option Arr:=match getOb H k with
 |some (.fam v ty sz n row)=>some ⟨false,ty,sz,n,viewR k v row⟩
 |some ob=>match ob.isArr with
  |true=>some ob.toArr
  |false=>none
 |none=>none

structure Own where
 v:Nat
 n:Nat
 A:Arr

def getOwn(H:Heap)(k _v i j:Nat):Option Own:=match getOb H k with
 |some (.fam v' _ _ n row)=>match(row i)[j]? with
  |some (.own ty sz m r)=>some ⟨v',n,true,ty,sz,m,r⟩
  |_=>none
 |_=>none

def PfB(v v' i n a m:Nat):Prop:=v=v'/\i<n/\a<m

def evLoad(P:Program)(H:Heap)(t:TypeId)(a:T):Option (T×Option Prop):=
 match a with
 | .bref cells=>(takeT P t cells 0).map fun x=>(x,none)
 | .ref k i j=>match getA H k with
  |some A=>(takeT P t (A.row i) j).map fun x=>(x,inB A.ty i A.n)
  |_=>none
 | .pref k v i j z a b=>match getOwn H k v i j with
  |some A=>match Nat.beq z A.A.sz with
   |true=>(takeT P t (A.A.row a) b).map fun x=>(x,some (PfB v A.v i A.n a A.A.n))
   |false=>none
  |none=>none
 |_=>none

def cellsB(P:Program)(t:TypeId)(n:Nat):Bool:=
 match P.info? t with
 |some i=>Nat.beq i.size n
 |none=>false

def evIndexAddr(P:Program)(H:Heap)(t:TypeId)(x ix:T):Option (T×Option Prop):=
 match ix with
 | .int _ i=>
  match P.underlying t,x with
  |some (.slice e),.sl sz n row=>match cellsB P e sz with
   |true=>some (.bref (row i.toNat),some (InB i n))
   |false=>none
  |some (.slice e),.bys l=>match cellsB P e 1 with
   |true=>some (.bref (byRow l i.toNat),some (InB i l.length))
   |false=>none
  |some (.slice e),.osl k off n=>match getA H k with
   |some A=>match cellsB P e A.sz with
    |true=>some (.ref k (off+i.toNat) 0,some (InB i n))
    |false=>none
   |_=>none
  |some (.slice e),.posl k v i' j n=>match getOwn H k v i' j with
   |some A=>match cellsB P e A.A.sz with
    |true=>some (.pref k v i' j A.A.sz i.toNat 0,some (InB i n))
    |false=>none
   |_=>none
  |some (.array n e),.bref cells=>match(P.info? e).isSome with
   |true=>some (.bref (cells.drop (i.toNat*P.cellsOf e)),some (InB i n))
   |false=>none
  |some (.array n e),.ref k r j=>match(P.info? e).isSome with
   |true=>some (.ref k r (j+i.toNat*P.cellsOf e),some (InB i n))
   |false=>none
  |_,_=>none
 |_=>none

def evLen(P:Program)(t:TypeId)(x:T):Option Int:=
 match P.underlying t,x with
 |some .string,.str l=>some l.length
 |some (.slice _),.bys l=>some l.length
 |some (.slice _),.sl _ n _=>some n
 |some (.slice _),.osl _ _ n=>some n
 |some (.slice _),.posl _ _ _ _ n=>some n
 |some (.slice _),.v (.slice none n _)=>some n
 |some (.slice _),.emp=>some 0
 |_,_=>none

def zeroCells(P:Program)(t:TypeId):Option (List T):=((P.info? t).bind (·.zero)).map fun z=>z.cells.toList.map ofConst

def cellsT:T->List T
 | .agg cs=>cs
 |t=>[t]

def oneT:T->Bool
 | .agg _| .tup _| .und=>false
 | .v (.agg _)| .v (.tuple _)=>false
 |_=>true

def closedT:T->Bool
 | .ref .. | .osl .. | .agg _| .tup _| .fn .. | .mpr _| .ifp .. =>false
 | .own .. | .posl .. | .pref .. =>false
 |_=>true

def isOwn:T->Bool
 | .own .. =>true
 |_=>false

def evPick(s:Slots)(c a b:Operand):Option T:=
 match opT s c with
 | .bool cb=>match a,b with
  | .const (.bool true),b=>match opT s b with
   | .bool y=>some (.bool (cb||y))
   |_=>none
  |a,.const (.bool false)=>match opT s a with
   | .bool x=>some (.bool (cb&&x))
   |_=>none
  |_,_=>none
 |_=>none

def Le(i n:Nat):Prop:=i<=n

def evConv(P:Program)(H:Heap)(src dst:TypeId)(x:T):Option (T×Option Prop):=
 match P.underlying src,P.underlying dst,x with
 |some (.int _),some (.int k),.int _ n=>some (.int k (k.wrap n),none)
 |some .string,some .string,.str l=>some (.str l,none)
 |some (.slice e),some .string,.bys l=>match P.underlying e with
  |some (.int .u8)=>some (.str l,none)
  |_=>none
 |some (.slice e),some .string,.osl k off n=>match P.underlying e,getOb H k with
  |some (.int .u8),some (.bys _ l)=>some (.str ((l.drop off).take n),some (Le (off+n) l.length))
  |_,_=>none
 |_,_,_=>none

def evField(P:Program)(t:TypeId)(x:T)(f:Nat):Option T:=
 match fieldOf P t f,x with
 |some fd,.agg cs=>takeT P fd.type cs fd.offset
 |_,_=>none

def evFieldAddr(P:Program)(t:TypeId)(x:T)(f:Nat):Option T:=
 match fieldOf P t f with
 |some fd=>match cellsB P fd.type (P.cellsOf fd.type),Nat.beq (P.cellsOf fd.type) 0,x with
  |true,false,.ref k i j=>some (.ref k i (j+fd.offset))
  |true,false,.bref cs=>some (.bref (cs.drop fd.offset))
  |_,_,_=>none
 |none=>none

def evIndex(P:Program)(t:TypeId)(x i:T):Option (T×Option Prop):=
 match P.underlying t,x,i with
 |some .string,.str l,.int _ i=>some (.int .u8 ((l.getD i.toNat 0).toNat:Int),some (InB i l.length))
 |some (.array n e),.agg cs,.int _ i=>match(P.info? e).isSome,takeT P e cs (i.toNat*P.cellsOf e) with
  |true,some x=>some (x,some (InB i n))
  |_,_=>none
 |_,_,_=>none

def InC(i:Int)(n:Nat):Prop:=0<=i/\i<=n
def InC2(a h:Int)(n:Nat):Prop:=0<=a/\a<=h/\h<=n

def cutL(l:List UInt8):Option Int->Option Int->List UInt8
 |none,none=>l
 |none,some h=>l.take h.toNat
 |some a,none=>l.drop a.toNat
 |some a,some h=>(l.take h.toNat).drop a.toNat

def cutN(n:Nat):Option Int->Option Int->Nat
 |none,none=>n
 |none,some h=>h.toNat
 |some a,none=>n-a.toNat
 |some a,some h=>h.toNat-a.toNat

def cutO(off:Nat):Option Int->Nat
 |none=>off
 |some a=>off+a.toNat

def cutRow(row:Nat->List T):Option Int->Nat->List T
 |none=>row
 |some a=>fun i=>row (a.toNat+i)

def cutS(n:Nat):Option Int->Option Int->Option Prop
 |none,none=>none
 |none,some h=>some (InC h n)
 |some a,none=>some (InC a n)
 |some a,some h=>some (InC2 a h n)

def intOfT:Option T->Option (Option Int)
 |none=>some none
 |some (.int _ i)=>some (some i)
 |_=>none

def evSlice(P:Program)(H:Heap)(t:TypeId)(x:T)(lo hi:Option T):Option (T×Option Prop):=
 match intOfT lo,intOfT hi with
 |some a,some h=>match P.underlying t,x with
  |some .string,.str l=>some (.str (cutL l a h),cutS l.length a h)
  |some (.slice e),.bys l=>match cellsB P e 1 with
   |true=>some (.bys (cutL l a h),cutS l.length a h)
   |false=>none
  |some (.slice e),.sl sz n row=>match cellsB P e sz with
   |true=>some (.sl sz (cutN n a h) (cutRow row a),cutS n a h)
   |false=>none
  |some (.slice e),.osl k off n=>match getA H k with
   |some A=>match cellsB P e A.sz with
    |true=>some (.osl k (cutO off a) (cutN n a h),cutS n a h)
    |false=>none
   |none=>none
  |some (.slice e),.v (.slice none 0 0)=>match P.info? e with
   |some i=>match cellsB P e i.size with
    |true=>some (.v (.slice none 0 0),cutS 0 a h)
    |false=>none
   |none=>none
  |_,_=>none
 |_,_=>none

def partB:T->Bool
 | .agg _=>true
 |x=>oneT x

def fillT(place:Nat->Option (Nat×Nat))(cells:List T):List (Nat×T)->Option (List T)
 | []=>some cells
 |(i,x)::rest=>match place i,partB x with
  |some (off,size),true=>match Nat.beq (cellsT x).length size,Nat.ble (off+(cellsT x).length) cells.length with
   |true,true=>fillT place (cells.take off++cellsT x++cells.drop (off+(cellsT x).length)) rest
   |_,_=>none
  |_,_=>none

def fillS(place:Nat->Option (Nat×Nat))(m:Nat):Nat->List (Nat×T)->Option (List T)
 |n,[]=>match Nat.beq n m with
  |true=>some []
  |false=>none
 |n,(i,x)::rest=>match place i,partB x with
  |some (off,size),true=>match Nat.beq off n,Nat.beq (cellsT x).length size with
   |true,true=>(fillS place m (n+size) rest).map (cellsT x++ ·)
   |_,_=>none
  |_,_=>none

def fillQ(place:Nat->Option (Nat×Nat))(z:List T)(parts:List (Nat×T)):Option (List T):=
 match fillS place z.length 0 parts with
 |some cs=>some cs
 |none=>fillT place z parts

def evBuild(P:Program)(s:Slots)(t:TypeId)(parts:Array (Nat×Operand)):Option T:=
 match zeroCells P t,P.underlying t with
 |some z,some (.struct fs)=>match fs.toList.all fun f=>(P.info? f.type).isSome with
  |true=>(fillQ (fun i=>(fs.toList[i]?).map fun f=>(f.offset,P.cellsOf f.type)) z (parts.toList.map fun p=>(p.1,opT s p.2))).map .agg
  |false=>none
 |some z,some (.array _ e)=>match(P.info? e).isSome with
  |true=>(fillQ (fun i=>some (i*P.cellsOf e,P.cellsOf e)) z (parts.toList.map fun p=>(p.1,opT s p.2))).map .agg
  |false=>none
 |_,_=>none

def evFunc(s:Slots)(fn:Fn)(captured:Array Operand):T:=.fn fn (captured.toList.map (opT s))

def mval(bo:Bool)(n:Int):T:=match bo with
 |true=>.bool (decide (n≠0))
 |false=>.int .i64 n

def mapB(P:Program)(t:TypeId)(bo:Bool):Bool:=
 match P.underlying t with
 |some (.map kt et)=>match P.underlying kt,(P.info? et).bind (·.zero),bo with
  |some (.int .i64),some (.int .i64 n),false=>decide (n=0)
  |some (.int .i64),some (.bool b),true=> !b
  |_,_,_=>false
 |_=>false

def i64B(P:Program)(t:TypeId):Bool:=
 match P.underlying t with
 |some (.int .i64)=>Nat.beq (P.cellsOf t) 1
 |_=>false

def pairB(P:Program)(kt:TypeId):Bool:=
 match P.underlying kt with
 |some (.struct fs)=>match fs.toList with
  | [f0,f1]=>f0.name != "_" &&f1.name != "_" &&Nat.beq f0.offset 0&&Nat.beq f1.offset 1&&i64B P f0.type&&i64B P f1.type&&Nat.beq (P.cellsOf kt) 2&& !Nat.beq P.types.size 0
  |_=>false
 |_=>false

def map2B(P:Program)(t:TypeId):Bool:=
 match P.underlying t with
 |some (.map kt et)=>match(P.info? et).bind (·.zero) with
  |some (.bool b)=> !b&&P.keyTypeAt 2 kt&&P.tiled 2 kt&&P.keyType kt&&pairB P kt
  |_=>false
 |_=>false

def evLook(P:Program)(H:Heap)(t:TypeId)(m k:T):Option (T×Option Prop):=
 match m,k with
 | .mpr j,.int .i64 n=>match getOb H j with
  |some (.mp bo get)=>match mapB P t bo with
   |true=>some (mval bo (get n),none)
   |false=>none
  |_=>none
 | .mpr j,.agg [.int .i64 a,.int .i64 b]=>match getOb H j with
  |some (.mp2 get)=>match map2B P t with
   |true=>some (.bool (get a b),some (Rng .i64 a/\Rng .i64 b))
   |false=>none
  |_=>none
 |_,_=>none

def munT(bo:Bool):T->Option Int
 | .int .i64 n=>match bo with|false=>some n|true=>none
 | .bool b=>match bo with|true=>some (cond b 1 0)|false=>none
 |_=>none

def evMapUp(P:Program)(H:Heap)(t:TypeId)(m k x:T):Option Heap:=
 match m,k with
 | .mpr j,.int .i64 n=>match getOb H j with
  |some (.mp bo get)=>match mapB P t bo,munT bo x with
   |true,some v=>some (H.set j (some (.mp bo fun i=>cond (decide (i=n)) v (get i))))
   |_,_=>none
  |_=>none
 |_,_=>none

def evMapUp2(P:Program)(H:Heap)(t:TypeId)(m k x:T):Option (Heap×Option Prop):=
 match m,k,x with
 | .mpr j,.agg [.int .i64 a,.int .i64 b],.bool v=>match getOb H j with
  |some (.mp2 get)=>match map2B P t with
   |true=>some (H.set j (some (.mp2 fun a' b'=>cond (decide (a'=a/\b'=b)) v (get a' b'))),some (Rng .i64 a/\Rng .i64 b))
   |false=>none
  |_=>none
 |_,_,_=>none

def evMakeMap(P:Program)(H:Heap)(t:TypeId):Option (T×Heap):=
 match mapB P t true,mapB P t false with
 |true,_=>some (.mpr H.length,H++[some (.mp true fun _=>0)])
 |_,true=>some (.mpr H.length,H++[some (.mp false fun _=>0)])
 |_,_=>match map2B P t with
  |true=>some (.mpr H.length,H++[some (.mp2 fun _ _=>false)])
  |false=>none

def evUn(op:UnOp)(x:T):Option (T×Option Prop):=
 match op,x with
 | .not,.bool b=>some (.bool (!b),none)
 | .neg,.int k n=>some (.int k (0-n),some (Rng k (0-n)))
 |_,_=>none

def evExtract(x:T)(i:Nat):Option T:=
 match x with
 | .tup cs=>cs[i]?
 |_=>none

def minI(a b:Int):Int:=if b<a then b else a
def evMin:T->T->Option (T×Option Prop)
 | .int k a,y=>match y with
  | .int _ b=>some (.int k (minI a b),none)
  |_=>none
 |_,_=>none

def maxI(a b:Int):Int:=if b>a then b else a
def evMax:T->T->Option (T×Option Prop)
 | .int k a,y=>match y with
  | .int _ b=>some (.int k (maxI a b),none)
  |_=>none
 |_,_=>none

def evCap(P:Program)(t:TypeId)(x:T):Option (T×Option Prop):=
 match P.underlying t,x with
 |some (.slice _),.v (.slice none 0 0)=>some (.int .i64 0,none)
 |_,_=>none

def msOf(P:Program)(t:TypeId):List (String×FuncId):=
 match P.info? t with
 |some i=>i.methods.toList.filterMap fun m=>match m.path.isEmpty,m.func with
  |true,some (f,true)=>some (m.name,f)
  |_,_=>none
 |none=>[]

def msGet:List (String×FuncId)->String->Option FuncId
 | [],_=>none
 |(n,f)::r,x=>match n==x with|true=>some f|false=>msGet r x

def methB(P:Program)(t:TypeId)(name:String)(f:FuncId):Bool:=
 match P.underlying t,(P.info? t).bind fun i=>i.methods.find? (·.name==name) with
 |some (.pointer _),some m=>m.path.isEmpty&&(match m.func with|some (g,true)=>Nat.beq f g|_=>false)
 |_,_=>false

def evIfc(P:Program)(t:TypeId)(x:T):Option T:=
 match P.underlying t,x with
 |some (.pointer _),.ref k 0 0=>some (.ifp t k (msOf P t))
 |_,_=>none

def evVal(P:Program)(s:Slots)(H:Heap)(op:Op):Option (T×Option Prop):=
 match op with
 | .move x| .assign x=>some (opT s x,none)
 | .pick c a b=>(evPick s c a b).map (·,none)
 | .load t a=>evLoad P H t (opT s a)
 | .nilCheck x=>match opT s x with
  | .ref k i j=>some (.ref k i j,none)
  | .bref cs=>some (.bref cs,none)
  |_=>none
 | .binOp op t x y _=>evBin P op t (opT s x) (opT s y)
 | .unOp op _ x=>evUn op (opT s x)
 | .convert src dst x=>evConv P H src dst (opT s x)
 | .fieldAddr t x f=>(evFieldAddr P t (opT s x) f).map (·,none)
 | .field t x f=>(evField P t (opT s x) f).map (·,none)
 | .indexAddr t x i=>evIndexAddr P H t (opT s x) (opT s i)
 | .index t x i=>evIndex P t (opT s x) (opT s i)
 | .extract x i=>(evExtract (opT s x) i).map (·,none)
 | .call {callee:=.builtin .len,args,argTypes}=>match args.toList,argTypes.toList with
  | [x],[t]=>(evLen P t (opT s x)).map fun n=>(.int .i64 n,none)
  |_,_=>none
 | .slice t x lo hi none=>evSlice P H t (opT s x) (lo.map (opT s)) (hi.map (opT s))
 | .build t parts=>(evBuild P s t parts).map (·,none)
 | .makeFunc fn first captured=>match first.toList with
  | []=>some (evFunc s fn captured,none)
  |_=>none
 | .lookup t m k false=>evLook P H t (opT s m) (opT s k)
 | .call {callee:=.builtin .min,args, .. }=>match args.toList with
  | [x,y]=>evMin (opT s x) (opT s y)
  |_=>none
 | .call {callee:=.builtin .cap,args,argTypes}=>match args.toList,argTypes.toList with
  | [x],[t]=>evCap P t (opT s x)
  |_,_=>none
 | .makeInterface t x=>(evIfc P t (opT s x)).map (·,none)
 | .call {callee:=.builtin .max,args, .. }=>match args.toList with
  | [x,y]=>evMax (opT s x) (opT s y)
  |_=>none
 |_=>none

def ofI(n:Int):UInt8:=UInt8.ofNat n.toNat

def bytesT:List T->Option (List Int)
 | []=>some []
 | .int .u8 n::r=>(bytesT r).map (n:: ·)
 |_=>none

def rngs:List Int->Option Prop
 | []=>none
 |n::r=>match rngs r with
  |none=>some (Rng .u8 n)
  |some p=>some (Rng .u8 n/\p)

def isByteT(P:Program)(e:TypeId):Bool:=
 match P.underlying e,zeroCells P e with
 |some (.int .u8),some [.int .u8 n]=>decide (n=0)
 |_,_=>false

def sizeB(a b c:Nat):Prop:=a*b<=c

def evMake(P:Program)(H:Heap)(t:TypeId)(l c:T):Option (T×Heap×Option Prop):=
 match P.underlying t,l,c with
 |some (.slice e),.int .i64 n,.int .i64 m=>match P.info? e,zeroCells P e with
  |some i,some z=>match Nat.beq z.length i.size,Nat.beq i.size 0,z.all oneT with
   |true,false,true=>some (.osl H.length 0 n.toNat,H++[some (match isByteT P e with
     |true=>.bys e (List.replicate n.toNat 0)
     |false=>.arr (z.all closedT) e i.size n.toNat fun _=>z)],some (Nn n/\LeI n m/\sizeB i.bytes m.toNat 140737488355328/\Lt m.toNat 9223372036854775808))
   |_,_,_=>none
  |_,_=>none
 |_,_,_=>none

def evBuildSlice(P:Program)(s:Slots)(H:Heap)(t:TypeId)(len:Nat)(parts:Array (Nat×Operand)):Option (T×Heap×Option Prop):=
 match P.underlying t with
 |some (.slice e)=>match P.info? e,zeroCells P e with
  |some i,some z=>match Nat.beq z.length i.size,Nat.beq i.size 0,Nat.ble (len*i.size) 16777216 with
   |true,false,true=>match fillT (fun k=>some (k*i.size,i.size)) ((List.replicate len z).flatten) (parts.toList.map fun p=>(p.1,opT s p.2)) with
    |some cs=>match isByteT P e with
     |true=>(bytesT cs).map fun ns=>(.osl H.length 0 len,H++[some (.bys e (ns.map ofI))],rngs ns)
     |false=>match cs.all oneT with
      |true=>some (.osl H.length 0 len,H++[some (.arr (cs.all closedT) e i.size len fun k=>(cs.drop (k*i.size)).take i.size)],none)
      |false=>none
    |none=>none
   |_,_,_=>none
  |_,_=>none
 |_=>none

def sel(b:Bool)(x y:T):T:=match b with|true=>x|false=>y
def selR(b:Bool)(x y:Nat->List T)(i:Nat):List T:=match b with|true=>x i|false=>y i

def mrg(b:Bool)(x y:T):T:=
 match x,y with
 | .int k n,.int k' m=>match decide (k=k') with
  |true=>.int k (cond b n m)
  |false=>sel b (.int k n) (.int k' m)
 | .bool p,.bool q=>.bool (cond b p q)
 | .str l,.str m=>.str (cond b l m)
 | .own ty sz n row,.own ty' sz' n' row'=>match decide (ty=ty'),decide (sz=sz') with
  |true,true=>.own ty sz (cond b n n') (selR b row row')
  |_,_=>sel b (.own ty sz n row) (.own ty' sz' n' row')
 |x,y=>sel b x y

def zipB(b:Bool):List T->List T->List T
 |x::xs,o::os=>mrg b x o::zipB b xs os
 | [],os=>os
 |_::_,[]=>[]

def putB(b:Bool):Nat->List T->List T->List T
 |0,xs,os=>zipB b xs os
 |j+1,xs,o::os=>o::putB b j xs os
 |_+1,_,[]=>[]

def setRow(row:Nat->List T)(i j:Nat)(cs:List T)(k:Nat):List T:=putB (Nat.beq k i) j cs (row k)

def closedOne(t:T):Bool:=closedT t&&oneT t

def noOwn(cs:List T):Bool:=cs.all fun t=> !isOwn t
def FamB(i n:Nat)(cs:List T):Prop:=i<n/\noOwn cs=true

structure Abs where
 cs:List T
 ks:List Nat
 side:Option Prop

def absorb(H:Heap):List T->Option Abs
 | []=>some ⟨[],[],none⟩
 | .osl m off n::r=>match off,getOb H m,absorb H r with
  |0,some (.arr true ty sz N row),some A=>some ⟨.own ty sz n row::A.cs,m::A.ks,some (match A.side with|none=>Le n N|some p=>Le n N/\p)⟩
  |_,_,_=>none
 |t::r=>match closedOne t,absorb H r with
  |true,some A=>some ⟨t::A.cs,A.ks,A.side⟩
  |_,_=>none

def dropObs:Heap->List Nat->Heap
 |H,[]=>H
 |H,k::r=>dropObs (H.set k none) r

def nodupN:List Nat->Bool
 | []=>true
 |x::r=>r.all (fun y=> !Nat.beq x y)&&nodupN r

def ltS(i n:Nat):Option Prop->Prop
 |none=>i<n
 |some p=>i<n/\p

def evStore(P:Program)(H:Heap)(t:TypeId)(a x:T):Option (Heap×Option Prop):=
 match a with
 | .pref k v i j z a b=>match getOb H k,getOwn H k v i j,cellsB P t (cellsT x).length,partB x,(cellsT x).all closedOne with
  |some (.fam v' ty sz n row),some A,true,true,true=>match Nat.beq z A.A.sz,Nat.ble (b+(cellsT x).length) A.A.sz with
   |true,true=>some (H.set k (some (.fam v' ty sz n (setRow row i j [.own A.A.ty A.A.sz A.A.n (setRow A.A.row a b (cellsT x))]))),some (PfB v v' i n a A.A.n))
   |_,_=>none
  |_,_,_,_,_=>none
 | .ref k i j=>match getOb H k,cellsB P t (cellsT x).length,partB x,(cellsT x).all oneT with
  |some (.arr cl ty sz n row),true,true,true=>match Nat.ble (j+(cellsT x).length) sz with
   |true=>some (H.set k (some (.arr (cl&&(cellsT x).all closedT) ty sz n (setRow row i j (cellsT x)))),inB ty i n)
   |false=>none
  |some (.bys ty l),true,true,true=>match x,j with
   | .int .u8 m,0=>some (H.set k (some (.bys ty (l.set i (ofI m)))),some (Lt i l.length/\Rng .u8 m))
   |_,_=>none
  |some (.fam v ty sz n row),true,true,true=>match Nat.ble (j+(cellsT x).length) sz with
   |true=>match(cellsT x).all closedOne with
    |true=>some (H.set k (some (.fam v ty sz n (setRow row i j (cellsT x)))),some (FamB i n (((row i).drop j).take (cellsT x).length)))
    |false=>match absorb H (cellsT x) with
     |some A=>match nodupN (k::A.ks) with
      |true=>some ((dropObs H A.ks).set k (some (.fam (v+1) ty sz n (setRow row i j A.cs))),some (ltS i n A.side))
      |false=>none
     |none=>none
   |false=>none
  |_,_,_,_=>none
 |_=>none

def evBox(_P:Program)(H:Heap)(t:TypeId)(cs:List T):Option (T×Heap×Option Prop):=
 match Nat.beq cs.length 0,cs.all oneT with
 |false,true=>some (.ref H.length 0 0,H++[some (.arr (cs.all closedT) 1000000 cs.length 1 fun _=>cs)],none)
 |_,_=>none

structure Sr where
 cl:Bool
 n:Nat
 row:Nat->List T
 side:Option Prop

def offRow(row:Nat->List T):Nat->Nat->List T
 |0=>row
 |off=>fun i=>row (off+i)

def offSide(off n m:Nat):Option Prop:=some (Le (off+n) m)

def srcT(H:Heap)(d:Option TypeDesc)(sz:Nat)(x:T):Option Sr:=
 match d,x with
 |some (.slice _),.sl sz' n row=>match Nat.beq sz sz' with
  |true=>some ⟨true,n,row,none⟩
  |false=>none
 |some (.slice _),.v (.slice none 0 0)=>some ⟨true,0,fun _=>[],none⟩
 |some (.slice _),.osl k off n=>match getOb H k with
  |some (.arr cl _ sz' m row)=>match Nat.beq sz sz' with
   |true=>some ⟨cl,n,offRow row off,offSide off n m⟩
   |false=>none
  |_=>none
 |_,_=>none

def srcB(H:Heap)(d:Option TypeDesc)(x:T):Option (List UInt8×Option Prop):=
 match d,x with
 |some .string,.str l=>some (l,none)
 |some (.slice _),.bys l=>some (l,none)
 |some (.slice _),.v (.slice none 0 0)=>some ([],none)
 |some (.slice _),.osl k off n=>match getOb H k with
  |some (.bys _ l)=>some ((l.drop off).take n,some (Le (off+n) l.length))
  |_=>none
 |_,_=>none

def andS:Option Prop->Prop->Prop
 |none,q=>q
 |some p,q=>p/\q

def appRow(row:Nat->List T)(n:Nat)(row':Nat->List T)(i:Nat):List T:=
 match Nat.blt i n with
 |true=>row i
 |false=>row' (i-n)

def AppB(n m bytes:Nat):Prop:=(n+m)*bytes<=140737488355328/\n+m<=9223372036854775807

structure SrF where
 n:Nat
 row:Nat->List T
 ks:List Nat
 side:Option Prop

def srcF(H:Heap)(sz:Nat)(x:T):Option SrF:=
 match x with
 | .osl k off n=>match getOb H k with
  |some (.arr true _ sz' m row)=>match Nat.beq sz sz' with
   |true=>some ⟨n,offRow row off,[],offSide off n m⟩
   |false=>none
  |some (.arr false _ sz' m row)=>match Nat.beq sz sz',off,n,m with
   |true,0,1,1=>match absorb H (row 0) with
    |some A=>some ⟨1,fun _=>A.cs,A.ks,A.side⟩
    |none=>none
   |_,_,_,_=>none
  |_=>none
 |_=>none

def zsrc(d:Option TypeDesc)(x:T):Option Int:=
 match d,x with
 |some (.int _),.int _ n=>some n
 |_,_=>none

def evAppend(P:Program)(H:Heap)(t tx:TypeId)(d x:T):Option (T×Heap×Option Prop):=
 match P.underlying t with
 |some (.slice e)=>match P.info? e,zeroCells P e with
  |some i,some z=>match Nat.beq z.length i.size,Nat.beq i.size 0,d with
   |true,false,.v (.slice none 0 0)=>match isByteT P e with
    |true=>(srcB H (P.underlying tx) x).map fun s=>(.osl H.length 0 s.1.length,H++[some (.bys e s.1)],some (andS s.2 (Lt 0 s.1.length/\AppB 0 s.1.length i.bytes)))
    |false=>match zsrc (P.underlying tx) x with
     |some n=>match z.all oneT with
      |true=>some (.osl H.length 0 n.toNat,H++[some (.arr (z.all closedT) e i.size n.toNat fun _=>z)],some (Nn n/\Lt 0 n.toNat/\AppB 0 n.toNat i.bytes))
      |false=>none
     |none=>(srcT H (P.underlying tx) i.size x).map fun s=>(.osl H.length 0 s.n,H++[some (.arr s.cl e i.size s.n s.row)],some (andS s.side (Lt 0 s.n/\AppB 0 s.n i.bytes)))
   |true,false,.emp=>match isByteT P e with
    |true=>none
    |false=>(srcT H (P.underlying tx) i.size x).map fun s=>(.osl H.length 0 s.n,H++[some (.arr s.cl e i.size s.n s.row)],some (andS s.side (AppB 0 s.n i.bytes)))
   |true,false,.osl k 0 n=>match getOb H k with
    |some (.bys _ l)=>match isByteT P e with
     |true=>(srcB H (P.underlying tx) x).map fun s=>(.osl H.length 0 (n+s.1.length),H.set k none++[some (.bys e (l.take n++s.1))],some (andS s.2 (Le n l.length/\AppB n s.1.length i.bytes)))
     |false=>none
    |some (.arr cl _ sz N row)=>match Nat.beq sz i.size with
     |true=>(srcT H (P.underlying tx) i.size x).map fun s=>(.osl H.length 0 (n+s.n),H.set k none++[some (.arr (cl&&s.cl) e i.size (n+s.n) (appRow row n s.row))],some (andS s.side (Le n N/\AppB n s.n i.bytes)))
     |false=>none
    |some (.fam _ _ sz N row)=>match Nat.beq sz i.size,P.underlying tx,srcF H i.size x with
     |true,some (.slice _),some s=>match nodupN (k::s.ks) with
      |true=>some (.osl H.length 0 (n+s.n),dropObs H (k::s.ks)++[some (.fam 0 e i.size (n+s.n) (appRow row n s.row))],some (andS s.side (Le n N/\AppB n s.n i.bytes)))
      |false=>none
     |_,_,_=>none
    |_=>none
   |_,_,_=>none
  |_,_=>none
 |_=>none

def isSlT:T->Bool
 | .sl .. | .osl .. | .posl .. | .v (.slice none 0 0)=>true
 |_=>false

def isZ:T->Bool
 | .int _ i=>decide (i=0)
 |_=>false

def isZo:Option T->Bool
 |none=>true
 |some t=>isZ t

def evSlice0(P:Program)(H:Heap)(t:TypeId)(x:T)(lo:Option T)(hi mx:T):Option (T×Heap×Option Prop):=
 match P.underlying t,isSlT x&&isZo lo&&isZ hi&&isZ mx with
 |some (.slice e),true=>match P.info? e with
  |some i=>match Nat.beq i.size 0,cellsB P e i.size with
   |false,true=>some (.osl H.length 0 0,H++[some (.arr true e i.size 0 fun _=>[])],none)
   |_,_=>none
  |none=>none
 |_,_=>none

def clrRow(row:Nat->List T)(off n:Nat)(z:List T)(j:Nat):List T:=
 match Nat.ble off j&&Nat.blt j (off+n) with
 |true=>z
 |false=>row j

def evClear(P:Program)(H:Heap)(t:TypeId)(x:T):Option (T×Heap×Option Prop):=
 match P.underlying t,x with
 |some (.slice e),.osl k off n=>match P.info? e,zeroCells P e,getOb H k with
  |some i,some z,some (.arr true ty sz N row)=>match Nat.beq z.length i.size&&Nat.beq sz i.size&& !Nat.beq i.size 0&&z.all closedOne with
   |true=>some (.und,H.set k (some (.arr true ty sz N (clrRow row off n z))),some (Le (off+n) N))
   |false=>none
  |_,_,_=>none
 |_,_=>none

def evMem(P:Program)(s:Slots)(H:Heap)(op:Op):Option (T×Heap×Option Prop):=
 match op with
 | .box t x=>match partB (opT s x) with
  |true=>evBox P H t (cellsT (opT s x))
  |false=>none
 | .alloc t=>match zeroCells P t with
  |some z=>evBox P H t z
  |none=>none
 | .store t a x=>(evStore P H t (opT s a) (opT s x)).map fun r=>(.und,r.1,r.2)
 | .makeSlice t l c=>evMake P H t (opT s l) (opT s c)
 | .buildSlice t len parts=>evBuildSlice P s H t len parts
 | .convert src dst x=>match P.underlying src,P.underlying dst,opT s x with
  |some .string,some (.slice e),.str l=>match isByteT P e with
   |true=>some (.bys l,H,some (Lt l.length 140737488355329))
   |false=>none
  |_,_,_=>none
 | .call {callee:=.builtin .append,args,argTypes}=>match args.toList,argTypes.toList with
  | [d,x],[t,tx]=>evAppend P H t tx (opT s d) (opT s x)
  |_,_=>none
 | .makeMap t none=>(evMakeMap P H t).map fun r=>(r.1,r.2,none)
 | .mapUpdate t m k x=>match evMapUp P H t (opT s m) (opT s k) (opT s x) with
  |some r=>some (.und,r,none)
  |none=>(evMapUp2 P H t (opT s m) (opT s k) (opT s x)).map fun r=>(.und,r.1,r.2)
 | .slice t x lo (some hi) (some mx)=>evSlice0 P H t (opT s x) (lo.map (opT s)) (opT s hi) (opT s mx)
 | .call {callee:=.builtin .clear,args,argTypes}=>match args.toList,argTypes.toList with
  | [x],[t]=>evClear P H t (opT s x)
  |_,_=>none
 |_=>none

def mapO{α β:Type}(f:α->Option β):List α->Option (List β)
 | []=>some []
 |a::r=>match f a,mapO f r with
  |some b,some q=>some (b::q)
  |_,_=>none

def andOO:Option Prop->Option Prop->Option Prop
 |none,q=>q
 |p,none=>p
 |some p,some q=>some (p/\q)

def sides:List (T×Option Prop)->Option Prop
 | []=>none
 |x::r=>andOO x.2 (sides r)

def frzC:T->T
 | .own _ sz n row=>.sl sz n row
 |t=>t

def frzR(row:Nat->List T)(i:Nat):List T:=(row i).map frzC

def PoB(v v' i n a m:Nat):Prop:=v=v'/\i<n/\a<=m

def pairR(a b:List T):Nat->List T
 |0=>a
 |_+1=>b

def borrow(b:Nat)(H:Heap):Nat->T->Option (T×Option Prop)
 |0,_=>none
 |d+1,t=>match t with
  | .ref k i j=>match Nat.blt k b with
   |true=>some (.ref k i j,none)
   |false=>match getA H k with
    |some A=>match i,A.n with
     |0,1=>match mapO (borrow b H d) ((A.row 0).drop j) with
      |some cs=>match cs.all fun x=>closedT x.1 with
       |true=>some (.bref (cs.map (·.1)),sides cs)
       |false=>none
      |none=>none
     |_,_=>none
    |none=>none
  | .osl k off n=>match Nat.blt k b with
   |true=>some (.osl k off n,none)
   |false=>match getOb H k with
    |some (.arr true _ sz m row)=>some (.sl sz n (offRow row off),offSide off n m)
    |some (.fam _ _ sz m row)=>some (.sl sz n (frzR (offRow row off)),offSide off n m)
    |some (.bys _ l)=>some (.bys ((l.drop off).take n),some (Le (off+n) l.length))
    |some (.arr false _ sz m row)=>match Nat.beq off 0&&Nat.beq n 2&&Nat.beq m 2&&Nat.beq sz 1 with
     |true=>match mapO (borrow b H d) (row 0),mapO (borrow b H d) (row 1) with
      |some c0,some c1=>match(c0++c1).all fun x=>closedT x.1&&oneT x.1 with
       |true=>some (.sl 1 2 (pairR (c0.map (·.1)) (c1.map (·.1))),sides (c0++c1))
       |false=>none
      |_,_=>none
     |false=>none
    |_=>none
  | .agg cs=>(mapO (borrow b H d) cs).map fun cs=>(.agg (cs.map (·.1)),sides cs)
  | .fn f cs=>(mapO (borrow b H d) cs).map fun cs=>(.fn f (cs.map (·.1)),sides cs)
  | .tup cs=>(mapO (borrow b H d) cs).map fun cs=>(.tup (cs.map (·.1)),sides cs)
  | .mpr _=>none
  | .ifp .. =>none
  | .posl k v i j n=>match Nat.blt k b with
   |true=>some (.posl k v i j n,none)
   |false=>match getOwn H k v i j with
    |some A=>some (.sl A.A.sz n A.A.row,some (PoB v A.v i A.n n A.A.n))
    |none=>none
  | .pref k v i j z a c=>match Nat.blt k b with
   |true=>some (.pref k v i j z a c,none)
   |false=>none
  | .own .. =>none
  |t=>some (t,none)

def closedD:Nat->T->Bool
 |0,_=>false
 |d+1,t=>match t with
  | .agg cs=>cs.all (closedD d)
  | .fn _ cs=>cs.all (closedD d)
  | .tup cs=>cs.all (closedD d)
  | .und=>false
  |t=>closedT t

def plainD:Nat->T->Bool
 |0,_=>false
 |d+1,t=>match t with
  | .int .. | .bool _| .str _=>true
  | .agg cs=>cs.all (plainD d)
  | .tup cs=>cs.all (plainD d)
  |_=>false

structure Rl where
 (ι:Type)
 (args:ι->List T)
 (res:ι->T)
 (side:ι->Prop)

structure Rle where
 (ι:Type)
 (args:ι->List T)
 (pre:ι->Heap)
 (res:ι->T)
 (post:ι->Heap)
 (side:ι->Prop)

inductive Con where
 |pure (c:List T->Option (T×Option Prop))
 |eff (c:List T->Heap->Option (T×Heap×Option Prop))
 |rel (r:Rl)
 |mk (c:List T->Option (T×Heap×Option Prop))
 |reff (r:Rle)
 |rmk (r:Rle)
 |fz (c:List T->Option (T×Option Prop))
 |rfz (r:Rl)
 |tmp

abbrev Gam:=List (FuncId×Con)

def gam:Gam->FuncId->List T->Option (T×Option Prop)
 | [],_,_=>none
 |(g,c)::r,f,args=>match Nat.beq f g with
  |true=>match c with| .pure c=>c args|_=>none
  |false=>gam r f args

def geff:Gam->FuncId->Option (List T->Heap->Option (T×Heap×Option Prop))
 | [],_=>none
 |(g,c)::r,f=>match Nat.beq f g with
  |true=>match c with| .eff c=>some c|_=>none
  |false=>geff r f

def gmk:Gam->FuncId->Option (List T->Option (T×Heap×Option Prop))
 | [],_=>none
 |(g,c)::r,f=>match Nat.beq f g with
  |true=>match c with| .mk c=>some c|_=>none
  |false=>gmk r f

def gfz:Gam->FuncId->Option (List T->Option (T×Option Prop))
 | [],_=>none
 |(g,c)::r,f=>match Nat.beq f g with
  |true=>match c with| .fz c=>some c|_=>none
  |false=>gfz r f

def Con.isRel:Con->Bool
 | .rel _| .reff _| .rmk _| .rfz _=>true
 |_=>false

def Con.isEff:Con->Bool
 | .eff _| .mk _| .reff _| .rmk _| .fz _| .rfz _=>true
 |_=>false

def Con.isEf:Con->Bool
 | .eff _| .reff _=>true
 |_=>false

def Con.isMk:Con->Bool
 | .mk _| .rmk _=>true
 |_=>false

def gfind:Gam->FuncId->Option Con
 | [],_=>none
 |(g,c)::r,f=>match Nat.beq f g with
  |true=>some c
  |false=>gfind r f

def grel(G:Gam)(f:FuncId):Option Con:=
 match gfind G f with
 |some c=>match c.isRel with
  |true=>some c
  |false=>none
 |none=>none

def intsT:List T->Option (List Int)
 | []=>some []
 | .int .i64 n::r=>(intsT r).map (n:: ·)
 |_=>none

def litR(cs:List T)(sz len:Nat):Nat->List T:=
 match intsT cs,Nat.beq sz 1&&Nat.beq cs.length len with
 |some l,true=>fun k=>[.int .i64 (l.getD k 0)]
 |_,_=>fun k=>(cs.drop (k*sz)).take sz

def evTmpL(P:Program)(s:Slots)(t:TypeId)(len:Nat)(parts:Array (Nat×Operand)):Option (T×Option Prop):=
 match P.underlying t with
  |some (.slice e)=>match P.info? e,zeroCells P e with
   |some i,some z=>match Nat.beq z.length i.size,Nat.beq i.size 0,Nat.ble (len*i.size) 16777216 with
    |true,false,true=>match fillT (fun k=>some (k*i.size,i.size)) ((List.replicate len z).flatten) (parts.toList.map fun p=>(p.1,opT s p.2)) with
     |some cs=>match isByteT P e,cs.all oneT,cs.all closedT with
      |false,true,true=>some (.sl i.size len (litR cs i.size len),none)
      |_,_,_=>none
     |none=>none
    |_,_,_=>none
   |_,_=>none
  |_=>none

def evTmp(P:Program)(s:Slots):Op->Option (T×Option Prop)
 | .buildSlice t 0 parts=>match P.underlying t,parts.toList with
  |some (.slice e),[]=>match P.info? e,zeroCells P e with
   |some i,some z=>match Nat.beq z.length i.size,Nat.beq i.size 0 with
    |true,false=>some (.emp,none)
    |_,_=>none
   |_,_=>none
  |_,_=>none
 | .call {callee:=.builtin .append,args,argTypes}=>match args.toList,argTypes.toList with
  | [d,x],[t,tx]=>match opT s d,P.underlying t with
   | .emp,some (.slice e)=>match P.info? e,zeroCells P e with
    |some i,some z=>match Nat.beq z.length i.size,srcT [] (P.underlying tx) i.size (opT s x) with
     |true,some q=>match q.cl with
      |true=>some (.sl i.size q.n q.row,some (andS q.side (AppB 0 q.n i.bytes)))
      |false=>none
     |_,_=>none
    |_,_=>none
   |_,_=>none
  |_,_=>none
 | .buildSlice t (n+1) parts=>evTmpL P s t (n+1) parts
 |_=>none

def tmpN:Gam->Nat
 | []=>0
 |(_,.tmp)::r=>tmpN r+1
 |_::r=>tmpN r

def appS(n:Nat)(args:List Operand):Bool:=
 match Nat.ble 8 n with
 |true=>false
 |false=>match Nat.ble 4 n with
 |true=>match args with
  | .tmp d::_=>match Nat.beq (n % 2) 0 with
   |true=>Nat.blt n d
   |false=>Nat.blt d n
  |_=>true
 |false=>Nat.ble 3 n

def constB:Operand->Bool
 | .const _=>true
 |_=>false

def tmpS(G:Gam):Op->Bool
 | .buildSlice _ (_+1) parts=>Nat.ble 1 (tmpN G)&& !Nat.beq 9 (tmpN G)&&(!Nat.beq 10 (tmpN G)||parts.toList.all fun p=>constB p.2)
 | .buildSlice _ 0 _=>Nat.ble 2 (tmpN G)&& !Nat.beq 9 (tmpN G)&& !Nat.beq 10 (tmpN G)
 | .call {callee:=.builtin .append,args, .. }=>appS (tmpN G) args.toList
 |_=>false

def anyEff:Gam->Bool
 | []=>false
 |(_,c)::r=>c.isEff||anyEff r

def isEff(G:Gam):Operand->Bool
 | .func f=>match gfind G f with
  |some c=>c.isEff
  |none=>false
 |_=>anyEff G

def isEf(G:Gam):Operand->Bool
 | .func f=>match gfind G f with
  |some c=>c.isEf
  |none=>false
 |_=>false

def isMk(G:Gam):Operand->Bool
 | .func f=>match gfind G f with
  |some c=>c.isMk
  |none=>false
 |_=>false

def renT(ρ:Nat->Option Nat):Nat->T->Option T
 |0,_=>none
 |d+1,t=>match t with
  | .ref k i j=>(ρ k).map fun m=>.ref m i j
  | .osl k off n=>(ρ k).map fun m=>.osl m off n
  | .mpr k=>(ρ k).map .mpr
  | .ifp t k ms=>(ρ k).map fun m=>.ifp t m ms
  | .posl k v i j n=>(ρ k).map fun m=>.posl m v i j n
  | .pref k v i j z a b=>(ρ k).map fun m=>.pref m v i j z a b
  | .agg cs=>(mapO (renT ρ d) cs).map .agg
  | .tup cs=>(mapO (renT ρ d) cs).map .tup
  | .fn f cs=>(mapO (renT ρ d) cs).map (.fn f)
  |t=>some t

def obF(ρ:Nat->Option Nat)(ob:Ob):Option Ob:=
 match ob with
 | .bys ty l=>some (.bys ty l)
 | .fam v ty sz n row=>some (.fam v ty sz n row)
 | .arr true ty sz n row=>some (.arr true ty sz n row)
 | .arr false ty sz n row=>match n with
  |1=>(mapO (renT ρ 6) (row 0)).map fun r=>.arr false ty sz 1 fun _=>r
  |_=>none
 | .mp bo get=>some (.mp bo get)
 | .mp2 get=>some (.mp2 get)

def memN(k:Nat):List Nat->Bool
 | []=>false
 |x::r=>Nat.beq k x||memN k r

def nodupB:List Nat->Bool
 | []=>true
 |x::r=> !memN x r&&nodupB r

def idsT:List T->List Nat
 | []=>[]
 | .ref k _ _::r=>k::idsT r
 | .osl k _ _::r=>k::idsT r
 | .ifp _ k _::r=>k::idsT r
 | .agg cs::r=>idsA cs++idsT r
 | .fn _ cs::r=>idsA cs++idsT r
 |_::r=>idsT r
where
 idsA:List T->List Nat
 | []=>[]
 | .ref k _ _::r=>k::idsA r
 | .osl k _ _::r=>k::idsA r
 | .ifp _ k _::r=>k::idsA r
 |_::r=>idsA r

def idsO:Option Ob->List Nat
 |some (.arr false _ _ 1 row)=>idsT (row 0)
 |_=>[]

def reach(H:Heap):Nat->List Nat->List Nat->List Nat
 |0,_,seen=>seen
 |_+1,[],seen=>seen
 |d+1,k::r,seen=>match memN k seen with
  |true=>reach H d r seen
  |false=>reach H d (idsO (getOb H k)++r) (seen++[k])

def idxOf(k:Nat):List Nat->Nat->Option Nat
 | [],_=>none
 |x::r,i=>match Nat.beq k x with
  |true=>some i
  |false=>idxOf k r (i+1)

def nthN:List Nat->Nat->Option Nat
 | [],_=>none
 |k::_,0=>some k
 |_::r,i+1=>nthN r i

def nthX(ks:List Nat)(len i:Nat):Option Nat:=
 match nthN ks i with
 |some k=>some k
 |none=>some (len+(i-ks.length))

def setObs:Heap->List Nat->List (Option Ob)->Heap
 |H,k::ks,o::os=>setObs (H.set k o) ks os
 |H,_,_=>H

def obB(ρ:Nat->Option Nat):Option Ob->Option (Option Ob)
 |none=>some none
 |some ob=>(obF ρ ob).map some

def evEffAt(c:List T->Heap->Option (T×Heap×Option Prop))(H:Heap)(ks:List Nat)(args:List T):Option (T×Heap×Option Prop):=
 match nodupB ks,mapO (renT (fun k=>idxOf k ks 0) 6) args,mapO (fun k=>(getOb H k).bind (obF fun k=>idxOf k ks 0)) ks with
 |true,some as,some obs=>match c as (obs.map some) with
  |some (r,H',p)=>match Nat.ble ks.length H'.length,renT (nthX ks H.length) 6 r,mapO (obB (nthX ks H.length)) H' with
   |true,some r',some os=>some (r',setObs H ks os++os.drop ks.length,p)
   |_,_,_=>none
  |none=>none
 |_,_,_=>none

def no0:Nat->Option Nat
 |0=>none
 |k+1=>some (k+1)

def seqN:Nat->Nat->List Nat
 |_,0=>[]
 |i,n+1=>i::seqN (i+1) n

def okA(t:T):Bool:=
 match t with
 | .ref 0 0 _=>true
 |t=>match renT no0 6 t with
  |some _=>true
  |none=>false

def szOf:Heap->Nat
 |some (.arr _ _ sz _ _)::_=>sz
 |_=>0

def widE(c:List T->Heap->Option (T×Heap×Option Prop))(sz n:Nat)(H:Heap)(as:List T):Option (T×Heap×Option Prop):=
 match H with
 |some (.arr false ty szW m row)::rest=>match m,mapO (obB no0) rest,mapO (renT no0 6) (row 0),as.all okA&&Nat.ble sz szW with
  |1,some rest0,some cs,true=>match evEffAt c (some (.arr false ty sz 1 fun _=>cs.take sz)::rest0) (seqN 0 n) as with
   |some (r,some (.arr _ ty' sz' m' row')::rest',p)=>match m',Nat.beq sz' sz,renT no0 6 r,mapO (obB no0) rest',mapO (renT no0 6) (row' 0) with
    |1,true,some r',some rest2,some cs'=>some (r',some (.arr false ty' szW 1 fun _=>cs'++cs.drop sz)::rest2,p)
    |_,_,_,_,_=>none
   |_=>none
  |_,_,_,_=>none
 |_=>none

def keepObs(ks:List Nat):Heap->Nat->Heap
 | [],_=>[]
 |o::r,i=>(match memN i ks with|true=>o|false=>none)::keepObs ks r (i+1)

def evFz(c:List T->Option (T×Option Prop))(H:Heap)(ks:List Nat)(args:List T):Option (T×Heap×Option Prop):=
 match mapO (borrow 0 (keepObs ks H 0) 6) args with
 |some bs=>match c (bs.map (·.1)) with
  |some (r,p)=>some (r,dropObs H ks,andOO (sides bs) p)
  |none=>none
 |none=>none

def evMk(c:List T->Option (T×Heap×Option Prop))(H:Heap)(args:List T):Option (T×Heap×Option Prop):=
 match mapO (borrow 0 H 6) args with
 |some bs=>match c (bs.map (·.1)) with
  |some (r,H',p)=>match renT (fun k=>some (H.length+k)) 6 r,mapO (obB fun k=>some (H.length+k)) H' with
   |some r',some os=>some (r',H++os,andOO (sides bs) p)
   |_,_=>none
  |none=>none
 |none=>none

def plainV(t:T):Bool:=
 match t with
 | .int .. | .bool _| .str _| .v _=>true
 |_=>false

def SubB(v v' i n a m m':Nat)(row:Nat->List T):Prop:=v=v'/\i<n/\a<=m/\m'=m/\∀r,r<m'->∀t ∈ row r,plainV t=true

def evSub(c:List T->Heap->Option (T×Heap×Option Prop))(H:Heap)(args:List T):Option (T×Heap×Option Prop):=
 match args with
 | .posl k v i j n::rest=>match rest.all (closedD 6),getOb H k,getOwn H k v i j with
  |true,some (.fam v' ty sz N row),some A=>match c (.osl 0 0 n::rest) [some (.arr true A.A.ty A.A.sz A.A.n A.A.row)] with
   |some (r,[some (.arr true _ sz' n' row')],p)=>match plainD 6 r,Nat.beq sz' A.A.sz with
    |true,true=>some (r,H.set k (some (.fam v' ty sz N (setRow row i j [.own A.A.ty sz' n' row']))),andOO p (some (SubB v v' i N n A.A.n n' row')))
    |_,_=>none
   |_=>none
  |_,_,_=>none
 |_=>none

def evEff(G:Gam)(H:Heap)(f:FuncId)(args:List T):Option (T×Heap×Option Prop):=
 match geff G f with
 |some c=>match args with
  | .posl .. ::_=>evSub c H args
  |_=>evEffAt c H (reach H 64 (idsT args) []) args
 |none=>match gmk G f with
  |some c=>evMk c H args
  |none=>match gfz G f with
   |some c=>evFz c H (reach H 64 (idsT args) []) args
   |none=>none

def fnOf(s:Slots):Operand->Option (FuncId×List T)
 | .func f=>some (f,[])
 |x=>match opT s x with
  | .fn (.func f) cs=>some (f,cs)
  | .v (.func (.func f) first caps)=>match first.toList,caps.toList with
   | [],[]=>some (f,[])
   |_,_=>none
  |_=>none

def evPure(G:Gam)(H:Heap)(f:FuncId)(args:List T):Option (T×Option Prop):=
 match args.all (closedD 6) with
 |true=>gam G f args
 |false=>match mapO (borrow 0 H 6) args with
  |some bs=>match gam G f (bs.map (·.1)) with
   |some (r,p)=>match plainD 6 r with
    |true=>some (r,andOO (sides bs) p)
    |false=>none
   |none=>none
  |none=>none

def evOp0(P:Program)(G:Gam)(s:Slots)(H:Heap)(op:Op):Option (T×Heap×Option Prop):=
 match evVal P s H op with
 |some (t,p)=>some (t,H,p)
 |none=>match evMem P s H op with
  |some r=>some r
  |none=>match op with
   | .call {callee:=.value x,args, .. }=>match isEff G x with
    |true=>match x with
     | .func f=>evEff G H f (args.toList.map (opT s))
     |x=>match fnOf s x with
      |some (f,cs)=>match isEff G (.func f) with
       |true=>evEff G H f (args.toList.map (opT s)++cs)
       |false=>(evPure G H f (args.toList.map (opT s)++cs)).map fun r=>(r.1,H,r.2)
      |none=>none
    |false=>match fnOf s x with
     |some (f,cs)=>(evPure G H f (args.toList.map (opT s)++cs)).map fun r=>(r.1,H,r.2)
     |none=>none
   |_=>none

def evOp(P:Program)(G:Gam)(s:Slots)(H:Heap)(op:Op):Option (T×Heap×Option Prop):=
 match tmpS G op with
 |true=>match evTmp P s op with
  |some (t,p)=>some (t,H,p)
  |none=>none
 |false=>evOp0 P G s H op

structure Sy where
 s:Slots
 H:Heap

abbrev Path:=List (Nat×Bool)
abbrev Paths:=List (Nat×Path)

def pathOf:Paths->Nat->Path
 | [],_=>[]
 |(j,p)::r,t=>match Nat.beq t j with|true=>p|false=>pathOf r t

def pathEq:Path->Path->Bool
 | [],[]=>true
 |(a,b)::p,(c,d)::q=>Nat.beq a c&&(b==d)&&pathEq p q
 |_,_=>false

def sufB(p:Path):Path->Bool
 | []=>pathEq p []
 |x::q=>pathEq p (x::q)||sufB p q

def pathProp(s:Slots):Path->Prop->Prop
 | [],p=>p
 |(t,b)::r,p=>match slk s t with
  | .bool x=>pathProp s r (x=b->p)
  |_=>False

def boolPath(s:Slots):Path->Bool
 | []=>true
 |(t,_)::r=>match slk s t with
  | .bool _=>boolPath s r
  |_=>false

def RowsEq(n:Nat)(row row':Nat->List T):Prop:=∀i,i<n->row i=row' i

def matV:Nat->T->T->Prop
 |0,_,_=>False
 |d+1,t,t'=>
  match t,t' with
  |_,.und=>True
  | .int k a,.int k' b=>match decide (k=k') with|true=>a=b|false=>False
  | .bool a,.bool b=>a=b
  | .str a,.str b=>a=b
  | .bys a,.bys b=>a=b
  | .v (.slice none 0 0),.sl _ n _=>n=0
  | .v (.slice none 0 0),.bys l=>l=[]
  | .emp,.sl _ n _=>n=0
  | .emp,.bys l=>l=[]
  | .emp,.emp=>True
  | .v x,.v y=>x=y
  | .sl sz n row,.sl sz' m row'=>match Nat.beq sz sz' with|true=>n=m/\RowsEq n row row'|false=>False
  | .ref k i j,.ref k' i' j'=>match Nat.beq k k' with|true=>i=i'/\j=j'|false=>False
  | .osl k off n,.osl k' off' n'=>match Nat.beq k k' with|true=>off=off'/\n=n'|false=>False
  | .mpr k,.mpr k'=>match Nat.beq k k' with|true=>True|false=>False
  | .ifp t k ms,.ifp t' k' ms'=>match Nat.beq k k' with|true=>t=t'/\ms=ms'|false=>False
  | .agg as,.agg bs=>matsV (matV d) as bs
  | .tup as,.tup bs=>matsV (matV d) as bs
  | .fn f as,.fn g bs=>f=g/\matsV (matV d) as bs
  | .bref as,.bref bs=>match bs.all closedT with|true=>matsP (matV d) as bs|false=>False
  |_,_=>False
where
 matsP (f:T->T->Prop):List T->List T->Prop
 |_,[]=>True
 |a::r,b::q=>f a b/\matsP f r q
 |_,_=>False
 matsV (f:T->T->Prop):List T->List T->Prop
 | [],[]=>True
 |a::r,b::q=>f a b/\matsV f r q
 |_,_=>False

def matA(as bs:List T):Prop:=matV.matsV (matV 6) as bs

def famC:T->T->Prop
 | .own _ sz n row,.own _ sz' n' row'=>sz=sz'/\n=n'/\RowsEq n row row'
 |t,t'=>t=t'

def famL:List T->List T->Prop
 | [],[]=>True
 |a::r,b::q=>famC a b/\famL r q
 |_,_=>False

def FamEq(n:Nat)(row row':Nat->List T):Prop:=∀i,i<n->famL (row i) (row' i)

def matO(o o':Option Ob):Prop:=
 match o,o' with
 |some (.arr cl _ sz n row),some (.arr cl' _ sz' n' row')=>match Nat.beq sz sz',cl,cl' with
  |true,true,true=>n=n'/\RowsEq n row row'
  |true,_,false=>match(row' 0).all oneT with
   |true=>n=1/\n'=1/\matV.matsV (matV 6) (row 0) (row' 0)
   |false=>False
  |_,_,_=>False
 |some (.fam v _ sz n row),some (.fam v' _ sz' n' row')=>match Nat.beq sz sz' with
  |true=>v=v'/\n=n'/\FamEq n row row'
  |false=>False
 |some (.bys _ l),some (.bys _ l')=>l=l'
 |_,_=>False

def matH:Heap->Heap->Prop
 | [],[]=>True
 |o::r,o'::r'=>matO o o'/\matH r r'
 |_,_=>False

def widR(r:Rle)(x:r.ι)(as:List T)(H:Heap):Option (T×Heap×Option Prop):=
 match Nat.ble 9 (szOf (r.pre x))&& !Nat.beq (szOf H) (szOf (r.pre x)) with
 |false=>some (r.res x,r.post x,some (matA as (r.args x)/\matH H (r.pre x)/\r.side x))
 |true=>widE (fun as H=>some (r.res x,r.post x,some (matA as (r.args x)/\matH H (r.pre x)/\r.side x))) (szOf (r.pre x)) (r.pre x).length H as

def relOp(G:Gam)(s:Slots):Op->Option (FuncId×Con)
 | .call {callee:=.value x, .. }=>match fnOf s x with
  |some (f,_)=>(grel G f).map fun r=>(f,r)
  |none=>none
 | .call {callee:=.invoke x name, .. }=>match opT s x with
  | .ifp _ _ ms=>match msGet ms name with
   |some f=>(grel G f).map fun r=>(f,r)
   |none=>none
  |_=>none
 |_=>none

def inst(f:FuncId)(r:Rl)(x:r.ι)(G:Gam):Gam:=(f,.pure fun as=>some (r.res x,some (matA as (r.args x)/\r.side x)))::G
def instE(f:FuncId)(r:Rle)(x:r.ι)(G:Gam):Gam:=(f,.eff fun as H=>widR r x as H)::G
def instM(f:FuncId)(r:Rle)(x:r.ι)(G:Gam):Gam:=(f,.mk fun as=>some (r.res x,r.post x,some (matA as (r.args x)/\r.side x)))::G

def instF(f:FuncId)(r:Rl)(x:r.ι)(G:Gam):Gam:=(f,.fz fun as=>some (r.res x,some (matA as (r.args x)/\r.side x)))::G

def gsec:Gam->FuncId->Option Con
 | [],_=>none
 |(g,_)::r,f=>match Nat.beq f g with
  |true=>gfind r f
  |false=>gsec r f

def relP(G:Gam)(s:Slots)(op:Op)(k:Gam->Prop):Prop:=
 match relOp G s op with
 |none=>k G
 |some (f,c)=>match c with
  | .rel r=>∃x:r.ι,k (inst f r x G)
  | .reff r=>match gsec G f with
   |some (.reff r2)=>(∃x:r.ι,k (instE f r x G))∨∃x:r2.ι,k (instE f r2 x G)
   |_=>∃x:r.ι,k (instE f r x G)
  | .rmk r=>∃x:r.ι,k (instM f r x G)
  | .rfz r=>∃x:r.ι,k (instF f r x G)
  |_=>k G

def andP(s:Slots)(pth:Path):Option Prop->Prop->Prop
 |none,q=>q
 |some p,q=>pathProp s pth p/\q

def tmpOk(ps:Paths)(pth:Path):Operand->Bool
 | .tmp t=>sufB (pathOf ps t) pth
 |_=>true

def pathsOk(ps:Paths)(pth:Path)(op:Op):Bool:=
 match op with
 | .pick (.tmp t) a b=>sufB (pathOf ps t) pth&&tmpOk ps ((t,true)::pth) a&&tmpOk ps ((t,false)::pth) b
 | .pick _ _ _=>false
 |op=>op.operands.toList.all (tmpOk ps pth)

def freshB(ps:Paths)(d:Nat):Bool:=ps.all fun x=> !Nat.beq x.1 d&&x.2.all fun y=> !Nat.beq y.1 d

def freshO(ps:Paths):Option Tmp->Bool
 |none=>true
 |some d=>freshB ps d

def putS(s:Slots)(d:Option Tmp)(t:T):Slots:=match d with|some d=>(d,t)::s|none=>s
def putP(ps:Paths)(d:Option Tmp)(p:Path):Paths:=match d with|some d=>(d,p)::ps|none=>ps

def endS(s:Slots):Paths->Slots
 | []=>s
 |(d,_)::r=>(d,.und)::endS s r

def stays0(G:Gam)(op:Op):Bool:=
 match op with
 | .box .. | .alloc .. | .store .. | .makeSlice .. | .buildSlice .. | .makeMap .. | .mapUpdate .. | .slice _ _ _ _ (some _)=>false
 | .call {callee:=.builtin .append, .. }=>false
 | .call {callee:=.builtin .clear, .. }=>false
 | .call {callee:=.value x, .. }=> !isEff G x
 | .call {callee:=.invoke .., .. }=>false
 |_=>true

def stays(G:Gam)(op:Op):Bool:=
 match tmpS G op with
 |true=>true
 |false=>stays0 G op

def dstOk(nt:Nat):Option Tmp->Bool
 |none=>true
 |some d=>Nat.blt d nt

def guardOk(ps:Paths)(g:Nat):Option Tmp->Bool
 |none=>false
 |some d=> !Nat.beq d g&&(pathOf ps g).all fun y=> !Nat.beq y.1 d

def nilCmp(P:Program)(s:Slots):Op->Option (Nat×Bool)
 | .binOp op t x y _=>match P.underlying t,opT s x,opT s y,op with
  |some (.slice _),.sl _ n _,.v (.slice none 0 0),.eql=>some (n,false)
  |some (.slice _),.sl _ n _,.v (.slice none 0 0),.neq=>some (n,true)
  |some (.slice _),.osl _ _ n,.v (.slice none 0 0),.eql=>some (n,false)
  |some (.slice _),.osl _ _ n,.v (.slice none 0 0),.neq=>some (n,true)
  |_,_,_,_=>none
 |_=>none

def NilB(b:Bool)(n:Nat):Prop:=b=true->n=0

def invF(P:Program)(s:Slots)(op:Op):Option (FuncId×List T):=
 match op with
 | .call {callee:=.invoke x name,args, .. }=>match opT s x with
  | .ifp t k ms=>match msGet ms name with
   |some f=>match methB P t name f with
    |true=>some (f,.ref k 0 0::args.toList.map (opT s))
    |false=>none
   |none=>none
  |_=>none
 |_=>none

def evOpI(P:Program)(G:Gam)(s:Slots)(H:Heap)(op:Op):Option (T×Heap×Option Prop):=
 match invF P s op with
 |some (f,as)=>evEff G H f as
 |none=>evOp P G s H op

def vcOps(P:Program)(G:Gam)(nt:Nat)(all:Array Oper):List Oper->Slots->Paths->Heap->(Slots->Heap->Prop)->Prop
 | [],s,ps,H,K=>K (endS s ps) H
 |o::rest,s,ps,H,K=>
  match o.guard with
  |none=>match pathsOk ps [] o.op&&freshO ps o.dst&&dstOk nt o.dst with
   |false=>False
   |true=>match nilCmp P s o.op with
    |some (n,neg)=>∀b:Bool,NilB b n->vcOps P G nt all rest (putS s o.dst (.bool (cond neg (!b) b))) ps H K
    |none=>relP G s o.op fun G'=>match evOpI P G' s H o.op with
     |some (t,H',side)=>andP s [] side (vcOps P G nt all rest (putS s o.dst t) ps H' K)
     |none=>False
  |some (j,want)=>match(all[j]?).bind (·.dst) with
   |some g=>match slk s g with
    | .bool _=>match pathsOk ps ((g,want)::pathOf ps g) o.op&&freshO ps o.dst&&dstOk nt o.dst&&guardOk ps g o.dst with
     |false=>False
     |true=>match stays G o.op with
      |true=>relP G s o.op fun G'=>match evOp P G' s H o.op with
       |some (t,_,side)=>andP s ((g,want)::pathOf ps g) side (vcOps P G nt all rest (putS s o.dst t) (putP ps o.dst ((g,want)::pathOf ps g)) H K)
       |none=>False
      |false=>match boolPath s ((g,want)::pathOf ps g) with
       |false=>False
       |true=>relP G s o.op fun G'=>match evOp P G' s H o.op with
        |some (t,H',side)=>andP s ((g,want)::pathOf ps g) side (pathProp s ((g,want)::pathOf ps g) (vcOps P G nt all rest (putS s o.dst t) (putP ps o.dst ((g,want)::pathOf ps g)) H' K)/\
          (pathProp s ((g,want)::pathOf ps g) False->vcOps P G nt all rest (putS s o.dst t) (putP ps o.dst ((g,want)::pathOf ps g)) H K))
        |none=>False
    |_=>False
   |none=>False

def maskOf(tab:List Nat):List Edge->Nat
 | []=>0
 |e::r=>match Region.binds .any e with
  |true=>Nat.lor (Nat.lor (Nat.shiftLeft 1 e.on) (tab.getD e.on 0)) (maskOf tab r)
  |false=>maskOf tab r

def tmpsOf:List Operand->List Nat
 | []=>[]
 | .tmp t::r=>t::tmpsOf r
 |_::r=>tmpsOf r

def usesOf(all:Array Oper)(o:Oper):List Nat:=
 match o.guard with
 |none=>tmpsOf o.op.operands.toList
 |some (j,_)=>match(all[j]?).bind (·.dst) with
  |some g=>g::tmpsOf o.op.operands.toList
  |none=>tmpsOf o.op.operands.toList

def growB(G:Gam)(op:Op):Bool:=
 match op with
 | .box .. | .alloc .. | .makeSlice .. | .buildSlice .. | .makeMap .. | .slice _ _ _ (some _) (some _)=>true
 | .call {callee:=.value x, .. }=>isMk G x
 |_=>false

def isCallV(op:Op):Bool:=
 match op with
 | .call {callee:=.value _, .. }=>true
 |_=>false

def isBSl(op:Op):Bool:=
 match op with
 | .buildSlice .. =>true
 |_=>false

def floatB(G:Gam)(op:Op):Bool:=isBSl op||(isCallV op&&growB G op)

def effB(G:Gam)(op:Op):Bool:=
 match op with
 | .call {callee:=.value x, .. }=>isEf G x
 |_=>false

def flB(G:Gam):Bool:=Nat.beq 8 (tmpN G)

def twB(G:Gam):Bool:=Nat.beq 9 (tmpN G)

def isApp(o:Oper):Bool:=
 match o.guard with
 |some _=>false
 |none=>match o.op with
  | .call {callee:=.builtin .append, .. }=>true
  |_=>false

def lastApp:List Oper->Nat->Option Nat->Option Nat
 | [],_,r=>r
 |o::l,i,r=>lastApp l (i+1) (match isApp o with|true=>some i|false=>r)

def edgesOk'(i:Nat)(o:Oper):Bool:=o.after.toList.all fun e=> !Region.binds .any e||Nat.blt e.on i

def gdB(i:Nat)(o:Oper):Bool:=
 match o.guard with
 |some (j,_)=>Nat.blt j i
 |none=>true

def fullB(k:Nat):List Oper->List Nat->Bool
 | [],_=>true
 |o::r,tab=>edgesOk' tab.length o&&gdB tab.length o&&(Nat.blt tab.length k||Nat.beq (maskOf tab o.after.toList) (2 ^ tab.length-1))&&fullB k r (tab++[maskOf tab o.after.toList])

def isAlB(fl:Bool)(o:Oper):Bool:=
 match o.guard with
 |some _=>false
 |none=>match o.op with
  | .alloc _=>true
  | .call {callee:=.builtin .append, .. }=>fl
  |_=>false

def cntA(fl:Bool):List Oper->Nat
 | []=>0
 |o::r=>match isAlB fl o with
  |true=>cntA fl r+1
  |false=>cntA fl r

def plA(fl:Bool)(b:Nat)(all:Array Oper)(i:Nat):Nat:=b+cntA fl (all.toList.take i)

def evAl(P:Program)(s:Slots)(H:Heap)(op:Op)(r:Nat):Option (T×Heap×Option Prop):=
 match op with
 | .alloc t=>match zeroCells P t with
  |some z=>match Nat.beq z.length 0,z.all oneT,getOb H r,Nat.blt r H.length with
   |false,true,none,true=>some (.ref r 0 0,H.set r (some (.arr (z.all closedT) 1000000 z.length 1 fun _=>z)),none)
   |_,_,_,_=>none
  |none=>none
 | .call {callee:=.builtin .append,args,argTypes}=>match args.toList,argTypes.toList with
  | [d,x],[t,tx]=>match opT s d,P.underlying t with
   | .emp,some (.slice e)=>match P.info? e,zeroCells P e with
    |some i,some z=>match Nat.beq z.length i.size,srcT [] (P.underlying tx) i.size (opT s x) with
     |true,some q=>match q.cl,getOb H r,Nat.blt r H.length with
      |true,none,true=>some (.osl r 0 q.n,H.set r (some (.arr true e i.size q.n q.row)),some (andS q.side (AppB 0 q.n i.bytes)))
      |_,_,_=>none
     |_,_=>none
    |_,_=>none
   |_,_=>none
  |_,_=>none
 |_=>none

def padA(H:Heap):Nat->Heap
 |0=>H
 |n+1=>H++List.replicate (n+1) none++[some (.arr true 0 1 0 fun _=>[])]

def usesB(u:Option Tmp)(l:List Nat):Bool:=
 match u with
 |some u=>l.any fun v=>Nat.beq u v
 |none=>false

def sameDst(a b:Option Tmp):Bool:=
 match a,b with
 |some a,some b=>Nat.beq a b
 |_,_=>false

def pureB(op:Op):Bool:=
 match op with
 | .move _| .assign _| .pick .. | .nilCheck _| .binOp .. | .unOp .. | .fieldAddr .. | .field .. | .extract .. | .build .. | .makeFunc .. | .index .. =>true
 |_=>false

def readB(s:Slots)(op:Op):Option (List Nat):=
 match op with
 | .load _ a=>match opT s a with
  | .ref k _ _=>some [k]
  | .bref _=>some []
  |_=>none
 | .indexAddr _ x _=>match opT s x with
  | .sl .. | .bys _=>some []
  | .osl k _ _=>some [k]
  |_=>none
 | .convert _ _ x=>match opT s x with
  | .str _| .bys _| .int .. =>some []
  |_=>none
 | .slice _ x _ _ none=>match opT s x with
  | .str _| .bys _| .sl .. =>some []
  | .osl k _ _=>some [k]
  |_=>none
 | .buildSlice .. =>some []
 | .call {callee:=.builtin .len, .. }=>some []
 | .call {callee:=.builtin .append, .. }=>some []
 | .call {callee:=.value x,args, .. }=>match fnOf s x with
  |some (_,cs)=>match(args.toList.map (opT s)++cs).all (closedD 6) with
   |true=>some []
   |false=>none
  |none=>none
 |_=>none

def writeB(H:Heap)(s:Slots)(op:Op):Option (List Nat):=
 match op with
 | .call {callee:=.builtin .append,args, .. }=>match args.toList with
  |d::_=>match opT s d with
   | .osl k _ _=>match getOb H k with
    |some (.fam ..)=>none
    |_=>some [k]
   | .v _=>some []
   | .emp=>some []
   |_=>none
  | []=>none
 | .store _ a x=>match opT s a with
  | .ref k _ _=>match getOb H k with
   |some (.fam ..)=>match(cellsT (opT s x)).all closedOne with
    |true=>some [k]
    |false=>none
   |_=>some [k]
  | .pref k _ _ _ _ _ _=>some [k]
  |_=>none
 | .call {callee:=.value x,args, .. }=>match fnOf s x with
  |some (_,cs)=>match args.toList.map (opT s)++cs with
   | .posl .. ::_=>none
   |as=>some (reach H 64 (idsT as) [])
  |none=>none
 |_=>none

abbrev RW:=Option (List Nat)×Option (List Nat)
def rwOf(H:Heap)(s:Slots)(op:Op):RW:=(readB s op,writeB H s op)

def disjB(r w:Option (List Nat)):Bool:=
 match r,w with
 |some r,some w=>r.all fun k=>w.all fun j=> !Nat.beq k j
 |_,_=>false

def pairOk(G:Gam)(all:Array Oper)(m i:Nat)(x:Oper)(fx:RW)(o:Oper)(fo:RW):Bool:=
 !sameDst x.dst o.dst&&(Nat.testBit m i||(!usesB x.dst (usesOf all o)&& !usesB o.dst (usesOf all x)&&(match stays G x.op,stays G o.op with
  |true,true=>true
  |true,false=>growB G o.op||pureB x.op||disjB fx.1 fo.2
  |false,true=>growB G x.op||pureB o.op||disjB fo.1 fx.2
  |false,false=>isAlB (flB G) o&&(isAlB (flB G) x||floatB G x.op||(effB G x.op&&fx.2.isSome)))))

def edgesOk(i:Nat)(o:Oper):Bool:=o.after.toList.all fun e=> !Region.binds .any e||Nat.blt e.on i

def hCur(H0:Heap):List (Nat×Heap)->Heap
 | []=>H0
 |(_,H)::_=>H

def alAt(fl:Bool)(all:Array Oper)(k:Nat):Bool:=
 match all[k]? with
 |some o=>isAlB fl o
 |none=>false

def hAt(fl:Bool)(all:Array Oper)(H0:Heap)(m:Nat):List (Nat×Heap)->Heap
 | []=>H0
 |(k,H)::r=>match Nat.testBit m k&& !alAt fl all k with
  |true=>H
  |false=>hAt fl all H0 m r

def vcAny(P:Program)(G:Gam)(nt:Nat)(all:Array Oper)(b:Nat)(H0:Heap):List Oper->Nat->List (Nat×Oper×RW)->List Nat->Slots->Paths->List (Nat×Heap)->(Slots->Heap->Prop)->Prop
 | [],_,_,_,s,ps,hist,K=>K (endS s ps) (hCur H0 hist)
 |o::rest,i,earlier,tab,s,ps,hist,K=>
  match edgesOk i o&&earlier.all (fun x=>pairOk G all (maskOf tab o.after.toList) x.1 x.2.1 x.2.2 o (rwOf (hCur H0 hist) s o.op)) with
  |false=>False
  |true=>match o.guard with
   |none=>match pathsOk ps [] o.op&&freshO ps o.dst&&dstOk nt o.dst with
    |false=>False
    |true=>match isAlB (flB G) o with
     |true=>match evAl P s (hCur H0 hist) o.op (plA (flB G) b all i) with
      |some (y,H',side)=>andP s [] side (vcAny P G nt all b H0 rest (i+1) ((i,o,rwOf (hCur H0 hist) s o.op)::earlier) (tab++[maskOf tab o.after.toList]) (putS s o.dst y) ps ((i,H')::hist) K)
      |none=>False
     |false=>match stays G o.op with
      |true=>relP G s o.op fun G'=>match evOp P G' s (hAt (flB G) all H0 (maskOf tab o.after.toList) hist) o.op with
       |some (t,_,side)=>andP s [] side (vcAny P G nt all b H0 rest (i+1) ((i,o,rwOf (hCur H0 hist) s o.op)::earlier) (tab++[maskOf tab o.after.toList]) (putS s o.dst t) ps hist K)
       |none=>False
      |false=>relP G s o.op fun G'=>match evOp P G' s (hCur H0 hist) o.op with
       |some (t,H',side)=>andP s [] side (vcAny P G nt all b H0 rest (i+1) ((i,o,rwOf (hCur H0 hist) s o.op)::earlier) (tab++[maskOf tab o.after.toList]) (putS s o.dst t) ps ((i,H')::hist) K)
       |none=>False
   |some (j,want)=>match(all[j]?).bind (·.dst) with
    |some g=>match slk s g with
     | .bool _=>match Nat.blt j i&&pathsOk ps ((g,want)::pathOf ps g) o.op&&freshO ps o.dst&&dstOk nt o.dst&&stays G o.op&&guardOk ps g o.dst with
      |false=>False
      |true=>relP G s o.op fun G'=>match evOp P G' s (hAt (flB G) all H0 (maskOf tab o.after.toList) hist) o.op with
       |some (t,_,side)=>andP s ((g,want)::pathOf ps g) side (vcAny P G nt all b H0 rest (i+1) ((i,o,rwOf (hCur H0 hist) s o.op)::earlier) (tab++[maskOf tab o.after.toList]) (putS s o.dst t) (putP ps o.dst ((g,want)::pathOf ps g)) hist K)
       |none=>False
     |_=>False
    |none=>False

def vcDr(P:Program)(G:Gam)(nt:Nat)(ops:Array Oper)(s:Slots)(H:Heap)(K:Slots->Heap->Prop):Prop:=
 vcAny P G nt ops H.length (padA H (cntA (flB G) ops.toList)) ops.toList 0 [] [] s [] [] K

def evAppO(P:Program)(s:Slots)(H:Heap)(o:Oper)(b:Bool):Option (T×Heap×Option Prop):=
 match o.guard,o.op with
 |none,.call {callee:=.builtin .append,args,argTypes}=>match args.toList,argTypes.toList with
  | [d,x],[t,tx]=>match opT s d,P.underlying t with
   | .osl k off n,some (.slice e)=>match P.info? e,zeroCells P e,getOb H k with
    |some i,some z,some (.arr cl _ sz N row)=>match Nat.beq z.length i.size&& !Nat.beq i.size 0&&Nat.beq sz i.size with
     |true=>(srcT H (P.underlying tx) i.size (opT s x)).map fun S=>(.osl H.length (cond b 0 off) (n+S.n),H.set k none++[some (.arr (cl&&S.cl) e i.size (cond b (n+S.n) (off+n+S.n)) (cond b (appRow (fun i=>row (off+i)) n S.row) (appRow row (off+n) S.row)))],some (andS S.side (Le (off+n) N/\Lt 0 S.n/\AppB (off+n) S.n i.bytes)))
     |false=>none
    |_,_,_=>none
   |_,_=>none
  |_,_=>none
 |_,_=>none

def vcTail(P:Program)(G:Gam)(nt:Nat)(all:Array Oper)(s:Slots)(H:Heap)(K:Slots->Heap->Prop):List Oper->Prop
 | []=>False
 |o::rest=>match pathsOk [] [] o.op&&dstOk nt o.dst with
  |false=>False
  |true=>∀b:Bool,match evAppO P s H o b with
   |some (t,H',side)=>andP s [] side (vcOps P G nt all rest (putS s o.dst t) [] H' K)
   |none=>False

def noTmp:Gam->Gam
 | []=>[]
 |(_,.tmp)::r=>noTmp r
 |x::r=>x::noTmp r

def oneTmp:Gam->Gam
 | []=>[]
 |(f,.tmp)::r=>(f,.tmp)::noTmp r
 |x::r=>x::oneTmp r

def vcDraw(P:Program)(G:Gam)(nt:Nat)(ops:Array Oper)(s:Slots)(H:Heap)(K:Slots->Heap->Prop):Prop:=
 match twB G with
 |false=>vcDr P G nt ops s H K
 |true=>match lastApp ops.toList 0 none with
  |none=>vcDr P G nt ops s H K
  |some k=>match fullB k ops.toList [] with
   |false=>vcDr P G nt ops s H K
   |true=>vcDr P (oneTmp G) nt (ops.toList.take k).toArray s H fun s H=>vcTail P G nt ops s H K (ops.toList.drop k)

def LoopVC(body:(Exit->Sy->Prop)->Sy->Prop)(sub:Sy->Sy->Prop)(Q:Exit->Sy->Prop)(σ:Sy):Prop:=
 ∃(ι:Type) (I:ι->Sy) (μ:ι->Nat),(∃x,sub σ (I x))/\∀x,body (fun e σ'=>match e with| .normal=>∃y,sub σ' (I y)/\μ y<μ x|e=>Q e σ') (I x)

def vc(P:Program)(G:Gam)(nt:Nat)(sub:Sy->Sy->Prop):Code->(Exit->Sy->Prop)->Sy->Prop
 | .skip,Q,σ=>Q .normal σ
 | .region _ ops draw,Q,σ=>match draw with
  |false=>vcOps P G nt ops ops.toList σ.s [] σ.H fun s H=>Q .normal ⟨s,H⟩
  |true=>vcDraw P G nt ops σ.s σ.H fun s H=>Q .normal ⟨s,H⟩
 | .seq a b,Q,σ=>vc P G nt sub a (fun e σ'=>match e with| .normal=>vc P G nt sub b Q σ'|e=>Q e σ') σ
 | .cond c x y,Q,σ=>match opT σ.s c with
  | .bool b=>(b=true->vc P G nt sub x Q σ)/\(b=false->vc P G nt sub y Q σ)
  |_=>False
 | .block id body,Q,σ=>vc P G nt sub body (fun e σ'=>match e with| .exit i=>(match Nat.beq i id with|true=>Q .normal σ'|false=>Q (.exit i) σ')|e=>Q e σ') σ
 | .loop body,Q,σ=>LoopVC (vc P G nt sub body) sub Q σ
 | .exit id,Q,σ=>Q (.exit id) σ
 | .ret,Q,σ=>Q .ret σ
 |_,_,_=>False

def resOne(P:Program)(s:Slots)(H:Heap):ResultVar->Option (T×Option Prop)
 | .tmp t=>some (slk s t,none)
 | .cell a t=>evLoad P H t (slk s a)

def resT(P:Program)(s:Slots)(H:Heap)(rs:List ResultVar):Option (T×Option Prop):=
 match mapO (resOne P s H) rs with
 |some [x]=>some x
 |some xs=>some (.tup (xs.map (·.1)),sides xs)
 |none=>none

def andO:Option Prop->Prop->Prop
 |none,q=>q
 |some p,q=>p/\q

def retQ(P:Program)(rs:List ResultVar)(post:T->Prop):Exit->Sy->Prop
 | .normal,σ| .ret,σ=>match resT P σ.s σ.H rs with
  |some (r,p)=>match borrow 0 σ.H 6 r with
   |some (r',p')=>andO p (andO p' (post r'))
   |none=>False
  |none=>False
 |_,_=>False

def initS:Nat->List T->Slots
 |_,[]=>[]
 |i,t::r=>(i,t)::initS (i+1) r

end Go.SS
/- A calculus of symbolic states: what it means that a tree of data is held by a value in a world; operations that leave memory alone. -/
namespace Go.SS
open Go.RowKit

structure Env where
 N:Nat->Prop
 L:Nat->Prop
 β:Nat->Nat
 κ:Nat->Nat
 z:Nat->Nat×List Value
 L2:Nat->Nat->Prop
 b2:Nat->Nat->Nat->Nat->Nat
 c2:Nat->Nat->Nat->Nat->Nat

inductive Rd(E:Env)(w:World):T->Value->Prop
 |int (k:IntKind) (n:Int):Rd E w (.int k n) (.int k n)
 |bool (b:Bool):Rd E w (.bool b) (.bool b)
 |str (l:List UInt8):Rd E w (.str l) (.string ⟨l.toArray⟩)
 |v (x:Value):Rd E w (.v x) x
 |slNil (sz:Nat) (row:Nat->List T):Rd E w (.sl sz 0 row) (.slice none 0 0)
 |sl (sz n:Nat) (row:Nat->List T) (b off cap:Nat) (u:Nat->Nat->Value) (hN:E.N b) (hc:n<=cap)
   (hl:∀i,i<n->(row i).length=sz) (h1:∀i t,i<n->t ∈ row i->oneT t=true/\closedT t=true)
   (hr:∀i j t,i<n->(row i)[j]? =some t->w.cell? ⟨b,off+i*sz+j,none⟩=some (u i j))
   (ht:∀i j t,i<n->(row i)[j]? =some t->Rd E w t (u i j)):Rd E w (.sl sz n row) (.slice (some ⟨b,off,none⟩) n cap)
 |bysNil:Rd E w (.bys []) (.slice none 0 0)
 |slEmp (sz:Nat) (row:Nat->List T) (a:Addr):Rd E w (.sl sz 0 row) (.slice (some a) 0 0)
 |bysEmp (a:Addr):Rd E w (.bys []) (.slice (some a) 0 0)
 |bys (l:List UInt8) (b off cap:Nat) (hN:E.N b) (hc:l.length<=cap)
   (hr:∀i x,l[i]? =some x->w.cell? ⟨b,off+i,none⟩=some (.int .u8 (x.toNat:Int))):Rd E w (.bys l) (.slice (some ⟨b,off,none⟩) l.length cap)
 |bref (cells:List T) (b off:Nat) (u:Nat->Value) (hN:E.N b) (h1:∀t,t ∈ cells->closedT t=true)
   (hr:∀j t,cells[j]? =some t->w.cell? ⟨b,off+j,none⟩=some (u j))
   (ht:∀j t,cells[j]? =some t->Rd E w t (u j)):Rd E w (.bref cells) (.pointer (some ⟨b,off,none⟩))
 |ref (k i j:Nat) (hL:E.L k):Rd E w (.ref k i j) (.pointer (some ⟨E.β k,i*(E.z k).1+j,none⟩))
 |osl (k off n o:Nat) (a:Option Addr) (hL:E.L k) (hn:off+n<=E.κ k) (ho:off<E.κ k∨off=0->o=off*(E.z k).1) (ha:E.κ k≠0->a=some ⟨E.β k,o,none⟩):Rd E w (.osl k off n) (.slice a n (E.κ k-off))
 |posl (k v i j n:Nat) (a:Option Addr) (hL:E.L2 k v) (hn:n<=E.c2 k v i j) (ha:E.c2 k v i j≠0->a=some ⟨E.b2 k v i j,0,none⟩):Rd E w (.posl k v i j n) (.slice a n (E.c2 k v i j))
 |pref (k v i j z a b:Nat) (hL:E.L2 k v):Rd E w (.pref k v i j z a b) (.pointer (some ⟨E.b2 k v i j,a*z+b,none⟩))
 |agg (cs:List T) (vs:Array Value) (hl:cs.length=vs.size) (ht:∀(i:Nat) (t:T) (x:Value),cs[i]? =some t->vs[i]? =some x->Rd E w t x):Rd E w (.agg cs) (.agg vs)
 |tup (cs:List T) (vs:Array Value) (hl:cs.length=vs.size) (ht:∀(i:Nat) (t:T) (x:Value),cs[i]? =some t->vs[i]? =some x->Rd E w t x):Rd E w (.tup cs) (.tuple vs)
 |fn (f:Fn) (cs:List T) (vs:Array Value) (hl:cs.length=vs.size) (ht:∀(i:Nat) (t:T) (x:Value),cs[i]? =some t->vs[i]? =some x->Rd E w t x):Rd E w (.fn f cs) (.func f #[] vs)
 |mpr (k:Nat) (hL:E.L k):Rd E w (.mpr k) (.map (some (E.β k)))
 |ifp (t:TypeId) (k:Nat) (ms:List (String×FuncId)) (hL:E.L k):Rd E w (.ifp t k ms) (.iface t (.pointer (some ⟨E.β k,0,none⟩)))
 |emp (a:Option Addr):Rd E w .emp (.slice a 0 0)
 |und (x:Value):Rd E w .und x

structure Env.le(E E':Env):Prop where
 N:∀b,E.N b->E'.N b
 L:∀k,E.L k->E'.L k
 β:∀k,E.L k->E'.β k=E.β k
 κ:∀k,E.L k->E'.κ k=E.κ k
 z:∀k,E.L k->E'.z k=E.z k
 L2:∀k v,E.L2 k v->E'.L2 k v
 b2:∀k v i j,E.L2 k v->E'.b2 k v i j=E.b2 k v i j
 c2:∀k v i j,E.L2 k v->E'.c2 k v i j=E.c2 k v i j

theorem Env.le.refl(E:Env):E.le E:=⟨fun _ h=>h,fun _ h=>h,fun _ _=>rfl,fun _ _=>rfl,fun _ _=>rfl,fun _ _ h=>h,fun _ _ _ _ _=>rfl,fun _ _ _ _ _=>rfl⟩
theorem Env.le.trans{A B C:Env}(h:A.le B)(k:B.le C):A.le C:=
 ⟨fun b x=>k.N b (h.N b x),fun b x=>k.L b (h.L b x),fun b x=>(k.β b (h.L b x)).trans (h.β b x),fun b x=>(k.κ b (h.L b x)).trans (h.κ b x),fun b x=>(k.z b (h.L b x)).trans (h.z b x),
  fun b v x=>k.L2 b v (h.L2 b v x),fun b v i j x=>(k.b2 b v i j (h.L2 b v x)).trans (h.b2 b v i j x),fun b v i j x=>(k.c2 b v i j (h.L2 b v x)).trans (h.c2 b v i j x)⟩

section
variable {E E':Env} {w w':World} {P:Program}

theorem Rd.mono(hE:E.le E')(hw:∀b,E.N b->w'.heap[b]? =w.heap[b]?){t:T}{x:Value}(h:Rd E w t x):Rd E' w' t x:=by
 induction h with
 |int k n=>exact .int k n
 |bool b=>exact .bool b
 |str l=>exact .str l
 |v x=>exact .v x
 |slNil sz row=>exact .slNil sz row
 |sl sz n row b off cap u hN hc hl h1 hr _ ih=>
  exact .sl sz n row b off cap u (hE.N b hN) hc hl h1 (fun i j t hi hj=>by rw[World.cell?_of_block (w:=w) (hw b hN)];exact hr i j t hi hj) ih
 |bysNil=>exact .bysNil
 |slEmp sz row a=>exact .slEmp sz row a
 |bysEmp a=>exact .bysEmp a
 |bys l b off cap hN hc hr=>exact .bys l b off cap (hE.N b hN) hc fun i x hx=>by rw[World.cell?_of_block (w:=w) (hw b hN)];exact hr i x hx
 |bref cells b off u hN h1 hr _ ih=>exact .bref cells b off u (hE.N b hN) h1 (fun j t hj=>by rw[World.cell?_of_block (w:=w) (hw b hN)];exact hr j t hj) ih
 |ref k i j hL=>rw[←hE.β k hL,←hE.z k hL];exact .ref k i j (hE.L k hL)
 |osl k off n o a hL hn ho ha=>rw[←hE.κ k hL];exact .osl k off n o a (hE.L k hL) (by rw[hE.κ k hL];exact hn) (by rw[hE.κ k hL,hE.z k hL];exact ho) (by rw[hE.κ k hL,hE.β k hL];exact ha)
 |posl k v i j n a hL hn ha=>rw[←hE.c2 k v i j hL];exact .posl k v i j n a (hE.L2 k v hL) (by rw[hE.c2 k v i j hL];exact hn) (by rw[hE.c2 k v i j hL,hE.b2 k v i j hL];exact ha)
 |pref k v i j z a b hL=>rw[←hE.b2 k v i j hL];exact .pref k v i j z a b (hE.L2 k v hL)
 |agg cs vs hl _ ih=>exact .agg cs vs hl ih
 |tup cs vs hl _ ih=>exact .tup cs vs hl ih
 |fn f cs vs hl _ ih=>exact .fn f cs vs hl ih
 |mpr k hL=>rw[←hE.β k hL];exact .mpr k (hE.L k hL)
 |ifp t k ms hL=>rw[←hE.β k hL];exact .ifp t k ms (hE.L k hL)
 |emp a=>exact .emp a
 |und x=>exact .und x

def Siz(cs:Array Value)(n:Nat)(tl:List Value):Prop:=n+tl.length<=cs.size/\∀j u,tl[j]? =some u->cs[n+j]? =some u
theorem siz0{cs:Array Value}{n:Nat}(h:n<=cs.size):Siz cs n []:=⟨h,fun j u hu=>(by cases hu)⟩
theorem Siz.le{cs:Array Value}{n:Nat}{t:List Value}(h:Siz cs n t):n<=cs.size:=Nat.le_trans (Nat.le_add_right _ _) h.1
theorem Siz.any{cs:Array Value}{n:Nat}{t:List Value}(h:Siz cs n t):Siz cs n []:=siz0 h.le
theorem Siz.keep{cs cs':Array Value}{n:Nat}{t:List Value}(h:Siz cs n t)(hs:cs'.size=cs.size)(hk:∀q,n<=q->cs'[q]? =cs[q]?):Siz cs' n t:=
 ⟨by rw[hs];exact h.1,fun j u hu=>by rw[hk _ (Nat.le_add_right _ _)];exact h.2 j u hu⟩

def ArrOk(E:Env)(w:World)(k:Nat)(A:Arr):Prop:=
 (E.z k).1=A.sz/\A.n<=E.κ k/\(∀i,i<A.n->(A.row i).length=A.sz)/\(∀i t,i<A.n->t ∈ A.row i->oneT t=true)/\(A.cl=true->∀i t,i<A.n->t ∈ A.row i->closedT t=true)/\
   ∃cs ty,(E.κ k≠0->w.heap[E.β k]? =some (.cells cs ty (0,0)))/\Siz cs (E.κ k*A.sz) (E.z k).2/\
    ∀i j t,i<A.n->(A.row i)[j]? =some t->∃u,cs[i*A.sz+j]? =some u/\Rd E w t u

def mvalue(bo:Bool)(n:Int):Value:=match bo with
 |true=>.bool (decide (n≠0))
 |false=>.int .i64 n

def lk(n:Int):List MapEntry->Option Value
 | []=>none
 |e::r=>match e.key with
  | .int .i64 m=>if n=m then some e.val else lk n r
  |_=>lk n r

def MapI(bo:Bool)(get:Int->Int)(es:List MapEntry):Prop:=
 (∀e ∈ es,∃m,e.key= .int .i64 m)/\∀n,match lk n es with
  |some v=>v=mvalue bo (get n)
  |none=>get n=0

def MapOk(E:Env)(w:World)(k:Nat)(bo:Bool)(get:Int->Int):Prop:=
 E.κ k≠0/\∃es clock,w.heap[E.β k]? =some (.map es clock)/\MapI bo get es.toList

def pairV(a b:Int):Value:=.agg #[.int .i64 a,.int .i64 b]

def MapOk2(E:Env)(w:World)(k:Nat)(get:Int->Int->Bool):Prop:=
 E.κ k≠0/\∃es clock,w.heap[E.β k]? =some (.map es clock)/\(∀e ∈ es.toList,∃a b,Rng .i64 a/\Rng .i64 b/\e.key=pairV a b/\e.val= .bool (get a b))/\
  (∀a b,get a b=true->∃e ∈ es.toList,e.key=pairV a b)/\(es.toList.map (·.key)).Nodup

def Env.sub(E:Env)(k v i j z:Nat):Env:={E with β:=fun _=>E.b2 k v i j,κ:=fun _=>E.c2 k v i j,z:=fun _=>(z,[])}

def famT(t:T):Bool:=isOwn t||closedOne t

structure FamOk(E:Env)(w:World)(k v:Nat)(ty:TypeId)(sz n:Nat)(row:Nat->List T):Prop where
 l2:E.L2 k v
 arr:ArrOk E w k ⟨false,ty,sz,n,viewR k v row⟩
 fam:∀i t,i<n->t ∈ row i->famT t=true
 own:∀i j oty osz on orow,i<n->(row i)[j]? =some (.own oty osz on orow)->ArrOk (E.sub k v i j osz) w 0 ⟨true,oty,osz,on,orow⟩/\(E.c2 k v i j≠0->E.κ k≠0->E.b2 k v i j≠E.β k)
 inj:∀i j i' j' oty osz on orow oty' osz' on' orow',i<n->i'<n->(row i)[j]? =some (.own oty osz on orow)->(row i')[j']? =some (.own oty' osz' on' orow')->
  E.c2 k v i j≠0->E.c2 k v i' j'≠0->E.b2 k v i j=E.b2 k v i' j'->i=i'/\j=j'

def ObOk(E:Env)(w:World)(k:Nat)(ob:Ob):Prop:=
 match ob with
 | .mp bo get=>MapOk E w k bo get
 | .mp2 get=>MapOk2 E w k get
 | .fam v ty sz n row=>FamOk E w k v ty sz n row
 |ob=>ArrOk E w k ob.toArr

def OwnB(E:Env)(k:Nat)(ob:Ob)(b:Nat):Prop:=
 ∃v ty sz n row i j oty osz on orow,ob= .fam v ty sz n row/\i<n/\(row i)[j]? =some (.own oty osz on orow)/\E.c2 k v i j≠0/\b=E.b2 k v i j

def Blk(E:Env)(k:Nat)(ob:Ob)(b:Nat):Prop:=(E.κ k≠0/\b=E.β k)∨OwnB E k ob b

structure HeapOk(E:Env)(w:World)(H:Heap):Prop where
 live:∀k ob,getOb H k=some ob->E.L k/\ObOk E w k ob/\∀b,Blk E k ob b->¬E.N b
 inj:∀k k' ob ob' b,getOb H k=some ob->getOb H k'=some ob'->Blk E k ob b->Blk E k' ob' b->k=k'
 lt:∀k,E.L k->k<H.length
 l2:∀k v,E.L2 k v->E.L k
 cur:∀k ob v,getOb H k=some ob->E.L2 k v->∃v0 ty sz n row,ob= .fam v0 ty sz n row/\v<=v0

theorem OwnB.not{E:Env}{k:Nat}{ob:Ob}{b:Nat}(h:OwnB E k ob b)(hn:∀v ty sz n row,ob≠ .fam v ty sz n row):False:=by
 obtain⟨v,ty,sz,n,row,_,_,_,_,_,_,he,_⟩:=h;exact hn v ty sz n row he

theorem Blk.arr{E:Env}{k:Nat}{ob:Ob}{b:Nat}(h:Blk E k ob b)(hi:ob.isArr=true):E.κ k≠0/\b=E.β k:=by
 rcases h with h|h
 ·exact h
 ·exact(h.not (by rintro v ty sz n row rfl;cases hi)).elim

theorem getElem?_lt{α:Type}{xs:Array α}{i:Nat}{x:α}(h:xs[i]? =some x):i<xs.size:=(Array.getElem?_eq_some_iff.1 h).1

theorem ObOk.blt{E:Env}{w:World}{k:Nat}{ob:Ob}{b:Nat}(h:ObOk E w k ob)(hb:Blk E k ob b):b<w.heap.size:=by
 rcases hb with⟨hκ,rfl⟩|⟨v,ty,sz,n,row,i,j,oty,osz,on,orow,rfl,hi,hj,hc,rfl⟩
 ·cases ob with
  |mp bo get=>obtain⟨_,es,clock,h1,_⟩:=h;exact getElem?_lt h1
  |mp2 get=>obtain⟨_,es,clock,h1,_⟩:=h;exact getElem?_lt h1
  |fam v ty sz n row=>obtain⟨_,_,_,_,_,cs,ty,h1,_⟩:=h.arr;exact getElem?_lt (h1 hκ)
  |arr cl ty sz n row=>obtain⟨_,_,_,_,_,cs,ty,h1,_⟩:=h;exact getElem?_lt (h1 hκ)
  |bys ty l=>obtain⟨_,_,_,_,_,cs,ty,h1,_⟩:=h;exact getElem?_lt (h1 hκ)
 ·obtain⟨⟨_,_,_,_,_,cs,ty,h1,_⟩,_⟩:=h.own i j oty osz on orow hi hj;exact getElem?_lt (h1 hc)

theorem HeapOk.blt{E:Env}{w:World}{H:Heap}(h:HeapOk E w H){k:Nat}{ob:Ob}{b:Nat}(hk:getOb H k=some ob)(hb:Blk E k ob b):b<w.heap.size:=(h.live k ob hk).2.1.blt hb

theorem rd_const(c:Value):Rd E w (ofConst c) c:=by
 cases c<;>first|exact .int _ _|exact .bool _|exact .v _|skip
 case string s=>exact .str s.data.toList

def Sl(E:Env)(w:World)(a:Act)(s:Slots)(i:Nat):Prop:=Rd E w (slk s i) (a.tmps.getD i undef)

def OpOk(E:Env)(w:World)(a:Act)(s:Slots)(x:Operand):Prop:=Rd E w (opT s x) (a.eval x)

theorem opOk_of{a:Act}{s:Slots}{x:Operand}(h:∀t,x= .tmp t->Sl E w a s t):OpOk E w a s x:=by
 cases x with
 |tmp t=>exact h t rfl
 |const c=>exact rd_const c
 |func f=>exact .v _
 |global g=>exact .v _

theorem rd_bool{b:Bool}{x:Value}(h:Rd E w (.bool b) x):x= .bool b:=by cases h;rfl
theorem rd_int{k:IntKind}{n:Int}{x:Value}(h:Rd E w (.int k n) x):x= .int k n:=by cases h;rfl
theorem rd_str{l:List UInt8}{x:Value}(h:Rd E w (.str l) x):x= .string ⟨l.toArray⟩:=by cases h;rfl
theorem rd_v{y x:Value}(h:Rd E w (.v y) x):x=y:=by cases h;rfl

theorem pick_ok{a:Act}{s:Slots}{c x y:Operand}{t:T}(h:evPick s c x y=some t)(hc:OpOk E w a s c)
  (hx:∀b,opT s c= .bool b->b=true->OpOk E w a s x) (hy:∀b,opT s c= .bool b->b=false->OpOk E w a s y):
  ∃b,a.eval c= .bool b/\Rd E w t (if b then a.eval x else a.eval y):=by
 unfold evPick at h;unfold OpOk at hc;split at h
 ·rename_i cb hcb;rw[hcb] at hc;refine⟨cb,rd_bool hc,?_⟩
  split at h
  ·split at h
   ·rename_i yb hyb;simp only[Option.some.injEq] at h;subst h;cases cb with
    |true=>simp only[Bool.true_or,if_true];exact .bool true
    |false=>
     have:=hy false hcb rfl;unfold OpOk at this;rw[hyb] at this;simp only[Bool.false_or,Bool.false_eq_true,if_false];exact this
   ·cases h
  ·split at h
   ·rename_i xb hxb;simp only[Option.some.injEq] at h;subst h;cases cb with
    |false=>simp only[Bool.false_and,Bool.false_eq_true,if_false];exact .bool false
    |true=>
     have:=hx true hcb rfl;unfold OpOk at this;rw[hxb] at this;simp only[Bool.true_and,if_true];exact this
   ·cases h
  ·cases h
 ·cases h

end
end Go.SS
/- A calculus of symbolic states: the operations that leave memory alone do what is said of them. -/
namespace Go.SS
open Go.RowKit
section
variable {E:Env} {w:World} {P:Program}

theorem wrap_rng{k:IntKind}{n:Int}(h:Rng k n):k.wrap n=n:=by
 obtain⟨h1,h2⟩:=h;unfold IntKind.wrap;cases k<;>simp only[IntKind.min,IntKind.max,IntKind.signed,IntKind.bits,Bool.true_and,Bool.false_and,if_true,if_false,Bool.false_eq_true,ge_iff_le,decide_eq_true_eq] at* <;>(try split)<;>omega

theorem run_isAgg(t:TypeId)(h:(P.underlying t).isSome=true):(isAgg t).run P w= .ok (isAggT P t) w:=by
 obtain⟨d,hd⟩:=Option.isSome_iff_exists.1 h;unfold isAgg isAggT;rw[hd];simp only[Sem.run_bind,run_underlying hd,Result.andThen_ok];cases d<;>rfl

theorem run_sizeOf(t:TypeId)(h:(P.info? t).isSome=true):(sizeOf t).run P w= .ok (P.cellsOf t) w:=by
 obtain⟨d,hd⟩:=Option.isSome_iff_exists.1 h;unfold sizeOf Program.cellsOf typeInfo;simp[hd]

theorem info_of_underlying{t:TypeId}(h:(P.underlying t).isSome=true):(P.info? t).isSome=true:=by
 unfold Program.underlying at h;cases hi:P.info? t with
 |none=>rw[hi] at h;cases h
 |some i=>rfl


theorem part_ok{t:TypeId}{cs:List T}{vs:Array Value}{off:Nat}{x:T}(hx:takeT P t cs off=some x)
  (hl:cs.length=vs.size) (ht:∀(i:Nat) (t:T) (x:Value),cs[i]? =some t->vs[i]? =some x->Rd E w t x):
  ∃v,(part t vs off).run P w= .ok v w/\Rd E w x v:=by
 unfold takeT at hx;unfold part;split at hx
 ·rename_i hu hag;simp only[Sem.run_bind,run_isAgg t hu,Result.andThen_ok];split at hx
  ·rename_i hb;simp only[Option.some.injEq] at hx;subst hx;have hb':=Nat.le_of_ble_eq_true hb;simp only[hag,if_true,Sem.run_bind,run_sizeOf t (info_of_underlying hu),Result.andThen_ok,Sem.run_pure];refine⟨_,rfl,.agg _ _ (by simp;omega) fun i y z hy hz=> ?_⟩
   rw[List.getElem?_take] at hy
   rw[Array.getElem?_extract] at hz
   split at hy
   ·rw[List.getElem?_drop] at hy
    split at hz
    ·exact ht (off+i) y z hy hz
    ·cases hz
   ·cases hy
  ·cases hx
 ·rename_i hu hag;simp only[Sem.run_bind,run_isAgg t hu,Result.andThen_ok];have hlt:off<cs.length:=by
   rcases Nat.lt_or_ge off cs.length with h|h
   ·exact h
   ·rw[List.getElem?_eq_none h] at hx;cases hx
  have hv:vs[off]? =some (vs[off]'(by omega)):=Array.getElem?_eq_getElem _
  simp only[hag,Bool.false_eq_true,if_false,hv,Sem.run_pure];exact⟨_,rfl,ht off _ _ hx hv⟩
 ·cases hx

theorem cmp_ok{op:BinOp}{a b:Int}{r:Bool}(h:evCmp op a b=some r):Op.intCmp op a b=pure (.bool r):=by
 unfold evCmp at h;split at h<;>simp only[Option.some.injEq,reduceCtorEq] at h<;>subst h<;>rfl

theorem int_ok{op:BinOp}{k k':IntKind}{a b:Int}{ty:TypeId}{t:T}{side:Option Prop}(h:evInt op k a b=some (t,side))(hk:sameKind op k k'=true)(hs:side.getD True):
  ∃v,(binOp op ty (.int k a) (.int k' b)).run P w= .ok v w/\Rd E w t v:=by
 have hkk:op≠ .shl->op≠ .shr->k=k':=by
  intro h1 h2;unfold sameKind at hk;split at hk
  ·exact absurd rfl h1
  ·exact absurd rfl h2
  ·exact of_decide_eq_true hk
 unfold evInt at h;split at h
 case h_1|h_2|h_3=>
  obtain rfl:=hkk (by simp) (by simp)
  simp only[Option.some.injEq,Prod.mk.injEq] at h;obtain⟨rfl,rfl⟩:=h;simp only[Option.getD_some] at hs;simp only[binOp_add,binOp_sub,binOp_mul,Op.intArith,Sem.run_pure,wrap_rng hs];exact⟨_,rfl,.int _ _⟩
 case h_4=>
  obtain rfl:=hkk (by simp) (by simp)
  simp only[Option.some.injEq,Prod.mk.injEq] at h;obtain⟨rfl,rfl⟩:=h;obtain⟨h1,h2⟩:=hs;simp only[binOp_quo,Op.intDiv];rw[if_neg h1];simp only[Sem.run_pure,wrap_rng h2];exact⟨_,rfl,.int _ _⟩
 case h_5=>
  obtain rfl:=hkk (by simp) (by simp)
  simp only[Option.some.injEq,Prod.mk.injEq] at h;obtain⟨rfl,rfl⟩:=h;simp only[binOp_rem,Op.intDiv];rw[if_neg (show b≠0 from hs)]
  exact⟨_,rfl,.int _ _⟩
 case h_6|h_7|h_8|h_9=>
  obtain rfl:=hkk (by simp) (by simp)
  simp only[Option.some.injEq,Prod.mk.injEq] at h;obtain⟨rfl,rfl⟩:=h;simp only[binOp_and,binOp_or,binOp_xor,binOp_andNot,intBits_and,intBits_or,intBits_xor,intBits_andNot];exact⟨_,rfl,.int _ _⟩
 case h_10|h_11=>
  simp only[Option.some.injEq,Prod.mk.injEq] at h;obtain⟨rfl,rfl⟩:=h;have hs:0<=b:=hs;simp only[binOp,Op.shift];rw[if_neg (by omega)]
  exact⟨_,rfl,.int _ _⟩
 case h_12 hadd hsub hmul hquo hrem hand hor hxor handn hshl hshr=>
  obtain rfl:=hkk hshl hshr;cases hc:evCmp op a b with
  |none=>rw[hc] at h;cases h
  |some r=>
   rw[hc] at h;simp only[Option.map_some,Option.some.injEq,Prod.mk.injEq] at h;obtain⟨rfl,rfl⟩:=h;have he:=cmp_ok hc;have:binOp op ty (.int k a) (.int k b)=Op.intCmp op a b:=by
    cases op<;>first|rfl|simp_all [binOp]
   rw[this,he];exact⟨_,rfl,.bool _⟩

end
end Go.SS
/- A calculus of symbolic states: the operations that leave memory alone do what is said of them, 2. -/
namespace Go.SS
open Go.RowKit
section
variable {E:Env} {w:World} {P:Program}

theorem str_toList(l:List UInt8):(ByteArray.mk l.toArray).toList=l:=by rw[ByteArray.toList_eq]

theorem str_ok{op:BinOp}{a b:List UInt8}{ty:TypeId}{t:T}{side:Option Prop}(h:evStr op a b=some (t,side))(hs:side.getD True):
  ∃v,(binOp op ty (.string ⟨a.toArray⟩) (.string ⟨b.toArray⟩)).run P w= .ok v w/\Rd E w t v:=by
 unfold evStr at h;split at h<;>simp only[Option.some.injEq,Prod.mk.injEq,reduceCtorEq] at h<;>obtain⟨rfl,rfl⟩:=h
 ·have hs:a.length+b.length<9223372036854775808:=hs;have he:(⟨a.toArray⟩++⟨b.toArray⟩:ByteArray)=⟨(a++b).toArray⟩:=by
   apply ByteArray.ext
   simp
  simp only[binOp,Op.stringOp];rw[if_neg (by simp only[ByteArray.size,List.size_toArray,IntKind.max_i64];omega),he]
  exact⟨_,rfl,.str _⟩
 all_goals
  simp only[binOp,Op.stringOp,str_toList];exact⟨_,rfl,.bool _⟩

theorem eqFs_ok{d:Nat}{xs ys:List T}{us vs:Array Value}{rec:TypeId->T->T->Option Bool}
  (hrec:∀t x y r u v,rec t x y=some r->Rd E w x u->Rd E w y v->(Op.equalIn d t u v).run P w= .ok r w)
  (hxl:xs.length=us.size) (hyl:ys.length=vs.size) (hx:∀(i:Nat) (t:T) (x:Value),xs[i]? =some t->us[i]? =some x->Rd E w t x)
  (hy:∀(i:Nat) (t:T) (x:Value),ys[i]? =some t->vs[i]? =some x->Rd E w t x):
  ∀(fs:List Field) (r:Bool),eqFs P rec xs ys fs=some r->(Op.eqFields d us vs fs).run P w= .ok r w:=by
 intro fs;induction fs with
 |nil=>
  intro r h;simp only[eqFs,Option.some.injEq] at h;subst h;rfl
 |cons f fs ih=>
  intro r h;simp only[eqFs] at h;split at h
  ·rename_i a b hd ha hb;split at h
   ·rename_i p q hp hq;simp only[Option.some.injEq] at h;subst h;have hne:f.name≠ "_" :=of_decide_eq_false hd;obtain⟨u,hu,hru⟩:=part_ok (P:=P) ha hxl hx;obtain⟨v,hv,hrv⟩:=part_ok (P:=P) hb hyl hy;have he:=hrec _ _ _ _ _ _ hp hru hrv;simp only[Op.eqFields];rw[if_pos hne];simp only[Sem.run_bind,hu,hv,he,Result.andThen_ok];cases p with
    |true=>simpa using ih q hq
    |false=>simp
   ·cases h
  ·cases h

theorem eqT_ok:∀(d D:Nat) (t:TypeId) (x y:T) (r:Bool) (u v:Value),d<=D->eqT P d t x y=some r->Rd E w x u->Rd E w y v->(Op.equalIn D t u v).run P w= .ok r w:=by
 intro d;induction d with
 |zero=>intro D t x y r u v _ h;simp[eqT] at h
 |succ d ih=>
  intro D t x y r u v hD h hx hy;obtain⟨D,rfl⟩:∃D',D=D'+1:=⟨D-1,by omega⟩
  unfold eqT at h;split at h
  ·rename_i k0 k a k' b hu;split at h
   ·rename_i hk;obtain rfl:=of_decide_eq_true hk;simp only[Option.some.injEq] at h;subst h;rw[rd_int hx,rd_int hy];exact run_equalIn_int w D t k k0 a b hu
   ·cases h
  ·rename_i a b hu;simp only[Option.some.injEq] at h;subst h;rw[rd_bool hx,rd_bool hy];exact run_equalIn_bool' w D t a b hu
  ·rename_i a b hu;simp only[Option.some.injEq] at h;subst h;rw[rd_str hx,rd_str hy];have:=run_equalIn_string (P:=P) w D t ⟨a.toArray⟩ ⟨b.toArray⟩ hu
   rwa [str_toList,str_toList] at this
  ·rename_i fs xs ys hu;split at h
   ·rename_i hst;cases hx with
    |agg _ us hxl hxt=>
     cases hy with
     |agg _ vs hyl hyt=>
      have hf:P.fieldsOf t=fs:=by unfold Program.fieldsOf;rw[hu]
      rw[run_equalIn_struct w D t us vs (by rw[hf];exact hu) hst,hf]
      exact eqFs_ok (fun t x y r u v h1 h2 h3=>ih D t x y r u v (by omega) h1 h2 h3) hxl hyl hxt hyt _ _ h
   ·cases h
  ·cases h

theorem ptr_ok{op:BinOp}{ty:TypeId}{ox oy:Operand}{b:Bool}{t:T}{side:Option Prop}{u v:Value}{a:Option Addr}(h:evPtr P op ty b=some (t,side))(hb:a.isNone=b)(hu:u= .pointer a)(hv:v= .pointer none):
  ∃r,(do eqGuard op ty ox oy u v;binOp op ty u v:Sem Value).run P w= .ok r w/\Rd E w t r:=by
 subst hu;subst hv;unfold evPtr at h;split at h
 ·rename_i e hu;split at h
  ·rename_i he;have hu:P.underlying ty=some (.pointer (P.pointee ty)):=by rw[hu,of_decide_eq_true he]
   simp only[Option.some.injEq,Prod.mk.injEq] at h;obtain⟨rfl,rfl⟩:=h;simp only[eqGuard_at_pointer,Sem.run_bind,Sem.run_pure,Result.andThen_ok,run_eql_pointer_nil w ty a hu,hb];exact⟨_,rfl,.bool _⟩
  ·cases h
 ·rename_i e hu;split at h
  ·rename_i he;have hu:P.underlying ty=some (.pointer (P.pointee ty)):=by rw[hu,of_decide_eq_true he]
   simp only[Option.some.injEq,Prod.mk.injEq] at h;obtain⟨rfl,rfl⟩:=h;simp only[eqGuard_at_pointer,Sem.run_bind,Sem.run_pure,Result.andThen_ok,run_neq_pointer_nil w ty a hu,hb];exact⟨_,rfl,.bool _⟩
  ·cases h
 ·cases h

theorem bin_ok{op:BinOp}{ty:TypeId}{x y:T}{ox oy:Operand}{t:T}{side:Option Prop}{u v:Value}(h:evBin P op ty x y=some (t,side))(hs:side.getD True)
  (hx:Rd E w x u) (hy:Rd E w y v):
  ∃r,(do eqGuard op ty ox oy u v;binOp op ty u v:Sem Value).run P w= .ok r w/\Rd E w t r:=by
 unfold evBin at h;split at h
 ·rename_i k a k' b;split at h
  ·rename_i hk;rw[rd_int hx,rd_int hy];simp only[eqGuard_at_int,Sem.run_bind,Sem.run_pure,Result.andThen_ok];exact int_ok h hk hs
  ·cases h
 ·rename_i a b;rw[rd_str hx,rd_str hy];simp only[eqGuard_at_string,Sem.run_bind,Sem.run_pure,Result.andThen_ok];exact str_ok h hs
 ·rename_i a b;rw[rd_bool hx,rd_bool hy];simp only[eqGuard_at_bool,Sem.run_bind,Sem.run_pure,Result.andThen_ok];split at h
  ·rename_i hu;simp only[Option.some.injEq,Prod.mk.injEq] at h;obtain⟨rfl,rfl⟩:=h;refine⟨.bool (a==b),?_,.bool _⟩
   simp only[binOp];simp[Op.equal,Op.maxDepth,run_equalIn_bool' w 9999 ty a b hu]
  ·rename_i hu;simp only[Option.some.injEq,Prod.mk.injEq] at h;obtain⟨rfl,rfl⟩:=h;refine⟨.bool (!(a==b)),?_,.bool _⟩
   simp only[binOp];simp[Op.equal,Op.maxDepth,run_equalIn_bool' w 9999 ty a b hu]
  ·cases h
 ·rename_i xs ys;unfold evEq at h;have hgu:∃us,u= .agg us:=by cases hx with|agg _ us _ _=>exact⟨us,rfl⟩
  have hgv:∃us,v= .agg us:=by cases hy with|agg _ us _ _=>exact⟨us,rfl⟩
  obtain⟨us,rfl⟩:=hgu;obtain⟨vs,rfl⟩:=hgv;split at h
  ·rename_i hg;cases he:eqT P 20 ty (.agg xs) (.agg ys) with
   |none=>rw[he] at h;cases h
   |some r=>
    rw[he] at h;simp only[Option.map_some,Option.some.injEq,Prod.mk.injEq] at h;obtain⟨rfl,rfl⟩:=h;have hr:=eqT_ok (P:=P) (E:=E) (w:=w) 20 10000 ty _ _ r _ _ (by omega) he hx hy
    simp only[Sem.run_bind,run_eqGuard_agg w _ ty ox oy us vs hg,Result.andThen_ok,run_eql_struct,hr];exact⟨_,rfl,.bool _⟩
  ·rename_i hg;cases he:eqT P 20 ty (.agg xs) (.agg ys) with
   |none=>rw[he] at h;cases h
   |some r=>
    rw[he] at h;simp only[Option.map_some,Option.some.injEq,Prod.mk.injEq] at h;obtain⟨rfl,rfl⟩:=h;have hr:=eqT_ok (P:=P) (E:=E) (w:=w) 20 10000 ty _ _ r _ _ (by omega) he hx hy
    simp only[Sem.run_bind,run_eqGuard_agg w _ ty ox oy us vs hg,Result.andThen_ok,run_neq_struct,hr];exact⟨_,rfl,.bool _⟩
  ·cases h
 ·cases hx with
  |ref k i j hL=>exact ptr_ok h (a:=some _) rfl rfl (rd_v hy)
 ·cases hx with
  |pref k v i j z a b hL=>exact ptr_ok h (a:=some _) rfl rfl (rd_v hy)
 ·exact ptr_ok h (a:=none) rfl (rd_v hx) (rd_v hy)
 ·rw[rd_v hx,rd_v hy];split at h
  ·rename_i hu;simp only[Option.some.injEq,Prod.mk.injEq] at h;obtain⟨rfl,rfl⟩:=h;simp only[eqGuard_at_slice,binOp];simp[run_equal_slice_nil w ty _ none 0 0 hu];exact .bool _
  ·rename_i hu;simp only[Option.some.injEq,Prod.mk.injEq] at h;obtain⟨rfl,rfl⟩:=h;simp only[eqGuard_at_slice,binOp];simp[run_equal_slice_nil w ty _ none 0 0 hu];exact .bool _
  ·cases h
 ·cases h
end
end Go.SS
/- A calculus of symbolic states: the operations that leave memory alone do what is said of them, 3. -/
namespace Go.SS
open Go.RowKit
section
variable {E:Env} {w:World} {P:Program}

theorem cellsB_ok{t:TypeId}{n:Nat}(h:cellsB P t n=true):(sizeOf t).run P w= .ok n w/\P.cellsOf t=n:=by
 unfold cellsB at h;split at h
 ·rename_i i hi;have hn:=Nat.eq_of_beq_eq_true h;refine⟨?_,by unfold Program.cellsOf;rw[hi];exact hn⟩
  rw[run_sizeOf t (by rw[hi];rfl)]
  unfold Program.cellsOf;rw[hi];simp[hn]
 ·cases h

theorem rd_closed0{E':Env}(hN:∀b,E.N b->E'.N b){t:T}{x:Value}(h:Rd E w t x):closedT t=true->Rd E' w t x:=by
 induction h with
 |int k n=>exact fun _=>.int k n
 |bool b=>exact fun _=>.bool b
 |str l=>exact fun _=>.str l
 |v x=>exact fun _=>.v x
 |slNil sz row=>exact fun _=>.slNil sz row
 |slEmp sz row a=>exact fun _=>.slEmp sz row a
 |emp a=>exact fun _=>.emp a
 |bysEmp a=>exact fun _=>.bysEmp a
 |sl sz n row b off cap u hb hc hl h1 hr _ ih=>
  exact fun _=>.sl sz n row b off cap u (hN b hb) hc hl h1 hr (fun i j t hi hj=>ih i j t hi hj (h1 i t hi (List.mem_of_getElem? hj)).2)
 |bysNil=>exact fun _=>.bysNil
 |bys l b off cap hb hc hr=>exact fun _=>.bys l b off cap (hN b hb) hc hr
 |bref cells b off u hb h1 hr _ ih=>exact fun _=>.bref cells b off u (hN b hb) h1 hr (fun j t hj=>ih j t hj (h1 t (List.mem_of_getElem? hj)))
 |ref=>intro h;cases h
 |osl=>intro h;cases h
 |posl=>intro h;cases h
 |pref=>intro h;cases h
 |agg=>intro h;cases h
 |tup=>intro h;cases h
 |fn=>intro h;cases h
 |mpr=>intro h;cases h
 |ifp=>intro h;cases h
 |und x=>exact fun _=>.und x

theorem loadVar_ok{t:TypeId}{cells:List T}{b off o:Nat}{u:Nat->Value}{x:T}(hx:takeT P t cells o=some x)
  (hr:∀(j:Nat) (t:T),cells[j]? =some t->w.cell? ⟨b,off+j,none⟩=some (u j)) (ht:∀(j:Nat) (t:T),cells[j]? =some t->Rd E w t (u j)):
  ∃v,(loadVar t ⟨b,off+o,none⟩).run P w= .ok v w/\Rd E w x v:=by
 unfold takeT at hx;unfold loadVar;split at hx
 ·rename_i hu hag;split at hx
  ·rename_i hb;simp only[Option.some.injEq] at hx;subst hx;have hb':=Nat.le_of_ble_eq_true hb;have hcells:∀j,j<P.cellsOf t->w.cell? (Addr.add ⟨b,off+o,none⟩ j)=some (u (o+j)):=by
    intro j hj;have hj':cells[o+j]? =some (cells[o+j]'(by omega)):=List.getElem?_eq_getElem _
    have:=hr _ _ hj';rw[Addr.add_lit,show off+o+j=off+(o+j) by omega]
    exact this
   simp only[Sem.run_bind,run_isAgg t hu,Result.andThen_ok,hag,if_true,run_sizeOf t (info_of_underlying hu),run_loadCells w _ _ (fun j=>u (o+j)) hcells,Sem.run_pure]
   refine⟨_,rfl,.agg _ _ (by simp;omega) fun i y z hy hz=> ?_⟩
   rw[List.getElem?_take] at hy
   split at hy
   ·rename_i hi;rw[List.getElem?_drop] at hy
    simp[hi] at hz;subst hz;exact ht _ _ hy
   ·cases hy
  ·cases hx
 ·rename_i hu hag;have hc:=hr _ _ hx;simp only[Sem.run_bind,run_isAgg t hu,Result.andThen_ok,hag,Bool.false_eq_true,if_false,run_load,hc];exact⟨_,rfl,ht _ _ hx⟩
 ·cases hx

theorem cell_of_heap{b i:Nat}{cs:Array Value}{ty:TypeId}{fz:Nat×Nat}(h:w.heap[b]? =some (.cells cs ty fz)):w.cell? ⟨b,i,none⟩=cs[i]? :=by
 simp[World.cell?,h]

theorem getA_ok{H:Heap}{k:Nat}{A:Arr}(h:getA H k=some A):∃ob,getOb H k=some ob/\((ob.toArr=A/\ob.isArr=true)∨∃v ty sz n row,ob= .fam v ty sz n row/\A=⟨false,ty,sz,n,viewR k v row⟩):=by
 unfold getA at h;split at h
 ·rename_i v ty sz n row ho;simp only[Option.some.injEq] at h;exact⟨_,ho,.inr ⟨v,ty,sz,n,row,rfl,h.symm⟩⟩
 ·rename_i ob hnf ho;split at h
  ·rename_i hi;simp only[Option.some.injEq] at h;exact⟨ob,ho,.inl ⟨h,hi⟩⟩
  ·cases h
 ·cases h

theorem ObOk.arr{k:Nat}{ob:Ob}(h:ObOk E w k ob)(hi:ob.isArr=true):ArrOk E w k ob.toArr:=by
 cases ob<;>first|exact h|cases hi

theorem HeapOk.arr{H:Heap}(hH:HeapOk E w H){k:Nat}{A:Arr}(h:getA H k=some A):E.L k/\ArrOk E w k A/\(E.κ k≠0->¬E.N (E.β k)):=by
 obtain⟨ob,ho,hA⟩:=getA_ok h;obtain⟨h1,h2,h3⟩:=hH.live k ob ho;rcases hA with⟨rfl,hi⟩|⟨v,ty,sz,n,row,rfl,rfl⟩
 ·exact⟨h1,h2.arr hi,fun hκ=>h3 _ (.inl ⟨hκ,rfl⟩)⟩
 ·exact⟨h1,FamOk.arr h2,fun hκ=>h3 _ (.inl ⟨hκ,rfl⟩)⟩

theorem row_of{k:Nat}{A:Arr}(h:ArrOk E w k A){i:Nat}(hi:i<A.n):
  ∃u:Nat->Value,(∀(j:Nat) (t:T),(A.row i)[j]? =some t->w.cell? ⟨E.β k,i*(E.z k).1+j,none⟩=some (u j))/\(∀(j:Nat) (t:T),(A.row i)[j]? =some t->Rd E w t (u j)):=by
 obtain⟨hz,hn,hl,hone,hcl,cs,ty,hb,hs,hc⟩:=h;have hb:=hb (by omega)
 refine⟨fun j=>(w.cell? ⟨E.β k,i*(E.z k).1+j,none⟩).getD undef,fun j t hj=> ?_,fun j t hj=> ?_⟩
 ·obtain⟨u,hu,_⟩:=hc i j t hi hj;simp only[cell_of_heap hb,hz,hu,Option.getD_some]
 ·obtain⟨u,hu,hr⟩:=hc i j t hi hj;simp only[cell_of_heap hb,hz,hu,Option.getD_some];exact hr

theorem row_ok{H:Heap}(hH:HeapOk E w H){k:Nat}{A:Arr}(hk:getA H k=some A){i:Nat}(hi:i<A.n):
  ∃u:Nat->Value,(∀(j:Nat) (t:T),(A.row i)[j]? =some t->w.cell? ⟨E.β k,i*(E.z k).1+j,none⟩=some (u j))/\(∀(j:Nat) (t:T),(A.row i)[j]? =some t->Rd E w t (u j)):=
 row_of (hH.arr hk).2.1 hi

theorem getOwn_ok{H:Heap}{k v i j:Nat}{A:Own}(h:getOwn H k v i j=some A):∃ty sz row,getOb H k=some (.fam A.v ty sz A.n row)/\(row i)[j]? =some (.own A.A.ty A.A.sz A.A.n A.A.row)/\A.A.cl=true:=by
 unfold getOwn at h;split at h
 ·rename_i v' ty sz n row ho;split at h
  ·rename_i hj;simp only[Option.some.injEq] at h;subst h;exact⟨ty,sz,row,ho,hj,rfl⟩
  ·cases h
 ·cases h

theorem own_ok{H:Heap}(hH:HeapOk E w H){k v i j:Nat}{A:Own}(h:getOwn H k v i j=some A)(hv:v=A.v)(hi:i<A.n):ArrOk (E.sub k v i j A.A.sz) w 0 A.A/\E.L k/\E.L2 k v:=by
 obtain⟨ty,sz,row,ho,hj,hcl⟩:=getOwn_ok h;obtain⟨h1,h2,h3⟩:=hH.live k _ ho;subst hv;have:=(FamOk.own h2 i j _ _ _ _ hi hj).1;refine⟨?_,h1,FamOk.l2 h2⟩
 obtain⟨v,n,cl,ty,sz,m,r⟩:=A;simp only at hcl;subst hcl;exact this

theorem inB_ok{ty i n:Nat}(h:(inB ty i n).getD True):i<n:=by
 unfold inB at h;split at h
 ·split at h
  ·omega
  ·exact h
 ·exact h

theorem load_ok{H:Heap}(hH:HeapOk E w H){t:TypeId}{x:T}{v:Value}{y:T}{side:Option Prop}(h:evLoad P H t x=some (y,side))(hs:side.getD True)(hx:Rd E w x v):
  ∃r,(Instr.loadAt t v).run P w= .ok r w/\Rd E w y r:=by
 unfold evLoad at h;split at h
 ·rename_i cells;cases htk:takeT P t cells 0 with
  |none=>rw[htk] at h;cases h
  |some z=>
   rw[htk] at h;simp only[Option.map_some,Option.some.injEq,Prod.mk.injEq] at h;obtain⟨rfl,rfl⟩:=h;cases hx with
   |bref _ b off u hN hb1 hr ht=>
    simp only[Instr.loadAt,Instr.sureAddr,Sem.run_bind,Sem.run_pure,Result.andThen_ok];exact loadVar_ok (o:=0) htk hr ht
 ·rename_i k i j;split at h
  ·rename_i A hk;cases htk:takeT P t (A.row i) j with
   |none=>rw[htk] at h;cases h
   |some z=>
    rw[htk] at h;simp only[Option.map_some,Option.some.injEq,Prod.mk.injEq] at h;obtain⟨rfl,rfl⟩:=h;cases hx with
    |ref _ _ _ hL=>
     obtain⟨u,hr,ht⟩:=row_ok hH hk (inB_ok hs);simp only[Instr.loadAt,Instr.sureAddr,Sem.run_bind,Sem.run_pure,Result.andThen_ok];exact loadVar_ok htk hr ht
  ·cases h
 ·rename_i k v i j z a b;split at h
  ·rename_i A hA;split at h
   ·rename_i hz;obtain rfl:=Nat.eq_of_beq_eq_true hz;cases htk:takeT P t (A.A.row a) b with
    |none=>rw[htk] at h;cases h
    |some y=>
     rw[htk] at h;simp only[Option.map_some,Option.some.injEq,Prod.mk.injEq] at h;obtain⟨rfl,rfl⟩:=h;obtain⟨hv,hi,ha⟩:PfB v A.v i A.n a A.A.n:=hs;obtain⟨hO,_,_⟩:=own_ok hH hA hv hi;obtain⟨u,hr,ht⟩:=row_of hO ha;have hcl:A.A.cl=true:=by obtain⟨_,_,_,_,_,hcl⟩:=getOwn_ok hA;exact hcl
     cases hx with
     |pref _ _ _ _ _ _ _ hL=>
      simp only[Instr.loadAt,Instr.sureAddr,Sem.run_bind,Sem.run_pure,Result.andThen_ok];obtain⟨_,_,_,_,hclo,_⟩:=hO;exact loadVar_ok htk hr fun q t hj=>rd_closed0 (E:=E.sub k v i j A.A.sz) (E':=E) (fun b hb=>hb) (ht q t hj) (hclo hcl a t ha (List.mem_of_getElem? hj))
   ·cases h
  ·cases h
 ·cases h

theorem fieldOf_ok{t:TypeId}{f:Nat}{fd:Field}(h:fieldOf P t f=some fd):∃fs,P.underlying t=some (.struct fs)/\fs[f]? =some fd:=by
 unfold fieldOf at h;split at h
 ·rename_i fs hu;exact⟨fs,hu,h⟩
 ·cases h

theorem bref_drop{cells:List T}{b off o:Nat}{u:Nat->Value}(hN:E.N b)(h1:∀t,t ∈ cells->closedT t=true)(hr:∀(j:Nat) (t:T),cells[j]? =some t->w.cell? ⟨b,off+j,none⟩=some (u j))
  (ht:∀(j:Nat) (t:T),cells[j]? =some t->Rd E w t (u j)):Rd E w (.bref (cells.drop o)) (.pointer (some ⟨b,off+o,none⟩)):=
 .bref _ b (off+o) (fun j=>u (o+j)) hN (fun t ht=>h1 t (List.mem_of_mem_drop ht)) (fun j t hj=>by rw[List.getElem?_drop] at hj;rw[show off+o+j=off+(o+j) by omega];exact hr _ _ hj)
  (fun j t hj=>by rw[List.getElem?_drop] at hj;exact ht _ _ hj)

theorem fieldAddr_ok{t:TypeId}{x:T}{v:Value}{f:Nat}{y:T}(h:evFieldAddr P t x f=some y)(hx:Rd E w x v):
  ∃r,(Instr.fieldAt t v f).run P w= .ok r w/\Rd E w y r:=by
 unfold evFieldAddr at h;split at h
 ·rename_i fd hfd;obtain⟨fs,hu,hf⟩:=fieldOf_ok hfd;split at h
  ·rename_i k i j hc hz;simp only[Option.some.injEq] at h;subst h;have hne:P.cellsOf fd.type≠0:=Nat.ne_of_beq_eq_false hz;cases hx with
   |ref _ _ _ hL=>
    simp only[Instr.fieldAt,Sem.run_bind,run_underlying hu,Result.andThen_ok,hf,Instr.sureAddr,Sem.run_pure,fieldPlace,(cellsB_ok (w:=w) hc).1];rw[if_neg hne];simp only[Sem.run_pure,Result.andThen_ok,Addr.add_lit];refine⟨_,rfl,?_⟩
    rw[Nat.add_assoc];exact .ref k i (j+fd.offset) hL
  ·rename_i cs hc hz;simp only[Option.some.injEq] at h;subst h;have hne:P.cellsOf fd.type≠0:=Nat.ne_of_beq_eq_false hz;cases hx with
   |bref _ b off u hN hb1 hr ht=>
    simp only[Instr.fieldAt,Sem.run_bind,run_underlying hu,Result.andThen_ok,hf,Instr.sureAddr,Sem.run_pure,fieldPlace,(cellsB_ok (w:=w) hc).1];rw[if_neg hne];simp only[Sem.run_pure,Result.andThen_ok,Addr.add_lit];exact⟨_,rfl,bref_drop hN hb1 hr ht⟩
  ·cases h
 ·cases h

theorem field_ok{t:TypeId}{x:T}{v:Value}{f:Nat}{y:T}(h:evField P t x f=some y)(hx:Rd E w x v):
  ∃r,(Instr.field t v f).run P w= .ok r w/\Rd E w y r:=by
 unfold evField at h;split at h
 ·rename_i fd cs hfd;obtain⟨fs,hu,hf⟩:=fieldOf_ok hfd;cases hx with
  |agg _ vs hl ht=>
   simp only[Instr.field,Sem.run_bind,run_underlying hu,Result.andThen_ok,hf,asAgg,Sem.run_pure];exact part_ok h hl ht
 ·cases h

theorem indexAddr_ok{H:Heap}(hH:HeapOk E w H){t:TypeId}{x i:T}{v iv:Value}{y:T}{side:Option Prop}(h:evIndexAddr P H t x i=some (y,side))(hs:side.getD True)(hx:Rd E w x v)(hi:Rd E w i iv):
  ∃r,(Instr.indexAt t v iv).run P w= .ok r w/\Rd E w y r:=by
 unfold evIndexAddr at h;split at h
 ·rename_i ki i;rw[rd_int hi];split at h
  ·rename_i e sz n row hu;split at h
   ·rename_i hc;simp only[Option.some.injEq,Prod.mk.injEq] at h;obtain⟨rfl,rfl⟩:=h;have hb:0<=i/\i<n:=hs;cases hx with
    |slNil=>exact absurd hb.2 (by omega)
    |slEmp=>exact absurd hb.2 (by omega)
    |sl _ _ _ b off cap u hN hcap hl h1 hr ht=>
     simp only[Instr.indexAt,asIntOf,Sem.run_bind,Sem.run_pure,Result.andThen_ok,run_underlying hu];rw[if_pos hb];simp only[Sem.run_bind,(cellsB_ok (w:=w) hc).1,Result.andThen_ok,Sem.run_pure,Addr.add_lit];have hlt:i.toNat<n:=by omega
     exact⟨_,rfl,.bref _ b _ (u i.toNat) hN (fun t hm=>(h1 _ t hlt hm).2) (fun j t hj=>hr _ _ _ hlt hj) (fun j t hj=>ht _ _ _ hlt hj)⟩
   ·cases h
  ·rename_i e l hu;split at h
   ·rename_i hc;simp only[Option.some.injEq,Prod.mk.injEq] at h;obtain⟨rfl,rfl⟩:=h;have hb:0<=i/\i<l.length:=hs;cases hx with
    |bysNil=>exact absurd hb.2 (by simp;omega)
    |bysEmp=>exact absurd hb.2 (by simp;omega)
    |bys _ b off cap hN hcap hr=>
     simp only[Instr.indexAt,asIntOf,Sem.run_bind,Sem.run_pure,Result.andThen_ok,run_underlying hu];rw[if_pos hb];simp only[Sem.run_bind,(cellsB_ok (w:=w) hc).1,Result.andThen_ok,Sem.run_pure,Addr.add_lit,Nat.mul_one];have hlt:i.toNat<l.length:=by omega
     refine⟨_,rfl,.bref _ b _ (fun _=>.int .u8 ((l.getD i.toNat 0).toNat:Int)) hN (fun t hm=>by simp[byRow] at hm;subst hm;rfl) (fun j t hj=> ?_) (fun j t hj=> ?_)⟩
     ·cases j with
      |zero=>
       have:=hr i.toNat _ (List.getElem?_eq_getElem hlt)
       simpa[List.getD,List.getElem?_eq_getElem hlt] using this
      |succ j=>simp[byRow] at hj
     ·cases j with
      |zero=>simp[byRow] at hj;subst hj;exact .int _ _
      |succ j=>simp[byRow] at hj
   ·cases h
  ·rename_i e k off n hu;split at h
   ·rename_i A hk;split at h
    ·rename_i hc;simp only[Option.some.injEq,Prod.mk.injEq] at h;obtain⟨rfl,rfl⟩:=h;have hb:0<=i/\i<n:=hs;obtain⟨hL,⟨hz,_⟩,_⟩:=hH.arr hk;cases hx with
     |osl _ _ _ o a _ hn ho ha=>
      rw[ha (by omega)]
      simp only[Instr.indexAt,asIntOf,Sem.run_bind,Sem.run_pure,Result.andThen_ok,run_underlying hu];rw[if_pos hb];simp only[Sem.run_bind,(cellsB_ok (w:=w) hc).1,Result.andThen_ok,Sem.run_pure,Addr.add_lit];refine⟨_,rfl,?_⟩
      have:=Rd.ref (E:=E) (w:=w) k (off+i.toNat) 0 hL;rw[Nat.add_zero,Nat.add_mul] at this;rw[←hz,ho (.inl (by omega))]
      exact this
    ·cases h
   ·cases h
  ·rename_i e k v i' j n hu;split at h
   ·rename_i A hA;split at h
    ·rename_i hc;simp only[Option.some.injEq,Prod.mk.injEq] at h;obtain⟨rfl,rfl⟩:=h;have hb:0<=i/\i<n:=hs;cases hx with
     |posl _ _ _ _ _ a hL hn ha=>
      rw[ha (by omega)]
      simp only[Instr.indexAt,asIntOf,Sem.run_bind,Sem.run_pure,Result.andThen_ok,run_underlying hu];rw[if_pos hb];simp only[Sem.run_bind,(cellsB_ok (w:=w) hc).1,Result.andThen_ok,Sem.run_pure,Addr.add_lit];refine⟨_,rfl,?_⟩
      rw[Nat.zero_add];exact .pref k v i' j A.A.sz i.toNat 0 hL
    ·cases h
   ·cases h
  ·rename_i n e cells hu;split at h
   ·rename_i hc;simp only[Option.some.injEq,Prod.mk.injEq] at h;obtain⟨rfl,rfl⟩:=h;have hb:0<=i/\i<n:=hs;cases hx with
    |bref _ b off u hN hb1 hr ht=>
     simp only[Instr.indexAt,asIntOf,Sem.run_bind,Sem.run_pure,Result.andThen_ok,run_underlying hu,Instr.sureAddr];rw[if_pos hb];simp only[Sem.run_bind,run_sizeOf e hc,Result.andThen_ok,Sem.run_pure,Addr.add_lit];exact⟨_,rfl,bref_drop hN hb1 hr ht⟩
   ·cases h
  ·rename_i n e k r j hu;split at h
   ·rename_i hc;simp only[Option.some.injEq,Prod.mk.injEq] at h;obtain⟨rfl,rfl⟩:=h;have hb:0<=i/\i<n:=hs;cases hx with
    |ref _ _ _ hL=>
     simp only[Instr.indexAt,asIntOf,Sem.run_bind,Sem.run_pure,Result.andThen_ok,run_underlying hu,Instr.sureAddr];rw[if_pos hb];simp only[Sem.run_bind,run_sizeOf e hc,Result.andThen_ok,Sem.run_pure,Addr.add_lit];refine⟨_,rfl,?_⟩
     rw[Nat.add_assoc];exact .ref k r _ hL
   ·cases h
  ·cases h
 ·cases h

end
end Go.SS
/- A calculus of symbolic states: the operations that leave memory alone do what is said of them, 4. -/
namespace Go.SS
open Go.RowKit
section
variable {E:Env} {w:World} {P:Program}

theorem index_ok{t:TypeId}{x i:T}{v iv:Value}{y:T}{side:Option Prop}(h:evIndex P t x i=some (y,side))(hs:side.getD True)(hx:Rd E w x v)(hi:Rd E w i iv):
  ∃r,(Instr.index t v iv).run P w= .ok r w/\Rd E w y r:=by
 unfold evIndex at h;split at h
 ·rename_i l ki i hu;simp only[Option.some.injEq,Prod.mk.injEq] at h;obtain⟨rfl,rfl⟩:=h;have hb:0<=i/\i<l.length:=hs;rw[rd_str hx,rd_int hi];have hlt:i.toNat<l.length:=by omega
  have hg:(ByteArray.mk l.toArray)[i.toNat]? =some (l.getD i.toNat 0):=by
   have:(ByteArray.mk l.toArray)[i.toNat]? =some ((ByteArray.mk l.toArray)[i.toNat]'(by simpa[ByteArray.size] using hlt)):=getElem?_pos _ _ _
   rw[this];congr 1
   simp only[List.getD,List.getElem?_eq_getElem hlt,Option.getD_some]
   rfl
  simp only[Instr.index,asIntOf,Sem.run_bind,Sem.run_pure,Result.andThen_ok,run_underlying hu];rw[if_pos hb.1,hg];exact⟨_,rfl,.int _ _⟩
 ·rename_i n e cs ki i hu;split at h
  ·rename_i x0 hc hx0;simp only[Option.some.injEq,Prod.mk.injEq] at h;obtain⟨rfl,rfl⟩:=h;have hb:0<=i/\i<n:=hs;rw[rd_int hi];cases hx with
   |agg _ vs hl ht=>
    simp only[Instr.index,asIntOf,Sem.run_bind,Sem.run_pure,Result.andThen_ok,run_underlying hu];rw[if_pos hb];simp only[Sem.run_bind,run_sizeOf e hc,Result.andThen_ok];exact part_ok hx0 hl ht
  ·cases h
 ·cases h

theorem extract_ok{x:T}{v:Value}{i:Nat}{y:T}(h:evExtract x i=some y)(hx:Rd E w x v):
  ∃r,(Instr.extract v i).run P w= .ok r w/\Rd E w y r:=by
 unfold evExtract at h;split at h
 ·rename_i cs;cases hx with
  |tup _ vs hl ht=>
   have hlt:i<cs.length:=by
    rcases Nat.lt_or_ge i cs.length with h'|h'
    ·exact h'
    ·rw[List.getElem?_eq_none h'] at h;cases h
   have hv:vs[i]? =some (vs[i]'(by omega)):=Array.getElem?_eq_getElem _
   simp only[Instr.extract,hv,Sem.run_pure];exact⟨_,rfl,ht _ _ _ h hv⟩
 ·cases h

theorem toString_ok{P:Program}{w:World}(b off:Nat)(l:List UInt8)(cap:Nat)(h:∀i x,l[i]? =some x->w.cell? ⟨b,off+i,none⟩=some (.int .u8 (x.toNat:Int))):
  (Conv.bytesToString (.slice (some ⟨b,off,none⟩) l.length cap)).run P w= .ok (.string ⟨l.toArray⟩) w:=by
 have hl:(loadCells ⟨b,off,none⟩ l.length).run P w= .ok ((l.map fun x=>(x.toNat:Int)).map (Value.int .u8)).toArray w:=by
  have:=run_loadCells_list (P:=P) w ⟨b,off,none⟩ ((l.map fun x=>(x.toNat:Int)).map (Value.int .u8)) (fun j v hj=>by
   simp only[List.map_map,List.getElem?_map,Option.map_eq_some_iff,Function.comp] at hj
   obtain⟨x,hx,rfl⟩:=hj;rw[Addr.add_lit];exact h j x hx)
  simpa using this
 rw[run_bytesToString w ⟨b,off,none⟩ l.length cap _ hl];congr 2
 rw[foldl_push_bytes];apply ByteArray.ext
 simp only[ByteArray.empty,ByteArray.emptyWithCapacity,List.map_map];have:(List.map ((fun n:Int=>UInt8.ofNat n.toNat)∘fun x:UInt8=>(x.toNat:Int)) l)=l:=by
  conv=>rhs;rw[←List.map_id l]
  apply List.map_congr_left
  intro x _;simp
 rw[this];simp
 try rfl

theorem getOb_getA{H:Heap}{k:Nat}{ob:Ob}(h:getOb H k=some ob)(hi:ob.isArr=true:=by rfl):getA H k=some ob.toArr:=by
 unfold getA;rw[h];cases ob<;>first|(cases hi;done)|rfl

theorem conv_ok{H:Heap}(hH:HeapOk E w H){src dst:TypeId}{x:T}{v:Value}{y:T}{side:Option Prop}(h:evConv P H src dst x=some (y,side))(hs:side.getD True)(hx:Rd E w x v):
  ∃r,(convert src dst v).run P w= .ok r w/\Rd E w y r:=by
 unfold evConv at h;split at h
 ·rename_i ks kd k n hsr hd;simp only[Option.some.injEq,Prod.mk.injEq] at h;obtain⟨rfl,rfl⟩:=h;rw[rd_int hx];simp only[convert,Sem.run_bind,run_underlying hsr,run_underlying hd,Result.andThen_ok,Conv.intToInt,Sem.run_pure];exact⟨_,rfl,.int _ _⟩
 ·rename_i l hsr hd;simp only[Option.some.injEq,Prod.mk.injEq] at h;obtain⟨rfl,rfl⟩:=h;rw[rd_str hx];simp only[convert,Sem.run_bind,run_underlying hsr,run_underlying hd,Result.andThen_ok,Sem.run_pure];exact⟨_,rfl,.str _⟩
 ·rename_i e l hsr hd;split at h
  ·rename_i he;simp only[Option.some.injEq,Prod.mk.injEq] at h;obtain⟨rfl,rfl⟩:=h;cases hx with
   |bysNil=>
    rw[run_convert_bytes_string w src dst e _ _ _ hsr he hd];exact⟨_,rfl,.str []⟩
   |bysEmp a=>
    rw[run_convert_bytes_string w src dst e _ _ _ hsr he hd];have hl:(loadCells a 0).run P w= .ok #[] w:=by
     have:=run_loadCells_list (P:=P) w a [] (fun j v hj=>by simp at hj)
     simpa using this
    have:=run_bytesToString w a 0 0 [] (by simpa using hl)
    exact⟨_,this,.str []⟩
   |bys _ b off cap hN hc hr=>
    rw[run_convert_bytes_string w src dst e _ _ _ hsr he hd];exact⟨_,toString_ok b off l cap hr,.str l⟩
  ·cases h
 ·rename_i e k off n hsrc hd;split at h
  ·rename_i tyb l he hob;simp only[Option.some.injEq,Prod.mk.injEq] at h;obtain⟨rfl,rfl⟩:=h;have hs:off+n<=l.length:=hs;obtain⟨hL,⟨hz,hn,hl,hone,hcl,cs,ty,hb,hsz,hc⟩,hN⟩:=hH.live _ _ hob;simp only[Ob.toArr] at hz hn hl hone hcl hsz hc;cases hx with
   |osl _ _ _ o a _ hn' ho ha=>
    rw[run_convert_bytes_string w src dst e _ _ _ hsrc he hd];have hlen:((l.drop off).take n).length=n:=by simp;omega
    by_cases hκ:E.κ k=0
    ·obtain rfl:n=0:=by omega
     rw[hκ,Nat.zero_sub];refine⟨.string ⟨#[]⟩,?_,by rw[List.take_zero];exact .str []⟩
     cases a with
     |none=>rfl
     |some a=>
      have hl:(loadCells a 0).run P w= .ok #[] w:=by
       have:=run_loadCells_list (P:=P) w a [] (fun j v hj=>by simp at hj)
       simpa using this
      have:=run_bytesToString w a 0 0 [] (by simpa using hl)
      exact this
    have hb:=hb hκ;rw[ha hκ];have:=toString_ok (P:=P) (w:=w) (E.β k) o ((l.drop off).take n) (E.κ k-off) (fun i x hx=>by
     have hi:i<n:=by
      rcases Nat.lt_or_ge i n with h'|h'
      ·exact h'
      ·rw[List.getElem?_eq_none (by omega)] at hx;cases hx
     have hx':l[off+i]? =some x:=by
      rw[List.getElem?_take] at hx
      rw[if_pos hi,List.getElem?_drop] at hx
      exact hx
     have hrow:(byRow l (off+i))[0]? =some (.int .u8 (x.toNat:Int)):=by
      simp[byRow,List.getD,hx']
     obtain⟨u,hu,hru⟩:=hc (off+i) 0 _ (by omega) hrow
     have hob:o=off:=by
      have:=ho (.inl (by omega))
      rw[hz,Nat.mul_one] at this;exact this
     rw[cell_of_heap hb,hob];rw[rd_int hru] at hu;rw[Nat.mul_one,Nat.add_zero] at hu;exact hu)
    rw[hlen] at this;exact⟨_,this,.str _⟩
  ·cases h
 ·cases h

theorem bounds_ok{isSlice:Bool}{len cap:Nat}{lo hi:Option T}{lv hv:Option Value}{a h:Option Int}(ha:intOfT lo=some a)(hh:intOfT hi=some h)
  (hlo:∀x,lo=some x->∃v,lv=some v/\Rd E w x v) (hhi:∀x,hi=some x->∃v,hv=some v/\Rd E w x v) (hlo':lo=none->lv=none) (hhi':hi=none->hv=none)
  (hc:len<=cap) (hs:(cutS len a h).getD True):
  ∃l m:Nat,(Instr.sliceBounds isSlice len cap lv hv none).run P w= .ok (l,m,cap) w/\l<=m/\m<=len/\l=(a.getD 0).toNat/\m=(h.getD (len:Int)).toNat/\cutN len a h=m-l:=by
 have key:∀(x:T) (v:Value) (i:Int) (y:Nat) (code:BoundsCode),intOfT (some x)=some (some i)->Rd E w x v->0<=i->i<=y->(Instr.sliceBound v y code).run P w= .ok i.toNat w:=by
  intro x v i y code hx hr h0 h1;unfold intOfT at hx;split at hx
  ·rename_i heq;cases heq
  ·rename_i k j heq;simp only[Option.some.injEq] at heq hx;subst heq;subst hx;rw[rd_int hr];simp only[Instr.sliceBound,asIntOf,Sem.run_bind,Sem.run_pure,Result.andThen_ok];rw[if_pos ⟨h0,h1⟩];rfl
  ·cases hx
 have kn:∀(o:Option T) (i:Option Int),intOfT o=some i->(o=none/\i=none)∨∃x j,o=some x/\i=some j:=by
  intro o i ho;unfold intOfT at ho;split at ho
  ·simp only[Option.some.injEq] at ho;exact .inl ⟨rfl,ho.symm⟩
  ·rename_i k j;simp only[Option.some.injEq] at ho;exact .inr ⟨_,j,rfl,ho.symm⟩
  ·cases ho
 rcases kn lo a ha with⟨rfl,rfl⟩|⟨x,i,rfl,rfl⟩<;>rcases kn hi h hh with⟨rfl,rfl⟩|⟨y,j,rfl,rfl⟩
 ·rw[hlo' rfl,hhi' rfl];exact⟨0,len,by simp[Instr.sliceBounds],by omega,by omega,rfl,by simp,by simp[cutN]⟩
 ·obtain⟨v,rfl,hv⟩:=hhi y rfl;rw[hlo' rfl];have hs:0<=j/\j<=len:=hs;have:=fun code=>key y v j cap code hh hv hs.1 (by omega)
  exact⟨0,j.toNat,by simp[Instr.sliceBounds,this],by omega,by omega,rfl,by simp,by simp[cutN]⟩
 ·obtain⟨v,rfl,hv⟩:=hlo x rfl;rw[hhi' rfl];have hs:0<=i/\i<=len:=hs;have:=fun code=>key x v i len code ha hv hs.1 hs.2
  exact⟨i.toNat,len,by simp[Instr.sliceBounds,this],by omega,by omega,by simp,by simp,by simp[cutN]⟩
 ·obtain⟨v,rfl,hv⟩:=hlo x rfl;obtain⟨u,rfl,hu⟩:=hhi y rfl;have hs:0<=i/\i<=j/\j<=len:=hs;have h1:=fun code=>key y u j cap code hh hu (by omega) (by omega)
  have h2:=fun code=>key x v i j.toNat code ha hv hs.1 (by omega)
  exact⟨i.toNat,j.toNat,by simp[Instr.sliceBounds,h1,h2],by omega,by omega,by simp,by simp,by simp[cutN]⟩

theorem cutL_eq(l:List UInt8)(a h:Option Int)(i m:Nat)(ha:i=(a.getD 0).toNat)(hm:m=(h.getD (l.length:Int)).toNat):cutL l a h=(l.take m).drop i:=by
 subst ha;subst hm;unfold cutL;split<;>simp

theorem cutRow_eq(row:Nat->List T)(a:Option Int):cutRow row a=fun i=>row ((a.getD 0).toNat+i):=by
 unfold cutRow;split<;>simp

theorem cutO_eq(off:Nat)(a:Option Int):cutO off a=off+(a.getD 0).toNat:=by
 unfold cutO;split<;>simp

theorem slice_ok{H:Heap}(hH:HeapOk E w H){t:TypeId}{x:T}{v:Value}{lo hi:Option T}{lv hv:Option Value}{y:T}{side:Option Prop}(h:evSlice P H t x lo hi=some (y,side))(hs:side.getD True)(hx:Rd E w x v)
  (hlo:∀x,lo=some x->∃v,lv=some v/\Rd E w x v) (hhi:∀x,hi=some x->∃v,hv=some v/\Rd E w x v) (hlo':lo=none->lv=none) (hhi':hi=none->hv=none):
  ∃r,(Instr.sliceAt t v lv hv none).run P w= .ok r w/\Rd E w y r:=by
 unfold evSlice at h;split at h
 ·rename_i a hb ha hh;have bnd:=fun(isSlice:Bool) (len cap:Nat) (hc:len<=cap) (hs:(cutS len a hb).getD True)=>bounds_ok (P:=P) (E:=E) (w:=w) (isSlice:=isSlice) ha hh hlo hhi hlo' hhi' hc hs
  split at h
  ·rename_i l hu;simp only[Option.some.injEq,Prod.mk.injEq] at h;obtain⟨rfl,rfl⟩:=h;rw[rd_str hx];obtain⟨i,m,hr,him,hml,hi,hm,_⟩:=bnd false l.length l.length (Nat.le_refl _) hs;have hr':(Instr.sliceBounds false (ByteArray.mk l.toArray).size (ByteArray.mk l.toArray).size lv hv none).run P w= .ok (i,m,l.length) w:=by
    simpa[ByteArray.size] using hr
   simp only[Instr.sliceAt,Instr.slice,Sem.run_bind,run_underlying hu,Result.andThen_ok,Option.isSome_none,Bool.false_eq_true,if_false,Sem.run_pure,hr'];refine⟨_,rfl,?_⟩
   have:(ByteArray.mk l.toArray).extract i m=⟨(cutL l a hb).toArray⟩:=by
    apply ByteArray.ext
    apply Array.ext'
    rw[Lib.extract_data,cutL_eq l a hb i m hi hm,List.drop_take]
   rw[this];exact .str _
  ·rename_i e l hu;split at h
   ·rename_i hc;simp only[Option.some.injEq,Prod.mk.injEq] at h;obtain⟨rfl,rfl⟩:=h;cases hx with
    |bysNil=>
     obtain⟨i,m,hr,him,hml,hi,hm,_⟩:=bnd true 0 0 (Nat.le_refl _) hs;simp only[Instr.sliceAt,Instr.slice,Sem.run_bind,run_underlying hu,Result.andThen_ok,hr,(cellsB_ok (w:=w) hc).1,Sem.run_pure];refine⟨_,rfl,?_⟩
     rw[cutL_eq [] a hb i m hi hm];have h1:m=0:=by simpa using hml
     have h2:i=0:=by omega
     subst h1;subst h2;simp only[List.take_nil,List.drop_nil,Nat.sub_self,if_pos];exact .bysNil
    |bysEmp a0=>
     obtain⟨i,m,hr,him,hml,hi,hm,_⟩:=bnd true 0 0 (Nat.le_refl _) hs;simp only[Instr.sliceAt,Instr.slice,Sem.run_bind,run_underlying hu,Result.andThen_ok,hr,(cellsB_ok (w:=w) hc).1,Sem.run_pure];refine⟨_,rfl,?_⟩
     rw[cutL_eq [] a hb i m hi hm];have h1:m=0:=by simpa using hml
     have h2:i=0:=by omega
     subst h1;subst h2;simp only[List.take_nil,List.drop_nil,Nat.sub_self,if_pos];exact .bysEmp _
    |bys _ b off cap hN hcap hcell=>
     obtain⟨i,m,hr,him,hml,hi,hm,_⟩:=bnd true l.length cap hcap hs;simp only[Instr.sliceAt,Instr.slice,Sem.run_bind,run_underlying hu,Result.andThen_ok,hr,(cellsB_ok (w:=w) hc).1,Sem.run_pure];refine⟨_,rfl,?_⟩
     rw[cutL_eq l a hb i m hi hm];have hlen:((l.take m).drop i).length=m-i:=by simp;omega
     rw[←hlen];split
     ·rename_i he;exact .bys _ b off _ hN (by omega) (fun j x hj=>by
       have:j<((l.take m).drop i).length:=(List.getElem?_eq_some_iff.1 hj).1
       omega)
     ·simp only[Option.map_some,Addr.add_lit,Nat.mul_one];exact .bys _ b (off+i) _ hN (by omega) (fun j x hj=>by
       rw[List.getElem?_drop,List.getElem?_take] at hj
       split at hj
       ·rw[show off+i+j=off+(i+j) by omega];exact hcell _ _ hj
       ·cases hj)
   ·cases h
  ·rename_i e sz n row hu;split at h
   ·rename_i hc;simp only[Option.some.injEq,Prod.mk.injEq] at h;obtain⟨rfl,rfl⟩:=h;cases hx with
    |slNil=>
     obtain⟨i,m,hr,him,hml,hi,hm,hcut⟩:=bnd true 0 0 (Nat.le_refl _) hs;simp only[Instr.sliceAt,Instr.slice,Sem.run_bind,run_underlying hu,Result.andThen_ok,hr,(cellsB_ok (w:=w) hc).1,Sem.run_pure];refine⟨_,rfl,?_⟩
     have h1:m=0:=by omega
     have h2:i=0:=by omega
     rw[hcut,h1,h2];simp only[Nat.sub_self,if_pos];exact .slNil _ _
    |slEmp _ _ a0=>
     obtain⟨i,m,hr,him,hml,hi,hm,hcut⟩:=bnd true 0 0 (Nat.le_refl _) hs;simp only[Instr.sliceAt,Instr.slice,Sem.run_bind,run_underlying hu,Result.andThen_ok,hr,(cellsB_ok (w:=w) hc).1,Sem.run_pure];refine⟨_,rfl,?_⟩
     have h1:m=0:=by omega
     have h2:i=0:=by omega
     rw[hcut,h1,h2];simp only[Nat.sub_self,if_pos];exact .slEmp _ _ _
    |sl _ _ _ b off cap u hN hcap hl h1 hcell hct=>
     obtain⟨i,m,hr,him,hml,hi,hm,hcut⟩:=bnd true n cap hcap hs;simp only[Instr.sliceAt,Instr.slice,Sem.run_bind,run_underlying hu,Result.andThen_ok,hr,(cellsB_ok (w:=w) hc).1,Sem.run_pure];refine⟨_,rfl,?_⟩
     rw[hcut,cutRow_eq,←hi];split
     ·rename_i he;exact .sl _ _ _ b off _ u hN (by omega) (fun j hj=>by omega) (fun j _ hj=>by omega) (fun j _ _ hj=>by omega) (fun j _ _ hj=>by omega)
     ·simp only[Option.map_some,Addr.add_lit];refine .sl _ _ _ b (off+i*sz) _ (fun j=>u (i+j)) hN (by omega) (fun j hj=>hl _ (by omega)) (fun j t hj=>h1 _ _ (by omega)) (fun j c t hj ht=> ?_) (fun j c t hj ht=>hct _ _ _ (by omega) ht)
      rw[show off+i*sz+j*sz+c=off+(i+j)*sz+c by rw[Nat.add_mul];omega]
      exact hcell _ _ _ (by omega) ht
   ·cases h
  ·rename_i e k off n hu;split at h
   ·rename_i A hA;split at h
    ·rename_i hc;simp only[Option.some.injEq,Prod.mk.injEq] at h;obtain⟨rfl,rfl⟩:=h;obtain⟨hL,⟨hz,_⟩,_⟩:=hH.arr hA;cases hx with
     |osl _ _ _ o a0 _ hn ho ha0=>
      obtain⟨i,m,hr,him,hml,hi,hm,hcut⟩:=bnd true n (E.κ k-off) (by omega) hs
      simp only[Instr.sliceAt,Instr.slice,Sem.run_bind,run_underlying hu,Result.andThen_ok,hr,(cellsB_ok (w:=w) hc).1,Sem.run_pure];refine⟨_,rfl,?_⟩
      rw[hcut,cutO_eq,←hi];rw[show E.κ k-off-i=E.κ k- (off+i) by omega]
      split
      ·rename_i he;exact .osl k (off+i) (m-i) o a0 hL (by omega) (fun h=>by
        rcases h with h|h
        ·omega
        ·rw[h,ho (.inr (by omega)),show off=0 by omega]) ha0
      ·rw[ha0 (by omega)]
       simp only[Option.map_some,Addr.add_lit];refine .osl k (off+i) (m-i) _ _ hL (by omega) (fun h=> ?_) (fun _=>rfl)
       rw[ho (by omega),hz,Nat.add_mul]
    ·cases h
   ·cases h
  ·rename_i e hu;split at h
   ·rename_i i0 hi0;split at h
    ·rename_i hc;simp only[Option.some.injEq,Prod.mk.injEq] at h;obtain⟨rfl,rfl⟩:=h;rw[rd_v hx];obtain⟨i,m,hr,him,hml,hi,hm,_⟩:=bnd true 0 0 (Nat.le_refl _) hs;simp only[Instr.sliceAt,Instr.slice,Sem.run_bind,run_underlying hu,Result.andThen_ok,hr,(cellsB_ok (w:=w) hc).1,Sem.run_pure];refine⟨_,rfl,?_⟩
     have h1:m=0:=by omega
     have h2:i=0:=by omega
     subst h1;subst h2;exact .v _
    ·cases h
   ·cases h
  ·cases h
 ·cases h

theorem un_ok{op:UnOp}{x:T}{v:Value}{y:T}{side:Option Prop}(h:evUn op x=some (y,side))(hs:side.getD True)(hx:Rd E w x v):
  ∃r,(Op.unary op v).run P w= .ok r w/\Rd E w y r:=by
 unfold evUn at h;split at h
 ·simp only[Option.some.injEq,Prod.mk.injEq] at h;obtain⟨rfl,rfl⟩:=h;rw[rd_bool hx];exact⟨_,rfl,.bool _⟩
 ·rename_i k n;simp only[Option.some.injEq,Prod.mk.injEq] at h;obtain⟨rfl,rfl⟩:=h;rw[rd_int hx];have hs:Rng k (0-n):=hs;simp only[Op.unary,Op.intArith,wrap_rng hs];exact⟨_,rfl,.int _ _⟩
 ·cases h

theorem len_ok{x:T}{v:Value}{n:Int}{t ty:TypeId}(h:evLen P t x=some n)(hx:Rd E w x v):
  (Builtin.len_ #[t] ty #[v]).run P w= .ok (.int .i64 n) w:=by
 have hsl:∀(e:TypeId) (a:Option Addr) (m c:Nat),P.underlying t=some (.slice e)->(Builtin.len_ #[t] ty #[.slice a m c]).run P w= .ok (.int .i64 m) w:=by
  intro e a m c hu;simp[Builtin.len_,run_underlying hu,goInt]
 unfold evLen at h;split at h
 ·rename_i l hu;simp only[Option.some.injEq] at h;subst h;rw[rd_str hx];simp[Builtin.len_,run_underlying hu,goInt];rfl
 ·rename_i e l hu;simp only[Option.some.injEq] at h;subst h;cases hx with
  |bysNil=>exact hsl e _ 0 _ hu
  |bysEmp=>exact hsl e _ 0 _ hu
  |bys=>exact hsl e _ _ _ hu
 ·rename_i e sz n row hu;simp only[Option.some.injEq] at h;subst h;cases hx with
  |slNil=>exact hsl e _ 0 _ hu
  |slEmp=>exact hsl e _ 0 _ hu
  |sl=>exact hsl e _ _ _ hu
 ·rename_i e k off n hu;simp only[Option.some.injEq] at h;subst h;cases hx with
  |osl=>exact hsl e _ _ _ hu
 ·rename_i e k v i j n hu;simp only[Option.some.injEq] at h;subst h;cases hx with
  |posl=>exact hsl e _ _ _ hu
 ·rename_i e n c hu;simp only[Option.some.injEq] at h;subst h;rw[rd_v hx];exact hsl e _ _ _ hu
 ·rename_i e hu;simp only[Option.some.injEq] at h;subst h;cases hx with
  |emp=>exact hsl e _ 0 _ hu
 ·cases h

theorem rd_ref{k i j:Nat}{x:Value}(h:Rd E w (.ref k i j) x):x= .pointer (some ⟨E.β k,i*(E.z k).1+j,none⟩):=by cases h;rfl
theorem rd_bref{cs:List T}{x:Value}(h:Rd E w (.bref cs) x):∃ad,x= .pointer (some ad):=by cases h;exact⟨_,rfl⟩

def RdL(E:Env)(w:World)(cs:List T)(vs:Array Value):Prop:=cs.length=vs.size/\∀(i:Nat) (t:T) (x:Value),cs[i]? =some t->vs[i]? =some x->Rd E w t x

theorem rdL_cells{x:T}{v:Value}(hx:Rd E w x v)(hp:partB x=true):RdL E w (cellsT x) v.cells:=by
 have one:∀{x:T} {v:Value},Rd E w x v->cellsT x=[x]->v.cells= #[v]->RdL E w (cellsT x) v.cells:=by
  intro x v hx h1 h2;rw[h1,h2];refine⟨rfl,fun i t y ht hy=> ?_⟩
  cases i with
  |zero=>simp at ht hy;subst ht;subst hy;exact hx
  |succ i=>simp at ht
 cases hx with
 |agg cs vs hl ht=>exact⟨hl,ht⟩
 |tup=>simp[partB,oneT] at hp
 |und=>simp[partB,oneT] at hp
 |v=>
  cases v<;>first|exact one (.v _) rfl rfl|(simp[partB,oneT] at hp)
 |int=>exact one (.int _ _) rfl rfl
 |bool=>exact one (.bool _) rfl rfl
 |str=>exact one (.str _) rfl rfl
 |slNil=>exact one (.slNil _ _) rfl rfl
 |slEmp sz row a=>exact one (.slEmp sz row a) rfl rfl
 |emp a=>exact one (.emp a) rfl rfl
 |bysEmp a=>exact one (.bysEmp a) rfl rfl
 |sl sz n row b off cap u hN hc hl h1 hr ht=>exact one (.sl sz n row b off cap u hN hc hl h1 hr ht) rfl rfl
 |bysNil=>exact one .bysNil rfl rfl
 |bys l b off cap hN hc hr=>exact one (.bys l b off cap hN hc hr) rfl rfl
 |bref cells b off u hN h1 hr ht=>exact one (.bref cells b off u hN h1 hr ht) rfl rfl
 |ref k i j hL=>exact one (.ref k i j hL) rfl rfl
 |osl k off n o a hL hn ho ha=>exact one (.osl k off n o a hL hn ho ha) rfl rfl
 |posl k v i j n a hL hn ha=>exact one (.posl k v i j n a hL hn ha) rfl rfl
 |pref k v i j z a b hL=>exact one (.pref k v i j z a b hL) rfl rfl
 |fn f cs vs hl ht=>exact one (.fn f cs vs hl ht) rfl rfl
 |mpr k hL=>exact one (.mpr k hL) rfl rfl
 |ifp t k ms hL=>exact one (.ifp t k ms hL) rfl rfl

theorem foldl_set(m:List Value):∀(j off:Nat) (cells:Array Value),off+j+m.length<=cells.size->
  ((m.zipIdx j).foldl (fun cs (p:Value×Nat)=>cs.setIfInBounds (off+p.2) p.1) cells).toList=cells.toList.take (off+j)++m++cells.toList.drop (off+j+m.length):=by
 induction m with
 |nil=>intro j off cells h;simp
 |cons x m ih=>
  intro j off cells h;simp only[List.length_cons] at h;simp only[List.zipIdx_cons,List.foldl_cons];rw[ih (j+1) off _ (by simp;omega)]
  simp only[Array.toList_setIfInBounds,List.length_cons];apply List.ext_getElem?
  intro i;simp only[List.getElem?_append,List.length_append,List.length_take,List.length_set,Array.length_toList,List.getElem?_take,List.getElem?_set,List.getElem?_drop,List.length_cons]
  rw[Nat.min_eq_left (by omega),Nat.min_eq_left (by omega)]
  by_cases h1:i<off+j
  ·simp[h1,show i<off+(j+1) by omega,show i<off+(j+1)+m.length by omega,show i<off+j+(m.length+1) by omega,show ¬off+j=i by omega]
  ·by_cases h2:i=off+j
   ·subst h2;simp[show off+j<off+(j+1) by omega,show off+j<off+(j+1)+m.length by omega,show off+j<cells.size by omega]
   ·by_cases h3:i<off+j+1+m.length
    ·rw[if_pos (by omega),if_neg (by omega),if_pos (by omega),if_neg (by omega)]
     rw[show i- (off+j)=(i- (off+(j+1)))+1 by omega]
     simp
    ·rw[if_neg (by omega),if_neg (by omega)]
     rw[if_neg (by omega)]
     congr 1
     omega

theorem fill_ok{place:Nat->Option (Nat×Nat)}:∀(parts:List (Nat×T)) (pv:List (Nat×Value)) (cs out:List T) (vs:Array Value),
  fillT place cs parts=some out->RdL E w cs vs->parts.length=pv.length->(∀(i:Nat) (p:Nat×T) (q:Nat×Value),parts[i]? =some p->pv[i]? =some q->p.1=q.1/\Rd E w p.2 q.2)->
  ∃us,Instr.fill place vs pv=some us/\RdL E w out us:=by
 intro parts;induction parts with
 |nil=>
  intro pv cs out vs h hr hl hp;simp only[fillT,Option.some.injEq] at h;subst h;cases pv with
  |nil=>exact⟨vs,rfl,hr⟩
  |cons q pv=>simp at hl
 |cons p parts ih=>
  intro pv cs out vs h hr hl hp;cases pv with
  |nil=>simp at hl
  |cons q pv=>
   obtain⟨i,x⟩:=p;obtain⟨i',v⟩:=q;obtain⟨rfl,hx⟩:=hp 0 _ _ rfl rfl;simp only at hx;simp only[fillT] at h;split at h
   ·rename_i off size hpl hpb;split at h
    ·rename_i h1 h2;have h1':=Nat.eq_of_beq_eq_true h1;have h2':=Nat.le_of_ble_eq_true h2;obtain⟨hcl,hct⟩:=rdL_cells hx hpb;obtain⟨hrl,hrt⟩:=hr;have hfold:(v.cells.zipIdx.foldl (fun cs (c,j)=>cs.setIfInBounds (off+j) c) vs).toList=vs.toList.take off++v.cells.toList++vs.toList.drop (off+v.cells.size):=by
      have:=foldl_set v.cells.toList 0 off vs (by simp;omega)
      simp only[Nat.add_zero,Array.length_toList] at this;rw[←this,←Array.foldl_toList,Array.toList_zipIdx]
     have hnew:RdL E w (cs.take off++cellsT x++cs.drop (off+(cellsT x).length)) (v.cells.zipIdx.foldl (fun cs (c,j)=>cs.setIfInBounds (off+j) c) vs):=by
      refine⟨?_,fun k t y ht hy=> ?_⟩
      ·rw[←Array.length_toList,hfold];simp;omega
      ·rw[←Array.getElem?_toList,hfold] at hy
       simp only[List.getElem?_append,List.length_append,List.length_take,Array.length_toList,List.getElem?_take,List.getElem?_drop,←hrl,←hcl] at ht hy
       rw[Nat.min_eq_left (by omega)] at ht hy
       by_cases hk1:k<off+(cellsT x).length
       ·rw[if_pos hk1] at ht hy;by_cases hk2:k<off
        ·rw[if_pos hk2,if_pos hk2] at ht;rw[if_pos hk2,if_pos hk2] at hy;exact hrt _ _ _ ht (by simpa using hy)
        ·rw[if_neg hk2] at ht hy;exact hct _ _ _ ht (by simpa using hy)
       ·rw[if_neg hk1] at ht hy;exact hrt _ _ _ ht (by simpa using hy)
     obtain⟨us,hus,hout⟩:=ih pv _ out _ h hnew (by simpa using hl) (fun j p q hp' hq'=>hp (j+1) p q (by simpa using hp') (by simpa using hq'))
     refine⟨us,?_,hout⟩
     simp only[Instr.fill,hpl];rw[if_neg]
     ·exact hus
     ·simp only[Bool.or_eq_true,decide_eq_true_eq];omega
    ·cases h
   ·cases h

theorem zero_ok{t:TypeId}{z:List T}(h:zeroCells P t=some z):∃v,(zeroValue t).run P w= .ok v w/\RdL E w z v.cells/\∃i,P.info? t=some i/\i.zero=some v:=by
 unfold zeroCells at h;cases hi:P.info? t with
 |none=>rw[hi] at h;cases h
 |some i=>
  rw[hi] at h;cases hz:i.zero with
  |none=>simp[hz] at h
  |some v=>
   simp only[Option.bind_some,hz,Option.map_some,Option.some.injEq] at h;subst h;refine⟨v,by simp[zeroValue,typeInfo,hi,hz],⟨by simp,fun i t x ht hx=> ?_⟩,i,rfl,hz⟩
   simp only[List.getElem?_map,Array.getElem?_toList,hx,Option.map_some,Option.some.injEq] at ht
   subst ht;exact rd_const x

theorem mapM_sizes_list:∀(fs:List Field),(∀f ∈ fs,(P.info? f.type).isSome=true)->(fs.mapM fun f=>(do pure (f.offset,←sizeOf f.type):Sem (Nat×Nat))).run P w= .ok (fs.map fun f=>(f.offset,P.cellsOf f.type)) w:=by
 intro fs;induction fs with
 |nil=>intro _;rfl
 |cons f fs ih=>
  intro h;simp only[List.mapM_cons,Sem.run_bind,run_sizeOf f.type (h f (by simp)),Result.andThen_ok,Sem.run_pure,ih (fun g hg=>h g (by simp[hg])),List.map_cons]

theorem mapM_sizes(fs:Array Field)(h:∀f ∈ fs.toList,(P.info? f.type).isSome=true):(fs.mapM fun f=>(do pure (f.offset,←sizeOf f.type):Sem (Nat×Nat))).run P w= .ok (fs.map fun f=>(f.offset,P.cellsOf f.type)) w:=by
 rw[Array.mapM_eq_mapM_toList,Sem.run_map,mapM_sizes_list fs.toList h];simp only[Result.andThen_ok];congr 1
 apply Array.ext'
 simp

theorem fillS_len{place:Nat->Option (Nat×Nat)}{m:Nat}:∀(parts:List (Nat×T)) (n:Nat) (cs:List T),fillS place m n parts=some cs->n+cs.length=m:=by
 intro parts;induction parts with
 |nil=>
  intro n cs h;simp only[fillS] at h;split at h
  ·rename_i hb;cases h;exact Nat.eq_of_beq_eq_true hb
  ·cases h
 |cons p parts ih=>
  intro n cs h;obtain⟨i,x⟩:=p;simp only[fillS] at h;split at h
  ·split at h
   ·rename_i h1 h2;cases hr:fillS place m (n+_) parts with
    |none=>rw[hr] at h;cases h
    |some cs'=>
     rw[hr] at h;simp only[Option.map_some,Option.some.injEq] at h;subst h;have:=ih _ _ hr;have h2:=Nat.eq_of_beq_eq_true h2;rw[List.length_append];omega
   ·cases h
  ·cases h
theorem fillS_eq{place:Nat->Option (Nat×Nat)}{m:Nat}:∀(parts:List (Nat×T)) (n:Nat) (cells cs:List T),fillS place m n parts=some cs->cells.length=m->fillT place cells parts=some (cells.take n++cs):=by
 intro parts;induction parts with
 |nil=>
  intro n cells cs h hm;have:=fillS_len _ _ _ h;simp only[fillS] at h;split at h
  ·cases h;simp only[fillT,List.append_nil];rw[List.take_of_length_le (by simp at this;omega)]
  ·cases h
 |cons p parts ih=>
  intro n cells cs h hm;have hl:=fillS_len _ _ _ h;obtain⟨i,x⟩:=p;simp only[fillS] at h;simp only[fillT];split at h
  ·rename_i off size hpl hpb;split at h
   ·rename_i h1 h2;cases hr:fillS place m (n+size) parts with
    |none=>rw[hr] at h;cases h
    |some cs'=>
     rw[hr] at h;simp only[Option.map_some,Option.some.injEq] at h;subst h;have e1:=Nat.eq_of_beq_eq_true h1;have e2:=Nat.eq_of_beq_eq_true h2;subst e1;rw[List.length_append] at hl;have hle:Nat.ble (off+(cellsT x).length) cells.length=true:=Nat.ble_eq_true_of_le (by omega)
     simp only[h2,hle];rw[ih (off+size) _ _ hr (by simp;omega)]
     congr 1
     have ht:(cells.take off).length=off:=by rw[List.length_take];omega
     rw[←List.append_assoc];congr 1
     rw[List.append_assoc,List.take_append,ht,List.take_of_length_le (by omega),show off+size-off=(cellsT x).length by omega,List.take_left']
     rfl
   ·cases h
  ·cases h
theorem fillQ_eq{place:Nat->Option (Nat×Nat)}{z:List T}{parts:List (Nat×T)}:fillQ place z parts=fillT place z parts:=by
 unfold fillQ;split
 ·rename_i cs h;rw[fillS_eq _ _ _ _ h rfl];rfl
 ·rfl

theorem build_ok{a:Act}{s:Slots}{t:TypeId}{parts:Array (Nat×Operand)}{y:T}(h:evBuild P s t parts=some y)(hop:∀p ∈ parts.toList,OpOk E w a s p.2):
  ∃r,(Instr.build t (parts.map fun(i,x)=>(i,a.eval x))).run P w= .ok r w/\Rd E w y r:=by
 have hparts:∀(i:Nat) (p:Nat×T) (q:Nat×Value),(parts.toList.map fun p=>(p.1,opT s p.2))[i]? =some p->(parts.map fun(i,x)=>(i,a.eval x)).toList[i]? =some q->p.1=q.1/\Rd E w p.2 q.2:=by
  intro i p q hp hq;simp only[Array.toList_map,List.getElem?_map,Option.map_eq_some_iff] at hp hq
  obtain⟨x,hx,rfl⟩:=hp;obtain⟨x',hx',rfl⟩:=hq;rw[hx] at hx';simp only[Option.some.injEq] at hx';subst hx';exact⟨rfl,hop x (List.mem_of_getElem? hx)⟩
 have hlen:(parts.toList.map fun p=>(p.1,opT s p.2)).length=(parts.map fun(i,x)=>(i,a.eval x)).toList.length:=by simp
 unfold evBuild at h;simp only[fillQ_eq] at h;split at h
 ·rename_i z fs hz hu;obtain⟨v,hv,hrl,_⟩:=zero_ok (E:=E) (w:=w) hz;split at h
  ·rename_i hall;cases hf:fillT (fun i=>(fs.toList[i]?).map fun f=>(f.offset,P.cellsOf f.type)) z (parts.toList.map fun p=>(p.1,opT s p.2)) with
   |none=>rw[hf] at h;cases h
   |some out=>
    rw[hf] at h;simp only[Option.map_some,Option.some.injEq] at h;subst h;obtain⟨us,hus,hout⟩:=fill_ok _ _ _ _ _ hf hrl hlen hparts;have hall':∀f ∈ fs.toList,(P.info? f.type).isSome=true:=List.all_eq_true.1 hall;have hpl:(fun(i:Nat)=>(fs.toList[i]?).map fun f:Field=>(f.offset,P.cellsOf f.type))=fun(i:Nat)=>(fs.map fun f:Field=>(f.offset,P.cellsOf f.type))[i]? :=by
     funext i
     simp
    rw[hpl] at hus;simp only[Instr.build,Sem.run_bind,hv,Result.andThen_ok,Sem.run_pure,run_underlying hu,mapM_sizes fs hall',hus];exact⟨_,rfl,.agg _ _ hout.1 hout.2⟩
  ·cases h
 ·rename_i z n e hz hu;obtain⟨v,hv,hrl,_⟩:=zero_ok (E:=E) (w:=w) hz;split at h
  ·rename_i he;cases hf:fillT (fun i=>some (i*P.cellsOf e,P.cellsOf e)) z (parts.toList.map fun p=>(p.1,opT s p.2)) with
   |none=>rw[hf] at h;cases h
   |some out=>
    rw[hf] at h;simp only[Option.map_some,Option.some.injEq] at h;subst h;obtain⟨us,hus,hout⟩:=fill_ok _ _ _ _ _ hf hrl hlen hparts;simp only[Instr.build,Sem.run_bind,hv,Result.andThen_ok,Sem.run_pure,run_underlying hu,run_sizeOf e he,hus];exact⟨_,rfl,.agg _ _ hout.1 hout.2⟩
  ·cases h
 ·cases h

def seen(op:Op):List Operand:=
 match op with
 | .pick c _ _=>[c]
 |op=>op.operands.toList

theorem mapB_ok{t:TypeId}{bo:Bool}(h:mapB P t bo=true):∃kt et,P.underlying t=some (.map kt et)/\P.underlying kt=some (.int .i64)/\(zeroValue et).run P w= .ok (mvalue bo 0) w:=by
 unfold mapB at h;split at h
 ·rename_i kt et hu;have hz:∀v,(P.info? et).bind (·.zero)=some v->(zeroValue et).run P w= .ok v w:=by
   intro v hv;cases hi:P.info? et with
   |none=>rw[hi] at hv;cases hv
   |some i=>
    rw[hi] at hv;simp only[Option.bind_some] at hv;simp[zeroValue,typeInfo,hi,hv]
  split at h
  ·rename_i n hk he;have:=of_decide_eq_true h;subst this;exact⟨kt,et,hu,hk,hz _ he⟩
  ·rename_i b hk he;cases b
   ·exact⟨kt,et,hu,hk,hz _ he⟩
   ·cases h
  ·cases h
 ·cases h

theorem findNow_none{n:Int}:∀(l:List MapEntry) (i:Nat),(∀e ∈ l,∃m,e.key= .int .i64 m)->lk n l=none->Instr.findNow (.int .i64) (.int .i64 n) l i=some none:=by
 intro l;induction l with
 |nil=>intro i _ _;rfl
 |cons e l ih=>
  intro i hi h;obtain⟨m,hm⟩:=hi e (by simp)
  simp only[lk,hm] at h;split at h
  ·cases h
  ·rename_i hne;simp only[Instr.findNow,hm,Instr.sameNow,if_true];rw[show(n==m)=false from by simpa using hne]
   exact ih _ (fun e he=>hi e (by simp[he])) h

theorem findNow_some{n:Int}{v:Value}:∀(l:List MapEntry) (i:Nat),(∀e ∈ l,∃m,e.key= .int .i64 m)->lk n l=some v->
  ∃j e,l[j]? =some e/\e.key= .int .i64 n/\e.val=v/\Instr.findNow (.int .i64) (.int .i64 n) l i=some (some (i+j,v))/\
   ∀x,(∀e ∈ l.modify j (fun e=>{e with key:=.int .i64 n,val:=x}),∃m,e.key= .int .i64 m)/\∀n',lk n' (l.modify j (fun e=>{e with key:=.int .i64 n,val:=x}))=if n'=n then some x else lk n' l:=by
 intro l;induction l with
 |nil=>intro i _ h;cases h
 |cons e l ih=>
  intro i hi h;obtain⟨m,hm⟩:=hi e (by simp)
  have hi':∀e ∈ l,∃m,e.key= .int .i64 m:=fun e he=>hi e (by simp[he])
  simp only[lk,hm] at h;split at h
  ·rename_i he;subst he;simp only[Option.some.injEq] at h;refine⟨0,e,rfl,hm,h,?_,fun x=>⟨fun e' he'=> ?_,fun n'=> ?_⟩⟩
   ·simp[Instr.findNow,hm,Instr.sameNow,h]
   ·simp only[List.modify_zero_cons,List.mem_cons] at he';rcases he' with rfl|he'
    ·exact⟨n,rfl⟩
    ·exact hi' e' he'
   ·simp only[List.modify_zero_cons,lk,hm];split
    ·rfl
    ·rfl
  ·rename_i hne;obtain⟨j,e',h1,h2,h3,h4,h5⟩:=ih (i+1) hi' h;refine⟨j+1,e',by simpa using h1,h2,h3,?_,fun x=> ?_⟩
   ·simp only[Instr.findNow,hm,Instr.sameNow,if_true];rw[show(n==m)=false from by simpa using hne]
    simp only[h4];congr 3
    omega
   ·obtain⟨g1,g2⟩:=h5 x;refine⟨fun e'' he''=> ?_,fun n'=> ?_⟩
    ·simp only[List.modify_succ_cons,List.mem_cons] at he'';rcases he'' with rfl|he''
     ·exact⟨m,hm⟩
     ·exact g1 e'' he''
    ·simp only[List.modify_succ_cons,lk,hm];split
     ·rename_i hnm;subst hnm;rw[if_neg (Ne.symm hne)]
     ·exact g2 n'

theorem rd_mval(bo:Bool)(n:Int):Rd E w (mval bo n) (mvalue bo n):=by
 cases bo
 ·exact .int _ _
 ·exact .bool _

theorem checkKey_int{kt:TypeId}(hku:P.underlying kt=some (.int .i64))(b:Bool)(d:Nat)(n:Int):(Instr.checkKey b (d+1) kt (.int .i64 n)).run P w= .ok () w:=by
 unfold Instr.checkKey;simp only[Sem.run_bind,run_underlying hku,Result.andThen_ok,Sem.run_pure]

theorem rng_lit{n:Int}(h:Rng .i64 n):(Lit.int .i64 n).wf=true:=by
 unfold Rng at h;unfold Lit.wf
 simpa using h
theorem pair_key{P:Program}{kt:TypeId}(h:pairB P kt=true)(hk:P.keyType kt=true){a b:Int}(ha:Rng .i64 a)(hb:Rng .i64 b):∃l,keyOf P kt (pairV a b)=some l:=by
 unfold pairB at h;split at h
 ·rename_i fs hu;split at h
  ·rename_i f0 f1 hfs;simp only[Bool.and_eq_true] at h;obtain⟨⟨⟨⟨⟨⟨⟨n0,n1⟩,o0⟩,o1⟩,t0⟩,t1⟩,c2⟩,sz⟩:=h;have hsz:∃m,P.types.size=m+1:=by
    cases hs:P.types.size with
    |zero=>rw[hs] at sz;simp at sz
    |succ m=>exact⟨m,rfl⟩
   obtain⟨m,hm⟩:=hsz;have i64:∀{t:TypeId},i64B P t=true->P.underlying t=some (.int .i64)/\P.cellsOf t=1:=by
    intro t ht;unfold i64B at ht;split at ht
    ·rename_i hh;exact⟨hh,Nat.eq_of_beq_eq_true ht⟩
    ·cases ht
   obtain⟨u0,z0⟩:=i64 t0;obtain⟨u1,z1⟩:=i64 t1;have o0:=Nat.eq_of_beq_eq_true o0;have o1:=Nat.eq_of_beq_eq_true o1;have c2:=Nat.eq_of_beq_eq_true c2;unfold keyOf;simp only[hu];rw[if_pos (by simp[hk,pairV,Value.formed,hu,c2]),hm]
   unfold Program.keyLits;simp only[hu,pairV,Value.cells];rw[if_pos ⟨by rw[c2];rfl,by rw[←Array.all_toList,hfs];simp[n0,n1]⟩,hfs]
   simp[o0,o1,z0,z1,Program.keyLits,u0,u1,rng_lit ha,rng_lit hb]
  ·cases h
 ·cases h

theorem map2_ok{P:Program}{w:World}{t:TypeId}(h:map2B P t=true):∃kt et,P.underlying t=some (.map kt et)/\WideMaps.KeyLaw P kt/\pairB P kt=true/\P.keyType kt=true/\(zeroValue et).run P w= .ok (.bool false) w:=by
 unfold map2B at h;split at h
 ·rename_i kt et hu;split at h
  ·rename_i b hz;simp only[Bool.and_eq_true,Bool.not_eq_true'] at h;obtain⟨⟨⟨⟨rfl,h2⟩,h3⟩,h4⟩,h5⟩:=h;have hw:(match P.underlying kt with|some (.array _ _)|some (.struct _)=>true|_=>false)=true:=by
    have h6:=h5;unfold pairB at h6;split at h6
    ·rename_i hh;rw[hh]
    ·cases h6
   refine⟨kt,et,hu,Go.deep_law (m:=2) (by omega) h2 h3 hw,h5,h4,?_⟩
   cases hi:P.info? et with
   |none=>rw[hi] at hz;cases hz
   |some i=>
    rw[hi] at hz;simp only[Option.bind_some] at hz;simp[zeroValue,typeInfo,hi,hz]
  ·cases h
 ·cases h

theorem look_ok{H:Heap}(hH:HeapOk E w H){t:TypeId}{m k:T}{mv kv:Value}{y:T}{side:Option Prop}(h:evLook P H t m k=some (y,side))(hs:side.getD True)(hm:Rd E w m mv)(hk:Rd E w k kv):
  ∃r,(Instr.lookup t mv kv false).run P w= .ok r w/\Rd E w y r:=by
 unfold evLook at h;split at h
 ·rename_i j n;split at h
  ·rename_i bo get hob;split at h
   ·rename_i hb;simp only[Option.some.injEq,Prod.mk.injEq] at h;obtain⟨rfl,rfl⟩:=h;rw[rd_int hk];obtain⟨kt,et,hu,hku,hz⟩:=mapB_ok (w:=w) hb;obtain⟨hL,⟨_,es,clock,hblk,hi,hg⟩,hN⟩:=hH.live j _ hob;cases hm with
    |mpr _ _=>
     have hck:=checkKey_int (w:=w) hku es.isEmpty 9999 n;have hgn:=hg n;cases hl:lk n es.toList with
     |none=>
      rw[hl] at hgn;have hf:=MapKept.run_findKey (w:=w) hku (findNow_none es.toList 0 hi hl);simp only[Instr.lookup,Sem.run_bind,run_underlying hu,Result.andThen_ok,MapKept.run_getObj_map hblk,hck,hf,hz,Sem.run_pure,Bool.false_eq_true,if_false];exact⟨_,rfl,by rw[show get n=0 from hgn];exact rd_mval bo 0⟩
     |some v=>
      rw[hl] at hgn;obtain⟨i,e,_,_,_,hfn,_⟩:=findNow_some es.toList 0 hi hl;have hf:=MapKept.run_findKey (w:=w) hku hfn;simp only[Instr.lookup,Sem.run_bind,run_underlying hu,Result.andThen_ok,MapKept.run_getObj_map hblk,hck,hf,Sem.run_pure,Bool.false_eq_true,if_false];exact⟨_,rfl,by rw[show v=_ from hgn];exact rd_mval bo _⟩
   ·cases h
  ·cases h
 ·rename_i j a b;split at h
  ·rename_i get hob;split at h
   ·rename_i hb;simp only[Option.some.injEq,Prod.mk.injEq] at h;obtain⟨rfl,rfl⟩:=h;obtain⟨ra,rb⟩:=hs;obtain⟨kt,et,hu,K,hp,hk',hz⟩:=map2_ok (w:=w) hb;obtain⟨hL,⟨hκ,es,clock,hblk,hent,hex,hnd⟩,hN⟩:=hH.live j _ hob;obtain⟨l,hl⟩:=pair_key hp hk' ra rb;have hkv:kv=pairV a b:=by
     cases hk with
     |agg _ vs hlen ht=>
      obtain⟨v0,v1,rfl⟩:∃v0 v1,vs= #[v0,v1]:=by
       match vs,hlen with
       |⟨[v0,v1]⟩,_=>exact⟨v0,v1,rfl⟩
      rw[rd_int (ht 0 _ v0 rfl rfl),rd_int (ht 1 _ v1 rfl rfl)];rfl
    subst hkv;have hall:∀e ∈ es.toList,∃l,keyOf P kt e.key=some l:=fun e he=>by
     obtain⟨a',b',r1,r2,hke,_⟩:=hent e he;rw[hke];exact pair_key hp hk' r1 r2
    cases hm with
    |mpr _ _=>
     rcases K.find w hl es.toList hall with⟨h1,h2⟩|⟨i,e,h1,h2,h3⟩
     ·have hg:get a b=false:=by
       cases hg:get a b with
       |false=>rfl
       |true=>
        obtain⟨e,he,hke⟩:=hex a b hg;exact absurd hke (h2 e he)
      exact⟨.bool false,by simp[Instr.lookup,run_underlying hu,MapKept.run_getObj_map hblk,K.check w _ hl,h1,hz,Result.andThen],by rw[hg];exact .bool false⟩
     ·obtain⟨a',b',_,_,hk1,hv⟩:=hent e (List.mem_of_getElem? h2);have he:pairV a' b'=pairV a b:=hk1.symm.trans h3;simp only[pairV,Value.agg.injEq] at he;have h4:a'=a/\b'=b:=by simpa using he
      obtain⟨rfl,rfl⟩:=h4;exact⟨.bool (get a' b'),by simp[Instr.lookup,run_underlying hu,MapKept.run_getObj_map hblk,K.check w _ hl,h1,hv,Result.andThen],.bool _⟩
   ·cases h
  ·cases h
 ·cases h

theorem val_ok{a:Act}{s:Slots}{H:Heap}{o:Oper}{t:T}{side:Option Prop}(h:evVal P s H o.op=some (t,side))(hs:side.getD True)(hH:HeapOk E w H)
  (hop:∀x ∈ seen o.op,OpOk E w a s x)
  (hpk:∀c x y,o.op= .pick c x y->(∀b,opT s c= .bool b->b=true->OpOk E w a s x)/\(∀b,opT s c= .bool b->b=false->OpOk E w a s y)):
  ∃v,(execOp a.eval o).run P w= .ok (.value v) w/\Rd E w t v:=by
 have lift:∀{m:Sem Value} {v:Value},m.run P w= .ok v w->(do pure (Next.value (←m)):Sem Next).run P w= .ok (.value v) w:=by
  intro m v hm;simp only[Sem.run_bind,hm,Result.andThen_ok,Sem.run_pure]
 obtain⟨dst,op,ty,pos,after,guard⟩:=o;simp only at h hop hpk ⊢;unfold evVal at h;split at h
 case h_1 x=>
  simp only[Option.some.injEq,Prod.mk.injEq] at h;obtain⟨rfl,rfl⟩:=h;exact⟨a.eval x,rfl,hop x (by simp[seen,Op.operands])⟩
 case h_2 x=>
  simp only[Option.some.injEq,Prod.mk.injEq] at h;obtain⟨rfl,rfl⟩:=h;exact⟨a.eval x,rfl,hop x (by simp[seen,Op.operands])⟩
 case h_3 c x y=>
  cases hp:evPick s c x y with
  |none=>rw[hp] at h;cases h
  |some z=>
   rw[hp] at h;simp only[Option.map_some,Option.some.injEq,Prod.mk.injEq] at h;obtain⟨rfl,rfl⟩:=h;obtain⟨h1,h2⟩:=hpk c x y rfl;obtain⟨b,hb,hr⟩:=pick_ok hp (hop c (by simp[seen])) h1 h2
   refine⟨_,?_,hr⟩
   simp only[execOp,hb,asBool,Sem.run_bind,Sem.run_pure,Result.andThen_ok]
 case h_4 t' x=>
  obtain⟨r,hr,hrd⟩:=load_ok (P:=P) hH h hs (hop x (by simp[seen,Op.operands]))
  exact⟨r,lift hr,hrd⟩
 case h_5 x=>
  have hx:=hop x (by simp[seen,Op.operands])
  unfold OpOk at hx;split at h
  ·rename_i k i j he;simp only[Option.some.injEq,Prod.mk.injEq] at h;obtain⟨rfl,rfl⟩:=h;rw[he] at hx;refine⟨a.eval x,?_,hx⟩
   obtain⟨ad,had⟩:∃ad,a.eval x= .pointer (some ad):=by first|exact⟨_,rd_ref hx⟩|exact rd_bref hx
   simp only[execOp,had];rfl
  ·rename_i cs he;simp only[Option.some.injEq,Prod.mk.injEq] at h;obtain⟨rfl,rfl⟩:=h;rw[he] at hx;refine⟨a.eval x,?_,hx⟩
   obtain⟨ad,had⟩:∃ad,a.eval x= .pointer (some ad):=by first|exact⟨_,rd_ref hx⟩|exact rd_bref hx
   simp only[execOp,had];rfl
  ·cases h
 case h_6 bop t' x y yt=>
  obtain⟨r,hr,hrd⟩:=bin_ok (P:=P) (ox:=x) (oy:=y) h hs (hop x (by simp[seen,Op.operands])) (hop y (by simp[seen,Op.operands]))
  exact⟨r,lift hr,hrd⟩
 case h_7 uop t' x=>
  obtain⟨r,hr,hrd⟩:=un_ok (P:=P) h hs (hop x (by simp[seen,Op.operands]))
  exact⟨r,lift hr,hrd⟩
 case h_8 src dst' x=>
  obtain⟨r,hr,hrd⟩:=conv_ok (P:=P) hH h hs (hop x (by simp[seen,Op.operands]))
  exact⟨r,lift hr,hrd⟩
 case h_9 t' x f=>
  cases hp:evFieldAddr P t' (opT s x) f with
  |none=>rw[hp] at h;cases h
  |some z=>
   rw[hp] at h;simp only[Option.map_some,Option.some.injEq,Prod.mk.injEq] at h;obtain⟨rfl,rfl⟩:=h;obtain⟨r,hr,hrd⟩:=fieldAddr_ok (P:=P) hp (hop x (by simp[seen,Op.operands]))
   exact⟨r,lift hr,hrd⟩
 case h_10 t' x f=>
  cases hp:evField P t' (opT s x) f with
  |none=>rw[hp] at h;cases h
  |some z=>
   rw[hp] at h;simp only[Option.map_some,Option.some.injEq,Prod.mk.injEq] at h;obtain⟨rfl,rfl⟩:=h;obtain⟨r,hr,hrd⟩:=field_ok (P:=P) hp (hop x (by simp[seen,Op.operands]))
   exact⟨r,lift hr,hrd⟩
 case h_11 t' x i=>
  obtain⟨r,hr,hrd⟩:=indexAddr_ok (P:=P) hH h hs (hop x (by simp[seen,Op.operands])) (hop i (by simp[seen,Op.operands]))
  exact⟨r,lift hr,hrd⟩
 case h_12 t' x i=>
  obtain⟨r,hr,hrd⟩:=index_ok (P:=P) h hs (hop x (by simp[seen,Op.operands])) (hop i (by simp[seen,Op.operands]))
  exact⟨r,lift hr,hrd⟩
 case h_13 x i=>
  cases hp:evExtract (opT s x) i with
  |none=>rw[hp] at h;cases h
  |some z=>
   rw[hp] at h;simp only[Option.map_some,Option.some.injEq,Prod.mk.injEq] at h;obtain⟨rfl,rfl⟩:=h;obtain⟨r,hr,hrd⟩:=extract_ok (P:=P) hp (hop x (by simp[seen,Op.operands]))
   exact⟨r,lift hr,hrd⟩
 case h_14 args argTypes=>
  split at h
  ·rename_i x t' ha hat;obtain rfl:args= #[x]:=Array.ext' (by simpa using ha)
   obtain rfl:argTypes= #[t']:=Array.ext' (by simpa using hat)
   cases hp:evLen P t' (opT s x) with
   |none=>rw[hp] at h;cases h
   |some n=>
    rw[hp] at h;simp only[Option.map_some,Option.some.injEq,Prod.mk.injEq] at h;obtain⟨rfl,rfl⟩:=h;have hn:=len_ok (P:=P) (ty:=ty) hp (hop x (by simp[seen,Op.operands,Call.operands]))
    refine⟨_,?_,.int _ _⟩
    simp[execOp,resolve,invoke,builtin,hn,Result.andThen]
  ·cases h
 case h_15 t' x lo hi=>
  obtain⟨r,hr,hrd⟩:=slice_ok (P:=P) (lv:=lo.map a.eval) (hv:=hi.map a.eval) hH h hs (hop x (by simp[seen,Op.operands]))
   (fun y hy=>by
    cases lo with
    |none=>cases hy
    |some z=>
     simp only[Option.map_some,Option.some.injEq] at hy;subst hy;exact⟨_,rfl,hop z (by simp[seen,Op.operands])⟩)
   (fun y hy=>by
    cases hi with
    |none=>cases hy
    |some z=>
     simp only[Option.map_some,Option.some.injEq] at hy;subst hy;exact⟨_,rfl,hop z (by simp[seen,Op.operands])⟩)
   (fun hn=>by cases lo with|none=>rfl|some z=>cases hn) (fun hn=>by cases hi with|none=>rfl|some z=>cases hn)
  exact⟨r,lift hr,hrd⟩
 case h_16 t' parts=>
  cases hp:evBuild P s t' parts with
  |none=>rw[hp] at h;cases h
  |some z=>
   rw[hp] at h;simp only[Option.map_some,Option.some.injEq,Prod.mk.injEq] at h;obtain⟨rfl,rfl⟩:=h;obtain⟨r,hr,hrd⟩:=build_ok (P:=P) hp (fun p hp=>hop p.2 (by simp only[seen,Op.operands,List.mem_map];exact⟨p,hp,rfl⟩))
   exact⟨r,lift hr,hrd⟩
 case h_17 fn first captured=>
  split at h
  ·rename_i hf;simp only[Option.some.injEq,Prod.mk.injEq] at h;obtain⟨rfl,rfl⟩:=h;obtain rfl:first= #[]:=Array.ext' (by simpa using hf)
   refine⟨_,lift (m:=Instr.makeFunc fn (#[].map a.eval) (captured.map a.eval)) rfl,?_⟩
   simp only[Array.map_empty];refine .fn _ _ _ (by simp) fun i t x ht hx=> ?_
   simp only[List.getElem?_map,Array.getElem?_map,Option.map_eq_some_iff,Array.getElem?_toList] at ht hx
   obtain⟨p,hp,rfl⟩:=ht;obtain⟨q,hq,rfl⟩:=hx;rw[hp] at hq;simp only[Option.some.injEq] at hq;subst hq;exact hop p (by simp only[seen,Op.operands,Array.toList_append,List.mem_append];exact .inr (by simpa using Array.mem_of_getElem? hp))
  ·cases h
 case h_18 t' m k=>
  obtain⟨r,hr,hrd⟩:=look_ok (P:=P) hH h hs (hop m (by simp[seen,Op.operands])) (hop k (by simp[seen,Op.operands]))
  exact⟨r,lift hr,hrd⟩
 case h_19 args argTypes=>
  split at h
  ·rename_i x y ha;obtain rfl:args= #[x,y]:=Array.ext' (by simpa using ha)
   have hx:=hop x (by simp[seen,Op.operands,Call.operands])
   have hy:=hop y (by simp[seen,Op.operands,Call.operands])
   unfold evMin at h;split at h
   ·rename_i k m hm;split at h
    ·rename_i k2 n hn;simp only[Option.some.injEq,Prod.mk.injEq] at h;obtain⟨rfl,rfl⟩:=h;unfold OpOk at hx hy;rw[hm] at hx;rw[hn] at hy;have ex:=rd_int hx;have ey:=rd_int hy;refine⟨_,?_,.int _ _⟩
     simp[execOp,resolve,invoke,builtin,Builtin.min_,Builtin.min2,ex,ey,Result.andThen,minI]
    ·cases h
   ·cases h
  ·cases h
 case h_20 args argTypes=>
  split at h
  ·rename_i x t ha ht;obtain rfl:args= #[x]:=Array.ext' (by simpa using ha)
   obtain rfl:argTypes= #[t]:=Array.ext' (by simpa using ht)
   have hx:=hop x (by simp[seen,Op.operands,Call.operands])
   unfold evCap at h;split at h
   ·rename_i e hu hv;simp only[Option.some.injEq,Prod.mk.injEq] at h;obtain⟨rfl,rfl⟩:=h;unfold OpOk at hx;rw[hv] at hx;have ex:=rd_v hx;refine⟨_,?_,.int _ _⟩
    simp[execOp,resolve,invoke,builtin,Builtin.cap_,ex,Result.andThen,run_underlying hu,goInt]
   ·cases h
  ·cases h
 case h_21 t' x=>
  unfold evIfc at h;split at h
  ·rename_i e k hu hx;simp only[Option.map_some,Option.some.injEq,Prod.mk.injEq] at h;obtain⟨rfl,rfl⟩:=h;have hx':=hop x (by simp[seen,Op.operands])
   unfold OpOk at hx';rw[hx] at hx';generalize hv:a.eval x=v at hx';cases hx' with
   |ref _ _ _ hL=>
    refine⟨.iface t' (.pointer (some ⟨E.β k,0*(E.z k).1+0,none⟩)),?_,by rw[Nat.zero_mul];exact .ifp t' k _ hL⟩
    have hr:(Instr.makeInterface t' (a.eval x)).run P w= .ok (.iface t' (a.eval x)) w:=by simp[Instr.makeInterface,run_underlying hu]
    rw[hv] at hr;simp only[execOp,hv];exact lift hr
  ·cases h
 case h_22 args argTypes=>
  split at h
  ·rename_i x y ha;obtain rfl:args= #[x,y]:=Array.ext' (by simpa using ha)
   have hx:=hop x (by simp[seen,Op.operands,Call.operands])
   have hy:=hop y (by simp[seen,Op.operands,Call.operands])
   unfold evMax at h;split at h
   ·rename_i k m hm;split at h
    ·rename_i k2 n hn;simp only[Option.some.injEq,Prod.mk.injEq] at h;obtain⟨rfl,rfl⟩:=h;unfold OpOk at hx hy;rw[hm] at hx;rw[hn] at hy;have ex:=rd_int hx;have ey:=rd_int hy;refine⟨_,?_,.int _ _⟩
     simp[execOp,resolve,invoke,builtin,Builtin.max_,Builtin.max2,ex,ey,Result.andThen,maxI]
    ·cases h
   ·cases h
  ·cases h
 case h_23=>cases h
end
end Go.SS
/- A calculus of symbolic states: operations that lay or write memory. -/
namespace Go.SS
open Go.RowKit

structure Ctx where
 w0:World
 X:Nat->Prop
 N0:Nat->Prop
 nt:Nat
 E0:Env
 m:Nat

structure Fr(w0:World)(X:Nat->Prop)(w:World):Prop where
 os:w.os=w0.os
 tape:w.tape=w0.tape
 output:w.output=w0.output
 size:w0.heap.size<=w.heap.size
 block:∀b,b<w0.heap.size->¬X b->w.heap[b]? =w0.heap[b]?
 dr:w0.drawn<=w.drawn

structure Keep(c:Ctx)(E:Env)(w:World):Prop where
 N:∀b,c.E0.N b->E.N b
 L:∀k,k<c.m->c.E0.L k->E.L k/\E.β k=c.E0.β k/\E.κ k=c.E0.κ k/\E.z k=c.E0.z k
 same:∀b,c.E0.N b->w.heap[b]? =c.w0.heap[b]?
 L2:∀k v,k<c.m->c.E0.L2 k v->E.L2 k v/\∀i j,E.b2 k v i j=c.E0.b2 k v i j/\E.c2 k v i j=c.E0.c2 k v i j

structure Inv(c:Ctx)(E:Env)(H:Heap)(w:World):Prop where
 heap:HeapOk E w H
 nlt:∀b,E.N b->b<w.heap.size
 nnew:∀b,E.N b->c.N0 b∨c.w0.heap.size<=b∨c.X b
 bnew:∀k ob b,getOb H k=some ob->Blk E k ob b->c.w0.heap.size<=b∨c.X b
 fr:Fr c.w0 c.X w
 keep:Keep c E w

structure Stp(E:Env)(w:World)(E':Env)(w':World):Prop where
 le:E.le E'
 same:∀b,E.N b->w'.heap[b]? =w.heap[b]?

structure Step(E:Env)(w:World)(E':Env)(w':World):Prop where
 le:E.le E'
 same:∀b,E.N b->w'.heap[b]? =w.heap[b]?
 nl:∀k,E'.L k->E.L k∨∀j,E.L j->j<k

theorem Step.stp{E E':Env}{w w':World}(h:Step E w E' w'):Stp E w E' w':=⟨h.le,h.same⟩
instance{E E':Env}{w w':World}:Coe (Step E w E' w') (Stp E w E' w'):=⟨Step.stp⟩
theorem Step.refl(E:Env)(w:World):Step E w E w:=⟨Env.le.refl E,fun _ _=>rfl,fun _ h=>.inl h⟩
theorem Step.trans{A B C:Env}{u v w:World}(h:Step A u B v)(k:Step B v C w):Step A u C w:=
 ⟨h.le.trans k.le,fun b hb=>(k.same b (h.le.N b hb)).trans (h.same b hb),fun i hi=>(k.nl i hi).elim (h.nl i) fun hj=>.inr fun j hj'=>hj j (h.le.L j hj')⟩
theorem Stp.rd{E E':Env}{w w':World}(h:Stp E w E' w'){t:T}{x:Value}(hx:Rd E w t x):Rd E' w' t x:=hx.mono h.le h.same
theorem Step.rd{E E':Env}{w w':World}(h:Step E w E' w'){t:T}{x:Value}(hx:Rd E w t x):Rd E' w' t x:=hx.mono h.le h.same

theorem Keep.step{c:Ctx}{E E':Env}{w w':World}(h:Keep c E w)(hs:Stp E w E' w'):Keep c E' w' where
 N:=fun b hb=>hs.le.N b (h.N b hb)
 L:=fun k hk hL=>by
  obtain⟨h1,h2,h3,h4⟩:=h.L k hk hL;exact⟨hs.le.L k h1,(hs.le.β k h1).trans h2,(hs.le.κ k h1).trans h3,(hs.le.z k h1).trans h4⟩
 same:=fun b hb=>(hs.same b (h.N b hb)).trans (h.same b hb)
 L2:=fun k v hk hL=>by
  obtain⟨h1,h2⟩:=h.L2 k v hk hL;exact⟨hs.le.L2 k v h1,fun i j=>⟨(hs.le.b2 k v i j h1).trans (h2 i j).1,(hs.le.c2 k v i j h1).trans (h2 i j).2⟩⟩

theorem Fr.heap{w0 w w':World}{X:Nat->Prop}(h:Fr w0 X w)(ho:w'.os=w.os)(ht:w'.tape=w.tape)(hp:w'.output=w.output)(hs:w.heap.size<=w'.heap.size)
  (hb:∀b,b<w0.heap.size->¬X b->w'.heap[b]? =w.heap[b]?) (hd:w.drawn<=w'.drawn:=by first|assumption|exact Nat.le_refl _|exact Nat.le_succ _):Fr w0 X w':=
 ⟨ho.trans h.os,ht.trans h.tape,hp.trans h.output,Nat.le_trans h.size hs,fun b h1 h2=>(hb b h1 h2).trans (h.block b h1 h2),Nat.le_trans h.dr hd⟩

def Env.push(E:Env)(k b κ z:Nat):Env where
 N:=E.N
 L:=fun i=>E.L i∨i=k
 β:=fun i=>if i=k then b else E.β i
 κ:=fun i=>if i=k then κ else E.κ i
 z:=fun i=>if i=k then(z,[]) else E.z i
 L2:=E.L2
 b2:=E.b2
 c2:=E.c2

theorem Env.push_le{E:Env}{k b κ z:Nat}(h:¬E.L k):E.le (E.push k b κ z):=
 ⟨fun _ h=>h,fun _ h=>.inl h,fun i hi=>if_neg (by rintro rfl;exact h hi),fun i hi=>if_neg (by rintro rfl;exact h hi),fun i hi=>if_neg (by rintro rfl;exact h hi),fun _ _ h=>h,fun _ _ _ _ _=>rfl,fun _ _ _ _ _=>rfl⟩

theorem getOb_append{H:Heap}{x:Option Ob}{k:Nat}:getOb (H++[x]) k=if k<H.length then getOb H k else if k=H.length then x else none:=by
 unfold getOb;rw[List.getElem?_append]
 split
 ·rfl
 ·split
  ·rename_i h;subst h;simp
  ·rename_i h1 h2;rw[List.getElem?_eq_none (by simp;omega)]
   rfl

theorem getOb_lt{H:Heap}{k:Nat}{ob:Ob}(h:getOb H k=some ob):k<H.length:=by
 rcases Nat.lt_or_ge k H.length with h'|h'
 ·exact h'
 ·unfold getOb at h;rw[List.getElem?_eq_none h'] at h
  cases h

theorem getOb_set{H:Heap}{x:Option Ob}{i k:Nat}(hi:i<H.length):getOb (H.set i x) k=if k=i then x else getOb H k:=by
 unfold getOb;rw[List.getElem?_set]
 split
 ·rename_i h;subst h;simp
 ·rename_i h;rw[if_neg (fun e=>h e.symm)]

section
variable {c:Ctx} {E:Env} {H:Heap} {w w':World} {P:Program}

theorem ArrOk.mono{E':Env}{k k':Nat}{A:Arr}(h:ArrOk E w k A)(hs:∀t x,Rd E w t x->Rd E' w' t x)(hb:E'.β k'=E.β k)(hκ:E'.κ k'=E.κ k)(hz:E'.z k'=E.z k)(hw:E.κ k≠0->w'.heap[E.β k]? =w.heap[E.β k]?):ArrOk E' w' k' A:=by
 obtain⟨h1,h2,h3,h3',h4,cs,ty,h5,h6,h7⟩:=h;refine⟨by rw[hz];exact h1,by rw[hκ];exact h2,h3,h3',h4,cs,ty,fun h=>by rw[hκ] at h;rw[hb,hw h];exact h5 h,by rw[hκ,hz];exact h6,fun i j t hi hj=> ?_⟩
 obtain⟨u,hu,hr⟩:=h7 i j t hi hj;exact⟨u,hu,hs t u hr⟩

theorem ArrOk.closedN{E':Env}{k k':Nat}{A:Arr}(h:ArrOk E w k A)(hA:A.cl=true)(hN:∀b,E.N b->E'.N b)(hs:∀b,E.N b->w'.heap[b]? =w.heap[b]?)(hb:E'.β k'=E.β k)(hκ:E'.κ k'=E.κ k)(hz:(E'.z k').1=A.sz)(hz2:∀cs n,Siz cs n (E.z k).2->Siz cs n (E'.z k').2)(hw:E.κ k≠0->w'.heap[E.β k]? =w.heap[E.β k]?):ArrOk E' w' k' A:=by
 obtain⟨h1,h2,h3,h3',h4,cs,ty,h5,h6,h7⟩:=h;refine⟨hz,by rw[hκ];exact h2,h3,h3',h4,cs,ty,fun h=>by rw[hκ] at h;rw[hb,hw h];exact h5 h,by rw[hκ];exact hz2 _ _ h6,fun i j t hi hj=> ?_⟩
 obtain⟨u,hu,hr⟩:=h7 i j t hi hj;exact⟨u,hu,rd_closed0 (E:=E) (E':=E') hN (hr.mono (E:=E) (E':=E) (Env.le.refl E) hs) (h4 hA i t hi (List.mem_of_getElem? hj))⟩
theorem ArrOk.closed{E':Env}{k k':Nat}{A:Arr}(h:ArrOk E w k A)(hA:A.cl=true)(hN:∀b,E.N b->E'.N b)(hs:∀b,E.N b->w'.heap[b]? =w.heap[b]?)(hb:E'.β k'=E.β k)(hκ:E'.κ k'=E.κ k)(hz:E'.z k'=E.z k)(hw:E.κ k≠0->w'.heap[E.β k]? =w.heap[E.β k]?):ArrOk E' w' k' A:=
 h.closedN hA hN hs hb hκ (by rw[hz];exact h.1) (fun _ _ h=>by rw[hz];exact h) hw

theorem FamOk.mono{E':Env}{k v:Nat}{ty:TypeId}{sz n:Nat}{row:Nat->List T}(h:FamOk E w k v ty sz n row)(hL:E.L k)(hs:Stp E w E' w')(hw:∀b,Blk E k (.fam v ty sz n row) b->w'.heap[b]? =w.heap[b]?):FamOk E' w' k v ty sz n row:=by
 have h2:=h.l2;refine⟨hs.le.L2 k v h2,h.arr.mono (fun t x=>hs.rd) (hs.le.β k hL) (hs.le.κ k hL) (hs.le.z k hL) (fun hκ=>hw _ (.inl ⟨hκ,rfl⟩)),h.fam,fun i j oty osz on orow hi hj=> ?_,fun i j i' j' oty osz on orow oty' osz' on' orow' hi hi' hj hj' hc hc' he=> ?_⟩
 ·obtain⟨h3,h4⟩:=h.own i j oty osz on orow hi hj;refine⟨h3.closed rfl hs.le.N hs.same (hs.le.b2 k v i j h2) (hs.le.c2 k v i j h2) rfl (fun hc=>hw _ (.inr ⟨v,ty,sz,n,row,i,j,oty,osz,on,orow,rfl,hi,hj,hc,rfl⟩)),?_⟩
  rw[hs.le.b2 k v i j h2,hs.le.c2 k v i j h2,hs.le.κ k hL,hs.le.β k hL];exact h4
 ·rw[hs.le.c2 k v _ _ h2] at hc hc';rw[hs.le.b2 k v _ _ h2,hs.le.b2 k v _ _ h2] at he;exact h.inj i j i' j' oty osz on orow oty' osz' on' orow' hi hi' hj hj' hc hc' he

theorem ObOk.mono{E':Env}{k:Nat}{ob:Ob}(h:ObOk E w k ob)(hL:E.L k)(hs:Stp E w E' w')(hw:∀b,Blk E k ob b->w'.heap[b]? =w.heap[b]?):ObOk E' w' k ob:=by
 cases ob with
 |mp bo get=>
  obtain⟨hκ,es,clock,h1,h2⟩:=h;exact⟨by rw[hs.le.κ k hL];exact hκ,es,clock,by rw[hs.le.β k hL,hw _ (.inl ⟨hκ,rfl⟩)];exact h1,h2⟩
 |mp2 get=>
  obtain⟨hκ,es,clock,h1,h2⟩:=h;exact⟨by rw[hs.le.κ k hL];exact hκ,es,clock,by rw[hs.le.β k hL,hw _ (.inl ⟨hκ,rfl⟩)];exact h1,h2⟩
 |fam=>exact FamOk.mono h hL hs hw
 |arr=>exact ArrOk.mono h (fun t x=>hs.rd) (hs.le.β k hL) (hs.le.κ k hL) (hs.le.z k hL) (fun hκ=>hw _ (.inl ⟨hκ,rfl⟩))
 |bys=>exact ArrOk.mono h (fun t x=>hs.rd) (hs.le.β k hL) (hs.le.κ k hL) (hs.le.z k hL) (fun hκ=>hw _ (.inl ⟨hκ,rfl⟩))

theorem Blk.back{E':Env}{k:Nat}{ob:Ob}{b:Nat}(h:Blk E' k ob b)(ho:ObOk E w k ob)(hL:E.L k)(hle:E.le E'):Blk E k ob b:=by
 rcases h with⟨hκ,rfl⟩|⟨v,ty,sz,n,row,i,j,oty,osz,on,orow,rfl,hi,hj,hc,rfl⟩
 ·rw[hle.κ k hL] at hκ;exact .inl ⟨hκ,hle.β k hL⟩
 ·have h2:=FamOk.l2 ho;rw[hle.c2 k v i j h2] at hc;exact .inr ⟨v,ty,sz,n,row,i,j,oty,osz,on,orow,rfl,hi,hj,hc,hle.b2 k v i j h2⟩

theorem ArrOk.ob{k:Nat}{ob:Ob}(h:ArrOk E w k ob.toArr)(hi:ob.isArr=true):ObOk E w k ob:=by
 cases ob<;>first|exact h|cases hi

theorem Inv.pushO(h:Inv c E H w)(ho:w'.os=w.os)(ht:w'.tape=w.tape)(hp:w'.output=w.output)(hsz:w.heap.size<=w'.heap.size)(hw:∀b,b<w.heap.size->w'.heap[b]? =w.heap[b]?)
  (ob:Ob) (b κ:Nat) (hnf:∀v ty sz n row,ob≠ .fam v ty sz n row) (hb:κ≠0->w.heap.size<=b) (hnew:Step E w (E.push H.length b κ ob.toArr.sz) w'->ObOk (E.push H.length b κ ob.toArr.sz) w' H.length ob) (hd:w.drawn<=w'.drawn:=by first|assumption|exact Nat.le_refl _|exact Nat.le_succ _):
  Inv c (E.push H.length b κ ob.toArr.sz) (H++[some ob]) w'/\Step E w (E.push H.length b κ ob.toArr.sz) w':=by
 have hnL:¬E.L H.length:=fun hL=>by have:=h.heap.lt _ hL;omega
 have hle:E.le (E.push H.length b κ ob.toArr.sz):=Env.push_le hnL;have hstep:Step E w (E.push H.length b κ ob.toArr.sz) w':=⟨hle,fun b hb=>hw b (h.nlt b hb),fun i hi=>hi.elim .inl fun e=>.inr fun j hj=>e▸h.heap.lt j hj⟩
 have hbk:(E.push H.length b κ ob.toArr.sz).β H.length=b:=if_pos rfl;have hκk:(E.push H.length b κ ob.toArr.sz).κ H.length=κ:=if_pos rfl;have hold:∀k ob' x,getOb H k=some ob'->Blk (E.push H.length b κ ob.toArr.sz) k ob' x->Blk E k ob' x/\x<w.heap.size:=fun k ob' x hk hx=>by
  obtain⟨e1,e2,e3⟩:=h.heap.live k ob' hk;have:=hx.back e2 e1 hle;exact⟨this,h.heap.blt hk this⟩
 have hnewB:∀x,Blk (E.push H.length b κ ob.toArr.sz) H.length ob x->w.heap.size<=x:=fun x hx=>by
  rcases hx with⟨h1,rfl⟩|h1
  ·rw[hκk] at h1;rw[hbk];exact hb h1
  ·exact(h1.not hnf).elim
 have key:∀k ob',getOb (H++[some ob]) k=some ob'->getOb H k=some ob'∨(k=H.length/\ob'=ob):=fun k ob' hk=>by
  rw[getOb_append] at hk;split at hk
  ·exact .inl hk
  ·split at hk
   ·rename_i he;simp only[Option.some.injEq] at hk;exact .inr ⟨he,hk.symm⟩
   ·cases hk
 refine⟨⟨⟨fun k ob' hk=> ?_,fun k k' o o' x hk hk' hx hx'=> ?_,fun k hk=> ?_,fun k v hk=>.inl (h.heap.l2 k v hk),fun k ob' v hk hL2=> ?_⟩,fun b hb=>by have:=h.nlt b hb;omega,h.nnew,fun k ob' x hk hx=> ?_,h.fr.heap ho ht hp hsz (fun b h1 h2=>hw b (by have:=h.fr.size;omega)),h.keep.step hstep⟩,hstep⟩
 ·rcases key k ob' hk with hk|⟨rfl,rfl⟩
  ·obtain⟨e1,e2,e3⟩:=h.heap.live k ob' hk;exact⟨.inl e1,e2.mono e1 hstep (fun x hx=>hw x (h.heap.blt hk hx)),fun x hx=>e3 x (hold k ob' x hk hx).1⟩
  ·exact⟨.inr rfl,hnew hstep,fun x hx hN=>by have:=h.nlt x hN;have:=hnewB x hx;omega⟩
 ·rcases key k o hk with hk|⟨rfl,rfl⟩
  ·obtain⟨a1,a2⟩:=hold k o x hk hx;rcases key k' o' hk' with hk'|⟨rfl,rfl⟩
   ·exact h.heap.inj k k' o o' x hk hk' a1 (hold k' o' x hk' hx').1
   ·have:=hnewB x hx';omega
  ·rcases key k' o' hk' with hk'|⟨rfl,rfl⟩
   ·obtain⟨a1,a2⟩:=hold k' o' x hk' hx';have:=hnewB x hx;omega
   ·rfl
 ·rcases hk with hk|hk
  ·have:=h.heap.lt k hk;simp;omega
  ·simp;omega
 ·rcases key k ob' hk with hk|⟨rfl,rfl⟩
  ·exact h.heap.cur k ob' v hk hL2
  ·exact absurd (h.heap.l2 _ v hL2) hnL
 ·rcases key k ob' hk with hk|⟨rfl,rfl⟩
  ·exact h.bnew k ob' x hk (hold k ob' x hk hx).1
  ·have:=h.fr.size;have:=hnewB x hx;exact .inl (by omega)

theorem Inv.push(h:Inv c E H w)(ho:w'.os=w.os)(ht:w'.tape=w.tape)(hp:w'.output=w.output)(hsz:w.heap.size<=w'.heap.size)(hw:∀b,b<w.heap.size->w'.heap[b]? =w.heap[b]?)
  (ob:Ob) (b κ:Nat) (cs:Array Value) (ty:TypeId) (hb:κ≠0->w.heap.size<=b) (hblk:κ≠0->w'.heap[b]? =some (.cells cs ty (0,0))) (hcs:cs.size=κ*ob.toArr.sz) (hn:ob.toArr.n<=κ)
  (hl:∀i,i<ob.toArr.n->(ob.toArr.row i).length=ob.toArr.sz) (h1:∀i t,i<ob.toArr.n->t ∈ ob.toArr.row i->oneT t=true) (hcl:ob.toArr.cl=true->∀i t,i<ob.toArr.n->t ∈ ob.toArr.row i->closedT t=true)
  (hr:∀i j t,i<ob.toArr.n->(ob.toArr.row i)[j]? =some t->∃u,cs[i*ob.toArr.sz+j]? =some u/\Rd E w t u) (hia:ob.isArr=true:=by rfl) (hd:w.drawn<=w'.drawn:=by first|assumption|exact Nat.le_refl _|exact Nat.le_succ _):
  Inv c (E.push H.length b κ ob.toArr.sz) (H++[some ob]) w'/\Step E w (E.push H.length b κ ob.toArr.sz) w':=by
 have hbk:(E.push H.length b κ ob.toArr.sz).β H.length=b:=if_pos rfl;have hκk:(E.push H.length b κ ob.toArr.sz).κ H.length=κ:=if_pos rfl;have hzk:(E.push H.length b κ ob.toArr.sz).z H.length=(ob.toArr.sz,[]):=if_pos rfl;refine h.pushO ho ht hp hsz hw ob b κ (by rintro v ty sz n row rfl;cases hia) hb fun hstep=>ArrOk.ob ⟨by rw[hzk],by rw[hκk];exact hn,hl,h1,hcl,cs,ty,by rw[hbk,hκk];exact hblk,
     by rw[hκk,hzk];exact siz0 (Nat.le_of_eq hcs.symm),fun i j t hi hj=> ?_⟩ hia
 obtain⟨u,hu,hrd⟩:=hr i j t hi hj;exact⟨u,hu,hstep.rd hrd⟩

theorem Inv.to(h:Inv c E H w){E':Env}{H':Heap}(ho:w'.os=w.os)(ht:w'.tape=w.tape)(hp:w'.output=w.output)(hsz:w.heap.size<=w'.heap.size)(hstep:Stp E w E' w')(k:Nat)(Gv:Nat->Prop)
  (hN':∀b,E'.N b->E.N b) (hold:∀i o,getOb H' i=some o->i≠k->getOb H i=some o/\¬Gv i)
  (hnew:∀o,getOb H' k=some o->E'.L k/\ObOk E' w' k o/\∀b,Blk E' k o b->w.heap.size<=b∨∃m o',Gv m/\getOb H m=some o'/\Blk E m o' b)
  (hw:∀b,b<w.heap.size->(∀m o,Gv m->getOb H m=some o->¬Blk E m o b)->w'.heap[b]? =w.heap[b]?)
  (lt:∀i,E'.L i->i<H'.length) (l2:∀i v,E'.L2 i v->E'.L i) (cur:∀o i v,getOb H' i=some o->E'.L2 i v->∃v0 ty sz n row,o= .fam v0 ty sz n row/\v<=v0) (hd:w.drawn<=w'.drawn:=by first|assumption|exact Nat.le_refl _|exact Nat.le_succ _):
  Inv c E' H' w':=by
 have hlive:=h.heap.live;have ob:∀i o b,getOb H' i=some o->i≠k->Blk E' i o b->getOb H i=some o/\¬Gv i/\Blk E i o b:=fun i o b hi hne hb=>by
  obtain⟨h1,h2⟩:=hold i o hi hne;obtain⟨e1,e2,_⟩:=hlive i o h1;exact⟨h1,h2,hb.back e2 e1 hstep.le⟩
 refine⟨⟨fun i o hi=> ?_,fun i i' o o' b hi hi' hb hb'=> ?_,lt,l2,fun i o v hi hv=>cur o i v hi hv⟩,fun b hb=>by have:=h.nlt b (hN' b hb);omega,fun b hb=>h.nnew b (hN' b hb),fun i o b hi hb=> ?_,
  h.fr.heap ho ht hp hsz (fun b h1 h2=>hw b (by have:=h.fr.size;omega) (fun m o hm hmo hb=> ?_)),h.keep.step hstep⟩
 ·by_cases hik:i=k
  ·subst hik;obtain⟨n1,n2,n3⟩:=hnew o hi;refine⟨n1,n2,fun b hb hN=> ?_⟩
   rcases n3 b hb with h3|⟨m,o',hm,hmo,hmb⟩
   ·have:=h.nlt b (hN' b hN);omega
   ·exact(hlive m o' hmo).2.2 b hmb (hN' b hN)
  ·obtain⟨h1,h2⟩:=hold i o hi hik;obtain⟨e1,e2,e3⟩:=hlive i o h1;refine⟨hstep.le.L i e1,e2.mono e1 hstep (fun b hb=>hw b (e2.blt hb) fun m o' hm hmo hmb=> ?_),fun b hb hN=>e3 b (ob i o b hi hik hb).2.2 (hN' b hN)⟩
   have:=h.heap.inj i m o o' b h1 hmo hb hmb;exact h2 (this▸hm)
 ·by_cases hik:i=k
  ·by_cases hik':i'=k
   ·rw[hik,hik']
   ·subst hik;obtain⟨q1,q2,q3⟩:=ob i' o' b hi' hik' hb';rcases(hnew o hi).2.2 b hb with h3|⟨m,o2,hm,hmo,hmb⟩
    ·have:=h.heap.blt q1 q3;omega
    ·have:=h.heap.inj i' m o' o2 b q1 hmo q3 hmb;exact absurd (this▸hm) q2
  ·obtain⟨q1,q2,q3⟩:=ob i o b hi hik hb;by_cases hik':i'=k
   ·subst hik';rcases(hnew o' hi').2.2 b hb' with h3|⟨m,o2,hm,hmo,hmb⟩
    ·have:=h.heap.blt q1 q3;omega
    ·have:=h.heap.inj i m o o2 b q1 hmo q3 hmb;exact absurd (this▸hm) q2
   ·obtain⟨p1,p2,p3⟩:=ob i' o' b hi' hik' hb';exact h.heap.inj i i' o o' b q1 p1 q3 p3
 ·by_cases hik:i=k
  ·subst hik;rcases(hnew o hi).2.2 b hb with h3|⟨m,o2,hm,hmo,hmb⟩
   ·have:=h.fr.size;exact .inl (by omega)
   ·exact h.bnew m o2 b hmo hmb
  ·obtain⟨q1,q2,q3⟩:=ob i o b hi hik hb;exact h.bnew i o b q1 q3
 ·rcases h.bnew m o b hmo hb with h3|h3
  ·omega
  ·exact h2 h3

theorem alloc_facts(w:World)(o:Obj):(w.alloc o).os=w.os/\(w.alloc o).tape=w.tape/\(w.alloc o).output=w.output/\(∀b,b<w.heap.size->(w.alloc o).heap[b]? =w.heap[b]?)/\(w.alloc o).heap[w.heap.size]? =some o:=
 ⟨rfl,rfl,rfl,fun _ hb=>heap_alloc_old w o hb,heap_alloc_new w o⟩

theorem makeMap_ok(h:Inv c E H w){t:TypeId}{y:T}{H':Heap}(he:evMakeMap P H t=some (y,H')):
  ∃r w' E',(Instr.makeMap t none).run P w= .ok r w'/\Rd E' w' y r/\Inv c E' H' w'/\Step E w E' w':=by
 have main:∀bo,∃r w' E',(Instr.makeMap t none).run P w= .ok r w'/\Rd E' w' (.mpr H.length) r/\Inv c E' (H++[some (.mp bo fun _=>0)]) w'/\Step E w E' w':=by
  intro bo;obtain⟨a1,a2,a3,a4,a5⟩:=alloc_facts w (.map #[] 0);have:=h.pushO (w':=w.alloc (.map #[] 0)) a1 a2 a3 (by simp) a4 (.mp bo fun _=>0) w.heap.size 1 (by rintro v ty sz n row he;cases he) (fun _=>Nat.le_refl _) (fun _=>⟨by rw[show(E.push H.length w.heap.size 1 (Ob.mp bo fun _=>0).toArr.sz).κ H.length=1 from if_pos rfl];simp, #[],0,by rw[show(E.push H.length w.heap.size 1 (Ob.mp bo fun _=>0).toArr.sz).β H.length=w.heap.size from if_pos rfl];exact a5,by simp,fun n=>rfl⟩)
  refine⟨_,_,_,rfl,?_,this.1,this.2⟩
  have hr:=Rd.mpr (E:=E.push H.length w.heap.size 1 (Ob.mp bo fun _=>0).toArr.sz) (w:=w.alloc (.map #[] 0)) H.length (.inr rfl)
  rw[show(E.push H.length w.heap.size 1 (Ob.mp bo fun _=>0).toArr.sz).β H.length=w.heap.size from if_pos rfl] at hr
  exact hr
 have main2:∃r w' E',(Instr.makeMap t none).run P w= .ok r w'/\Rd E' w' (.mpr H.length) r/\Inv c E' (H++[some (.mp2 fun _ _=>false)]) w'/\Step E w E' w':=by
  obtain⟨a1,a2,a3,a4,a5⟩:=alloc_facts w (.map #[] 0);have:=h.pushO (w':=w.alloc (.map #[] 0)) a1 a2 a3 (by simp) a4 (.mp2 fun _ _=>false) w.heap.size 1 (by rintro v ty sz n row he;cases he) (fun _=>Nat.le_refl _) (fun _=>⟨by rw[show(E.push H.length w.heap.size 1 (Ob.mp2 fun _ _=>false).toArr.sz).κ H.length=1 from if_pos rfl];simp, #[],0,by rw[show(E.push H.length w.heap.size 1 (Ob.mp2 fun _ _=>false).toArr.sz).β H.length=w.heap.size from if_pos rfl];exact a5,by simp,fun a b hh=>by(cases hh),by simp⟩)
  refine⟨_,_,_,rfl,?_,this.1,this.2⟩
  have hr:=Rd.mpr (E:=E.push H.length w.heap.size 1 (Ob.mp2 fun _ _=>false).toArr.sz) (w:=w.alloc (.map #[] 0)) H.length (.inr rfl)
  rw[show(E.push H.length w.heap.size 1 (Ob.mp2 fun _ _=>false).toArr.sz).β H.length=w.heap.size from if_pos rfl] at hr
  exact hr
 unfold evMakeMap at he;split at he
 ·simp only[Option.some.injEq,Prod.mk.injEq] at he;obtain⟨rfl,rfl⟩:=he;exact main true
 ·simp only[Option.some.injEq,Prod.mk.injEq] at he;obtain⟨rfl,rfl⟩:=he;exact main false
 ·split at he
  ·simp only[Option.some.injEq,Prod.mk.injEq] at he;obtain⟨rfl,rfl⟩:=he;exact main2
  ·cases he

theorem box_ok(h:Inv c E H w){t:TypeId}{cs:List T}{y:T}{H':Heap}{side:Option Prop}(he:evBox P H t cs=some (y,H',side)){vs:Array Value}(hv:RdL E w cs vs):
  ∃E',Inv c E' H' (w.alloc (.cells vs t))/\Step E w E' (w.alloc (.cells vs t))/\Rd E' (w.alloc (.cells vs t)) y (.pointer (some ⟨w.heap.size,0,none⟩)):=by
 unfold evBox at he;split at he
 ·rename_i hone;simp only[Option.some.injEq,Prod.mk.injEq] at he;obtain⟨rfl,rfl,rfl⟩:=he;obtain⟨a1,a2,a3,a4,a5⟩:=alloc_facts w (.cells vs t);have:=h.push a1 a2 a3 (by simp) a4 (.arr (cs.all closedT) 1000000 cs.length 1 fun _=>cs) w.heap.size 1 vs t (fun _=>Nat.le_refl _) (fun _=>a5) (by simp only[Ob.toArr,Nat.one_mul];exact hv.1.symm) (Nat.le_refl 1) (fun _ _=>rfl) (fun i t _ ht=>List.all_eq_true.1 hone t ht)
   (fun hcl i t hi ht=>List.all_eq_true.1 hcl t ht) (fun i j t hi hj=>by
    obtain rfl:i=0:=by simp only[Ob.toArr] at hi;omega
    have hj':j<cs.length:=(List.getElem?_eq_some_iff.1 hj).1
    have hvj:vs[j]? =some (vs[j]'(by have:=hv.1;omega)):=Array.getElem?_eq_getElem _
    exact⟨_,by rw[Nat.zero_mul,Nat.zero_add];exact hvj,hv.2 _ _ _ hj hvj⟩)
  refine⟨_,this.1,this.2,?_⟩
  have hr:=Rd.ref (E:=E.push H.length w.heap.size 1 cs.length) (w:=w.alloc (.cells vs t)) H.length 0 0 (.inr rfl);have hb:(E.push H.length w.heap.size 1 cs.length).β H.length=w.heap.size:=if_pos rfl;rw[hb,Nat.zero_mul,Nat.zero_add] at hr;exact hr
 ·cases he

theorem al_at(h:Inv c E H w){t:TypeId}{r:Nat}{z:List T}{vs:Array Value}(hr:r<H.length)(hL:¬E.L r)(hone:z.all oneT=true)(hv:RdL E w z vs):
  ∃E',Inv c E' (H.set r (some (.arr (z.all closedT) 1000000 z.length 1 fun _=>z))) (w.alloc (.cells vs t))/\Stp E w E' (w.alloc (.cells vs t))/\Rd E' (w.alloc (.cells vs t)) (.ref r 0 0) (.pointer (some ⟨w.heap.size,0,none⟩))/\∀k,E'.L k->E.L k∨k=r:=by
 obtain⟨a1,a2,a3,a4,a5⟩:=alloc_facts w (.cells vs t);let E':=E.push r w.heap.size 1 z.length
 have hst:Stp E w E' (w.alloc (.cells vs t)):=⟨Env.push_le hL,fun b hb=>a4 b (h.nlt b hb)⟩
 have hb:E'.β r=w.heap.size:=if_pos rfl;have hκ:E'.κ r=1:=if_pos rfl;have hz:E'.z r=(z.length,[]):=if_pos rfl;refine⟨E',h.to a1 a2 a3 (by simp) hst r (fun _=>False) (fun _ h=>h) (fun i o hi hne=> ?_) (fun o hi=> ?_) (fun b hb _=>a4 b hb) (fun i hi=> ?_) (fun i v hv=>.inl (h.heap.l2 i v hv)) (fun o i v hi hv=> ?_),hst,?_,fun _ h=>h⟩
 ·rw[getOb_set hr,if_neg hne] at hi;exact⟨hi,fun h=>h⟩
 ·rw[getOb_set hr,if_pos rfl] at hi;simp only[Option.some.injEq] at hi;subst hi;refine⟨.inr rfl,ArrOk.ob ⟨by rw[hz];rfl,by rw[hκ];exact Nat.le_refl 1,fun _ _=>rfl,fun i t _ ht=>List.all_eq_true.1 hone t ht,fun hcl i t hi ht=>List.all_eq_true.1 hcl t ht,vs,t,by rw[hb];exact fun _=>a5,by rw[hκ,hz];simp only[Ob.toArr,Nat.one_mul];exact siz0 (Nat.le_of_eq hv.1),fun i j u hi hj=> ?_⟩ rfl,fun b hb'=> ?_⟩
  ·obtain rfl:i=0:=by simp only[Ob.toArr] at hi;omega
   have hj':j<z.length:=(List.getElem?_eq_some_iff.1 hj).1
   have hvj:vs[j]? =some (vs[j]'(by have:=hv.1;omega)):=Array.getElem?_eq_getElem _
   exact⟨_,by rw[Nat.zero_mul,Nat.zero_add];exact hvj,hst.rd (hv.2 _ _ _ hj hvj)⟩
  ·rcases hb' with⟨_,rfl⟩|hb'
   ·rw[hb];exact .inl (Nat.le_refl _)
   ·exact(hb'.not (by rintro v ty sz n row he;cases he)).elim
 ·rw[List.length_set];rcases hi with hi|rfl
  ·exact h.heap.lt i hi
  ·exact hr
 ·rw[getOb_set hr] at hi;split at hi
  ·rename_i he;subst he;exact absurd (h.heap.l2 _ v hv) hL
  ·exact h.heap.cur i o v hi hv
 ·have hr':=Rd.ref (E:=E') (w:=w.alloc (.cells vs t)) r 0 0 (.inr rfl);rw[hb,Nat.zero_mul,Nat.zero_add] at hr';exact hr'

end
end Go.SS
