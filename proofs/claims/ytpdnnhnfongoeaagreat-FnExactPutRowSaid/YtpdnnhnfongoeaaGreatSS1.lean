/- A calculus of symbolic states over the model: definitions. What slots and cells hold is said as trees of data; a piece of code becomes a plain proposition. -/
import Derived.WalkKit
import Derived.WalkSpells
import Derived.WalkLawsBesides
import Derived.Lib.Strings
import Derived.Laws.BytesArg
import Derived.Deep.AppendSrc
namespace Go.SS
open Go.RowKit
abbrev Bz:Type:=List UInt8
abbrev X0:=@Option.some.injEq
abbrev P4:=@List.getD_eq_getElem?_getD
abbrev U9:=@Nat.le_refl
abbrev U4:=@Prod.mk.injEq
abbrev I1:=@List.getElem?_eq_getElem
abbrev F1:=@Option.map_eq_some_iff
abbrev F5:=@Nat.eq_of_beq_eq_true
abbrev J5:=@Bool.and_eq_true
abbrev F9:=@List.length_append
abbrev G7:=@of_decide_eq_true
abbrev u6:=@List.getElem?_eq_some_iff
abbrev E3:=@Int.toNat_natCast
abbrev D6:=@Result.andThen_ok
abbrev N4:=@Nat.zero_le
abbrev y4:=@List.mem_of_getElem?
abbrev D2:=@Nat.not_lt_zero
abbrev r9:=@of_decide_eq_false
abbrev o8:=@decide_eq_true_eq
abbrev D4:=@Nat.zero_add
abbrev yH:=@Nat.le_of_ble_eq_true
abbrev D1:=@Sem.run_bind
abbrev tB:=@Array.getElem?_eq_getElem
abbrev uH:=@decide_eq_false_iff_not
abbrev z5:=@Sem.run_pure
abbrev wS:=@Bool.or_eq_false_iff
abbrev rL:=@List.getElem?_append_left
abbrev xY:=@Nat.lt_of_lt_of_le
abbrev b9:=@List.all_eq_true
abbrev qA:=@List.getElem?_append_right
abbrev wU:=@Bool.not_eq_false'
abbrev h9:=@Option.map_some
abbrev zW:=@List.length_set
abbrev vZ:=@Bool.not_eq_true'
abbrev tQ:=@decide_eq_false
abbrev vN:=@List.mem_cons
abbrev kJ:=@Nat.mul_le_mul_right
abbrev oE:=@List.getElem?_map
abbrev aC:=@Array.getElem?_eq_some_iff
abbrev nT:=@Bool.or_eq_true
abbrev mO:=@decide_eq_true
abbrev j_l:=@List.take_length
abbrev j_k:=@List.getElem?_set_ne
abbrev j_j:=@List.getElem?_set_self
abbrev j_i:=@List.not_mem_nil
abbrev j_h:=@Nat.sub_self
abbrev j_g:=@List.length_range
def C7{p:Prop}(h:p:=by simp;omega):p:=h
def Z9{p:Prop}(h:p:=by omega):p:=h
def W7{p:Prop}(h:p:=by simp):p:=h
def a9v{p:Prop}(h:p:=by simpa using hl):p:=h
def sT{p:Prop}(h:p:=by simpa using ha):p:=h
def a0K{p:Prop}(h:p:=by simpa using hat):p:=h
def a4N{p:Prop}(h:p:=by simpa using hf):p:=h
def b9t{p:Prop}(h:p:=by rintro rfl;exact h hi):p:=h
def b0E{p:Prop}(h:p:=by have:=h.fr.size;omega):p:=h
def x5{p:Prop}(h:p:=by simpa using h):p:=h
def F3{p:Prop}(h:p:=by cases h):p:=h
def a0g{p:Prop}(h:p:=by simpa using hv):p:=h
def a0r{p:Prop}(h:p:=by rw[Nat.add_mul];omega):p:=h
def L4{p:Prop}(h:p:=by simp at h):p:=h
def M0{p:Prop}(h:p:=by simp only;omega):p:=h
def b8y{p:Prop}(h:p:=by cases hd with|emp a=>exact⟨a,rfl⟩):p:=h
def pV{p:Prop}(h:p:=by rintro _ _ _ _ _ h;cases h):p:=h
def b1d{p:Prop}(h:p:=by simpa using hi):p:=h
def a4J{p:Prop}(h:p:=by simpa using Y):p:=h
def eF{p:Prop}(h:p:=by simpa using X):p:=h
def lQ{p:Prop}(h:p:=by cases Q):p:=h
def jH{p:Prop}(h:p:=by simpa using hb):p:=h
def dH{p:Prop}(h:p:=by simp[h]):p:=h
def wB{p:Prop}(h:p:=by cases hq):p:=h
def b9q{p:Prop}(h:p:=by (rw[hg] at J;cases J)):p:=h
def a9C{p:Prop}(h:p:=by (rw[hsty] at N;cases N)):p:=h
def b0H{p:Prop}(h:p:=by simpa using hpr):p:=h
def a0q{p:Prop}(h:p:=by simpa using he):p:=h
def a9u{p:Prop}(h:p:=by simpa using hxl):p:=h
def R5{p:Prop}(h:p:=by kernel_rfl):p:=h
def M4{p:Prop}(h:p:=by decide):p:=h
def v4{p:Prop}(h:p:=by first|rfl|trivial):p:=h
def a9o{p:Prop}(h:p:=by have:=M 0 (N4 _);omega):p:=h
def S7{p:Prop}(h:p:=by trivial):p:=h
def a44{p:Prop}(h:p:=by have:=r9 g;omega):p:=h
def a0b{p:Prop}(h:p:=by rw[L];omega):p:=h
def b7J{p:Prop}(h:p:=by have:=G7 h0;omega):p:=h
def cI{p:Prop}(h:p:=by rw[List.drop_zero,j_l]):p:=h
def a9D{p:Prop}(h:p:=by simp only[e];omega):p:=h
def X5{p:Prop}(h:p:=by dsimp only;omega):p:=h
def c0e{p:Prop}(h:p:=by (obtain rfl:i=0:=by omega);rfl):p:=h
def a5S{p:Prop}(h:p:=by simpa using hu):p:=h
def cP{p:Prop}(h:p:=by (try dsimp only);omega):p:=h
def cY{p:Prop}(h:p:=by rw[h];simp):p:=h
def mR{p:Prop}(h:p:=by simpa using hd):p:=h
def b0W{p:Prop}(h:p:=by rw[l5];exact yH rfl):p:=h
def a9Y{p:Prop}(h:p:=by rw[a1];exact yH rfl):p:=h
def a21{p:Prop}(h:p:=by rw[D4];exact zW.symm):p:=h
def b7p{p:Prop}(h:p:=by rw[hl];exact yH rfl):p:=h
def a34{p:Prop}(h:p:=by dsimp only;rw[F9,List.length_singleton];omega):p:=h
def jV{p:Prop}(h:p:=by dsimp only;rw[F9,List.length_singleton]):p:=h
def a9P{p:Prop}(h:p:=by show 0<=100;omega):p:=h
def lT{p:Prop}(h:p:=by rw[j]):p:=h
def yM{p:Prop}(h:p:=by rw[hIi]):p:=h
def jT{p:Prop}(h:p:=by rw[e1]):p:=h
def Z6:True:=⟨⟩
inductive T where
 |int (k:IntKind) (n:Int)
 |bool (b:Bool)
 |str (l:Bz)
 |v (x:Value)
 |bys (l:Bz)
 |sl (sz n:Nat) (row:Nat->List T)
 |bref (cells:List T)
 |ref (k i j:Nat)
 |osl (k off n:Nat)
 |agg (cs:List T)
 |tup (cs:List T)
 |fn (f:Fn) (caps:List T)
 |mpr (k:Nat)
 |own (ty:TypeId) (sz n:Nat) (row:Nat->List T)
 |posl (k v i j n:Nat)
 |pref (k v i j z a b:Nat)
 |emp
 |und
 deriving Inhabited
structure Arr where
 cl:Bool
 ty:TypeId
 sz:Nat
 n:Nat
 row:Nat->List T
inductive Ob where
 |arr (cl:Bool) (ty:TypeId) (sz n:Nat) (row:Nat->List T)
 |fam (v:Nat) (ty:TypeId) (sz n:Nat) (row:Nat->List T)
 |bys (ty:TypeId) (l:Bz)
 |mp (bo:Bool) (get:Int->Int)
 |mp2 (get:Int->Int->Bool)
def B5(l:Bz)(i:Nat):List T:=[.int .u8 ((l.getD i 0).toNat:Int)]
def Ob.toArr:Ob->Arr
 | .arr cl ty sz n row=>⟨cl,ty,sz,n,row⟩
 | .fam _ ty sz n row=>⟨false,ty,sz,n,row⟩
 | .bys ty l=>⟨true,ty,1,l.length,B5 l⟩
 | .mp _ _=>⟨true,0,0,0,λ_=>[]⟩
 | .mp2 _=>⟨true,0,0,0,λ_=>[]⟩
def b0d{p:Prop}(h:p:=by simp[Ob.toArr,B5] at ht;subst ht;rfl):p:=h
def a3w{p:Prop}(h:p:=by simp[Ob.toArr]):p:=h
def Ob.isArr:Ob->Bool
 | .mp _ _=>false
 | .mp2 _=>false
 | .fam .. =>false
 |_=>true
def aE(k v i:Nat):Nat->List T->List T
 |_,[]=>[]
 |j,.own _ _ n _::r=>.posl k v i j n::aE k v i (j+1) r
 |j,t::r=>t::aE k v i (j+1) r
def wH(k v:Nat)(row:Nat->List T)(i:Nat):List T:=aE k v i 0 (row i)
abbrev X9:=List (Option Ob)
abbrev W4:=List (Nat×T)
def zH:W4->Nat->T
 | [],_=>.und
 |(j,t)::r,i=>match Nat.beq i j with|true=>t|false=>zH r i
def a1g:Value->T
 | .int k n=>.int k n
 | .bool b=>.bool b
 | .string s=>.str s.data.toList
 |x=>.v x
def K6(s:W4):Operand->T
 | .tmp t=>zH s t
 | .const c=>a1g c
 | .func f=>.v (.func (.func f) #[] #[])
 | .global g=>.v (.pointer (some ⟨g,0,none⟩))
def R2(k:IntKind)(n:Int):Prop:=k.min<=n/\n<=k.max
def W9(i:Int)(n:Nat):Prop:=0<=i/\i<n
def jF{p:Prop}(h:p:=by unfold W9;omega):p:=h
def Lt(i n:Nat):Prop:=i<n
def Q2{p:Prop}(h:p:=by unfold Lt;omega):p:=h
def nC{p:Prop}(h:p:=by unfold Lt;simp only;omega):p:=h
def J8{p:Prop}(h:p:=by unfold Lt;dsimp only;omega):p:=h
def Nn(i:Int):Prop:=0<=i
def m3{p:Prop}(h:p:=by unfold Nn;omega):p:=h
def LeI(i j:Int):Prop:=i<=j
def sH{p:Prop}(h:p:=by unfold LeI;omega):p:=h
def Nz(i:Int):Prop:=i≠0
def b0C{p:Prop}(h:p:=by unfold Nz;omega):p:=h
def b0Q(op:BinOp)(a b:Int):Option Bool:=
 match op with
 | .eql=>some (a==b)
 | .neq=>some (a !=b)
 | .lss=>some (decide (a<b))
 | .leq=>some (decide (a<=b))
 | .gtr=>some (decide (a>b))
 | .geq=>some (decide (a≥b))
 |_=>none
def b8Y(op:BinOp)(k:IntKind)(a b:Int):Option (T×Option Prop):=
 match op with
 | .add=>some (.int k (a+b),some (R2 k (a+b)))
 | .sub=>some (.int k (a-b),some (R2 k (a-b)))
 | .mul=>some (.int k (a*b),some (R2 k (a*b)))
 | .quo=>some (.int k (a.tdiv b),some (Nz b/\R2 k (a.tdiv b)))
 | .rem=>some (.int k (a.tmod b),some (Nz b))
 | .and=>some (.int k (bits .and k a b),none)
 | .or=>some (.int k (bits .or k a b),none)
 | .xor=>some (.int k (bits .xor k a b),none)
 | .andNot=>some (.int k (bits .andNot k a b),none)
 | .shl=>some (.int k (k.wrap (a*2 ^ (min b.toNat k.bits))),some (Nn b))
 | .shr=>some (.int k (a.fdiv (2 ^ (min b.toNat k.bits))),some (Nn b))
 |op=>(b0Q op a b).map λr=>(.bool r,none)
def b6w(op:BinOp)(a b:Bz):Option (T×Option Prop):=
 match op with
 | .add=>some (.str (a++b),some (Lt (a.length+b.length) 9223372036854775808))
 | .eql=>some (.bool (a==b),none)
 | .neq=>some (.bool (!(a==b)),none)
 | .lss=>some (.bool (Op.bytesLess a b),none)
 | .leq=>some (.bool (Op.bytesLess a b||a==b),none)
 | .gtr=>some (.bool (!(Op.bytesLess a b||a==b)),none)
 | .geq=>some (.bool (!(Op.bytesLess a b)),none)
 |_=>none
def eA(op:BinOp)(k k':IntKind):Bool:=
 match op with
 | .shl| .shr=>true
 |_=>decide (k=k')
def a7l(P:Program)(t:TypeId):Bool:=
 match P.underlying t with
 |some (.struct _)|some (.array _ _)=>true
 |_=>false
def iB(P:Program)(t:TypeId)(f:Nat):Option Field:=
 match P.underlying t with
 |some (.struct fs)=>fs[f]?
 |_=>none
def wM(P:Program)(t:TypeId)(cs:List T)(off:Nat):Option T:=
 match(P.underlying t).isSome,a7l P t with
 |true,true=>match Nat.ble (off+P.cellsOf t) cs.length with
  |true=>some (.agg ((cs.drop off).take (P.cellsOf t)))
  |false=>none
 |true,false=>cs[off]?
 |false,_=>none
def b5W(P:Program)(R:TypeId->T->T->Option Bool)(xs Y:List T):List Field->Option Bool
 | []=>some true
 |f::r=>match decide (f.name= "_"),wM P f.type xs f.offset,wM P f.type Y f.offset with
  |false,some a,some b=>match R f.type a b,b5W P R xs Y r with
   |some p,some q=>some (p&&q)
   |_,_=>none
  |_,_,_=>none
def eqT(P:Program):Nat->TypeId->T->T->Option Bool
 |0,_,_,_=>none
 |d+1,t,x,y=>match P.underlying t,x,y with
  |some (.int _),.int k a,.int k' b=>match decide (k=k') with
   |true=>some (a==b)
   |false=>none
  |some .bool,.bool a,.bool b=>some (a==b)
  |some .string,.str a,.str b=>some (a==b)
  |some (.struct fs),.agg xs,.agg ys=>match P.stoodInHeld t with
   |false=>b5W P (eqT P d) xs ys fs.toList
   |true=>none
  |_,_,_=>none
def c9m(P:Program)(op:BinOp)(t:TypeId)(x y:T):Option (T×Option Prop):=
 match P.eqGuardType P.depth t,op with
 |false,.eql=>(eqT P 20 t x y).map λb=>(.bool b,none)
 |false,.neq=>(eqT P 20 t x y).map λb=>(.bool (!b),none)
 |_,_=>none
def a46(P:Program)(op:BinOp)(t:TypeId)(b:Bool):Option (T×Option Prop):=
 match P.underlying t,op with
 |some (.pointer e),.eql=>match decide (e=P.pointee t) with
  |true=>some (.bool b,none)
  |false=>none
 |some (.pointer e),.neq=>match decide (e=P.pointee t) with
  |true=>some (.bool (!b),none)
  |false=>none
 |_,_=>none
def b5c(P:Program)(op:BinOp)(t:TypeId)(x y:T):Option (T×Option Prop):=
 match x,y with
 | .int k a,.int k' b=>match eA op k k' with
  |true=>b8Y op k a b
  |false=>none
 | .str a,.str b=>b6w op a b
 | .bool a,.bool b=>match P.underlying t,op with
  |some .bool,.eql=>some (.bool (a==b),none)
  |some .bool,.neq=>some (.bool (!(a==b)),none)
  |_,_=>none
 | .agg xs,.agg ys=>c9m P op t (.agg xs) (.agg ys)
 | .ref ..,.v (.pointer none)=>a46 P op t false
 | .pref ..,.v (.pointer none)=>a46 P op t false
 | .v (.pointer none),.v (.pointer none)=>a46 P op t true
 | .v (.slice none 0 0),.v (.slice none 0 0)=>match P.underlying t,op with
  |some (.slice _),.eql=>some (.bool true,none)
  |some (.slice _),.neq=>some (.bool false,none)
  |_,_=>none
 |_,_=>none
def inB(ty i n:Nat):Option Prop:=
 match Nat.beq ty 1000000 with
 |true=>match i,n with
  |0,1=>none
  |i,n=>some (Lt i n)
 |false=>some (Lt i n)
def Y4(H:X9)(k:Nat):Option Ob:=(H[k]?).bind id
def b0I{p:Prop}(h:p:=by simpa[Y4] using d):p:=h
def a0y{p:Prop}(h:p:=by simp[Y4] at d):p:=h
def getA(H:X9)(k:Nat):Option Arr:=match Y4 H k with
 |some (.fam v ty sz n row)=>some ⟨false,ty,sz,n,wH k v row⟩
 |some ob=>match ob.isArr with
  |true=>some ob.toArr
  |false=>none
 |none=>none
structure Own where
 v:Nat
 n:Nat
 A:Arr
def getOwn(H:X9)(k _v i j:Nat):Option Own:=match Y4 H k with
 |some (.fam v' _ _ n row)=>match(row i)[j]? with
  |some (.own ty sz m r)=>some ⟨v',n,true,ty,sz,m,r⟩
  |_=>none
 |_=>none
def PfB(v V i n a m:Nat):Prop:=v=V/\i<n/\a<m
def xF(P:Program)(H:X9)(t:TypeId)(a:T):Option (T×Option Prop):=
 match a with
 | .bref cells=>(wM P t cells 0).map λx=>(x,none)
 | .ref k i j=>match getA H k with
  |some A=>(wM P t (A.row i) j).map λx=>(x,inB A.ty i A.n)
  |_=>none
 | .pref k v i j z a b=>match getOwn H k v i j with
  |some A=>match Nat.beq z A.A.sz with
   |true=>(wM P t (A.A.row a) b).map λx=>(x,some (PfB v A.v i A.n a A.A.n))
   |false=>none
  |none=>none
 |_=>none
def u9(P:Program)(t:TypeId)(n:Nat):Bool:=
 match P.info? t with
 |some i=>Nat.beq i.size n
 |none=>false
def x8(P:Program)(H:X9)(t:TypeId)(x I:T):Option (T×Option Prop):=
 match I with
 | .int _ i=>
  match P.underlying t,x with
  |some (.slice e),.sl sz n row=>match u9 P e sz with
   |true=>some (.bref (row i.toNat),some (W9 i n))
   |false=>none
  |some (.slice e),.bys l=>match u9 P e 1 with
   |true=>some (.bref (B5 l i.toNat),some (W9 i l.length))
   |false=>none
  |some (.slice e),.osl k off n=>match getA H k with
   |some A=>match u9 P e A.sz with
    |true=>some (.ref k (off+i.toNat) 0,some (W9 i n))
    |false=>none
   |_=>none
  |some (.slice e),.posl k v i' j n=>match getOwn H k v i' j with
   |some A=>match u9 P e A.A.sz with
    |true=>some (.pref k v i' j A.A.sz i.toNat 0,some (W9 i n))
    |false=>none
   |_=>none
  |some (.array n e),.bref cells=>match(P.info? e).isSome with
   |true=>some (.bref (cells.drop (i.toNat*P.cellsOf e)),some (W9 i n))
   |false=>none
  |some (.array n e),.ref k r j=>match(P.info? e).isSome with
   |true=>some (.ref k r (j+i.toNat*P.cellsOf e),some (W9 i n))
   |false=>none
  |_,_=>none
 |_=>none
def a9T(P:Program)(t:TypeId)(x:T):Option Int:=
 match P.underlying t,x with
 |some .string,.str l=>some l.length
 |some (.slice _),.bys l=>some l.length
 |some (.slice _),.sl _ n _=>some n
 |some (.slice _),.osl _ _ n=>some n
 |some (.slice _),.posl _ _ _ _ n=>some n
 |some (.slice _),.v (.slice none n _)=>some n
 |some (.slice _),.emp=>some 0
 |_,_=>none
def zeroCells(P:Program)(t:TypeId):Option (List T):=((P.info? t).bind (·.zero)).map λz=>z.cells.toList.map a1g
def U7:T->List T
 | .agg cs=>cs
 |t=>[t]
def H7:T->Bool
 | .agg _| .tup _| .und=>false
 | .v (.agg _)| .v (.tuple _)=>false
 |_=>true
def W5:T->Bool
 | .ref .. | .osl .. | .agg _| .tup _| .fn .. | .mpr _=>false
 | .own .. | .posl .. | .pref .. =>false
 |_=>true
def a9E:T->Bool
 | .own .. =>true
 |_=>false
def a2v(s:W4)(c a b:Operand):Option T:=
 match K6 s c with
 | .bool cb=>match a,b with
  | .const (.bool true),b=>match K6 s b with
   | .bool y=>some (.bool (cb||y))
   |_=>none
  |a,.const (.bool false)=>match K6 s a with
   | .bool x=>some (.bool (cb&&x))
   |_=>none
  |_,_=>none
 |_=>none
def Le(i n:Nat):Prop:=i<=n
def K0{p:Prop}(h:p:=by unfold Le;omega):p:=h
def X7{p:Prop}(h:p:=by repeat' first|exact rfl|exact trivial|refine And.intro ?_ ?_|exact λ_ _=>rfl|exact U9 _|exact N4 _|exact λi hi=>absurd hi (D2 i)|(unfold Le;omega)):p:=h
def vG(P:Program)(H:X9)(C dst:TypeId)(x:T):Option (T×Option Prop):=
 match P.underlying C,P.underlying dst,x with
 |some (.int _),some (.int k),.int _ n=>some (.int k (k.wrap n),none)
 |some .string,some .string,.str l=>some (.str l,none)
 |some (.slice e),some .string,.bys l=>match P.underlying e with
  |some (.int .u8)=>some (.str l,none)
  |_=>none
 |some (.slice e),some .string,.osl k off n=>match P.underlying e,Y4 H k with
  |some (.int .u8),some (.bys _ l)=>some (.str ((l.drop off).take n),some (Le (off+n) l.length))
  |_,_=>none
 |_,_,_=>none
def iA(P:Program)(t:TypeId)(x:T)(f:Nat):Option T:=
 match iB P t f,x with
 |some fd,.agg cs=>wM P fd.type cs fd.offset
 |_,_=>none
def wD(P:Program)(t:TypeId)(x:T)(f:Nat):Option T:=
 match iB P t f with
 |some d=>match u9 P d.type (P.cellsOf d.type),Nat.beq (P.cellsOf d.type) 0,x with
  |true,false,.ref k i j=>some (.ref k i (j+d.offset))
  |true,false,.bref cs=>some (.bref (cs.drop d.offset))
  |_,_,_=>none
 |none=>none
def a1x(P:Program)(t:TypeId)(x i:T):Option (T×Option Prop):=
 match P.underlying t,x,i with
 |some .string,.str l,.int _ i=>some (.int .u8 ((l.getD i.toNat 0).toNat:Int),some (W9 i l.length))
 |some (.array n e),.agg cs,.int _ i=>match u9 P e 1,wM P e cs i.toNat with
  |true,some x=>some (x,some (W9 i n))
  |_,_=>none
 |_,_,_=>none
def jX(i:Int)(n:Nat):Prop:=0<=i/\i<=n
def b1Q(a h:Int)(n:Nat):Prop:=0<=a/\a<=h/\h<=n
def xD(l:Bz):Option Int->Option Int->Bz
 |none,none=>l
 |none,some h=>l.take h.toNat
 |some a,none=>l.drop a.toNat
 |some a,some h=>(l.take h.toNat).drop a.toNat
def a7D(n:Nat):Option Int->Option Int->Nat
 |none,none=>n
 |none,some h=>h.toNat
 |some a,none=>n-a.toNat
 |some a,some h=>h.toNat-a.toNat
def c7r(off:Nat):Option Int->Nat
 |none=>off
 |some a=>off+a.toNat
def a6z(row:Nat->List T):Option Int->Nat->List T
 |none=>row
 |some a=>λi=>row (a.toNat+i)
def a62(n:Nat):Option Int->Option Int->Option Prop
 |none,none=>none
 |none,some h=>some (jX h n)
 |some a,none=>some (jX a n)
 |some a,some h=>some (b1Q a h n)
def vQ:Option T->Option (Option Int)
 |none=>some none
 |some (.int _ i)=>some (some i)
 |_=>none
def tU(P:Program)(H:X9)(t:TypeId)(x:T)(o hi:Option T):Option (T×Option Prop):=
 match vQ o,vQ hi with
 |some a,some h=>match P.underlying t,x with
  |some .string,.str l=>some (.str (xD l a h),a62 l.length a h)
  |some (.slice e),.bys l=>match u9 P e 1 with
   |true=>some (.bys (xD l a h),a62 l.length a h)
   |false=>none
  |some (.slice e),.sl sz n row=>match u9 P e sz with
   |true=>some (.sl sz (a7D n a h) (a6z row a),a62 n a h)
   |false=>none
  |some (.slice e),.osl k off n=>match getA H k with
   |some A=>match u9 P e A.sz with
    |true=>some (.osl k (c7r off a) (a7D n a h),a62 n a h)
    |false=>none
   |none=>none
  |some (.slice e),.v (.slice none 0 0)=>match P.info? e with
   |some i=>match u9 P e i.size with
    |true=>some (.v (.slice none 0 0),a62 0 a h)
    |false=>none
   |none=>none
  |_,_=>none
 |_,_=>none
def lP:T->Bool
 | .agg _=>true
 |x=>H7 x
def zN(e:Nat->Option (Nat×Nat))(cells:List T):List (Nat×T)->Option (List T)
 | []=>some cells
 |(i,x)::rest=>match e i,lP x with
  |some (off,size),true=>match Nat.beq (U7 x).length size,Nat.ble (off+(U7 x).length) cells.length with
   |true,true=>zN e (cells.take off++U7 x++cells.drop (off+(U7 x).length)) rest
   |_,_=>none
  |_,_=>none
def pO(e:Nat->Option (Nat×Nat))(m:Nat):Nat->List (Nat×T)->Option (List T)
 |n,[]=>match Nat.beq n m with
  |true=>some []
  |false=>none
 |n,(i,x)::rest=>match e i,lP x with
  |some (off,size),true=>match Nat.beq off n,Nat.beq (U7 x).length size with
   |true,true=>(pO e m (n+size) rest).map (U7 x++ ·)
   |_,_=>none
  |_,_=>none
def b0M(e:Nat->Option (Nat×Nat))(z:List T)(parts:List (Nat×T)):Option (List T):=
 match pO e z.length 0 parts with
 |some cs=>some cs
 |none=>zN e z parts
def gX(P:Program)(s:W4)(t:TypeId)(parts:Array (Nat×Operand)):Option T:=
 match zeroCells P t,P.underlying t with
 |some z,some (.struct fs)=>match fs.toList.all λf=>(P.info? f.type).isSome with
  |true=>(b0M (λi=>(fs.toList[i]?).map λf=>(f.offset,P.cellsOf f.type)) z (parts.toList.map λp=>(p.1,K6 s p.2))).map .agg
  |false=>none
 |some z,some (.array _ e)=>match(P.info? e).isSome with
  |true=>(b0M (λi=>some (i*P.cellsOf e,P.cellsOf e)) z (parts.toList.map λp=>(p.1,K6 s p.2))).map .agg
  |false=>none
 |_,_=>none
def c76(s:W4)(fn:Fn)(d:Array Operand):T:=.fn fn (d.toList.map (K6 s))
def c9g(o:Bool)(n:Int):T:=match o with
 |true=>.bool (decide (n≠0))
 |false=>.int .i64 n
def b4r(P:Program)(t:TypeId)(o:Bool):Bool:=
 match P.underlying t with
 |some (.map kt et)=>match P.underlying kt,(P.info? et).bind (·.zero),o with
  |some (.int .i64),some (.int .i64 n),false=>decide (n=0)
  |some (.int .i64),some (.bool b),true=> !b
  |_,_,_=>false
 |_=>false
def c06(P:Program)(t:TypeId):Bool:=
 match P.underlying t with
 |some (.int .i64)=>Nat.beq (P.cellsOf t) 1
 |_=>false
def a4i(P:Program)(t:TypeId):Bool:=
 match P.underlying t with
 |some (.struct fs)=>match fs.toList with
  | [f0,f1]=>f0.name != "_" &&f1.name != "_" &&Nat.beq f0.offset 0&&Nat.beq f1.offset 1&&c06 P f0.type&&c06 P f1.type&&Nat.beq (P.cellsOf t) 2&& !Nat.beq P.types.size 0
  |_=>false
 |_=>false
def a3C(P:Program)(t:TypeId):Bool:=
 match P.underlying t with
 |some (.map kt et)=>match(P.info? et).bind (·.zero) with
  |some (.bool b)=> !b&&P.keyTypeAt 2 kt&&P.tiled 2 kt&&P.keyType kt&&a4i P kt
  |_=>false
 |_=>false
def lA(P:Program)(H:X9)(t:TypeId)(m k:T):Option (T×Option Prop):=
 match m,k with
 | .mpr j,.int .i64 n=>match Y4 H j with
  |some (.mp bo get)=>match b4r P t bo with
   |true=>some (c9g bo (get n),none)
   |false=>none
  |_=>none
 | .mpr j,.agg [.int .i64 a,.int .i64 b]=>match Y4 H j with
  |some (.mp2 get)=>match a3C P t with
   |true=>some (.bool (get a b),some (R2 .i64 a/\R2 .i64 b))
   |false=>none
  |_=>none
 |_,_=>none
def c9a(o:Bool):T->Option Int
 | .int .i64 n=>match o with|false=>some n|true=>none
 | .bool b=>match o with|true=>some (cond b 1 0)|false=>none
 |_=>none
def a1n(P:Program)(H:X9)(t:TypeId)(m k x:T):Option X9:=
 match m,k with
 | .mpr j,.int .i64 n=>match Y4 H j with
  |some (.mp bo get)=>match b4r P t bo,c9a bo x with
   |true,some v=>some (H.set j (some (.mp bo λi=>cond (decide (i=n)) v (get i))))
   |_,_=>none
  |_=>none
 |_,_=>none
def mB(P:Program)(H:X9)(t:TypeId)(m k x:T):Option (X9×Option Prop):=
 match m,k,x with
 | .mpr j,.agg [.int .i64 a,.int .i64 b],.bool v=>match Y4 H j with
  |some (.mp2 get)=>match a3C P t with
   |true=>some (H.set j (some (.mp2 λA B=>cond (decide (A=a/\B=b)) v (get A B))),some (R2 .i64 a/\R2 .i64 b))
   |false=>none
  |_=>none
 |_,_,_=>none
def uL(P:Program)(H:X9)(t:TypeId):Option (T×X9):=
 match b4r P t true,b4r P t false with
 |true,_=>some (.mpr H.length,H++[some (.mp true λ_=>0)])
 |_,true=>some (.mpr H.length,H++[some (.mp false λ_=>0)])
 |_,_=>match a3C P t with
  |true=>some (.mpr H.length,H++[some (.mp2 λ_ _=>false)])
  |false=>none
def c65(op:UnOp)(x:T):Option (T×Option Prop):=
 match op,x with
 | .not,.bool b=>some (.bool (!b),none)
 | .neg,.int k n=>some (.int k (0-n),some (R2 k (0-n)))
 |_,_=>none
def qY(x:T)(i:Nat):Option T:=
 match x with
 | .tup cs=>cs[i]?
 |_=>none
def c8o(a b:Int):Int:=if b<a then b else a
def c4U:T->T->Option (T×Option Prop)
 | .int k a,y=>match y with
  | .int _ b=>some (.int k (c8o a b),none)
  |_=>none
 |_,_=>none
def c4E(P:Program)(t:TypeId)(x:T):Option (T×Option Prop):=
 match P.underlying t,x with
 |some (.slice _),.v (.slice none 0 0)=>some (.int .i64 0,none)
 |_,_=>none
def L6(P:Program)(s:W4)(H:X9)(op:Op):Option (T×Option Prop):=
 match op with
 | .move x| .assign x=>some (K6 s x,none)
 | .pick c a b=>(a2v s c a b).map (·,none)
 | .load t a=>xF P H t (K6 s a)
 | .nilCheck x=>match K6 s x with
  | .ref k i j=>some (.ref k i j,none)
  | .bref cs=>some (.bref cs,none)
  |_=>none
 | .binOp op t x y _=>b5c P op t (K6 s x) (K6 s y)
 | .unOp op _ x=>c65 op (K6 s x)
 | .convert src dst x=>vG P H src dst (K6 s x)
 | .fieldAddr t x f=>(wD P t (K6 s x) f).map (·,none)
 | .field t x f=>(iA P t (K6 s x) f).map (·,none)
 | .indexAddr t x i=>x8 P H t (K6 s x) (K6 s i)
 | .index t x i=>a1x P t (K6 s x) (K6 s i)
 | .extract x i=>(qY (K6 s x) i).map (·,none)
 | .call {callee:=.builtin .len,args,argTypes}=>match args.toList,argTypes.toList with
  | [x],[t]=>(a9T P t (K6 s x)).map λn=>(.int .i64 n,none)
  |_,_=>none
 | .slice t x lo hi none=>tU P H t (K6 s x) (lo.map (K6 s)) (hi.map (K6 s))
 | .build t parts=>(gX P s t parts).map (·,none)
 | .makeFunc fn first captured=>match first.toList with
  | []=>some (c76 s fn captured,none)
  |_=>none
 | .lookup t m k false=>lA P H t (K6 s m) (K6 s k)
 | .call {callee:=.builtin .min,args, .. }=>match args.toList with
  | [x,y]=>c4U (K6 s x) (K6 s y)
  |_=>none
 | .call {callee:=.builtin .cap,args,argTypes}=>match args.toList,argTypes.toList with
  | [x],[t]=>c4E P t (K6 s x)
  |_,_=>none
 |_=>none
def R1(n:Int):UInt8:=UInt8.ofNat n.toNat
def pK:List T->Option (List Int)
 | []=>some []
 | .int .u8 n::r=>(pK r).map (n:: ·)
 |_=>none
def b9A:List Int->Option Prop
 | []=>none
 |n::r=>match b9A r with
  |none=>some (R2 .u8 n)
  |some p=>some (R2 .u8 n/\p)
def g7(P:Program)(e:TypeId):Bool:=
 match P.underlying e,zeroCells P e with
 |some (.int .u8),some [.int .u8 n]=>decide (n=0)
 |_,_=>false
def yO(a b c:Nat):Prop:=a*b<=c
def sX{p:Prop}(h:p:=by unfold yO;omega):p:=h
def a2y(P:Program)(H:X9)(t:TypeId)(l c:T):Option (T×X9×Option Prop):=
 match P.underlying t,l,c with
 |some (.slice e),.int .i64 n,.int .i64 m=>match P.info? e,zeroCells P e with
  |some i,some z=>match Nat.beq z.length i.size,Nat.beq i.size 0,z.all H7 with
   |true,false,true=>some (.osl H.length 0 n.toNat,H++[some (match g7 P e with
     |true=>.bys e (List.replicate n.toNat 0)
     |false=>.arr (z.all W5) e i.size n.toNat λ_=>z)],some (Nn n/\LeI n m/\yO i.bytes m.toNat 140737488355328/\Lt m.toNat 9223372036854775808))
   |_,_,_=>none
  |_,_=>none
 |_,_,_=>none
def G8(P:Program)(s:W4)(H:X9)(t:TypeId)(len:Nat)(parts:Array (Nat×Operand)):Option (T×X9×Option Prop):=
 match P.underlying t with
 |some (.slice e)=>match P.info? e,zeroCells P e with
  |some i,some z=>match Nat.beq z.length i.size,Nat.beq i.size 0,Nat.ble (len*i.size) 16777216 with
   |true,false,true=>match zN (λk=>some (k*i.size,i.size)) ((List.replicate len z).flatten) (parts.toList.map λp=>(p.1,K6 s p.2)) with
    |some cs=>match g7 P e with
     |true=>(pK cs).map λn=>(.osl H.length 0 len,H++[some (.bys e (n.map R1))],b9A n)
     |false=>match cs.all H7 with
      |true=>some (.osl H.length 0 len,H++[some (.arr (cs.all W5) e i.size len λk=>(cs.drop (k*i.size)).take i.size)],none)
      |false=>none
    |none=>none
   |_,_,_=>none
  |_,_=>none
 |_=>none
def sel(b:Bool)(x y:T):T:=match b with|true=>x|false=>y
def c9H(b:Bool)(x y:Nat->List T)(i:Nat):List T:=match b with|true=>x i|false=>y i
def mrg(b:Bool)(x y:T):T:=
 match x,y with
 | .int k n,.int k' m=>match decide (k=k') with
  |true=>.int k (cond b n m)
  |false=>sel b (.int k n) (.int k' m)
 | .bool p,.bool q=>.bool (cond b p q)
 | .str l,.str m=>.str (cond b l m)
 | .own ty sz n row,.own ty' sz' n' row'=>match decide (ty=ty'),decide (sz=sz') with
  |true,true=>.own ty sz (cond b n n') (c9H b row row')
  |_,_=>sel b (.own ty sz n row) (.own ty' sz' n' row')
 |x,y=>sel b x y
def b85(b:Bool):List T->List T->List T
 |x::xs,o::os=>mrg b x o::b85 b xs os
 | [],os=>os
 |_::_,[]=>[]
def b5q(b:Bool):Nat->List T->List T->List T
 |0,xs,os=>b85 b xs os
 |j+1,xs,o::os=>o::b5q b j xs os
 |_+1,_,[]=>[]
def setRow(row:Nat->List T)(i j:Nat)(cs:List T)(k:Nat):List T:=b5q (Nat.beq k i) j cs (row k)
def closedOne(t:T):Bool:=W5 t&&H7 t
def c8x(cs:List T):Bool:=cs.all λt=> !a9E t
def kV(i n:Nat)(cs:List T):Prop:=i<n/\c8x cs=true
structure Abs where
 cs:List T
 ks:List Nat
 side:Option Prop
def oH(H:X9):List T->Option Abs
 | []=>some ⟨[],[],none⟩
 | .osl m off n::r=>match off,Y4 H m,oH H r with
  |0,some (.arr true ty sz N row),some A=>some ⟨.own ty sz n row::A.cs,m::A.ks,some (match A.side with|none=>Le n N|some p=>Le n N/\p)⟩
  |_,_,_=>none
 |t::r=>match closedOne t,oH H r with
  |true,some A=>some ⟨t::A.cs,A.ks,A.side⟩
  |_,_=>none
def D0:X9->List Nat->X9
 |H,[]=>H
 |H,k::r=>D0 (H.set k none) r
def kO:List Nat->Bool
 | []=>true
 |x::r=>r.all (λy=> !Nat.beq x y)&&kO r
def ltS(i n:Nat):Option Prop->Prop
 |none=>i<n
 |some p=>i<n/\p
def qX(P:Program)(H:X9)(t:TypeId)(a x:T):Option (X9×Option Prop):=
 match a with
 | .pref k v i j z a b=>match Y4 H k,getOwn H k v i j,u9 P t (U7 x).length,lP x,(U7 x).all closedOne with
  |some (.fam v' ty sz n row),some A,true,true,true=>match Nat.beq z A.A.sz,Nat.ble (b+(U7 x).length) A.A.sz with
   |true,true=>some (H.set k (some (.fam v' ty sz n (setRow row i j [.own A.A.ty A.A.sz A.A.n (setRow A.A.row a b (U7 x))]))),some (PfB v v' i n a A.A.n))
   |_,_=>none
  |_,_,_,_,_=>none
 | .ref k i j=>match Y4 H k,u9 P t (U7 x).length,lP x,(U7 x).all H7 with
  |some (.arr cl ty sz n row),true,true,true=>match Nat.ble (j+(U7 x).length) sz with
   |true=>some (H.set k (some (.arr (cl&&(U7 x).all W5) ty sz n (setRow row i j (U7 x)))),inB ty i n)
   |false=>none
  |some (.bys ty l),true,true,true=>match x,j with
   | .int .u8 m,0=>some (H.set k (some (.bys ty (l.set i (R1 m)))),some (Lt i l.length/\R2 .u8 m))
   |_,_=>none
  |some (.fam v ty sz n row),true,true,true=>match Nat.ble (j+(U7 x).length) sz with
   |true=>match(U7 x).all closedOne with
    |true=>some (H.set k (some (.fam v ty sz n (setRow row i j (U7 x)))),some (kV i n (((row i).drop j).take (U7 x).length)))
    |false=>match oH H (U7 x) with
     |some A=>match kO (k::A.ks) with
      |true=>some ((D0 H A.ks).set k (some (.fam (v+1) ty sz n (setRow row i j A.cs))),some (ltS i n A.side))
      |false=>none
     |none=>none
   |false=>none
  |_,_,_,_=>none
 |_=>none
def a0f(_P:Program)(H:X9)(t:TypeId)(cs:List T):Option (T×X9×Option Prop):=
 match Nat.beq cs.length 0,cs.all H7 with
 |false,true=>some (.ref H.length 0 0,H++[some (.arr (cs.all W5) 1000000 cs.length 1 λ_=>cs)],none)
 |_,_=>none
structure Sr where
 cl:Bool
 n:Nat
 row:Nat->List T
 side:Option Prop
def sE(row:Nat->List T):Nat->Nat->List T
 |0=>row
 |off=>λi=>row (off+i)
def uF(off n m:Nat):Option Prop:=some (Le (off+n) m)
def wP(H:X9)(d:Option TypeDesc)(sz:Nat)(x:T):Option Sr:=
 match d,x with
 |some (.slice _),.sl sz' n row=>match Nat.beq sz sz' with
  |true=>some ⟨true,n,row,none⟩
  |false=>none
 |some (.slice _),.v (.slice none 0 0)=>some ⟨true,0,λ_=>[],none⟩
 |some (.slice _),.osl k off n=>match Y4 H k with
  |some (.arr cl _ sz' m row)=>match Nat.beq sz sz' with
   |true=>some ⟨cl,n,sE row off,uF off n m⟩
   |false=>none
  |_=>none
 |_,_=>none
def b1P(H:X9)(d:Option TypeDesc)(x:T):Option (Bz×Option Prop):=
 match d,x with
 |some .string,.str l=>some (l,none)
 |some (.slice _),.bys l=>some (l,none)
 |some (.slice _),.v (.slice none 0 0)=>some ([],none)
 |some (.slice _),.osl k off n=>match Y4 H k with
  |some (.bys _ l)=>some ((l.drop off).take n,some (Le (off+n) l.length))
  |_=>none
 |_,_=>none
def kI:Option Prop->Prop->Prop
 |none,q=>q
 |some p,q=>p/\q
def X4(row:Nat->List T)(n:Nat)(row':Nat->List T)(i:Nat):List T:=
 match Nat.blt i n with
 |true=>row i
 |false=>row' (i-n)
def U8(n m bytes:Nat):Prop:=(n+m)*bytes<=140737488355328/\n+m<=9223372036854775807
def R0{p:Prop}(h:p:=by unfold U8;omega):p:=h
structure SrF where
 n:Nat
 row:Nat->List T
 ks:List Nat
 side:Option Prop
def c3y(H:X9)(sz:Nat)(x:T):Option SrF:=
 match x with
 | .osl k off n=>match Y4 H k with
  |some (.arr true _ sz' m row)=>match Nat.beq sz sz' with
   |true=>some ⟨n,sE row off,[],uF off n m⟩
   |false=>none
  |some (.arr false _ sz' m row)=>match Nat.beq sz sz',off,n,m with
   |true,0,1,1=>match oH H (row 0) with
    |some A=>some ⟨1,λ_=>A.cs,A.ks,A.side⟩
    |none=>none
   |_,_,_,_=>none
  |_=>none
 |_=>none
def c6F(d:Option TypeDesc)(x:T):Option Int:=
 match d,x with
 |some (.int _),.int _ n=>some n
 |_,_=>none
def mY(P:Program)(H:X9)(t tx:TypeId)(d x:T):Option (T×X9×Option Prop):=
 match P.underlying t with
 |some (.slice e)=>match P.info? e,zeroCells P e with
  |some i,some z=>match Nat.beq z.length i.size,Nat.beq i.size 0,d with
   |true,false,.v (.slice none 0 0)=>match g7 P e with
    |true=>(b1P H (P.underlying tx) x).map λs=>(.osl H.length 0 s.1.length,H++[some (.bys e s.1)],some (kI s.2 (Lt 0 s.1.length/\U8 0 s.1.length i.bytes)))
    |false=>match c6F (P.underlying tx) x with
     |some n=>match z.all H7 with
      |true=>some (.osl H.length 0 n.toNat,H++[some (.arr (z.all W5) e i.size n.toNat λ_=>z)],some (Nn n/\Lt 0 n.toNat/\U8 0 n.toNat i.bytes))
      |false=>none
     |none=>(wP H (P.underlying tx) i.size x).map λs=>(.osl H.length 0 s.n,H++[some (.arr s.cl e i.size s.n s.row)],some (kI s.side (Lt 0 s.n/\U8 0 s.n i.bytes)))
   |true,false,.emp=>match g7 P e with
    |true=>none
    |false=>(wP H (P.underlying tx) i.size x).map λs=>(.osl H.length 0 s.n,H++[some (.arr s.cl e i.size s.n s.row)],some (kI s.side (U8 0 s.n i.bytes)))
   |true,false,.osl k 0 n=>match Y4 H k with
    |some (.bys _ l)=>match g7 P e with
     |true=>(b1P H (P.underlying tx) x).map λs=>(.osl H.length 0 (n+s.1.length),H.set k none++[some (.bys e (l.take n++s.1))],some (kI s.2 (Le n l.length/\U8 n s.1.length i.bytes)))
     |false=>none
    |some (.arr cl _ sz N row)=>match Nat.beq sz i.size with
     |true=>(wP H (P.underlying tx) i.size x).map λs=>(.osl H.length 0 (n+s.n),H.set k none++[some (.arr (cl&&s.cl) e i.size (n+s.n) (X4 row n s.row))],some (kI s.side (Le n N/\U8 n s.n i.bytes)))
     |false=>none
    |some (.fam _ _ sz N row)=>match Nat.beq sz i.size,P.underlying tx,c3y H i.size x with
     |true,some (.slice _),some s=>match kO (k::s.ks) with
      |true=>some (.osl H.length 0 (n+s.n),D0 H (k::s.ks)++[some (.fam 0 e i.size (n+s.n) (X4 row n s.row))],some (kI s.side (Le n N/\U8 n s.n i.bytes)))
      |false=>none
     |_,_,_=>none
    |_=>none
   |_,_,_=>none
  |_,_=>none
 |_=>none
def a9Q:T->Bool
 | .sl .. | .osl .. | .posl .. | .v (.slice none 0 0)=>true
 |_=>false
def isZ:T->Bool
 | .int _ i=>decide (i=0)
 |_=>false
def c9Q:Option T->Bool
 |none=>true
 |some t=>isZ t
def mJ(P:Program)(H:X9)(t:TypeId)(x:T)(l:Option T)(hi M:T):Option (T×X9×Option Prop):=
 match P.underlying t,a9Q x&&c9Q l&&isZ hi&&isZ M with
 |some (.slice e),true=>match P.info? e with
  |some i=>match Nat.beq i.size 0,u9 P e i.size with
   |false,true=>some (.osl H.length 0 0,H++[some (.arr true e i.size 0 λ_=>[])],none)
   |_,_=>none
  |none=>none
 |_,_=>none
def H8(row:Nat->List T)(off n:Nat)(z:List T)(j:Nat):List T:=
 match Nat.ble off j&&Nat.blt j (off+n) with
 |true=>z
 |false=>row j
def a2R(P:Program)(H:X9)(t:TypeId)(x:T):Option (T×X9×Option Prop):=
 match P.underlying t,x with
 |some (.slice e),.osl k off n=>match P.info? e,zeroCells P e,Y4 H k with
  |some i,some z,some (.arr true ty sz N row)=>match Nat.beq z.length i.size&&Nat.beq sz i.size&& !Nat.beq i.size 0&&z.all closedOne with
   |true=>some (.und,H.set k (some (.arr true ty sz N (H8 row off n z))),some (Le (off+n) N))
   |false=>none
  |_,_,_=>none
 |_,_=>none
def y8(P:Program)(s:W4)(H:X9)(op:Op):Option (T×X9×Option Prop):=
 match op with
 | .box t x=>match lP (K6 s x) with
  |true=>a0f P H t (U7 (K6 s x))
  |false=>none
 | .alloc t=>match zeroCells P t with
  |some z=>a0f P H t z
  |none=>none
 | .store t a x=>(qX P H t (K6 s a) (K6 s x)).map λr=>(.und,r.1,r.2)
 | .makeSlice t l c=>a2y P H t (K6 s l) (K6 s c)
 | .buildSlice t len parts=>G8 P s H t len parts
 | .convert src dst x=>match P.underlying src,P.underlying dst,K6 s x with
  |some .string,some (.slice e),.str l=>match g7 P e with
   |true=>some (.bys l,H,some (Lt l.length 140737488355329))
   |false=>none
  |_,_,_=>none
 | .call {callee:=.builtin .append,args,argTypes}=>match args.toList,argTypes.toList with
  | [d,x],[t,tx]=>mY P H t tx (K6 s d) (K6 s x)
  |_,_=>none
 | .makeMap t none=>(uL P H t).map λr=>(r.1,r.2,none)
 | .mapUpdate t m k x=>match a1n P H t (K6 s m) (K6 s k) (K6 s x) with
  |some r=>some (.und,r,none)
  |none=>(mB P H t (K6 s m) (K6 s k) (K6 s x)).map λr=>(.und,r.1,r.2)
 | .slice t x lo (some hi) (some mx)=>mJ P H t (K6 s x) (lo.map (K6 s)) (K6 s hi) (K6 s mx)
 | .call {callee:=.builtin .clear,args,argTypes}=>match args.toList,argTypes.toList with
  | [x],[t]=>a2R P H t (K6 s x)
  |_,_=>none
 |_=>none
def O0{α β:Type}(f:α->Option β):List α->Option (List β)
 | []=>some []
 |a::r=>match f a,O0 f r with
  |some b,some q=>some (b::q)
  |_,_=>none
def mN:Option Prop->Option Prop->Option Prop
 |none,q=>q
 |p,none=>p
 |some p,some q=>some (p/\q)
def wA:List (T×Option Prop)->Option Prop
 | []=>none
 |x::r=>mN x.2 (wA r)
def c7T:T->T
 | .own _ sz n row=>.sl sz n row
 |t=>t
def a1C(row:Nat->List T)(i:Nat):List T:=(row i).map c7T
def PoB(v V i n a m:Nat):Prop:=v=V/\i<n/\a<=m
def dZ(a b:List T):Nat->List T
 |0=>a
 |_+1=>b
def M5(b:Nat)(H:X9):Nat->T->Option (T×Option Prop)
 |0,_=>none
 |d+1,t=>match t with
  | .ref k i j=>match Nat.blt k b with
   |true=>some (.ref k i j,none)
   |false=>match getA H k with
    |some A=>match i,A.n with
     |0,1=>match O0 (M5 b H d) ((A.row 0).drop j) with
      |some cs=>match cs.all λx=>W5 x.1 with
       |true=>some (.bref (cs.map (·.1)),wA cs)
       |false=>none
      |none=>none
     |_,_=>none
    |none=>none
  | .osl k off n=>match Nat.blt k b with
   |true=>some (.osl k off n,none)
   |false=>match Y4 H k with
    |some (.arr true _ sz m row)=>some (.sl sz n (sE row off),uF off n m)
    |some (.fam _ _ sz m row)=>some (.sl sz n (a1C (sE row off)),uF off n m)
    |some (.bys _ l)=>some (.bys ((l.drop off).take n),some (Le (off+n) l.length))
    |some (.arr false _ sz m row)=>match Nat.beq off 0&&Nat.beq n 2&&Nat.beq m 2&&Nat.beq sz 1 with
     |true=>match O0 (M5 b H d) (row 0),O0 (M5 b H d) (row 1) with
      |some c0,some c1=>match(c0++c1).all λx=>W5 x.1&&H7 x.1 with
       |true=>some (.sl 1 2 (dZ (c0.map (·.1)) (c1.map (·.1))),wA (c0++c1))
       |false=>none
      |_,_=>none
     |false=>none
    |_=>none
  | .agg cs=>(O0 (M5 b H d) cs).map λcs=>(.agg (cs.map (·.1)),wA cs)
  | .fn f cs=>(O0 (M5 b H d) cs).map λcs=>(.fn f (cs.map (·.1)),wA cs)
  | .tup cs=>(O0 (M5 b H d) cs).map λcs=>(.tup (cs.map (·.1)),wA cs)
  | .mpr _=>none
  | .posl k v i j n=>match Nat.blt k b with
   |true=>some (.posl k v i j n,none)
   |false=>match getOwn H k v i j with
    |some A=>some (.sl A.A.sz n A.A.row,some (PoB v A.v i A.n n A.A.n))
    |none=>none
  | .pref k v i j z a c=>match Nat.blt k b with
   |true=>some (.pref k v i j z a c,none)
   |false=>none
  | .own .. =>none
  |t=>some (t,none)
def closedD:Nat->T->Bool
 |0,_=>false
 |d+1,t=>match t with
  | .agg cs=>cs.all (closedD d)
  | .fn _ cs=>cs.all (closedD d)
  | .tup cs=>cs.all (closedD d)
  | .und=>false
  |t=>W5 t
def oW:Nat->T->Bool
 |0,_=>false
 |d+1,t=>match t with
  | .int .. | .bool _| .str _=>true
  | .agg cs=>cs.all (oW d)
  | .tup cs=>cs.all (oW d)
  |_=>false
structure Rl where
 (ι:Type)
 (args:ι->List T)
 (res:ι->T)
 (side:ι->Prop)
structure Rle where
 (ι:Type)
 (args:ι->List T)
 (pre:ι->X9)
 (res:ι->T)
 (post:ι->X9)
 (side:ι->Prop)
inductive Con where
 |pure (c:List T->Option (T×Option Prop))
 |eff (c:List T->X9->Option (T×X9×Option Prop))
 |rel (r:Rl)
 |mk (c:List T->Option (T×X9×Option Prop))
 |reff (r:Rle)
 |rmk (r:Rle)
 |fz (c:List T->Option (T×Option Prop))
 |rfz (r:Rl)
 |tmp
abbrev H6:=List (FuncId×Con)
def gam:H6->FuncId->List T->Option (T×Option Prop)
 | [],_,_=>none
 |(g,c)::r,f,args=>match Nat.beq f g with
  |true=>match c with| .pure c=>c args|_=>none
  |false=>gam r f args
def qB:H6->FuncId->Option (List T->X9->Option (T×X9×Option Prop))
 | [],_=>none
 |(g,c)::r,f=>match Nat.beq f g with
  |true=>match c with| .eff c=>some c|_=>none
  |false=>qB r f
def gmk:H6->FuncId->Option (List T->Option (T×X9×Option Prop))
 | [],_=>none
 |(g,c)::r,f=>match Nat.beq f g with
  |true=>match c with| .mk c=>some c|_=>none
  |false=>gmk r f
def gfz:H6->FuncId->Option (List T->Option (T×Option Prop))
 | [],_=>none
 |(g,c)::r,f=>match Nat.beq f g with
  |true=>match c with| .fz c=>some c|_=>none
  |false=>gfz r f
def Con.isRel:Con->Bool
 | .rel _| .reff _| .rmk _| .rfz _=>true
 |_=>false
def Con.isEff:Con->Bool
 | .eff _| .mk _| .reff _| .rmk _| .fz _| .rfz _=>true
 |_=>false
def Con.isEf:Con->Bool
 | .eff _| .reff _=>true
 |_=>false
def Con.isMk:Con->Bool
 | .mk _| .rmk _=>true
 |_=>false
def s9:H6->FuncId->Option Con
 | [],_=>none
 |(g,c)::r,f=>match Nat.beq f g with
  |true=>some c
  |false=>s9 r f
def c1l(G:H6)(f:FuncId):Option Con:=
 match s9 G f with
 |some c=>match c.isRel with
  |true=>some c
  |false=>none
 |none=>none
def a49:List T->Option (List Int)
 | []=>some []
 | .int .i64 n::r=>(a49 r).map (n:: ·)
 |_=>none
def c6I(cs:List T)(sz len:Nat):Nat->List T:=
 match a49 cs,Nat.beq sz 1&&Nat.beq cs.length len with
 |some l,true=>λk=>[.int .i64 (l.getD k 0)]
 |_,_=>λk=>(cs.drop (k*sz)).take sz
def a11(P:Program)(s:W4)(t:TypeId)(len:Nat)(parts:Array (Nat×Operand)):Option (T×Option Prop):=
 match P.underlying t with
  |some (.slice e)=>match P.info? e,zeroCells P e with
   |some i,some z=>match Nat.beq z.length i.size,Nat.beq i.size 0,Nat.ble (len*i.size) 16777216 with
    |true,false,true=>match zN (λk=>some (k*i.size,i.size)) ((List.replicate len z).flatten) (parts.toList.map λp=>(p.1,K6 s p.2)) with
     |some cs=>match g7 P e,cs.all H7,cs.all W5 with
      |false,true,true=>some (.sl i.size len (c6I cs i.size len),none)
      |_,_,_=>none
     |none=>none
    |_,_,_=>none
   |_,_=>none
  |_=>none
def a3o(P:Program)(s:W4):Op->Option (T×Option Prop)
 | .buildSlice t 0 parts=>match P.underlying t,parts.toList with
  |some (.slice e),[]=>match P.info? e,zeroCells P e with
   |some i,some z=>match Nat.beq z.length i.size,Nat.beq i.size 0 with
    |true,false=>some (.emp,none)
    |_,_=>none
   |_,_=>none
  |_,_=>none
 | .call {callee:=.builtin .append,args,argTypes}=>match args.toList,argTypes.toList with
  | [d,x],[t,tx]=>match K6 s d,P.underlying t with
   | .emp,some (.slice e)=>match P.info? e,zeroCells P e with
    |some i,some z=>match Nat.beq z.length i.size,wP [] (P.underlying tx) i.size (K6 s x) with
     |true,some q=>match q.cl with
      |true=>some (.sl i.size q.n q.row,some (kI q.side (U8 0 q.n i.bytes)))
      |false=>none
     |_,_=>none
    |_,_=>none
   |_,_=>none
  |_,_=>none
 | .buildSlice t (n+1) parts=>a11 P s t (n+1) parts
 |_=>none
def lZ:H6->Nat
 | []=>0
 |(_,.tmp)::r=>lZ r+1
 |_::r=>lZ r
def Q5(n:Nat)(args:List Operand):Bool:=
 match Nat.ble 8 n with
 |true=>false
 |false=>match Nat.ble 4 n with
 |true=>match args with
  | .tmp d::_=>match Nat.beq (n % 2) 0 with
   |true=>Nat.blt n d
   |false=>Nat.blt d n
  |_=>true
 |false=>Nat.ble 3 n
def sO(G:H6):Op->Bool
 | .buildSlice _ (_+1) _=>Nat.ble 1 (lZ G)&& !Nat.beq 9 (lZ G)
 | .buildSlice _ 0 _=>Nat.ble 2 (lZ G)&& !Nat.beq 9 (lZ G)
 | .call {callee:=.builtin .append,args, .. }=>Q5 (lZ G) args.toList
 |_=>false
def anyEff:H6->Bool
 | []=>false
 |(_,c)::r=>c.isEff||anyEff r
def isEff(G:H6):Operand->Bool
 | .func f=>match s9 G f with
  |some c=>c.isEff
  |none=>false
 |_=>anyEff G
def isEf(G:H6):Operand->Bool
 | .func f=>match s9 G f with
  |some c=>c.isEf
  |none=>false
 |_=>false
def isMk(G:H6):Operand->Bool
 | .func f=>match s9 G f with
  |some c=>c.isMk
  |none=>false
 |_=>false
def S8(ρ:Nat->Option Nat):Nat->T->Option T
 |0,_=>none
 |d+1,t=>match t with
  | .ref k i j=>(ρ k).map λm=>.ref m i j
  | .osl k off n=>(ρ k).map λm=>.osl m off n
  | .mpr k=>(ρ k).map .mpr
  | .posl k v i j n=>(ρ k).map λm=>.posl m v i j n
  | .pref k v i j z a b=>(ρ k).map λm=>.pref m v i j z a b
  | .agg cs=>(O0 (S8 ρ d) cs).map .agg
  | .tup cs=>(O0 (S8 ρ d) cs).map .tup
  | .fn f cs=>(O0 (S8 ρ d) cs).map (.fn f)
  |t=>some t
def lJ(ρ:Nat->Option Nat)(ob:Ob):Option Ob:=
 match ob with
 | .bys ty l=>some (.bys ty l)
 | .fam v ty sz n row=>some (.fam v ty sz n row)
 | .arr true ty sz n row=>some (.arr true ty sz n row)
 | .arr false ty sz n row=>match n with
  |1=>(O0 (S8 ρ 6) (row 0)).map λr=>.arr false ty sz 1 λ_=>r
  |_=>none
 | .mp bo get=>some (.mp bo get)
 | .mp2 get=>some (.mp2 get)
def memN(k:Nat):List Nat->Bool
 | []=>false
 |x::r=>Nat.beq k x||memN k r
def a2U:List Nat->Bool
 | []=>true
 |x::r=> !memN x r&&a2U r
def iY:List T->List Nat
 | []=>[]
 | .ref k _ _::r=>k::iY r
 | .osl k _ _::r=>k::iY r
 | .agg cs::r=>idsA cs++iY r
 | .fn _ cs::r=>idsA cs++iY r
 |_::r=>iY r
where
 idsA:List T->List Nat
 | []=>[]
 | .ref k _ _::r=>k::idsA r
 | .osl k _ _::r=>k::idsA r
 |_::r=>idsA r
def c9L:Option Ob->List Nat
 |some (.arr false _ _ 1 row)=>iY (row 0)
 |_=>[]
def i9(H:X9):Nat->List Nat->List Nat->List Nat
 |0,_,D7=>D7
 |_+1,[],D7=>D7
 |d+1,k::r,D7=>match memN k D7 with
  |true=>i9 H d r D7
  |false=>i9 H d (c9L (Y4 H k)++r) (D7++[k])
def j3(k:Nat):List Nat->Nat->Option Nat
 | [],_=>none
 |x::r,i=>match Nat.beq k x with
  |true=>some i
  |false=>j3 k r (i+1)
def gR:List Nat->Nat->Option Nat
 | [],_=>none
 |k::_,0=>some k
 |_::r,i+1=>gR r i
def a7v(ks:List Nat)(len i:Nat):Option Nat:=
 match gR ks i with
 |some k=>some k
 |none=>some (len+(i-ks.length))
def M2:X9->List Nat->List (Option Ob)->X9
 |H,k::ks,o::os=>M2 (H.set k o) ks os
 |H,_,_=>H
def obB(ρ:Nat->Option Nat):Option Ob->Option (Option Ob)
 |none=>some none
 |some ob=>(lJ ρ ob).map some
def c8(c:List T->X9->Option (T×X9×Option Prop))(H:X9)(ks:List Nat)(args:List T):Option (T×X9×Option Prop):=
 match a2U ks,O0 (S8 (λk=>j3 k ks 0) 6) args,O0 (λk=>(Y4 H k).bind (lJ λk=>j3 k ks 0)) ks with
 |true,some as,some obs=>match c as (obs.map some) with
  |some (r,H',p)=>match Nat.ble ks.length H'.length,S8 (a7v ks H.length) 6 r,O0 (obB (a7v ks H.length)) H' with
   |true,some r',some os=>some (r',M2 H ks os++os.drop ks.length,p)
   |_,_,_=>none
  |none=>none
 |_,_,_=>none
def cW:Nat->Option Nat
 |0=>none
 |k+1=>some (k+1)
def c8X:Nat->Nat->List Nat
 |_,0=>[]
 |i,n+1=>i::c8X (i+1) n
def okA(t:T):Bool:=
 match t with
 | .ref 0 0 _=>true
 |t=>match S8 cW 6 t with
  |some _=>true
  |none=>false
def c1q:X9->Nat
 |some (.arr _ _ sz _ _)::_=>sz
 |_=>0
def c1X(c:List T->X9->Option (T×X9×Option Prop))(sz n:Nat)(H:X9)(as:List T):Option (T×X9×Option Prop):=
 match H with
 |some (.arr false ty szW m row)::rest=>match m,O0 (obB cW) rest,O0 (S8 cW 6) (row 0),as.all okA&&Nat.ble sz szW with
  |1,some rest0,some cs,true=>match c8 c (some (.arr false ty sz 1 λ_=>cs.take sz)::rest0) (c8X 0 n) as with
   |some (r,some (.arr _ ty' sz' m' row')::rest',p)=>match m',Nat.beq sz' sz,S8 cW 6 r,O0 (obB cW) rest',O0 (S8 cW 6) (row' 0) with
    |1,true,some r',some rest2,some cs'=>some (r',some (.arr false ty' szW 1 λ_=>cs'++cs.drop sz)::rest2,p)
    |_,_,_,_,_=>none
   |_=>none
  |_,_,_,_=>none
 |_=>none
def H3(ks:List Nat):X9->Nat->X9
 | [],_=>[]
 |o::r,i=>(match memN i ks with|true=>o|false=>none)::H3 ks r (i+1)
def c0j(c:List T->Option (T×Option Prop))(H:X9)(ks:List Nat)(args:List T):Option (T×X9×Option Prop):=
 match O0 (M5 0 (H3 ks H 0) 6) args with
 |some bs=>match c (bs.map (·.1)) with
  |some (r,p)=>some (r,D0 H ks,mN (wA bs) p)
  |none=>none
 |none=>none
def a2O(c:List T->Option (T×X9×Option Prop))(H:X9)(args:List T):Option (T×X9×Option Prop):=
 match O0 (M5 0 H 6) args with
 |some bs=>match c (bs.map (·.1)) with
  |some (r,H',p)=>match S8 (λk=>some (H.length+k)) 6 r,O0 (obB λk=>some (H.length+k)) H' with
   |some r',some os=>some (r',H++os,mN (wA bs) p)
   |_,_=>none
  |none=>none
 |none=>none
def uB(t:T):Bool:=
 match t with
 | .int .. | .bool _| .str _| .v _=>true
 |_=>false
def c9w(v V i n a m M:Nat)(row:Nat->List T):Prop:=v=V/\i<n/\a<=m/\M=m/\∀r,r<M->∀t ∈ row r,uB t=true
def b7w(c:List T->X9->Option (T×X9×Option Prop))(H:X9)(args:List T):Option (T×X9×Option Prop):=
 match args with
 | .posl k v i j n::rest=>match rest.all (closedD 6),Y4 H k,getOwn H k v i j with
  |true,some (.fam v' ty sz N row),some A=>match c (.osl 0 0 n::rest) [some (.arr true A.A.ty A.A.sz A.A.n A.A.row)] with
   |some (r,[some (.arr true _ sz' n' row')],p)=>match oW 6 r,Nat.beq sz' A.A.sz with
    |true,true=>some (r,H.set k (some (.fam v' ty sz N (setRow row i j [.own A.A.ty sz' n' row']))),mN p (some (c9w v v' i N n A.A.n n' row')))
    |_,_=>none
   |_=>none
  |_,_,_=>none
 |_=>none
def wJ(G:H6)(H:X9)(f:FuncId)(args:List T):Option (T×X9×Option Prop):=
 match qB G f with
 |some c=>match args with
  | .posl .. ::_=>b7w c H args
  |_=>c8 c H (i9 H 64 (iY args) []) args
 |none=>match gmk G f with
  |some c=>a2O c H args
  |none=>match gfz G f with
   |some c=>c0j c H (i9 H 64 (iY args) []) args
   |none=>none
def bB(s:W4):Operand->Option (FuncId×List T)
 | .func f=>some (f,[])
 |x=>match K6 s x with
  | .fn (.func f) cs=>some (f,cs)
  | .v (.func (.func f) first caps)=>match first.toList,caps.toList with
   | [],[]=>some (f,[])
   |_,_=>none
  |_=>none
def zA(G:H6)(H:X9)(f:FuncId)(args:List T):Option (T×Option Prop):=
 match args.all (closedD 6) with
 |true=>gam G f args
 |false=>match O0 (M5 0 H 6) args with
  |some bs=>match gam G f (bs.map (·.1)) with
   |some (r,p)=>match oW 6 r with
    |true=>some (r,mN (wA bs) p)
    |false=>none
   |none=>none
  |none=>none
def I8(P:Program)(G:H6)(s:W4)(H:X9)(op:Op):Option (T×X9×Option Prop):=
 match L6 P s H op with
 |some (t,p)=>some (t,H,p)
 |none=>match y8 P s H op with
  |some r=>some r
  |none=>match op with
   | .call {callee:=.value x,args, .. }=>match isEff G x with
    |true=>match x with
     | .func f=>wJ G H f (args.toList.map (K6 s))
     |x=>match bB s x with
      |some (f,cs)=>match isEff G (.func f) with
       |true=>wJ G H f (args.toList.map (K6 s)++cs)
       |false=>(zA G H f (args.toList.map (K6 s)++cs)).map λr=>(r.1,H,r.2)
      |none=>none
    |false=>match bB s x with
     |some (f,cs)=>(zA G H f (args.toList.map (K6 s)++cs)).map λr=>(r.1,H,r.2)
     |none=>none
   |_=>none
def y5(P:Program)(G:H6)(s:W4)(H:X9)(op:Op):Option (T×X9×Option Prop):=
 match sO G op with
 |true=>match a3o P s op with
  |some (t,p)=>some (t,H,p)
  |none=>none
 |false=>I8 P G s H op
structure Sy where
 s:W4
 H:X9
abbrev C5:=List (Nat×Bool)
abbrev y3:=List (Nat×C5)
def S9:y3->Nat->C5
 | [],_=>[]
 |(j,p)::r,t=>match Nat.beq t j with|true=>p|false=>S9 r t
def nX:C5->C5->Bool
 | [],[]=>true
 |(a,b)::p,(c,d)::q=>Nat.beq a c&&(b==d)&&nX p q
 |_,_=>false
def sufB(p:C5):C5->Bool
 | []=>nX p []
 |x::q=>nX p (x::q)||sufB p q
def A2(s:W4):C5->Prop->Prop
 | [],p=>p
 |(t,b)::r,p=>match zH s t with
  | .bool x=>A2 s r (x=b->p)
  |_=>False
def rK(s:W4):C5->Bool
 | []=>true
 |(t,_)::r=>match zH s t with
  | .bool _=>rK s r
  |_=>false
def Z7(n:Nat)(row row':Nat->List T):Prop:=∀i,i<n->row i=row' i
def yD:Nat->T->T->Prop
 |0,_,_=>False
 |d+1,t,t'=>
  match t,t' with
  |_,.und=>True
  | .int k a,.int k' b=>match decide (k=k') with|true=>a=b|false=>False
  | .bool a,.bool b=>a=b
  | .str a,.str b=>a=b
  | .bys a,.bys b=>a=b
  | .v (.slice none 0 0),.sl _ n _=>n=0
  | .v (.slice none 0 0),.bys l=>l=[]
  | .emp,.sl _ n _=>n=0
  | .emp,.bys l=>l=[]
  | .emp,.emp=>True
  | .v x,.v y=>x=y
  | .sl sz n row,.sl sz' m row'=>match Nat.beq sz sz' with|true=>n=m/\Z7 n row row'|false=>False
  | .ref k i j,.ref k' i' j'=>match Nat.beq k k' with|true=>i=i'/\j=j'|false=>False
  | .osl k off n,.osl k' off' n'=>match Nat.beq k k' with|true=>off=off'/\n=n'|false=>False
  | .mpr k,.mpr k'=>match Nat.beq k k' with|true=>True|false=>False
  | .agg as,.agg bs=>matsV (yD d) as bs
  | .tup as,.tup bs=>matsV (yD d) as bs
  | .fn f as,.fn g bs=>f=g/\matsV (yD d) as bs
  | .bref as,.bref bs=>match bs.all W5 with|true=>matsP (yD d) as bs|false=>False
  |_,_=>False
where
 matsP (f:T->T->Prop):List T->List T->Prop
 |_,[]=>True
 |a::r,b::q=>f a b/\matsP f r q
 |_,_=>False
 matsV (f:T->T->Prop):List T->List T->Prop
 | [],[]=>True
 |a::r,b::q=>f a b/\matsV f r q
 |_,_=>False
def kM(as bs:List T):Prop:=yD.matsV (yD 6) as bs
def b9F:T->T->Prop
 | .own _ sz n row,.own _ sz' n' row'=>sz=sz'/\n=n'/\Z7 n row row'
 |t,t'=>t=t'
def b58:List T->List T->Prop
 | [],[]=>True
 |a::r,b::q=>b9F a b/\b58 r q
 |_,_=>False
def V2(n:Nat)(row row':Nat->List T):Prop:=∀i,i<n->b58 (row i) (row' i)
def a3H(o o':Option Ob):Prop:=
 match o,o' with
 |some (.arr cl _ sz n row),some (.arr cl' _ sz' n' row')=>match Nat.beq sz sz',cl,cl' with
  |true,true,true=>n=n'/\Z7 n row row'
  |true,_,false=>match(row' 0).all H7 with
   |true=>n=1/\n'=1/\yD.matsV (yD 6) (row 0) (row' 0)
   |false=>False
  |_,_,_=>False
 |some (.fam v _ sz n row),some (.fam v' _ sz' n' row')=>match Nat.beq sz sz' with
  |true=>v=v'/\n=n'/\V2 n row row'
  |false=>False
 |some (.bys _ l),some (.bys _ l')=>l=l'
 |_,_=>False
def a9e:X9->X9->Prop
 | [],[]=>True
 |o::r,o'::r'=>a3H o o'/\a9e r r'
 |_,_=>False
def c2t(r:Rle)(x:r.ι)(as:List T)(H:X9):Option (T×X9×Option Prop):=
 match Nat.ble 9 (c1q (r.pre x))&& !Nat.beq (c1q H) (c1q (r.pre x)) with
 |false=>some (r.res x,r.post x,some (kM as (r.args x)/\a9e H (r.pre x)/\r.side x))
 |true=>c1X (λas H=>some (r.res x,r.post x,some (kM as (r.args x)/\a9e H (r.pre x)/\r.side x))) (c1q (r.pre x)) (r.pre x).length H as
def c4X(G:H6)(s:W4):Op->Option (FuncId×Con)
 | .call {callee:=.value x, .. }=>match bB s x with
  |some (f,_)=>(c1l G f).map λr=>(f,r)
  |none=>none
 |_=>none
def c9M(f:FuncId)(r:Rl)(x:r.ι)(G:H6):H6:=(f,.pure λas=>some (r.res x,some (kM as (r.args x)/\r.side x)))::G
def b06(f:FuncId)(r:Rle)(x:r.ι)(G:H6):H6:=(f,.eff λas H=>c2t r x as H)::G
def c80(f:FuncId)(r:Rle)(x:r.ι)(G:H6):H6:=(f,.mk λas=>some (r.res x,r.post x,some (kM as (r.args x)/\r.side x)))::G
def c89(f:FuncId)(r:Rl)(x:r.ι)(G:H6):H6:=(f,.fz λas=>some (r.res x,some (kM as (r.args x)/\r.side x)))::G
def c0n:H6->FuncId->Option Con
 | [],_=>none
 |(g,_)::r,f=>match Nat.beq f g with
  |true=>s9 r f
  |false=>c0n r f
def fP(G:H6)(s:W4)(op:Op)(k:H6->Prop):Prop:=
 match c4X G s op with
 |none=>k G
 |some (f,c)=>match c with
  | .rel r=>∃x:r.ι,k (c9M f r x G)
  | .reff r=>match c0n G f with
   |some (.reff r2)=>(∃x:r.ι,k (b06 f r x G))∨∃x:r2.ι,k (b06 f r2 x G)
   |_=>∃x:r.ι,k (b06 f r x G)
  | .rmk r=>∃x:r.ι,k (c80 f r x G)
  | .rfz r=>∃x:r.ι,k (c89 f r x G)
  |_=>k G
def kC(s:W4)(h:C5):Option Prop->Prop->Prop
 |none,q=>q
 |some p,q=>A2 s h p/\q
def fT(ps:y3)(h:C5):Operand->Bool
 | .tmp t=>sufB (S9 ps t) h
 |_=>true
def F6(ps:y3)(h:C5)(op:Op):Bool:=
 match op with
 | .pick (.tmp t) a b=>sufB (S9 ps t) h&&fT ps ((t,true)::h) a&&fT ps ((t,false)::h) b
 | .pick _ _ _=>false
 |op=>op.operands.toList.all (fT ps h)
def dY(ps:y3)(d:Nat):Bool:=ps.all λx=> !Nat.beq x.1 d&&x.2.all λy=> !Nat.beq y.1 d
def gA(ps:y3):Option Tmp->Bool
 |none=>true
 |some d=>dY ps d
def wT(s:W4)(d:Option Tmp)(t:T):W4:=match d with|some d=>(d,t)::s|none=>s
def bO(ps:y3)(d:Option Tmp)(p:C5):y3:=match d with|some d=>(d,p)::ps|none=>ps
def K7(s:W4):y3->W4
 | []=>s
 |(d,_)::r=>(d,.und)::K7 s r
def q8(G:H6)(op:Op):Bool:=
 match op with
 | .box .. | .alloc .. | .store .. | .makeSlice .. | .buildSlice .. | .makeMap .. | .mapUpdate .. | .slice _ _ _ _ (some _)=>false
 | .call {callee:=.builtin .append, .. }=>false
 | .call {callee:=.builtin .clear, .. }=>false
 | .call {callee:=.value x, .. }=> !isEff G x
 |_=>true
def stays(G:H6)(op:Op):Bool:=
 match sO G op with
 |true=>true
 |false=>q8 G op
def jZ(nt:Nat):Option Tmp->Bool
 |none=>true
 |some d=>Nat.blt d nt
def mM(ps:y3)(g:Nat):Option Tmp->Bool
 |none=>false
 |some d=> !Nat.beq d g&&(S9 ps g).all λy=> !Nat.beq y.1 d
def a83(P:Program)(s:W4):Op->Option (Nat×Bool)
 | .binOp op t x y _=>match P.underlying t,K6 s x,K6 s y,op with
  |some (.slice _),.sl _ n _,.v (.slice none 0 0),.eql=>some (n,false)
  |some (.slice _),.sl _ n _,.v (.slice none 0 0),.neq=>some (n,true)
  |some (.slice _),.osl _ _ n,.v (.slice none 0 0),.eql=>some (n,false)
  |some (.slice _),.osl _ _ n,.v (.slice none 0 0),.neq=>some (n,true)
  |_,_,_,_=>none
 |_=>none
def c73(b:Bool)(n:Nat):Prop:=b=true->n=0
def xL(P:Program)(G:H6)(nt:Nat)(all:Array Oper):List Oper->W4->y3->X9->(W4->X9->Prop)->Prop
 | [],s,ps,H,K=>K (K7 s ps) H
 |o::rest,s,ps,H,K=>
  match o.guard with
  |none=>match F6 ps [] o.op&&gA ps o.dst&&jZ nt o.dst with
   |false=>False
   |true=>match a83 P s o.op with
    |some (n,neg)=>∀b:Bool,c73 b n->xL P G nt all rest (wT s o.dst (.bool (cond neg (!b) b))) ps H K
    |none=>fP G s o.op λG'=>match y5 P G' s H o.op with
     |some (t,H',side)=>kC s [] side (xL P G nt all rest (wT s o.dst t) ps H' K)
     |none=>False
  |some (j,want)=>match(all[j]?).bind (·.dst) with
   |some g=>match zH s g with
    | .bool _=>match F6 ps ((g,want)::S9 ps g) o.op&&gA ps o.dst&&jZ nt o.dst&&mM ps g o.dst with
     |false=>False
     |true=>match stays G o.op with
      |true=>fP G s o.op λG'=>match y5 P G' s H o.op with
       |some (t,_,side)=>kC s ((g,want)::S9 ps g) side (xL P G nt all rest (wT s o.dst t) (bO ps o.dst ((g,want)::S9 ps g)) H K)
       |none=>False
      |false=>match rK s ((g,want)::S9 ps g) with
       |false=>False
       |true=>fP G s o.op λG'=>match y5 P G' s H o.op with
        |some (t,H',side)=>kC s ((g,want)::S9 ps g) side (A2 s ((g,want)::S9 ps g) (xL P G nt all rest (wT s o.dst t) (bO ps o.dst ((g,want)::S9 ps g)) H' K)/\
          (A2 s ((g,want)::S9 ps g) False->xL P G nt all rest (wT s o.dst t) (bO ps o.dst ((g,want)::S9 ps g)) H K))
        |none=>False
    |_=>False
   |none=>False
def maskOf(t:List Nat):List Edge->Nat
 | []=>0
 |e::r=>match Region.binds .any e with
  |true=>Nat.lor (Nat.lor (Nat.shiftLeft 1 e.on) (t.getD e.on 0)) (maskOf t r)
  |false=>maskOf t r
def sC:List Operand->List Nat
 | []=>[]
 | .tmp t::r=>t::sC r
 |_::r=>sC r
def nZ(all:Array Oper)(o:Oper):List Nat:=
 match o.guard with
 |none=>sC o.op.operands.toList
 |some (j,_)=>match(all[j]?).bind (·.dst) with
  |some g=>g::sC o.op.operands.toList
  |none=>sC o.op.operands.toList
def xP(G:H6)(op:Op):Bool:=
 match op with
 | .box .. | .alloc .. | .makeSlice .. | .buildSlice .. | .makeMap .. | .slice _ _ _ (some _) (some _)=>true
 | .call {callee:=.value x, .. }=>isMk G x
 |_=>false
def b0U(op:Op):Bool:=
 match op with
 | .call {callee:=.value _, .. }=>true
 |_=>false
def b8N(op:Op):Bool:=
 match op with
 | .buildSlice .. =>true
 |_=>false
def floatB(G:H6)(op:Op):Bool:=b8N op||(b0U op&&xP G op)
def b2N(G:H6)(op:Op):Bool:=
 match op with
 | .call {callee:=.value x, .. }=>isEf G x
 |_=>false
def C1(G:H6):Bool:=Nat.beq 8 (lZ G)
def twB(G:H6):Bool:=Nat.beq 9 (lZ G)
def c8H(o:Oper):Bool:=
 match o.guard with
 |some _=>false
 |none=>match o.op with
  | .call {callee:=.builtin .append, .. }=>true
  |_=>false
def iE:List Oper->Nat->Option Nat->Option Nat
 | [],_,r=>r
 |o::l,i,r=>iE l (i+1) (match c8H o with|true=>some i|false=>r)
def b8Q(i:Nat)(o:Oper):Bool:=o.after.toList.all λe=> !Region.binds .any e||Nat.blt e.on i
def gdB(i:Nat)(o:Oper):Bool:=
 match o.guard with
 |some (j,_)=>Nat.blt j i
 |none=>true
def a5P(k:Nat):List Oper->List Nat->Bool
 | [],_=>true
 |o::r,tab=>b8Q tab.length o&&gdB tab.length o&&(Nat.blt tab.length k||Nat.beq (maskOf tab o.after.toList) (2 ^ tab.length-1))&&a5P k r (tab++[maskOf tab o.after.toList])
def l7(fl:Bool)(o:Oper):Bool:=
 match o.guard with
 |some _=>false
 |none=>match o.op with
  | .alloc _=>true
  | .call {callee:=.builtin .append, .. }=>fl
  |_=>false
def wO(fl:Bool):List Oper->Nat
 | []=>0
 |o::r=>match l7 fl o with
  |true=>wO fl r+1
  |false=>wO fl r
def kP(fl:Bool)(b:Nat)(all:Array Oper)(i:Nat):Nat:=b+wO fl (all.toList.take i)
def a6j(P:Program)(s:W4)(H:X9)(op:Op)(r:Nat):Option (T×X9×Option Prop):=
 match op with
 | .alloc t=>match zeroCells P t with
  |some z=>match Nat.beq z.length 0,z.all H7,Y4 H r,Nat.blt r H.length with
   |false,true,none,true=>some (.ref r 0 0,H.set r (some (.arr (z.all W5) 1000000 z.length 1 λ_=>z)),none)
   |_,_,_,_=>none
  |none=>none
 | .call {callee:=.builtin .append,args,argTypes}=>match args.toList,argTypes.toList with
  | [d,x],[t,tx]=>match K6 s d,P.underlying t with
   | .emp,some (.slice e)=>match P.info? e,zeroCells P e with
    |some i,some z=>match Nat.beq z.length i.size,wP [] (P.underlying tx) i.size (K6 s x) with
     |true,some q=>match q.cl,Y4 H r,Nat.blt r H.length with
      |true,none,true=>some (.osl r 0 q.n,H.set r (some (.arr true e i.size q.n q.row)),some (kI q.side (U8 0 q.n i.bytes)))
      |_,_,_=>none
     |_,_=>none
    |_,_=>none
   |_,_=>none
  |_,_=>none
 |_=>none
def a1k(H:X9):Nat->X9
 |0=>H
 |n+1=>H++List.replicate (n+1) none++[some (.arr true 0 1 0 λ_=>[])]
def b1j(u:Option Tmp)(l:List Nat):Bool:=
 match u with
 |some u=>l.any λv=>Nat.beq u v
 |none=>false
def a2K(a b:Option Tmp):Bool:=
 match a,b with
 |some a,some b=>Nat.beq a b
 |_,_=>false
def pureB(op:Op):Bool:=
 match op with
 | .move _| .assign _| .pick .. | .nilCheck _| .binOp .. | .unOp .. | .fieldAddr .. | .field .. | .extract .. | .build .. | .makeFunc .. | .index .. =>true
 |_=>false
def a0G(s:W4)(op:Op):Option (List Nat):=
 match op with
 | .load _ a=>match K6 s a with
  | .ref k _ _=>some [k]
  | .bref _=>some []
  |_=>none
 | .indexAddr _ x _=>match K6 s x with
  | .sl .. | .bys _=>some []
  | .osl k _ _=>some [k]
  |_=>none
 | .convert _ _ x=>match K6 s x with
  | .str _| .bys _| .int .. =>some []
  |_=>none
 | .slice _ x _ _ none=>match K6 s x with
  | .str _| .bys _| .sl .. =>some []
  | .osl k _ _=>some [k]
  |_=>none
 | .buildSlice .. =>some []
 | .call {callee:=.builtin .len, .. }=>some []
 | .call {callee:=.builtin .append, .. }=>some []
 | .call {callee:=.value x,args, .. }=>match bB s x with
  |some (_,cs)=>match(args.toList.map (K6 s)++cs).all (closedD 6) with
   |true=>some []
   |false=>none
  |none=>none
 |_=>none
def tN(H:X9)(s:W4)(op:Op):Option (List Nat):=
 match op with
 | .call {callee:=.builtin .append,args, .. }=>match args.toList with
  |d::_=>match K6 s d with
   | .osl k _ _=>match Y4 H k with
    |some (.fam ..)=>none
    |_=>some [k]
   | .v _=>some []
   | .emp=>some []
   |_=>none
  | []=>none
 | .store _ a x=>match K6 s a with
  | .ref k _ _=>match Y4 H k with
   |some (.fam ..)=>match(U7 (K6 s x)).all closedOne with
    |true=>some [k]
    |false=>none
   |_=>some [k]
  | .pref k _ _ _ _ _ _=>some [k]
  |_=>none
 | .call {callee:=.value x,args, .. }=>match bB s x with
  |some (_,cs)=>match args.toList.map (K6 s)++cs with
   | .posl .. ::_=>none
   |as=>some (i9 H 64 (iY as) [])
  |none=>none
 |_=>none
abbrev RW:=Option (List Nat)×Option (List Nat)
def pB(H:X9)(s:W4)(op:Op):RW:=(a0G s op,tN H s op)
def disjB(r w:Option (List Nat)):Bool:=
 match r,w with
 |some r,some w=>r.all λk=>w.all λj=> !Nat.beq k j
 |_,_=>false
def l9(G:H6)(all:Array Oper)(m i:Nat)(x:Oper)(f:RW)(o:Oper)(fo:RW):Bool:=
 !a2K x.dst o.dst&&(Nat.testBit m i||(!b1j x.dst (nZ all o)&& !b1j o.dst (nZ all x)&&(match stays G x.op,stays G o.op with
  |true,true=>true
  |true,false=>xP G o.op||pureB x.op||disjB f.1 fo.2
  |false,true=>xP G x.op||pureB o.op||disjB fo.1 f.2
  |false,false=>l7 (C1 G) o&&(l7 (C1 G) x||floatB G x.op||(b2N G x.op&&f.2.isSome)))))
def a1v(i:Nat)(o:Oper):Bool:=o.after.toList.all λe=> !Region.binds .any e||Nat.blt e.on i
def y6(H0:X9):List (Nat×X9)->X9
 | []=>H0
 |(_,H)::_=>H
def A6(fl:Bool)(all:Array Oper)(k:Nat):Bool:=
 match all[k]? with
 |some o=>l7 fl o
 |none=>false
def hAt(fl:Bool)(all:Array Oper)(H0:X9)(m:Nat):List (Nat×X9)->X9
 | []=>H0
 |(k,H)::r=>match Nat.testBit m k&& !A6 fl all k with
  |true=>H
  |false=>hAt fl all H0 m r
def sY(P:Program)(G:H6)(nt:Nat)(all:Array Oper)(b:Nat)(H0:X9):List Oper->Nat->List (Nat×Oper×RW)->List Nat->W4->y3->List (Nat×X9)->(W4->X9->Prop)->Prop
 | [],_,_,_,s,ps,hist,K=>K (K7 s ps) (y6 H0 hist)
 |o::rest,i,earlier,tab,s,ps,hist,K=>
  match a1v i o&&earlier.all (λx=>l9 G all (maskOf tab o.after.toList) x.1 x.2.1 x.2.2 o (pB (y6 H0 hist) s o.op)) with
  |false=>False
  |true=>match o.guard with
   |none=>match F6 ps [] o.op&&gA ps o.dst&&jZ nt o.dst with
    |false=>False
    |true=>match l7 (C1 G) o with
     |true=>match a6j P s (y6 H0 hist) o.op (kP (C1 G) b all i) with
      |some (y,H',side)=>kC s [] side (sY P G nt all b H0 rest (i+1) ((i,o,pB (y6 H0 hist) s o.op)::earlier) (tab++[maskOf tab o.after.toList]) (wT s o.dst y) ps ((i,H')::hist) K)
      |none=>False
     |false=>match stays G o.op with
      |true=>fP G s o.op λG'=>match y5 P G' s (hAt (C1 G) all H0 (maskOf tab o.after.toList) hist) o.op with
       |some (t,_,side)=>kC s [] side (sY P G nt all b H0 rest (i+1) ((i,o,pB (y6 H0 hist) s o.op)::earlier) (tab++[maskOf tab o.after.toList]) (wT s o.dst t) ps hist K)
       |none=>False
      |false=>fP G s o.op λG'=>match y5 P G' s (y6 H0 hist) o.op with
       |some (t,H',side)=>kC s [] side (sY P G nt all b H0 rest (i+1) ((i,o,pB (y6 H0 hist) s o.op)::earlier) (tab++[maskOf tab o.after.toList]) (wT s o.dst t) ps ((i,H')::hist) K)
       |none=>False
   |some (j,want)=>match(all[j]?).bind (·.dst) with
    |some g=>match zH s g with
     | .bool _=>match Nat.blt j i&&F6 ps ((g,want)::S9 ps g) o.op&&gA ps o.dst&&jZ nt o.dst&&stays G o.op&&mM ps g o.dst with
      |false=>False
      |true=>fP G s o.op λG'=>match y5 P G' s (hAt (C1 G) all H0 (maskOf tab o.after.toList) hist) o.op with
       |some (t,_,side)=>kC s ((g,want)::S9 ps g) side (sY P G nt all b H0 rest (i+1) ((i,o,pB (y6 H0 hist) s o.op)::earlier) (tab++[maskOf tab o.after.toList]) (wT s o.dst t) (bO ps o.dst ((g,want)::S9 ps g)) hist K)
       |none=>False
     |_=>False
    |none=>False
def a8x(P:Program)(G:H6)(nt:Nat)(ops:Array Oper)(s:W4)(H:X9)(K:W4->X9->Prop):Prop:=
 sY P G nt ops H.length (a1k H (wO (C1 G) ops.toList)) ops.toList 0 [] [] s [] [] K
def rM(P:Program)(s:W4)(H:X9)(o:Oper)(b:Bool):Option (T×X9×Option Prop):=
 match o.guard,o.op with
 |none,.call {callee:=.builtin .append,args,argTypes}=>match args.toList,argTypes.toList with
  | [d,x],[t,tx]=>match K6 s d,P.underlying t with
   | .osl k off n,some (.slice e)=>match P.info? e,zeroCells P e,Y4 H k with
    |some i,some z,some (.arr cl _ sz N row)=>match Nat.beq z.length i.size&& !Nat.beq i.size 0&&Nat.beq sz i.size with
     |true=>(wP H (P.underlying tx) i.size (K6 s x)).map λS=>(.osl H.length (cond b 0 off) (n+S.n),H.set k none++[some (.arr (cl&&S.cl) e i.size (cond b (n+S.n) (off+n+S.n)) (cond b (X4 (λi=>row (off+i)) n S.row) (X4 row (off+n) S.row)))],some (kI S.side (Le (off+n) N/\Lt 0 S.n/\U8 (off+n) S.n i.bytes)))
     |false=>none
    |_,_,_=>none
   |_,_=>none
  |_,_=>none
 |_,_=>none
def kY(P:Program)(G:H6)(nt:Nat)(all:Array Oper)(s:W4)(H:X9)(K:W4->X9->Prop):List Oper->Prop
 | []=>False
 |o::rest=>match F6 [] [] o.op&&jZ nt o.dst with
  |false=>False
  |true=>∀b:Bool,match rM P s H o b with
   |some (t,H',side)=>kC s [] side (xL P G nt all rest (wT s o.dst t) [] H' K)
   |none=>False
def b1e:H6->H6
 | []=>[]
 |(_,.tmp)::r=>b1e r
 |x::r=>x::b1e r
def a1s:H6->H6
 | []=>[]
 |(f,.tmp)::r=>(f,.tmp)::b1e r
 |x::r=>x::a1s r
def oU(P:Program)(G:H6)(nt:Nat)(ops:Array Oper)(s:W4)(H:X9)(K:W4->X9->Prop):Prop:=
 match twB G with
 |false=>a8x P G nt ops s H K
 |true=>match iE ops.toList 0 none with
  |none=>a8x P G nt ops s H K
  |some k=>match a5P k ops.toList [] with
   |false=>a8x P G nt ops s H K
   |true=>a8x P (a1s G) nt (ops.toList.take k).toArray s H λs H=>kY P G nt ops s H K (ops.toList.drop k)
def b6F(body:(Exit->Sy->Prop)->Sy->Prop)(sub:Sy->Sy->Prop)(Q:Exit->Sy->Prop)(σ:Sy):Prop:=
 ∃(ι:Type) (I:ι->Sy) (μ:ι->Nat),(∃x,sub σ (I x))/\∀x,body (λe σ'=>match e with| .normal=>∃y,sub σ' (I y)/\μ y<μ x|e=>Q e σ') (I x)
def vc(P:Program)(G:H6)(nt:Nat)(sub:Sy->Sy->Prop):Code->(Exit->Sy->Prop)->Sy->Prop
 | .skip,Q,σ=>Q .normal σ
 | .region _ ops draw,Q,σ=>match draw with
  |false=>xL P G nt ops ops.toList σ.s [] σ.H λs H=>Q .normal ⟨s,H⟩
  |true=>oU P G nt ops σ.s σ.H λs H=>Q .normal ⟨s,H⟩
 | .seq a b,Q,σ=>vc P G nt sub a (λe σ'=>match e with| .normal=>vc P G nt sub b Q σ'|e=>Q e σ') σ
 | .cond c x y,Q,σ=>match K6 σ.s c with
  | .bool b=>(b=true->vc P G nt sub x Q σ)/\(b=false->vc P G nt sub y Q σ)
  |_=>False
 | .block id body,Q,σ=>vc P G nt sub body (λe σ'=>match e with| .exit i=>(match Nat.beq i id with|true=>Q .normal σ'|false=>Q (.exit i) σ')|e=>Q e σ') σ
 | .loop body,Q,σ=>b6F (vc P G nt sub body) sub Q σ
 | .exit id,Q,σ=>Q (.exit id) σ
 | .ret,Q,σ=>Q .ret σ
 |_,_,_=>False
def a2f(P:Program)(s:W4)(H:X9):ResultVar->Option (T×Option Prop)
 | .tmp t=>some (zH s t,none)
 | .cell a t=>xF P H t (zH s a)
def b9a(P:Program)(s:W4)(H:X9)(r:List ResultVar):Option (T×Option Prop):=
 match O0 (a2f P s H) r with
 |some [x]=>some x
 |some xs=>some (.tup (xs.map (·.1)),wA xs)
 |none=>none
def bZ:Option Prop->Prop->Prop
 |none,q=>q
 |some p,q=>p/\q
def b6y(P:Program)(R:List ResultVar)(post:T->Prop):Exit->Sy->Prop
 | .normal,σ| .ret,σ=>match b9a P σ.s σ.H R with
  |some (r,p)=>match M5 0 σ.H 6 r with
   |some (r',p')=>bZ p (bZ p' (post r'))
   |none=>False
  |none=>False
 |_,_=>False
def pS:Nat->List T->W4
 |_,[]=>[]
 |i,t::r=>(i,t)::pS (i+1) r
end Go.SS
