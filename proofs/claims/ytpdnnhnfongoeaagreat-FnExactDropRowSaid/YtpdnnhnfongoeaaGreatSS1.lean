/- A calculus of symbolic states over the model: definitions. What slots and cells hold is said as trees of data; a piece of code becomes a plain proposition. -/
import Derived.WalkKit
import Derived.WalkSpells
import Derived.WalkLawsBesides
import Derived.Lib.Strings
import Derived.Laws.BytesArg
import Derived.Deep.AppendSrc
namespace Go.SS
open Go.RowKit
abbrev Bz:Type:=List UInt8
abbrev X0:=@Option.some.injEq
abbrev P4:=@List.getD_eq_getElem?_getD
abbrev U9:=@Nat.le_refl
abbrev U5:=@Prod.mk.injEq
abbrev I3:=@List.getElem?_eq_getElem
abbrev F4:=@Option.map_eq_some_iff
abbrev G0:=@Nat.eq_of_beq_eq_true
abbrev I4:=@Bool.and_eq_true
abbrev u9:=@List.getElem?_eq_some_iff
abbrev F6:=@List.length_append
abbrev G6:=@of_decide_eq_true
abbrev E4:=@Int.toNat_natCast
abbrev D8:=@Result.andThen_ok
abbrev N5:=@Nat.zero_le
abbrev y7:=@List.mem_of_getElem?
abbrev D4:=@Nat.not_lt_zero
abbrev m9:=@of_decide_eq_false
abbrev q8:=@decide_eq_true_eq
abbrev yY:=@Nat.le_of_ble_eq_true
abbrev D6:=@Nat.zero_add
abbrev D3:=@Sem.run_bind
abbrev tA:=@Array.getElem?_eq_getElem
abbrev uI:=@decide_eq_false_iff_not
abbrev z9:=@Sem.run_pure
abbrev wU:=@Bool.or_eq_false_iff
abbrev rL:=@List.getElem?_append_left
abbrev yB:=@Nat.lt_of_lt_of_le
abbrev g7:=@List.all_eq_true
abbrev qA:=@List.getElem?_append_right
abbrev wX:=@Bool.not_eq_false'
abbrev i6:=@Option.map_some
abbrev b9:=@List.length_set
abbrev wA:=@Bool.not_eq_true'
abbrev tQ:=@decide_eq_false
abbrev vO:=@List.mem_cons
abbrev kN:=@Nat.mul_le_mul_right
abbrev oG:=@List.getElem?_map
abbrev aH:=@Array.getElem?_eq_some_iff
abbrev nV:=@Bool.or_eq_true
abbrev mR:=@decide_eq_true
abbrev j_l:=@List.take_length
abbrev j_k:=@List.getElem?_set_ne
abbrev j_j:=@List.getElem?_set_self
abbrev j_i:=@List.not_mem_nil
abbrev j_h:=@Nat.sub_self
abbrev j_g:=@List.length_range
theorem C8{p:Prop}(h:p:=by simp;omega):p:=h
theorem Z9{p:Prop}(h:p:=by omega):p:=h
theorem W7{p:Prop}(h:p:=by simp):p:=h
theorem a9t{p:Prop}(h:p:=by simpa using hl):p:=h
theorem sS{p:Prop}(h:p:=by simpa using ha):p:=h
theorem a0K{p:Prop}(h:p:=by simpa using hat):p:=h
theorem a5B{p:Prop}(h:p:=by simpa using hf):p:=h
theorem b9l{p:Prop}(h:p:=by rintro rfl;exact h hi):p:=h
theorem b0C{p:Prop}(h:p:=by have:=h.fr.size;omega):p:=h
theorem x8{p:Prop}(h:p:=by simpa using h):p:=h
theorem F7{p:Prop}(h:p:=by cases h):p:=h
theorem a0G{p:Prop}(h:p:=by simpa using hv):p:=h
theorem a0c{p:Prop}(h:p:=by rw[Nat.add_mul];omega):p:=h
theorem L6{p:Prop}(h:p:=by simp at h):p:=h
theorem M3{p:Prop}(h:p:=by simp only;omega):p:=h
theorem b8q{p:Prop}(h:p:=by cases hd with|emp a=>exact⟨a,rfl⟩):p:=h
theorem pV{p:Prop}(h:p:=by rintro _ _ _ _ _ h;cases h):p:=h
theorem b1b{p:Prop}(h:p:=by simpa using hi):p:=h
theorem a4J{p:Prop}(h:p:=by simpa using Y):p:=h
theorem eL{p:Prop}(h:p:=by simpa using X):p:=h
theorem lS{p:Prop}(h:p:=by cases Q):p:=h
theorem jL{p:Prop}(h:p:=by simpa using hb):p:=h
theorem dM{p:Prop}(h:p:=by simp[h]):p:=h
theorem wC{p:Prop}(h:p:=by cases hq):p:=h
theorem b9i{p:Prop}(h:p:=by (rw[hg] at J;cases J)):p:=h
theorem a9A{p:Prop}(h:p:=by (rw[hsty] at N;cases N)):p:=h
theorem b0F{p:Prop}(h:p:=by simpa using hpr):p:=h
theorem a0n{p:Prop}(h:p:=by simpa using he):p:=h
theorem a9s{p:Prop}(h:p:=by simpa using hxl):p:=h
theorem R4{p:Prop}(h:p:=by kernel_rfl):p:=h
theorem K3{p:Prop}(h:p:=by decide):p:=h
theorem v6{p:Prop}(h:p:=by first|rfl|trivial):p:=h
theorem a9m{p:Prop}(h:p:=by have:=M 0 (N5 _);omega):p:=h
theorem S7{p:Prop}(h:p:=by trivial):p:=h
theorem a27{p:Prop}(h:p:=by have:=m9 g;omega):p:=h
theorem a0u{p:Prop}(h:p:=by rw[L];omega):p:=h
theorem b7B{p:Prop}(h:p:=by have:=G6 h0;omega):p:=h
theorem cN{p:Prop}(h:p:=by rw[List.drop_zero,j_l]):p:=h
theorem a9B{p:Prop}(h:p:=by simp only[e];omega):p:=h
theorem X5{p:Prop}(h:p:=by dsimp only;omega):p:=h
theorem b97{p:Prop}(h:p:=by (obtain rfl:i=0:=by omega);rfl):p:=h
theorem a4X{p:Prop}(h:p:=by simpa using hu):p:=h
theorem a5L{p:Prop}(h:p:=by (try dsimp only);omega):p:=h
theorem cW{p:Prop}(h:p:=by rw[h];simp):p:=h
theorem mT{p:Prop}(h:p:=by simpa using hd):p:=h
theorem b0V{p:Prop}(h:p:=by rw[l5];exact yY rfl):p:=h
theorem a9W{p:Prop}(h:p:=by rw[a1];exact yY rfl):p:=h
theorem a2U{p:Prop}(h:p:=by rw[D6];exact b9.symm):p:=h
theorem b7i{p:Prop}(h:p:=by rw[hl];exact yY rfl):p:=h
theorem a3X{p:Prop}(h:p:=by dsimp only;rw[F6,List.length_singleton];omega):p:=h
theorem jZ{p:Prop}(h:p:=by dsimp only;rw[F6,List.length_singleton]):p:=h
theorem a9N{p:Prop}(h:p:=by show 0<=100;omega):p:=h
theorem lV{p:Prop}(h:p:=by rw[j]):p:=h
theorem yO{p:Prop}(h:p:=by rw[hIi]):p:=h
theorem jX{p:Prop}(h:p:=by rw[e1]):p:=h
theorem Z6:True:=⟨⟩
inductive T where
 |int (k:IntKind) (n:Int)
 |bool (b:Bool)
 |str (l:Bz)
 |v (x:Value)
 |bys (l:Bz)
 |sl (sz n:Nat) (row:Nat->List T)
 |bref (cells:List T)
 |ref (k i j:Nat)
 |osl (k off n:Nat)
 |agg (cs:List T)
 |tup (cs:List T)
 |fn (f:Fn) (caps:List T)
 |mpr (k:Nat)
 |own (ty:TypeId) (sz n:Nat) (row:Nat->List T)
 |posl (k v i j n:Nat)
 |pref (k v i j z a b:Nat)
 |emp
 |und
 deriving Inhabited
structure Arr where
 cl:Bool
 ty:TypeId
 sz:Nat
 n:Nat
 row:Nat->List T
inductive Ob where
 |arr (cl:Bool) (ty:TypeId) (sz n:Nat) (row:Nat->List T)
 |fam (v:Nat) (ty:TypeId) (sz n:Nat) (row:Nat->List T)
 |bys (ty:TypeId) (l:Bz)
 |mp (bo:Bool) (get:Int->Int)
 |mp2 (get:Int->Int->Bool)
def B7(l:Bz)(i:Nat):List T:=[.int .u8 ((l.getD i 0).toNat:Int)]
def Ob.toArr:Ob->Arr
 | .arr cl ty sz n row=>⟨cl,ty,sz,n,row⟩
 | .fam _ ty sz n row=>⟨false,ty,sz,n,row⟩
 | .bys ty l=>⟨true,ty,1,l.length,B7 l⟩
 | .mp _ _=>⟨true,0,0,0,λ_=>[]⟩
 | .mp2 _=>⟨true,0,0,0,λ_=>[]⟩
theorem b0b{p:Prop}(h:p:=by simp[Ob.toArr,B7] at ht;subst ht;rfl):p:=h
theorem a24{p:Prop}(h:p:=by simp[Ob.toArr]):p:=h
def Ob.isArr:Ob->Bool
 | .mp _ _=>false
 | .mp2 _=>false
 | .fam .. =>false
 |_=>true
def aJ(k v i:Nat):Nat->List T->List T
 |_,[]=>[]
 |j,.own _ _ n _::r=>.posl k v i j n::aJ k v i (j+1) r
 |j,t::r=>t::aJ k v i (j+1) r
def wI(k v:Nat)(row:Nat->List T)(i:Nat):List T:=aJ k v i 0 (row i)
abbrev X9:=List (Option Ob)
abbrev W5:=List (Nat×T)
def zL:W5->Nat->T
 | [],_=>.und
 |(j,t)::r,i=>match Nat.beq i j with|true=>t|false=>zL r i
def a1a:Value->T
 | .int k n=>.int k n
 | .bool b=>.bool b
 | .string s=>.str s.data.toList
 |x=>.v x
def K8(s:W5):Operand->T
 | .tmp t=>zL s t
 | .const c=>a1a c
 | .func f=>.v (.func (.func f) #[] #[])
 | .global g=>.v (.pointer (some ⟨g,0,none⟩))
def R3(k:IntKind)(n:Int):Prop:=k.min<=n/\n<=k.max
def W9(i:Int)(n:Nat):Prop:=0<=i/\i<n
theorem jJ{p:Prop}(h:p:=by unfold W9;omega):p:=h
def Lt(i n:Nat):Prop:=i<n
theorem Q2{p:Prop}(h:p:=by unfold Lt;omega):p:=h
theorem nE{p:Prop}(h:p:=by unfold Lt;simp only;omega):p:=h
theorem K0{p:Prop}(h:p:=by unfold Lt;dsimp only;omega):p:=h
def Nn(i:Int):Prop:=0<=i
theorem m5{p:Prop}(h:p:=by unfold Nn;omega):p:=h
def LeI(i j:Int):Prop:=i<=j
theorem sG{p:Prop}(h:p:=by unfold LeI;omega):p:=h
def Nz(i:Int):Prop:=i≠0
theorem b0A{p:Prop}(h:p:=by unfold Nz;omega):p:=h
def b0P(op:BinOp)(a b:Int):Option Bool:=
 match op with
 | .eql=>some (a==b)
 | .neq=>some (a !=b)
 | .lss=>some (decide (a<b))
 | .leq=>some (decide (a<=b))
 | .gtr=>some (decide (a>b))
 | .geq=>some (decide (a≥b))
 |_=>none
def b8Q(op:BinOp)(k:IntKind)(a b:Int):Option (T×Option Prop):=
 match op with
 | .add=>some (.int k (a+b),some (R3 k (a+b)))
 | .sub=>some (.int k (a-b),some (R3 k (a-b)))
 | .mul=>some (.int k (a*b),some (R3 k (a*b)))
 | .quo=>some (.int k (a.tdiv b),some (Nz b/\R3 k (a.tdiv b)))
 | .rem=>some (.int k (a.tmod b),some (Nz b))
 | .and=>some (.int k (bits .and k a b),none)
 | .or=>some (.int k (bits .or k a b),none)
 | .xor=>some (.int k (bits .xor k a b),none)
 | .andNot=>some (.int k (bits .andNot k a b),none)
 | .shl=>some (.int k (k.wrap (a*2 ^ (min b.toNat k.bits))),some (Nn b))
 | .shr=>some (.int k (a.fdiv (2 ^ (min b.toNat k.bits))),some (Nn b))
 |op=>(b0P op a b).map λr=>(.bool r,none)
def b6s(op:BinOp)(a b:Bz):Option (T×Option Prop):=
 match op with
 | .add=>some (.str (a++b),some (Lt (a.length+b.length) 9223372036854775808))
 | .eql=>some (.bool (a==b),none)
 | .neq=>some (.bool (!(a==b)),none)
 | .lss=>some (.bool (Op.bytesLess a b),none)
 | .leq=>some (.bool (Op.bytesLess a b||a==b),none)
 | .gtr=>some (.bool (!(Op.bytesLess a b||a==b)),none)
 | .geq=>some (.bool (!(Op.bytesLess a b)),none)
 |_=>none
def eF(op:BinOp)(k k':IntKind):Bool:=
 match op with
 | .shl| .shr=>true
 |_=>decide (k=k')
def a7h(P:Program)(t:TypeId):Bool:=
 match P.underlying t with
 |some (.struct _)|some (.array _ _)=>true
 |_=>false
def iG(P:Program)(t:TypeId)(f:Nat):Option Field:=
 match P.underlying t with
 |some (.struct fs)=>fs[f]?
 |_=>none
def wN(P:Program)(t:TypeId)(cs:List T)(off:Nat):Option T:=
 match(P.underlying t).isSome,a7h P t with
 |true,true=>match Nat.ble (off+P.cellsOf t) cs.length with
  |true=>some (.agg ((cs.drop off).take (P.cellsOf t)))
  |false=>none
 |true,false=>cs[off]?
 |false,_=>none
def b5S(P:Program)(R:TypeId->T->T->Option Bool)(xs Y:List T):List Field->Option Bool
 | []=>some true
 |f::r=>match decide (f.name= "_"),wN P f.type xs f.offset,wN P f.type Y f.offset with
  |false,some a,some b=>match R f.type a b,b5S P R xs Y r with
   |some p,some q=>some (p&&q)
   |_,_=>none
  |_,_,_=>none
def eqT(P:Program):Nat->TypeId->T->T->Option Bool
 |0,_,_,_=>none
 |d+1,t,x,y=>match P.underlying t,x,y with
  |some (.int _),.int k a,.int k' b=>match decide (k=k') with
   |true=>some (a==b)
   |false=>none
  |some .bool,.bool a,.bool b=>some (a==b)
  |some .string,.str a,.str b=>some (a==b)
  |some (.struct fs),.agg xs,.agg ys=>match P.stoodInHeld t with
   |false=>b5S P (eqT P d) xs ys fs.toList
   |true=>none
  |_,_,_=>none
def c8T(P:Program)(op:BinOp)(t:TypeId)(x y:T):Option (T×Option Prop):=
 match P.eqGuardType P.depth t,op with
 |false,.eql=>(eqT P 20 t x y).map λb=>(.bool b,none)
 |false,.neq=>(eqT P 20 t x y).map λb=>(.bool (!b),none)
 |_,_=>none
def a4Z(P:Program)(op:BinOp)(t:TypeId)(b:Bool):Option (T×Option Prop):=
 match P.underlying t,op with
 |some (.pointer e),.eql=>match decide (e=P.pointee t) with
  |true=>some (.bool b,none)
  |false=>none
 |some (.pointer e),.neq=>match decide (e=P.pointee t) with
  |true=>some (.bool (!b),none)
  |false=>none
 |_,_=>none
def b5a(P:Program)(op:BinOp)(t:TypeId)(x y:T):Option (T×Option Prop):=
 match x,y with
 | .int k a,.int k' b=>match eF op k k' with
  |true=>b8Q op k a b
  |false=>none
 | .str a,.str b=>b6s op a b
 | .bool a,.bool b=>match P.underlying t,op with
  |some .bool,.eql=>some (.bool (a==b),none)
  |some .bool,.neq=>some (.bool (!(a==b)),none)
  |_,_=>none
 | .agg xs,.agg ys=>c8T P op t (.agg xs) (.agg ys)
 | .ref ..,.v (.pointer none)=>a4Z P op t false
 | .pref ..,.v (.pointer none)=>a4Z P op t false
 | .v (.pointer none),.v (.pointer none)=>a4Z P op t true
 | .v (.slice none 0 0),.v (.slice none 0 0)=>match P.underlying t,op with
  |some (.slice _),.eql=>some (.bool true,none)
  |some (.slice _),.neq=>some (.bool false,none)
  |_,_=>none
 |_,_=>none
def inB(ty i n:Nat):Option Prop:=
 match Nat.beq ty 1000000 with
 |true=>match i,n with
  |0,1=>none
  |i,n=>some (Lt i n)
 |false=>some (Lt i n)
def Y4(H:X9)(k:Nat):Option Ob:=(H[k]?).bind id
theorem b0G{p:Prop}(h:p:=by simpa[Y4] using d):p:=h
theorem a0m{p:Prop}(h:p:=by simp[Y4] at d):p:=h
def getA(H:X9)(k:Nat):Option Arr:=match Y4 H k with
 |some (.fam v ty sz n row)=>some ⟨false,ty,sz,n,wI k v row⟩
 |some ob=>match ob.isArr with
  |true=>some ob.toArr
  |false=>none
 |none=>none
structure Own where
 v:Nat
 n:Nat
 A:Arr
def getOwn(H:X9)(k _v i j:Nat):Option Own:=match Y4 H k with
 |some (.fam v' _ _ n row)=>match(row i)[j]? with
  |some (.own ty sz m r)=>some ⟨v',n,true,ty,sz,m,r⟩
  |_=>none
 |_=>none
def PfB(v V i n a m:Nat):Prop:=v=V/\i<n/\a<m
def xJ(P:Program)(H:X9)(t:TypeId)(a:T):Option (T×Option Prop):=
 match a with
 | .bref cells=>(wN P t cells 0).map λx=>(x,none)
 | .ref k i j=>match getA H k with
  |some A=>(wN P t (A.row i) j).map λx=>(x,inB A.ty i A.n)
  |_=>none
 | .pref k v i j z a b=>match getOwn H k v i j with
  |some A=>match Nat.beq z A.A.sz with
   |true=>(wN P t (A.A.row a) b).map λx=>(x,some (PfB v A.v i A.n a A.A.n))
   |false=>none
  |none=>none
 |_=>none
def v5(P:Program)(t:TypeId)(n:Nat):Bool:=
 match P.info? t with
 |some i=>Nat.beq i.size n
 |none=>false
def y3(P:Program)(H:X9)(t:TypeId)(x I:T):Option (T×Option Prop):=
 match I with
 | .int _ i=>
  match P.underlying t,x with
  |some (.slice e),.sl sz n row=>match v5 P e sz with
   |true=>some (.bref (row i.toNat),some (W9 i n))
   |false=>none
  |some (.slice e),.bys l=>match v5 P e 1 with
   |true=>some (.bref (B7 l i.toNat),some (W9 i l.length))
   |false=>none
  |some (.slice e),.osl k off n=>match getA H k with
   |some A=>match v5 P e A.sz with
    |true=>some (.ref k (off+i.toNat) 0,some (W9 i n))
    |false=>none
   |_=>none
  |some (.slice e),.posl k v i' j n=>match getOwn H k v i' j with
   |some A=>match v5 P e A.A.sz with
    |true=>some (.pref k v i' j A.A.sz i.toNat 0,some (W9 i n))
    |false=>none
   |_=>none
  |some (.array n e),.bref cells=>match(P.info? e).isSome with
   |true=>some (.bref (cells.drop (i.toNat*P.cellsOf e)),some (W9 i n))
   |false=>none
  |some (.array n e),.ref k r j=>match(P.info? e).isSome with
   |true=>some (.ref k r (j+i.toNat*P.cellsOf e),some (W9 i n))
   |false=>none
  |_,_=>none
 |_=>none
def a9R(P:Program)(t:TypeId)(x:T):Option Int:=
 match P.underlying t,x with
 |some .string,.str l=>some l.length
 |some (.slice _),.bys l=>some l.length
 |some (.slice _),.sl _ n _=>some n
 |some (.slice _),.osl _ _ n=>some n
 |some (.slice _),.posl _ _ _ _ n=>some n
 |some (.slice _),.v (.slice none n _)=>some n
 |some (.slice _),.emp=>some 0
 |_,_=>none
def zeroCells(P:Program)(t:TypeId):Option (List T):=((P.info? t).bind (·.zero)).map λz=>z.cells.toList.map a1a
def U7:T->List T
 | .agg cs=>cs
 |t=>[t]
def I0:T->Bool
 | .agg _| .tup _| .und=>false
 | .v (.agg _)| .v (.tuple _)=>false
 |_=>true
def W6:T->Bool
 | .ref .. | .osl .. | .agg _| .tup _| .fn .. | .mpr _=>false
 | .own .. | .posl .. | .pref .. =>false
 |_=>true
def a9C:T->Bool
 | .own .. =>true
 |_=>false
def a2r(s:W5)(c a b:Operand):Option T:=
 match K8 s c with
 | .bool cb=>match a,b with
  | .const (.bool true),b=>match K8 s b with
   | .bool y=>some (.bool (cb||y))
   |_=>none
  |a,.const (.bool false)=>match K8 s a with
   | .bool x=>some (.bool (cb&&x))
   |_=>none
  |_,_=>none
 |_=>none
def Le(i n:Nat):Prop:=i<=n
theorem K2{p:Prop}(h:p:=by unfold Le;omega):p:=h
theorem X7{p:Prop}(h:p:=by repeat' first|exact rfl|exact trivial|refine And.intro ?_ ?_|exact λ_ _=>rfl|exact U9 _|exact N5 _|exact λi hi=>absurd hi (D4 i)|(unfold Le;omega)):p:=h
def vH(P:Program)(H:X9)(C dst:TypeId)(x:T):Option (T×Option Prop):=
 match P.underlying C,P.underlying dst,x with
 |some (.int _),some (.int k),.int _ n=>some (.int k (k.wrap n),none)
 |some .string,some .string,.str l=>some (.str l,none)
 |some (.slice e),some .string,.bys l=>match P.underlying e with
  |some (.int .u8)=>some (.str l,none)
  |_=>none
 |some (.slice e),some .string,.osl k off n=>match P.underlying e,Y4 H k with
  |some (.int .u8),some (.bys _ l)=>some (.str ((l.drop off).take n),some (Le (off+n) l.length))
  |_,_=>none
 |_,_,_=>none
def iF(P:Program)(t:TypeId)(x:T)(f:Nat):Option T:=
 match iG P t f,x with
 |some fd,.agg cs=>wN P fd.type cs fd.offset
 |_,_=>none
def wE(P:Program)(t:TypeId)(x:T)(f:Nat):Option T:=
 match iG P t f with
 |some d=>match v5 P d.type (P.cellsOf d.type),Nat.beq (P.cellsOf d.type) 0,x with
  |true,false,.ref k i j=>some (.ref k i (j+d.offset))
  |true,false,.bref cs=>some (.bref (cs.drop d.offset))
  |_,_,_=>none
 |none=>none
def a1t(P:Program)(t:TypeId)(x i:T):Option (T×Option Prop):=
 match P.underlying t,x,i with
 |some .string,.str l,.int _ i=>some (.int .u8 ((l.getD i.toNat 0).toNat:Int),some (W9 i l.length))
 |some (.array n e),.agg cs,.int _ i=>match v5 P e 1,wN P e cs i.toNat with
  |true,some x=>some (x,some (W9 i n))
  |_,_=>none
 |_,_,_=>none
def kB(i:Int)(n:Nat):Prop:=0<=i/\i<=n
def b1O(a h:Int)(n:Nat):Prop:=0<=a/\a<=h/\h<=n
def xH(l:Bz):Option Int->Option Int->Bz
 |none,none=>l
 |none,some h=>l.take h.toNat
 |some a,none=>l.drop a.toNat
 |some a,some h=>(l.take h.toNat).drop a.toNat
def a7z(n:Nat):Option Int->Option Int->Nat
 |none,none=>n
 |none,some h=>h.toNat
 |some a,none=>n-a.toNat
 |some a,some h=>h.toNat-a.toNat
def c63(off:Nat):Option Int->Nat
 |none=>off
 |some a=>off+a.toNat
def a6u(row:Nat->List T):Option Int->Nat->List T
 |none=>row
 |some a=>λi=>row (a.toNat+i)
def a6X(n:Nat):Option Int->Option Int->Option Prop
 |none,none=>none
 |none,some h=>some (kB h n)
 |some a,none=>some (kB a n)
 |some a,some h=>some (b1O a h n)
def vR:Option T->Option (Option Int)
 |none=>some none
 |some (.int _ i)=>some (some i)
 |_=>none
def tU(P:Program)(H:X9)(t:TypeId)(x:T)(o hi:Option T):Option (T×Option Prop):=
 match vR o,vR hi with
 |some a,some h=>match P.underlying t,x with
  |some .string,.str l=>some (.str (xH l a h),a6X l.length a h)
  |some (.slice e),.bys l=>match v5 P e 1 with
   |true=>some (.bys (xH l a h),a6X l.length a h)
   |false=>none
  |some (.slice e),.sl sz n row=>match v5 P e sz with
   |true=>some (.sl sz (a7z n a h) (a6u row a),a6X n a h)
   |false=>none
  |some (.slice e),.osl k off n=>match getA H k with
   |some A=>match v5 P e A.sz with
    |true=>some (.osl k (c63 off a) (a7z n a h),a6X n a h)
    |false=>none
   |none=>none
  |some (.slice e),.v (.slice none 0 0)=>match P.info? e with
   |some i=>match v5 P e i.size with
    |true=>some (.v (.slice none 0 0),a6X 0 a h)
    |false=>none
   |none=>none
  |_,_=>none
 |_,_=>none
def lR:T->Bool
 | .agg _=>true
 |x=>I0 x
def zR(e:Nat->Option (Nat×Nat))(cells:List T):List (Nat×T)->Option (List T)
 | []=>some cells
 |(i,x)::rest=>match e i,lR x with
  |some (off,size),true=>match Nat.beq (U7 x).length size,Nat.ble (off+(U7 x).length) cells.length with
   |true,true=>zR e (cells.take off++U7 x++cells.drop (off+(U7 x).length)) rest
   |_,_=>none
  |_,_=>none
def pP(e:Nat->Option (Nat×Nat))(m:Nat):Nat->List (Nat×T)->Option (List T)
 |n,[]=>match Nat.beq n m with
  |true=>some []
  |false=>none
 |n,(i,x)::rest=>match e i,lR x with
  |some (off,size),true=>match Nat.beq off n,Nat.beq (U7 x).length size with
   |true,true=>(pP e m (n+size) rest).map (U7 x++ ·)
   |_,_=>none
  |_,_=>none
def b0K(e:Nat->Option (Nat×Nat))(z:List T)(parts:List (Nat×T)):Option (List T):=
 match pP e z.length 0 parts with
 |some cs=>some cs
 |none=>zR e z parts
def hU(P:Program)(s:W5)(t:TypeId)(parts:Array (Nat×Operand)):Option T:=
 match zeroCells P t,P.underlying t with
 |some z,some (.struct fs)=>match fs.toList.all λf=>(P.info? f.type).isSome with
  |true=>(b0K (λi=>(fs.toList[i]?).map λf=>(f.offset,P.cellsOf f.type)) z (parts.toList.map λp=>(p.1,K8 s p.2))).map .agg
  |false=>none
 |some z,some (.array _ e)=>match(P.info? e).isSome with
  |true=>(b0K (λi=>some (i*P.cellsOf e,P.cellsOf e)) z (parts.toList.map λp=>(p.1,K8 s p.2))).map .agg
  |false=>none
 |_,_=>none
def c7G(s:W5)(fn:Fn)(d:Array Operand):T:=.fn fn (d.toList.map (K8 s))
def c8N(o:Bool)(n:Int):T:=match o with
 |true=>.bool (decide (n≠0))
 |false=>.int .i64 n
def b4p(P:Program)(t:TypeId)(o:Bool):Bool:=
 match P.underlying t with
 |some (.map kt et)=>match P.underlying kt,(P.info? et).bind (·.zero),o with
  |some (.int .i64),some (.int .i64 n),false=>decide (n=0)
  |some (.int .i64),some (.bool b),true=> !b
  |_,_,_=>false
 |_=>false
def c0X(P:Program)(t:TypeId):Bool:=
 match P.underlying t with
 |some (.int .i64)=>Nat.beq (P.cellsOf t) 1
 |_=>false
def a4b(P:Program)(t:TypeId):Bool:=
 match P.underlying t with
 |some (.struct fs)=>match fs.toList with
  | [f0,f1]=>f0.name != "_" &&f1.name != "_" &&Nat.beq f0.offset 0&&Nat.beq f1.offset 1&&c0X P f0.type&&c0X P f1.type&&Nat.beq (P.cellsOf t) 2&& !Nat.beq P.types.size 0
  |_=>false
 |_=>false
def a3v(P:Program)(t:TypeId):Bool:=
 match P.underlying t with
 |some (.map kt et)=>match(P.info? et).bind (·.zero) with
  |some (.bool b)=> !b&&P.keyTypeAt 2 kt&&P.tiled 2 kt&&P.keyType kt&&a4b P kt
  |_=>false
 |_=>false
def lC(P:Program)(H:X9)(t:TypeId)(m k:T):Option (T×Option Prop):=
 match m,k with
 | .mpr j,.int .i64 n=>match Y4 H j with
  |some (.mp bo get)=>match b4p P t bo with
   |true=>some (c8N bo (get n),none)
   |false=>none
  |_=>none
 | .mpr j,.agg [.int .i64 a,.int .i64 b]=>match Y4 H j with
  |some (.mp2 get)=>match a3v P t with
   |true=>some (.bool (get a b),some (R3 .i64 a/\R3 .i64 b))
   |false=>none
  |_=>none
 |_,_=>none
def c8H(o:Bool):T->Option Int
 | .int .i64 n=>match o with|false=>some n|true=>none
 | .bool b=>match o with|true=>some (cond b 1 0)|false=>none
 |_=>none
def a1h(P:Program)(H:X9)(t:TypeId)(m k x:T):Option X9:=
 match m,k with
 | .mpr j,.int .i64 n=>match Y4 H j with
  |some (.mp bo get)=>match b4p P t bo,c8H bo x with
   |true,some v=>some (H.set j (some (.mp bo λi=>cond (decide (i=n)) v (get i))))
   |_,_=>none
  |_=>none
 |_,_=>none
def mE(P:Program)(H:X9)(t:TypeId)(m k x:T):Option (X9×Option Prop):=
 match m,k,x with
 | .mpr j,.agg [.int .i64 a,.int .i64 b],.bool v=>match Y4 H j with
  |some (.mp2 get)=>match a3v P t with
   |true=>some (H.set j (some (.mp2 λA B=>cond (decide (A=a/\B=b)) v (get A B))),some (R3 .i64 a/\R3 .i64 b))
   |false=>none
  |_=>none
 |_,_,_=>none
def uN(P:Program)(H:X9)(t:TypeId):Option (T×X9):=
 match b4p P t true,b4p P t false with
 |true,_=>some (.mpr H.length,H++[some (.mp true λ_=>0)])
 |_,true=>some (.mpr H.length,H++[some (.mp false λ_=>0)])
 |_,_=>match a3v P t with
  |true=>some (.mpr H.length,H++[some (.mp2 λ_ _=>false)])
  |false=>none
def c6H(op:UnOp)(x:T):Option (T×Option Prop):=
 match op,x with
 | .not,.bool b=>some (.bool (!b),none)
 | .neg,.int k n=>some (.int k (0-n),some (R3 k (0-n)))
 |_,_=>none
def qZ(x:T)(i:Nat):Option T:=
 match x with
 | .tup cs=>cs[i]?
 |_=>none
def c7Y(a b:Int):Int:=if b<a then b else a
def c4D:T->T->Option (T×Option Prop)
 | .int k a,y=>match y with
  | .int _ b=>some (.int k (c7Y a b),none)
  |_=>none
 |_,_=>none
def c4p(P:Program)(t:TypeId)(x:T):Option (T×Option Prop):=
 match P.underlying t,x with
 |some (.slice _),.v (.slice none 0 0)=>some (.int .i64 0,none)
 |_,_=>none
def L9(P:Program)(s:W5)(H:X9)(op:Op):Option (T×Option Prop):=
 match op with
 | .move x| .assign x=>some (K8 s x,none)
 | .pick c a b=>(a2r s c a b).map (·,none)
 | .load t a=>xJ P H t (K8 s a)
 | .nilCheck x=>match K8 s x with
  | .ref k i j=>some (.ref k i j,none)
  | .bref cs=>some (.bref cs,none)
  |_=>none
 | .binOp op t x y _=>b5a P op t (K8 s x) (K8 s y)
 | .unOp op _ x=>c6H op (K8 s x)
 | .convert src dst x=>vH P H src dst (K8 s x)
 | .fieldAddr t x f=>(wE P t (K8 s x) f).map (·,none)
 | .field t x f=>(iF P t (K8 s x) f).map (·,none)
 | .indexAddr t x i=>y3 P H t (K8 s x) (K8 s i)
 | .index t x i=>a1t P t (K8 s x) (K8 s i)
 | .extract x i=>(qZ (K8 s x) i).map (·,none)
 | .call {callee:=.builtin .len,args,argTypes}=>match args.toList,argTypes.toList with
  | [x],[t]=>(a9R P t (K8 s x)).map λn=>(.int .i64 n,none)
  |_,_=>none
 | .slice t x lo hi none=>tU P H t (K8 s x) (lo.map (K8 s)) (hi.map (K8 s))
 | .build t parts=>(hU P s t parts).map (·,none)
 | .makeFunc fn first captured=>match first.toList with
  | []=>some (c7G s fn captured,none)
  |_=>none
 | .lookup t m k false=>lC P H t (K8 s m) (K8 s k)
 | .call {callee:=.builtin .min,args, .. }=>match args.toList with
  | [x,y]=>c4D (K8 s x) (K8 s y)
  |_=>none
 | .call {callee:=.builtin .cap,args,argTypes}=>match args.toList,argTypes.toList with
  | [x],[t]=>c4p P t (K8 s x)
  |_,_=>none
 |_=>none
def R1(n:Int):UInt8:=UInt8.ofNat n.toNat
def pL:List T->Option (List Int)
 | []=>some []
 | .int .u8 n::r=>(pL r).map (n:: ·)
 |_=>none
def b9s:List Int->Option Prop
 | []=>none
 |n::r=>match b9s r with
  |none=>some (R3 .u8 n)
  |some p=>some (R3 .u8 n/\p)
def i3(P:Program)(e:TypeId):Bool:=
 match P.underlying e,zeroCells P e with
 |some (.int .u8),some [.int .u8 n]=>decide (n=0)
 |_,_=>false
def yQ(a b c:Nat):Prop:=a*b<=c
theorem sW{p:Prop}(h:p:=by unfold yQ;omega):p:=h
def a2u(P:Program)(H:X9)(t:TypeId)(l c:T):Option (T×X9×Option Prop):=
 match P.underlying t,l,c with
 |some (.slice e),.int .i64 n,.int .i64 m=>match P.info? e,zeroCells P e with
  |some i,some z=>match Nat.beq z.length i.size,Nat.beq i.size 0,z.all I0 with
   |true,false,true=>some (.osl H.length 0 n.toNat,H++[some (match i3 P e with
     |true=>.bys e (List.replicate n.toNat 0)
     |false=>.arr (z.all W6) e i.size n.toNat λ_=>z)],some (Nn n/\LeI n m/\yQ i.bytes m.toNat 140737488355328/\Lt m.toNat 9223372036854775808))
   |_,_,_=>none
  |_,_=>none
 |_,_,_=>none
def H5(P:Program)(s:W5)(H:X9)(t:TypeId)(len:Nat)(parts:Array (Nat×Operand)):Option (T×X9×Option Prop):=
 match P.underlying t with
 |some (.slice e)=>match P.info? e,zeroCells P e with
  |some i,some z=>match Nat.beq z.length i.size,Nat.beq i.size 0,Nat.ble (len*i.size) 16777216 with
   |true,false,true=>match zR (λk=>some (k*i.size,i.size)) ((List.replicate len z).flatten) (parts.toList.map λp=>(p.1,K8 s p.2)) with
    |some cs=>match i3 P e with
     |true=>(pL cs).map λn=>(.osl H.length 0 len,H++[some (.bys e (n.map R1))],b9s n)
     |false=>match cs.all I0 with
      |true=>some (.osl H.length 0 len,H++[some (.arr (cs.all W6) e i.size len λk=>(cs.drop (k*i.size)).take i.size)],none)
      |false=>none
    |none=>none
   |_,_,_=>none
  |_,_=>none
 |_=>none
def sel(b:Bool)(x y:T):T:=match b with|true=>x|false=>y
def c9g(b:Bool)(x y:Nat->List T)(i:Nat):List T:=match b with|true=>x i|false=>y i
def mrg(b:Bool)(x y:T):T:=
 match x,y with
 | .int k n,.int k' m=>match decide (k=k') with
  |true=>.int k (cond b n m)
  |false=>sel b (.int k n) (.int k' m)
 | .bool p,.bool q=>.bool (cond b p q)
 | .str l,.str m=>.str (cond b l m)
 | .own ty sz n row,.own ty' sz' n' row'=>match decide (ty=ty'),decide (sz=sz') with
  |true,true=>.own ty sz (cond b n n') (c9g b row row')
  |_,_=>sel b (.own ty sz n row) (.own ty' sz' n' row')
 |x,y=>sel b x y
def b8X(b:Bool):List T->List T->List T
 |x::xs,o::os=>mrg b x o::b8X b xs os
 | [],os=>os
 |_::_,[]=>[]
def b5o(b:Bool):Nat->List T->List T->List T
 |0,xs,os=>b8X b xs os
 |j+1,xs,o::os=>o::b5o b j xs os
 |_+1,_,[]=>[]
def setRow(row:Nat->List T)(i j:Nat)(cs:List T)(k:Nat):List T:=b5o (Nat.beq k i) j cs (row k)
def closedOne(t:T):Bool:=W6 t&&I0 t
def c76(cs:List T):Bool:=cs.all λt=> !a9C t
def kY(i n:Nat)(cs:List T):Prop:=i<n/\c76 cs=true
structure Abs where
 cs:List T
 ks:List Nat
 side:Option Prop
def oJ(H:X9):List T->Option Abs
 | []=>some ⟨[],[],none⟩
 | .osl m off n::r=>match off,Y4 H m,oJ H r with
  |0,some (.arr true ty sz N row),some A=>some ⟨.own ty sz n row::A.cs,m::A.ks,some (match A.side with|none=>Le n N|some p=>Le n N/\p)⟩
  |_,_,_=>none
 |t::r=>match closedOne t,oJ H r with
  |true,some A=>some ⟨t::A.cs,A.ks,A.side⟩
  |_,_=>none
def D2:X9->List Nat->X9
 |H,[]=>H
 |H,k::r=>D2 (H.set k none) r
def kR:List Nat->Bool
 | []=>true
 |x::r=>r.all (λy=> !Nat.beq x y)&&kR r
def ltS(i n:Nat):Option Prop->Prop
 |none=>i<n
 |some p=>i<n/\p
def qY(P:Program)(H:X9)(t:TypeId)(a x:T):Option (X9×Option Prop):=
 match a with
 | .pref k v i j z a b=>match Y4 H k,getOwn H k v i j,v5 P t (U7 x).length,lR x,(U7 x).all closedOne with
  |some (.fam v' ty sz n row),some A,true,true,true=>match Nat.beq z A.A.sz,Nat.ble (b+(U7 x).length) A.A.sz with
   |true,true=>some (H.set k (some (.fam v' ty sz n (setRow row i j [.own A.A.ty A.A.sz A.A.n (setRow A.A.row a b (U7 x))]))),some (PfB v v' i n a A.A.n))
   |_,_=>none
  |_,_,_,_,_=>none
 | .ref k i j=>match Y4 H k,v5 P t (U7 x).length,lR x,(U7 x).all I0 with
  |some (.arr cl ty sz n row),true,true,true=>match Nat.ble (j+(U7 x).length) sz with
   |true=>some (H.set k (some (.arr (cl&&(U7 x).all W6) ty sz n (setRow row i j (U7 x)))),inB ty i n)
   |false=>none
  |some (.bys ty l),true,true,true=>match x,j with
   | .int .u8 m,0=>some (H.set k (some (.bys ty (l.set i (R1 m)))),some (Lt i l.length/\R3 .u8 m))
   |_,_=>none
  |some (.fam v ty sz n row),true,true,true=>match Nat.ble (j+(U7 x).length) sz with
   |true=>match(U7 x).all closedOne with
    |true=>some (H.set k (some (.fam v ty sz n (setRow row i j (U7 x)))),some (kY i n (((row i).drop j).take (U7 x).length)))
    |false=>match oJ H (U7 x) with
     |some A=>match kR (k::A.ks) with
      |true=>some ((D2 H A.ks).set k (some (.fam (v+1) ty sz n (setRow row i j A.cs))),some (ltS i n A.side))
      |false=>none
     |none=>none
   |false=>none
  |_,_,_,_=>none
 |_=>none
def a0b(_P:Program)(H:X9)(t:TypeId)(cs:List T):Option (T×X9×Option Prop):=
 match Nat.beq cs.length 0,cs.all I0 with
 |false,true=>some (.ref H.length 0 0,H++[some (.arr (cs.all W6) 1000000 cs.length 1 λ_=>cs)],none)
 |_,_=>none
structure Sr where
 cl:Bool
 n:Nat
 row:Nat->List T
 side:Option Prop
def sD(row:Nat->List T):Nat->Nat->List T
 |0=>row
 |off=>λi=>row (off+i)
def uG(off n m:Nat):Option Prop:=some (Le (off+n) m)
def wQ(H:X9)(d:Option TypeDesc)(sz:Nat)(x:T):Option Sr:=
 match d,x with
 |some (.slice _),.sl sz' n row=>match Nat.beq sz sz' with
  |true=>some ⟨true,n,row,none⟩
  |false=>none
 |some (.slice _),.v (.slice none 0 0)=>some ⟨true,0,λ_=>[],none⟩
 |some (.slice _),.osl k off n=>match Y4 H k with
  |some (.arr cl _ sz' m row)=>match Nat.beq sz sz' with
   |true=>some ⟨cl,n,sD row off,uG off n m⟩
   |false=>none
  |_=>none
 |_,_=>none
def b1N(H:X9)(d:Option TypeDesc)(x:T):Option (Bz×Option Prop):=
 match d,x with
 |some .string,.str l=>some (l,none)
 |some (.slice _),.bys l=>some (l,none)
 |some (.slice _),.v (.slice none 0 0)=>some ([],none)
 |some (.slice _),.osl k off n=>match Y4 H k with
  |some (.bys _ l)=>some ((l.drop off).take n,some (Le (off+n) l.length))
  |_=>none
 |_,_=>none
def kM:Option Prop->Prop->Prop
 |none,q=>q
 |some p,q=>p/\q
def X4(row:Nat->List T)(n:Nat)(row':Nat->List T)(i:Nat):List T:=
 match Nat.blt i n with
 |true=>row i
 |false=>row' (i-n)
def U8(n m bytes:Nat):Prop:=(n+m)*bytes<=140737488355328/\n+m<=9223372036854775807
theorem R0{p:Prop}(h:p:=by unfold U8;omega):p:=h
structure SrF where
 n:Nat
 row:Nat->List T
 ks:List Nat
 side:Option Prop
def c3i(H:X9)(sz:Nat)(x:T):Option SrF:=
 match x with
 | .osl k off n=>match Y4 H k with
  |some (.arr true _ sz' m row)=>match Nat.beq sz sz' with
   |true=>some ⟨n,sD row off,[],uG off n m⟩
   |false=>none
  |some (.arr false _ sz' m row)=>match Nat.beq sz sz',off,n,m with
   |true,0,1,1=>match oJ H (row 0) with
    |some A=>some ⟨1,λ_=>A.cs,A.ks,A.side⟩
    |none=>none
   |_,_,_,_=>none
  |_=>none
 |_=>none
def c6j(d:Option TypeDesc)(x:T):Option Int:=
 match d,x with
 |some (.int _),.int _ n=>some n
 |_,_=>none
def nA(P:Program)(H:X9)(t tx:TypeId)(d x:T):Option (T×X9×Option Prop):=
 match P.underlying t with
 |some (.slice e)=>match P.info? e,zeroCells P e with
  |some i,some z=>match Nat.beq z.length i.size,Nat.beq i.size 0,d with
   |true,false,.v (.slice none 0 0)=>match i3 P e with
    |true=>(b1N H (P.underlying tx) x).map λs=>(.osl H.length 0 s.1.length,H++[some (.bys e s.1)],some (kM s.2 (Lt 0 s.1.length/\U8 0 s.1.length i.bytes)))
    |false=>match c6j (P.underlying tx) x with
     |some n=>match z.all I0 with
      |true=>some (.osl H.length 0 n.toNat,H++[some (.arr (z.all W6) e i.size n.toNat λ_=>z)],some (Nn n/\Lt 0 n.toNat/\U8 0 n.toNat i.bytes))
      |false=>none
     |none=>(wQ H (P.underlying tx) i.size x).map λs=>(.osl H.length 0 s.n,H++[some (.arr s.cl e i.size s.n s.row)],some (kM s.side (Lt 0 s.n/\U8 0 s.n i.bytes)))
   |true,false,.emp=>match i3 P e with
    |true=>none
    |false=>(wQ H (P.underlying tx) i.size x).map λs=>(.osl H.length 0 s.n,H++[some (.arr s.cl e i.size s.n s.row)],some (kM s.side (U8 0 s.n i.bytes)))
   |true,false,.osl k 0 n=>match Y4 H k with
    |some (.bys _ l)=>match i3 P e with
     |true=>(b1N H (P.underlying tx) x).map λs=>(.osl H.length 0 (n+s.1.length),H.set k none++[some (.bys e (l.take n++s.1))],some (kM s.2 (Le n l.length/\U8 n s.1.length i.bytes)))
     |false=>none
    |some (.arr cl _ sz N row)=>match Nat.beq sz i.size with
     |true=>(wQ H (P.underlying tx) i.size x).map λs=>(.osl H.length 0 (n+s.n),H.set k none++[some (.arr (cl&&s.cl) e i.size (n+s.n) (X4 row n s.row))],some (kM s.side (Le n N/\U8 n s.n i.bytes)))
     |false=>none
    |some (.fam _ _ sz N row)=>match Nat.beq sz i.size,P.underlying tx,c3i H i.size x with
     |true,some (.slice _),some s=>match kR (k::s.ks) with
      |true=>some (.osl H.length 0 (n+s.n),D2 H (k::s.ks)++[some (.fam 0 e i.size (n+s.n) (X4 row n s.row))],some (kM s.side (Le n N/\U8 n s.n i.bytes)))
      |false=>none
     |_,_,_=>none
    |_=>none
   |_,_,_=>none
  |_,_=>none
 |_=>none
def a9O:T->Bool
 | .sl .. | .osl .. | .posl .. | .v (.slice none 0 0)=>true
 |_=>false
def isZ:T->Bool
 | .int _ i=>decide (i=0)
 |_=>false
def c9p:Option T->Bool
 |none=>true
 |some t=>isZ t
def mM(P:Program)(H:X9)(t:TypeId)(x:T)(l:Option T)(hi M:T):Option (T×X9×Option Prop):=
 match P.underlying t,a9O x&&c9p l&&isZ hi&&isZ M with
 |some (.slice e),true=>match P.info? e with
  |some i=>match Nat.beq i.size 0,v5 P e i.size with
   |false,true=>some (.osl H.length 0 0,H++[some (.arr true e i.size 0 λ_=>[])],none)
   |_,_=>none
  |none=>none
 |_,_=>none
def I1(row:Nat->List T)(off n:Nat)(z:List T)(j:Nat):List T:=
 match Nat.ble off j&&Nat.blt j (off+n) with
 |true=>z
 |false=>row j
def a2L(P:Program)(H:X9)(t:TypeId)(x:T):Option (T×X9×Option Prop):=
 match P.underlying t,x with
 |some (.slice e),.osl k off n=>match P.info? e,zeroCells P e,Y4 H k with
  |some i,some z,some (.arr true ty sz N row)=>match Nat.beq z.length i.size&&Nat.beq sz i.size&& !Nat.beq i.size 0&&z.all closedOne with
   |true=>some (.und,H.set k (some (.arr true ty sz N (I1 row off n z))),some (Le (off+n) N))
   |false=>none
  |_,_,_=>none
 |_,_=>none
def z5(P:Program)(s:W5)(H:X9)(op:Op):Option (T×X9×Option Prop):=
 match op with
 | .box t x=>match lR (K8 s x) with
  |true=>a0b P H t (U7 (K8 s x))
  |false=>none
 | .alloc t=>match zeroCells P t with
  |some z=>a0b P H t z
  |none=>none
 | .store t a x=>(qY P H t (K8 s a) (K8 s x)).map λr=>(.und,r.1,r.2)
 | .makeSlice t l c=>a2u P H t (K8 s l) (K8 s c)
 | .buildSlice t len parts=>H5 P s H t len parts
 | .convert src dst x=>match P.underlying src,P.underlying dst,K8 s x with
  |some .string,some (.slice e),.str l=>match i3 P e with
   |true=>some (.bys l,H,some (Lt l.length 140737488355329))
   |false=>none
  |_,_,_=>none
 | .call {callee:=.builtin .append,args,argTypes}=>match args.toList,argTypes.toList with
  | [d,x],[t,tx]=>nA P H t tx (K8 s d) (K8 s x)
  |_,_=>none
 | .makeMap t none=>(uN P H t).map λr=>(r.1,r.2,none)
 | .mapUpdate t m k x=>match a1h P H t (K8 s m) (K8 s k) (K8 s x) with
  |some r=>some (.und,r,none)
  |none=>(mE P H t (K8 s m) (K8 s k) (K8 s x)).map λr=>(.und,r.1,r.2)
 | .slice t x lo (some hi) (some mx)=>mM P H t (K8 s x) (lo.map (K8 s)) (K8 s hi) (K8 s mx)
 | .call {callee:=.builtin .clear,args,argTypes}=>match args.toList,argTypes.toList with
  | [x],[t]=>a2L P H t (K8 s x)
  |_,_=>none
 |_=>none
def O2{α β:Type}(f:α->Option β):List α->Option (List β)
 | []=>some []
 |a::r=>match f a,O2 f r with
  |some b,some q=>some (b::q)
  |_,_=>none
def mQ:Option Prop->Option Prop->Option Prop
 |none,q=>q
 |p,none=>p
 |some p,some q=>some (p/\q)
def wB:List (T×Option Prop)->Option Prop
 | []=>none
 |x::r=>mQ x.2 (wB r)
def c7u:T->T
 | .own _ sz n row=>.sl sz n row
 |t=>t
def a1y(row:Nat->List T)(i:Nat):List T:=(row i).map c7u
def PoB(v V i n a m:Nat):Prop:=v=V/\i<n/\a<=m
def eE(a b:List T):Nat->List T
 |0=>a
 |_+1=>b
def M7(b:Nat)(H:X9):Nat->T->Option (T×Option Prop)
 |0,_=>none
 |d+1,t=>match t with
  | .ref k i j=>match Nat.blt k b with
   |true=>some (.ref k i j,none)
   |false=>match getA H k with
    |some A=>match i,A.n with
     |0,1=>match O2 (M7 b H d) ((A.row 0).drop j) with
      |some cs=>match cs.all λx=>W6 x.1 with
       |true=>some (.bref (cs.map (·.1)),wB cs)
       |false=>none
      |none=>none
     |_,_=>none
    |none=>none
  | .osl k off n=>match Nat.blt k b with
   |true=>some (.osl k off n,none)
   |false=>match Y4 H k with
    |some (.arr true _ sz m row)=>some (.sl sz n (sD row off),uG off n m)
    |some (.fam _ _ sz m row)=>some (.sl sz n (a1y (sD row off)),uG off n m)
    |some (.bys _ l)=>some (.bys ((l.drop off).take n),some (Le (off+n) l.length))
    |some (.arr false _ sz m row)=>match Nat.beq off 0&&Nat.beq n 2&&Nat.beq m 2&&Nat.beq sz 1 with
     |true=>match O2 (M7 b H d) (row 0),O2 (M7 b H d) (row 1) with
      |some c0,some c1=>match(c0++c1).all λx=>W6 x.1&&I0 x.1 with
       |true=>some (.sl 1 2 (eE (c0.map (·.1)) (c1.map (·.1))),wB (c0++c1))
       |false=>none
      |_,_=>none
     |false=>none
    |_=>none
  | .agg cs=>(O2 (M7 b H d) cs).map λcs=>(.agg (cs.map (·.1)),wB cs)
  | .fn f cs=>(O2 (M7 b H d) cs).map λcs=>(.fn f (cs.map (·.1)),wB cs)
  | .tup cs=>(O2 (M7 b H d) cs).map λcs=>(.tup (cs.map (·.1)),wB cs)
  | .mpr _=>none
  | .posl k v i j n=>match Nat.blt k b with
   |true=>some (.posl k v i j n,none)
   |false=>match getOwn H k v i j with
    |some A=>some (.sl A.A.sz n A.A.row,some (PoB v A.v i A.n n A.A.n))
    |none=>none
  | .pref k v i j z a c=>match Nat.blt k b with
   |true=>some (.pref k v i j z a c,none)
   |false=>none
  | .own .. =>none
  |t=>some (t,none)
def closedD:Nat->T->Bool
 |0,_=>false
 |d+1,t=>match t with
  | .agg cs=>cs.all (closedD d)
  | .fn _ cs=>cs.all (closedD d)
  | .tup cs=>cs.all (closedD d)
  | .und=>false
  |t=>W6 t
def oX:Nat->T->Bool
 |0,_=>false
 |d+1,t=>match t with
  | .int .. | .bool _| .str _=>true
  | .agg cs=>cs.all (oX d)
  | .tup cs=>cs.all (oX d)
  |_=>false
structure Rl where
 (ι:Type)
 (args:ι->List T)
 (res:ι->T)
 (side:ι->Prop)
structure Rle where
 (ι:Type)
 (args:ι->List T)
 (pre:ι->X9)
 (res:ι->T)
 (post:ι->X9)
 (side:ι->Prop)
inductive Con where
 |pure (c:List T->Option (T×Option Prop))
 |eff (c:List T->X9->Option (T×X9×Option Prop))
 |rel (r:Rl)
 |mk (c:List T->Option (T×X9×Option Prop))
 |reff (r:Rle)
 |rmk (r:Rle)
 |fz (c:List T->Option (T×Option Prop))
 |rfz (r:Rl)
 |tmp
abbrev H9:=List (FuncId×Con)
def gam:H9->FuncId->List T->Option (T×Option Prop)
 | [],_,_=>none
 |(g,c)::r,f,args=>match Nat.beq f g with
  |true=>match c with| .pure c=>c args|_=>none
  |false=>gam r f args
def qB:H9->FuncId->Option (List T->X9->Option (T×X9×Option Prop))
 | [],_=>none
 |(g,c)::r,f=>match Nat.beq f g with
  |true=>match c with| .eff c=>some c|_=>none
  |false=>qB r f
def gmk:H9->FuncId->Option (List T->Option (T×X9×Option Prop))
 | [],_=>none
 |(g,c)::r,f=>match Nat.beq f g with
  |true=>match c with| .mk c=>some c|_=>none
  |false=>gmk r f
def gfz:H9->FuncId->Option (List T->Option (T×Option Prop))
 | [],_=>none
 |(g,c)::r,f=>match Nat.beq f g with
  |true=>match c with| .fz c=>some c|_=>none
  |false=>gfz r f
def Con.isRel:Con->Bool
 | .rel _| .reff _| .rmk _| .rfz _=>true
 |_=>false
def Con.isEff:Con->Bool
 | .eff _| .mk _| .reff _| .rmk _| .fz _| .rfz _=>true
 |_=>false
def Con.isEf:Con->Bool
 | .eff _| .reff _=>true
 |_=>false
def Con.isMk:Con->Bool
 | .mk _| .rmk _=>true
 |_=>false
def u3:H9->FuncId->Option Con
 | [],_=>none
 |(g,c)::r,f=>match Nat.beq f g with
  |true=>some c
  |false=>u3 r f
def c1c(G:H9)(f:FuncId):Option Con:=
 match u3 G f with
 |some c=>match c.isRel with
  |true=>some c
  |false=>none
 |none=>none
def a42:List T->Option (List Int)
 | []=>some []
 | .int .i64 n::r=>(a42 r).map (n:: ·)
 |_=>none
def c6m(cs:List T)(sz len:Nat):Nat->List T:=
 match a42 cs,Nat.beq sz 1&&Nat.beq cs.length len with
 |some l,true=>λk=>[.int .i64 (l.getD k 0)]
 |_,_=>λk=>(cs.drop (k*sz)).take sz
def a1X(P:Program)(s:W5)(t:TypeId)(len:Nat)(parts:Array (Nat×Operand)):Option (T×Option Prop):=
 match P.underlying t with
  |some (.slice e)=>match P.info? e,zeroCells P e with
   |some i,some z=>match Nat.beq z.length i.size,Nat.beq i.size 0,Nat.ble (len*i.size) 16777216 with
    |true,false,true=>match zR (λk=>some (k*i.size,i.size)) ((List.replicate len z).flatten) (parts.toList.map λp=>(p.1,K8 s p.2)) with
     |some cs=>match i3 P e,cs.all I0,cs.all W6 with
      |false,true,true=>some (.sl i.size len (c6m cs i.size len),none)
      |_,_,_=>none
     |none=>none
    |_,_,_=>none
   |_,_=>none
  |_=>none
def a3h(P:Program)(s:W5):Op->Option (T×Option Prop)
 | .buildSlice t 0 parts=>match P.underlying t,parts.toList with
  |some (.slice e),[]=>match P.info? e,zeroCells P e with
   |some i,some z=>match Nat.beq z.length i.size,Nat.beq i.size 0 with
    |true,false=>some (.emp,none)
    |_,_=>none
   |_,_=>none
  |_,_=>none
 | .call {callee:=.builtin .append,args,argTypes}=>match args.toList,argTypes.toList with
  | [d,x],[t,tx]=>match K8 s d,P.underlying t with
   | .emp,some (.slice e)=>match P.info? e,zeroCells P e with
    |some i,some z=>match Nat.beq z.length i.size,wQ [] (P.underlying tx) i.size (K8 s x) with
     |true,some q=>match q.cl with
      |true=>some (.sl i.size q.n q.row,some (kM q.side (U8 0 q.n i.bytes)))
      |false=>none
     |_,_=>none
    |_,_=>none
   |_,_=>none
  |_,_=>none
 | .buildSlice t (n+1) parts=>a1X P s t (n+1) parts
 |_=>none
def mB:H9->Nat
 | []=>0
 |(_,.tmp)::r=>mB r+1
 |_::r=>mB r
def Q5(n:Nat)(args:List Operand):Bool:=
 match Nat.ble 8 n with
 |true=>false
 |false=>match Nat.ble 4 n with
 |true=>match args with
  | .tmp d::_=>match Nat.beq (n % 2) 0 with
   |true=>Nat.blt n d
   |false=>Nat.blt d n
  |_=>true
 |false=>Nat.ble 3 n
def sN(G:H9):Op->Bool
 | .buildSlice _ (_+1) _=>Nat.ble 1 (mB G)&& !Nat.beq 9 (mB G)
 | .buildSlice _ 0 _=>Nat.ble 2 (mB G)&& !Nat.beq 9 (mB G)
 | .call {callee:=.builtin .append,args, .. }=>Q5 (mB G) args.toList
 |_=>false
def anyEff:H9->Bool
 | []=>false
 |(_,c)::r=>c.isEff||anyEff r
def isEff(G:H9):Operand->Bool
 | .func f=>match u3 G f with
  |some c=>c.isEff
  |none=>false
 |_=>anyEff G
def isEf(G:H9):Operand->Bool
 | .func f=>match u3 G f with
  |some c=>c.isEf
  |none=>false
 |_=>false
def isMk(G:H9):Operand->Bool
 | .func f=>match u3 G f with
  |some c=>c.isMk
  |none=>false
 |_=>false
def S8(ρ:Nat->Option Nat):Nat->T->Option T
 |0,_=>none
 |d+1,t=>match t with
  | .ref k i j=>(ρ k).map λm=>.ref m i j
  | .osl k off n=>(ρ k).map λm=>.osl m off n
  | .mpr k=>(ρ k).map .mpr
  | .posl k v i j n=>(ρ k).map λm=>.posl m v i j n
  | .pref k v i j z a b=>(ρ k).map λm=>.pref m v i j z a b
  | .agg cs=>(O2 (S8 ρ d) cs).map .agg
  | .tup cs=>(O2 (S8 ρ d) cs).map .tup
  | .fn f cs=>(O2 (S8 ρ d) cs).map (.fn f)
  |t=>some t
def lK(ρ:Nat->Option Nat)(ob:Ob):Option Ob:=
 match ob with
 | .bys ty l=>some (.bys ty l)
 | .fam v ty sz n row=>some (.fam v ty sz n row)
 | .arr true ty sz n row=>some (.arr true ty sz n row)
 | .arr false ty sz n row=>match n with
  |1=>(O2 (S8 ρ 6) (row 0)).map λr=>.arr false ty sz 1 λ_=>r
  |_=>none
 | .mp bo get=>some (.mp bo get)
 | .mp2 get=>some (.mp2 get)
def memN(k:Nat):List Nat->Bool
 | []=>false
 |x::r=>Nat.beq k x||memN k r
def a2O:List Nat->Bool
 | []=>true
 |x::r=> !memN x r&&a2O r
def jE:List T->List Nat
 | []=>[]
 | .ref k _ _::r=>k::jE r
 | .osl k _ _::r=>k::jE r
 | .agg cs::r=>idsA cs++jE r
 | .fn _ cs::r=>idsA cs++jE r
 |_::r=>jE r
where
 idsA:List T->List Nat
 | []=>[]
 | .ref k _ _::r=>k::idsA r
 | .osl k _ _::r=>k::idsA r
 |_::r=>idsA r
def c9k:Option Ob->List Nat
 |some (.arr false _ _ 1 row)=>jE (row 0)
 |_=>[]
def j5(H:X9):Nat->List Nat->List Nat->List Nat
 |0,_,D9=>D9
 |_+1,[],D9=>D9
 |d+1,k::r,D9=>match memN k D9 with
  |true=>j5 H d r D9
  |false=>j5 H d (c9k (Y4 H k)++r) (D9++[k])
def j6(k:Nat):List Nat->Nat->Option Nat
 | [],_=>none
 |x::r,i=>match Nat.beq k x with
  |true=>some i
  |false=>j6 k r (i+1)
def gW:List Nat->Nat->Option Nat
 | [],_=>none
 |k::_,0=>some k
 |_::r,i+1=>gW r i
def a7r(ks:List Nat)(len i:Nat):Option Nat:=
 match gW ks i with
 |some k=>some k
 |none=>some (len+(i-ks.length))
def M5:X9->List Nat->List (Option Ob)->X9
 |H,k::ks,o::os=>M5 (H.set k o) ks os
 |H,_,_=>H
def obB(ρ:Nat->Option Nat):Option Ob->Option (Option Ob)
 |none=>some none
 |some ob=>(lK ρ ob).map some
def g8(c:List T->X9->Option (T×X9×Option Prop))(H:X9)(ks:List Nat)(args:List T):Option (T×X9×Option Prop):=
 match a2O ks,O2 (S8 (λk=>j6 k ks 0) 6) args,O2 (λk=>(Y4 H k).bind (lK λk=>j6 k ks 0)) ks with
 |true,some as,some obs=>match c as (obs.map some) with
  |some (r,H',p)=>match Nat.ble ks.length H'.length,S8 (a7r ks H.length) 6 r,O2 (obB (a7r ks H.length)) H' with
   |true,some r',some os=>some (r',M5 H ks os++os.drop ks.length,p)
   |_,_,_=>none
  |none=>none
 |_,_,_=>none
def dC:Nat->Option Nat
 |0=>none
 |k+1=>some (k+1)
def c8u:Nat->Nat->List Nat
 |_,0=>[]
 |i,n+1=>i::c8u (i+1) n
def okA(t:T):Bool:=
 match t with
 | .ref 0 0 _=>true
 |t=>match S8 dC 6 t with
  |some _=>true
  |none=>false
def c1h:X9->Nat
 |some (.arr _ _ sz _ _)::_=>sz
 |_=>0
def c1M(c:List T->X9->Option (T×X9×Option Prop))(sz n:Nat)(H:X9)(as:List T):Option (T×X9×Option Prop):=
 match H with
 |some (.arr false ty szW m row)::rest=>match m,O2 (obB dC) rest,O2 (S8 dC 6) (row 0),as.all okA&&Nat.ble sz szW with
  |1,some rest0,some cs,true=>match g8 c (some (.arr false ty sz 1 λ_=>cs.take sz)::rest0) (c8u 0 n) as with
   |some (r,some (.arr _ ty' sz' m' row')::rest',p)=>match m',Nat.beq sz' sz,S8 dC 6 r,O2 (obB dC) rest',O2 (S8 dC 6) (row' 0) with
    |1,true,some r',some rest2,some cs'=>some (r',some (.arr false ty' szW 1 λ_=>cs'++cs.drop sz)::rest2,p)
    |_,_,_,_,_=>none
   |_=>none
  |_,_,_,_=>none
 |_=>none
def H7(ks:List Nat):X9->Nat->X9
 | [],_=>[]
 |o::r,i=>(match memN i ks with|true=>o|false=>none)::H7 ks r (i+1)
def c30(c:List T->Option (T×Option Prop))(H:X9)(ks:List Nat)(args:List T):Option (T×X9×Option Prop):=
 match O2 (M7 0 (H7 ks H 0) 6) args with
 |some bs=>match c (bs.map (·.1)) with
  |some (r,p)=>some (r,D2 H ks,mQ (wB bs) p)
  |none=>none
 |none=>none
def a2I(c:List T->Option (T×X9×Option Prop))(H:X9)(args:List T):Option (T×X9×Option Prop):=
 match O2 (M7 0 H 6) args with
 |some bs=>match c (bs.map (·.1)) with
  |some (r,H',p)=>match S8 (λk=>some (H.length+k)) 6 r,O2 (obB λk=>some (H.length+k)) H' with
   |some r',some os=>some (r',H++os,mQ (wB bs) p)
   |_,_=>none
  |none=>none
 |none=>none
def uC(t:T):Bool:=
 match t with
 | .int .. | .bool _| .str _| .v _=>true
 |_=>false
def c84(v V i n a m M:Nat)(row:Nat->List T):Prop:=v=V/\i<n/\a<=m/\M=m/\∀r,r<M->∀t ∈ row r,uC t=true
def b7p(c:List T->X9->Option (T×X9×Option Prop))(H:X9)(args:List T):Option (T×X9×Option Prop):=
 match args with
 | .posl k v i j n::rest=>match rest.all (closedD 6),Y4 H k,getOwn H k v i j with
  |true,some (.fam v' ty sz N row),some A=>match c (.osl 0 0 n::rest) [some (.arr true A.A.ty A.A.sz A.A.n A.A.row)] with
   |some (r,[some (.arr true _ sz' n' row')],p)=>match oX 6 r,Nat.beq sz' A.A.sz with
    |true,true=>some (r,H.set k (some (.fam v' ty sz N (setRow row i j [.own A.A.ty sz' n' row']))),mQ p (some (c84 v v' i N n A.A.n n' row')))
    |_,_=>none
   |_=>none
  |_,_,_=>none
 |_=>none
def wK(G:H9)(H:X9)(f:FuncId)(args:List T):Option (T×X9×Option Prop):=
 match qB G f with
 |some c=>match args with
  | .posl .. ::_=>b7p c H args
  |_=>g8 c H (j5 H 64 (jE args) []) args
 |none=>match gmk G f with
  |some c=>a2I c H args
  |none=>match gfz G f with
   |some c=>c30 c H (j5 H 64 (jE args) []) args
   |none=>none
def bH(s:W5):Operand->Option (FuncId×List T)
 | .func f=>some (f,[])
 |x=>match K8 s x with
  | .fn (.func f) cs=>some (f,cs)
  | .v (.func (.func f) first caps)=>match first.toList,caps.toList with
   | [],[]=>some (f,[])
   |_,_=>none
  |_=>none
def zD(G:H9)(H:X9)(f:FuncId)(args:List T):Option (T×Option Prop):=
 match args.all (closedD 6) with
 |true=>gam G f args
 |false=>match O2 (M7 0 H 6) args with
  |some bs=>match gam G f (bs.map (·.1)) with
   |some (r,p)=>match oX 6 r with
    |true=>some (r,mQ (wB bs) p)
    |false=>none
   |none=>none
  |none=>none
def J1(P:Program)(G:H9)(s:W5)(H:X9)(op:Op):Option (T×X9×Option Prop):=
 match L9 P s H op with
 |some (t,p)=>some (t,H,p)
 |none=>match z5 P s H op with
  |some r=>some r
  |none=>match op with
   | .call {callee:=.value x,args, .. }=>match isEff G x with
    |true=>match x with
     | .func f=>wK G H f (args.toList.map (K8 s))
     |x=>match bH s x with
      |some (f,cs)=>match isEff G (.func f) with
       |true=>wK G H f (args.toList.map (K8 s)++cs)
       |false=>(zD G H f (args.toList.map (K8 s)++cs)).map λr=>(r.1,H,r.2)
      |none=>none
    |false=>match bH s x with
     |some (f,cs)=>(zD G H f (args.toList.map (K8 s)++cs)).map λr=>(r.1,H,r.2)
     |none=>none
   |_=>none
def y8(P:Program)(G:H9)(s:W5)(H:X9)(op:Op):Option (T×X9×Option Prop):=
 match sN G op with
 |true=>match a3h P s op with
  |some (t,p)=>some (t,H,p)
  |none=>none
 |false=>J1 P G s H op
structure Sy where
 s:W5
 H:X9
abbrev C6:=List (Nat×Bool)
abbrev y6:=List (Nat×C6)
def S9:y6->Nat->C6
 | [],_=>[]
 |(j,p)::r,t=>match Nat.beq t j with|true=>p|false=>S9 r t
def nZ:C6->C6->Bool
 | [],[]=>true
 |(a,b)::p,(c,d)::q=>Nat.beq a c&&(b==d)&&nZ p q
 |_,_=>false
def sufB(p:C6):C6->Bool
 | []=>nZ p []
 |x::q=>nZ p (x::q)||sufB p q
def A5(s:W5):C6->Prop->Prop
 | [],p=>p
 |(t,b)::r,p=>match zL s t with
  | .bool x=>A5 s r (x=b->p)
  |_=>False
def rK(s:W5):C6->Bool
 | []=>true
 |(t,_)::r=>match zL s t with
  | .bool _=>rK s r
  |_=>false
def Z7(n:Nat)(row row':Nat->List T):Prop:=∀i,i<n->row i=row' i
def yG:Nat->T->T->Prop
 |0,_,_=>False
 |d+1,t,t'=>
  match t,t' with
  |_,.und=>True
  | .int k a,.int k' b=>match decide (k=k') with|true=>a=b|false=>False
  | .bool a,.bool b=>a=b
  | .str a,.str b=>a=b
  | .bys a,.bys b=>a=b
  | .v (.slice none 0 0),.sl _ n _=>n=0
  | .v (.slice none 0 0),.bys l=>l=[]
  | .emp,.sl _ n _=>n=0
  | .emp,.bys l=>l=[]
  | .emp,.emp=>True
  | .v x,.v y=>x=y
  | .sl sz n row,.sl sz' m row'=>match Nat.beq sz sz' with|true=>n=m/\Z7 n row row'|false=>False
  | .ref k i j,.ref k' i' j'=>match Nat.beq k k' with|true=>i=i'/\j=j'|false=>False
  | .osl k off n,.osl k' off' n'=>match Nat.beq k k' with|true=>off=off'/\n=n'|false=>False
  | .mpr k,.mpr k'=>match Nat.beq k k' with|true=>True|false=>False
  | .agg as,.agg bs=>matsV (yG d) as bs
  | .tup as,.tup bs=>matsV (yG d) as bs
  | .fn f as,.fn g bs=>f=g/\matsV (yG d) as bs
  | .bref as,.bref bs=>match bs.all W6 with|true=>matsP (yG d) as bs|false=>False
  |_,_=>False
where
 matsP (f:T->T->Prop):List T->List T->Prop
 |_,[]=>True
 |a::r,b::q=>f a b/\matsP f r q
 |_,_=>False
 matsV (f:T->T->Prop):List T->List T->Prop
 | [],[]=>True
 |a::r,b::q=>f a b/\matsV f r q
 |_,_=>False
def dT(as bs:List T):Prop:=yG.matsV (yG 6) as bs
def b9w:T->T->Prop
 | .own _ sz n row,.own _ sz' n' row'=>sz=sz'/\n=n'/\Z7 n row row'
 |t,t'=>t=t'
def b54:List T->List T->Prop
 | [],[]=>True
 |a::r,b::q=>b9w a b/\b54 r q
 |_,_=>False
def V2(n:Nat)(row row':Nat->List T):Prop:=∀i,i<n->b54 (row i) (row' i)
def a3A(o o':Option Ob):Prop:=
 match o,o' with
 |some (.arr cl _ sz n row),some (.arr cl' _ sz' n' row')=>match Nat.beq sz sz',cl,cl' with
  |true,true,true=>n=n'/\Z7 n row row'
  |true,_,false=>match(row' 0).all I0 with
   |true=>n=1/\n'=1/\yG.matsV (yG 6) (row 0) (row' 0)
   |false=>False
  |_,_,_=>False
 |some (.fam v _ sz n row),some (.fam v' _ sz' n' row')=>match Nat.beq sz sz' with
  |true=>v=v'/\n=n'/\V2 n row row'
  |false=>False
 |some (.bys _ l),some (.bys _ l')=>l=l'
 |_,_=>False
def a9c:X9->X9->Prop
 | [],[]=>True
 |o::r,o'::r'=>a3A o o'/\a9c r r'
 |_,_=>False
def c2g(r:Rle)(x:r.ι)(as:List T)(H:X9):Option (T×X9×Option Prop):=
 match Nat.ble 9 (c1h (r.pre x))&& !Nat.beq (c1h H) (c1h (r.pre x)) with
 |false=>some (r.res x,r.post x,some (dT as (r.args x)/\a9c H (r.pre x)/\r.side x))
 |true=>c1M (λas H=>some (r.res x,r.post x,some (dT as (r.args x)/\a9c H (r.pre x)/\r.side x))) (c1h (r.pre x)) (r.pre x).length H as
def c4G(G:H9)(s:W5):Op->Option (FuncId×Con)
 | .call {callee:=.value x, .. }=>match bH s x with
  |some (f,_)=>(c1c G f).map λr=>(f,r)
  |none=>none
 |_=>none
def c9l(f:FuncId)(r:Rl)(x:r.ι)(G:H9):H9:=(f,.pure λas=>some (r.res x,some (dT as (r.args x)/\r.side x)))::G
def b04(f:FuncId)(r:Rle)(x:r.ι)(G:H9):H9:=(f,.eff λas H=>c2g r x as H)::G
def c8x(f:FuncId)(r:Rle)(x:r.ι)(G:H9):H9:=(f,.mk λas=>some (r.res x,r.post x,some (dT as (r.args x)/\r.side x)))::G
def c8G(f:FuncId)(r:Rl)(x:r.ι)(G:H9):H9:=(f,.fz λas=>some (r.res x,some (dT as (r.args x)/\r.side x)))::G
def c0g:H9->FuncId->Option Con
 | [],_=>none
 |(g,_)::r,f=>match Nat.beq f g with
  |true=>u3 r f
  |false=>c0g r f
def fT(G:H9)(s:W5)(op:Op)(k:H9->Prop):Prop:=
 match c4G G s op with
 |none=>k G
 |some (f,c)=>match c with
  | .rel r=>∃x:r.ι,k (c9l f r x G)
  | .reff r=>match c0g G f with
   |some (.reff r2)=>(∃x:r.ι,k (b04 f r x G))∨∃x:r2.ι,k (b04 f r2 x G)
   |_=>∃x:r.ι,k (b04 f r x G)
  | .rmk r=>∃x:r.ι,k (c8x f r x G)
  | .rfz r=>∃x:r.ι,k (c8G f r x G)
  |_=>k G
def kG(s:W5)(h:C6):Option Prop->Prop->Prop
 |none,q=>q
 |some p,q=>A5 s h p/\q
def fW(ps:y6)(h:C6):Operand->Bool
 | .tmp t=>sufB (S9 ps t) h
 |_=>true
def G1(ps:y6)(h:C6)(op:Op):Bool:=
 match op with
 | .pick (.tmp t) a b=>sufB (S9 ps t) h&&fW ps ((t,true)::h) a&&fW ps ((t,false)::h) b
 | .pick _ _ _=>false
 |op=>op.operands.toList.all (fW ps h)
def eD(ps:y6)(d:Nat):Bool:=ps.all λx=> !Nat.beq x.1 d&&x.2.all λy=> !Nat.beq y.1 d
def gF(ps:y6):Option Tmp->Bool
 |none=>true
 |some d=>eD ps d
def wV(s:W5)(d:Option Tmp)(t:T):W5:=match d with|some d=>(d,t)::s|none=>s
def bU(ps:y6)(d:Option Tmp)(p:C6):y6:=match d with|some d=>(d,p)::ps|none=>ps
def K9(s:W5):y6->W5
 | []=>s
 |(d,_)::r=>(d,.und)::K9 s r
def r6(G:H9)(op:Op):Bool:=
 match op with
 | .box .. | .alloc .. | .store .. | .makeSlice .. | .buildSlice .. | .makeMap .. | .mapUpdate .. | .slice _ _ _ _ (some _)=>false
 | .call {callee:=.builtin .append, .. }=>false
 | .call {callee:=.builtin .clear, .. }=>false
 | .call {callee:=.value x, .. }=> !isEff G x
 |_=>true
def stays(G:H9)(op:Op):Bool:=
 match sN G op with
 |true=>true
 |false=>r6 G op
def kD(nt:Nat):Option Tmp->Bool
 |none=>true
 |some d=>Nat.blt d nt
def mP(ps:y6)(g:Nat):Option Tmp->Bool
 |none=>false
 |some d=> !Nat.beq d g&&(S9 ps g).all λy=> !Nat.beq y.1 d
def a81(P:Program)(s:W5):Op->Option (Nat×Bool)
 | .binOp op t x y _=>match P.underlying t,K8 s x,K8 s y,op with
  |some (.slice _),.sl _ n _,.v (.slice none 0 0),.eql=>some (n,false)
  |some (.slice _),.sl _ n _,.v (.slice none 0 0),.neq=>some (n,true)
  |some (.slice _),.osl _ _ n,.v (.slice none 0 0),.eql=>some (n,false)
  |some (.slice _),.osl _ _ n,.v (.slice none 0 0),.neq=>some (n,true)
  |_,_,_,_=>none
 |_=>none
def c7D(b:Bool)(n:Nat):Prop:=b=true->n=0
def xQ(P:Program)(G:H9)(nt:Nat)(all:Array Oper):List Oper->W5->y6->X9->(W5->X9->Prop)->Prop
 | [],s,ps,H,K=>K (K9 s ps) H
 |o::rest,s,ps,H,K=>
  match o.guard with
  |none=>match G1 ps [] o.op&&gF ps o.dst&&kD nt o.dst with
   |false=>False
   |true=>match a81 P s o.op with
    |some (n,neg)=>∀b:Bool,c7D b n->xQ P G nt all rest (wV s o.dst (.bool (cond neg (!b) b))) ps H K
    |none=>fT G s o.op λG'=>match y8 P G' s H o.op with
     |some (t,H',side)=>kG s [] side (xQ P G nt all rest (wV s o.dst t) ps H' K)
     |none=>False
  |some (j,want)=>match(all[j]?).bind (·.dst) with
   |some g=>match zL s g with
    | .bool _=>match G1 ps ((g,want)::S9 ps g) o.op&&gF ps o.dst&&kD nt o.dst&&mP ps g o.dst with
     |false=>False
     |true=>match stays G o.op with
      |true=>fT G s o.op λG'=>match y8 P G' s H o.op with
       |some (t,_,side)=>kG s ((g,want)::S9 ps g) side (xQ P G nt all rest (wV s o.dst t) (bU ps o.dst ((g,want)::S9 ps g)) H K)
       |none=>False
      |false=>match rK s ((g,want)::S9 ps g) with
       |false=>False
       |true=>fT G s o.op λG'=>match y8 P G' s H o.op with
        |some (t,H',side)=>kG s ((g,want)::S9 ps g) side (A5 s ((g,want)::S9 ps g) (xQ P G nt all rest (wV s o.dst t) (bU ps o.dst ((g,want)::S9 ps g)) H' K)/\
          (A5 s ((g,want)::S9 ps g) False->xQ P G nt all rest (wV s o.dst t) (bU ps o.dst ((g,want)::S9 ps g)) H K))
        |none=>False
    |_=>False
   |none=>False
def maskOf(t:List Nat):List Edge->Nat
 | []=>0
 |e::r=>match Region.binds .any e with
  |true=>Nat.lor (Nat.lor (Nat.shiftLeft 1 e.on) (t.getD e.on 0)) (maskOf t r)
  |false=>maskOf t r
def sB:List Operand->List Nat
 | []=>[]
 | .tmp t::r=>t::sB r
 |_::r=>sB r
def oB(all:Array Oper)(o:Oper):List Nat:=
 match o.guard with
 |none=>sB o.op.operands.toList
 |some (j,_)=>match(all[j]?).bind (·.dst) with
  |some g=>g::sB o.op.operands.toList
  |none=>sB o.op.operands.toList
def xT(G:H9)(op:Op):Bool:=
 match op with
 | .box .. | .alloc .. | .makeSlice .. | .buildSlice .. | .makeMap .. | .slice _ _ _ (some _) (some _)=>true
 | .call {callee:=.value x, .. }=>isMk G x
 |_=>false
def b0T(op:Op):Bool:=
 match op with
 | .call {callee:=.value _, .. }=>true
 |_=>false
def b8E(op:Op):Bool:=
 match op with
 | .buildSlice .. =>true
 |_=>false
def floatB(G:H9)(op:Op):Bool:=b8E op||(b0T op&&xT G op)
def b2L(G:H9)(op:Op):Bool:=
 match op with
 | .call {callee:=.value x, .. }=>isEf G x
 |_=>false
def C3(G:H9):Bool:=Nat.beq 8 (mB G)
def twB(G:H9):Bool:=Nat.beq 9 (mB G)
def c8e(o:Oper):Bool:=
 match o.guard with
 |some _=>false
 |none=>match o.op with
  | .call {callee:=.builtin .append, .. }=>true
  |_=>false
def iJ:List Oper->Nat->Option Nat->Option Nat
 | [],_,r=>r
 |o::l,i,r=>iJ l (i+1) (match c8e o with|true=>some i|false=>r)
def b8H(i:Nat)(o:Oper):Bool:=o.after.toList.all λe=> !Region.binds .any e||Nat.blt e.on i
def gdB(i:Nat)(o:Oper):Bool:=
 match o.guard with
 |some (j,_)=>Nat.blt j i
 |none=>true
def a5I(k:Nat):List Oper->List Nat->Bool
 | [],_=>true
 |o::r,tab=>b8H tab.length o&&gdB tab.length o&&(Nat.blt tab.length k||Nat.beq (maskOf tab o.after.toList) (2 ^ tab.length-1))&&a5I k r (tab++[maskOf tab o.after.toList])
def l9(fl:Bool)(o:Oper):Bool:=
 match o.guard with
 |some _=>false
 |none=>match o.op with
  | .alloc _=>true
  | .call {callee:=.builtin .append, .. }=>fl
  |_=>false
def wP(fl:Bool):List Oper->Nat
 | []=>0
 |o::r=>match l9 fl o with
  |true=>wP fl r+1
  |false=>wP fl r
def kS(fl:Bool)(b:Nat)(all:Array Oper)(i:Nat):Nat:=b+wP fl (all.toList.take i)
def a6d(P:Program)(s:W5)(H:X9)(op:Op)(r:Nat):Option (T×X9×Option Prop):=
 match op with
 | .alloc t=>match zeroCells P t with
  |some z=>match Nat.beq z.length 0,z.all I0,Y4 H r,Nat.blt r H.length with
   |false,true,none,true=>some (.ref r 0 0,H.set r (some (.arr (z.all W6) 1000000 z.length 1 λ_=>z)),none)
   |_,_,_,_=>none
  |none=>none
 | .call {callee:=.builtin .append,args,argTypes}=>match args.toList,argTypes.toList with
  | [d,x],[t,tx]=>match K8 s d,P.underlying t with
   | .emp,some (.slice e)=>match P.info? e,zeroCells P e with
    |some i,some z=>match Nat.beq z.length i.size,wQ [] (P.underlying tx) i.size (K8 s x) with
     |true,some q=>match q.cl,Y4 H r,Nat.blt r H.length with
      |true,none,true=>some (.osl r 0 q.n,H.set r (some (.arr true e i.size q.n q.row)),some (kM q.side (U8 0 q.n i.bytes)))
      |_,_,_=>none
     |_,_=>none
    |_,_=>none
   |_,_=>none
  |_,_=>none
 |_=>none
def a1e(H:X9):Nat->X9
 |0=>H
 |n+1=>H++List.replicate (n+1) none++[some (.arr true 0 1 0 λ_=>[])]
def b1h(u:Option Tmp)(l:List Nat):Bool:=
 match u with
 |some u=>l.any λv=>Nat.beq u v
 |none=>false
def a2E(a b:Option Tmp):Bool:=
 match a,b with
 |some a,some b=>Nat.beq a b
 |_,_=>false
def pureB(op:Op):Bool:=
 match op with
 | .move _| .assign _| .pick .. | .nilCheck _| .binOp .. | .unOp .. | .fieldAddr .. | .field .. | .extract .. | .build .. | .makeFunc .. | .index .. =>true
 |_=>false
def a0C(s:W5)(op:Op):Option (List Nat):=
 match op with
 | .load _ a=>match K8 s a with
  | .ref k _ _=>some [k]
  | .bref _=>some []
  |_=>none
 | .indexAddr _ x _=>match K8 s x with
  | .sl .. | .bys _=>some []
  | .osl k _ _=>some [k]
  |_=>none
 | .convert _ _ x=>match K8 s x with
  | .str _| .bys _| .int .. =>some []
  |_=>none
 | .slice _ x _ _ none=>match K8 s x with
  | .str _| .bys _| .sl .. =>some []
  | .osl k _ _=>some [k]
  |_=>none
 | .buildSlice .. =>some []
 | .call {callee:=.builtin .len, .. }=>some []
 | .call {callee:=.builtin .append, .. }=>some []
 | .call {callee:=.value x,args, .. }=>match bH s x with
  |some (_,cs)=>match(args.toList.map (K8 s)++cs).all (closedD 6) with
   |true=>some []
   |false=>none
  |none=>none
 |_=>none
def tN(H:X9)(s:W5)(op:Op):Option (List Nat):=
 match op with
 | .call {callee:=.builtin .append,args, .. }=>match args.toList with
  |d::_=>match K8 s d with
   | .osl k _ _=>match Y4 H k with
    |some (.fam ..)=>none
    |_=>some [k]
   | .v _=>some []
   | .emp=>some []
   |_=>none
  | []=>none
 | .store _ a x=>match K8 s a with
  | .ref k _ _=>match Y4 H k with
   |some (.fam ..)=>match(U7 (K8 s x)).all closedOne with
    |true=>some [k]
    |false=>none
   |_=>some [k]
  | .pref k _ _ _ _ _ _=>some [k]
  |_=>none
 | .call {callee:=.value x,args, .. }=>match bH s x with
  |some (_,cs)=>match args.toList.map (K8 s)++cs with
   | .posl .. ::_=>none
   |as=>some (j5 H 64 (jE as) [])
  |none=>none
 |_=>none
abbrev RW:=Option (List Nat)×Option (List Nat)
def pC(H:X9)(s:W5)(op:Op):RW:=(a0C s op,tN H s op)
def disjB(r w:Option (List Nat)):Bool:=
 match r,w with
 |some r,some w=>r.all λk=>w.all λj=> !Nat.beq k j
 |_,_=>false
def m3(G:H9)(all:Array Oper)(m i:Nat)(x:Oper)(f:RW)(o:Oper)(fo:RW):Bool:=
 !a2E x.dst o.dst&&(Nat.testBit m i||(!b1h x.dst (oB all o)&& !b1h o.dst (oB all x)&&(match stays G x.op,stays G o.op with
  |true,true=>true
  |true,false=>xT G o.op||pureB x.op||disjB f.1 fo.2
  |false,true=>xT G x.op||pureB o.op||disjB fo.1 f.2
  |false,false=>l9 (C3 G) o&&(l9 (C3 G) x||floatB G x.op||(b2L G x.op&&f.2.isSome)))))
def a1r(i:Nat)(o:Oper):Bool:=o.after.toList.all λe=> !Region.binds .any e||Nat.blt e.on i
def z0(H0:X9):List (Nat×X9)->X9
 | []=>H0
 |(_,H)::_=>H
def A9(fl:Bool)(all:Array Oper)(k:Nat):Bool:=
 match all[k]? with
 |some o=>l9 fl o
 |none=>false
def hAt(fl:Bool)(all:Array Oper)(H0:X9)(m:Nat):List (Nat×X9)->X9
 | []=>H0
 |(k,H)::r=>match Nat.testBit m k&& !A9 fl all k with
  |true=>H
  |false=>hAt fl all H0 m r
def sX(P:Program)(G:H9)(nt:Nat)(all:Array Oper)(b:Nat)(H0:X9):List Oper->Nat->List (Nat×Oper×RW)->List Nat->W5->y6->List (Nat×X9)->(W5->X9->Prop)->Prop
 | [],_,_,_,s,ps,hist,K=>K (K9 s ps) (z0 H0 hist)
 |o::rest,i,earlier,tab,s,ps,hist,K=>
  match a1r i o&&earlier.all (λx=>m3 G all (maskOf tab o.after.toList) x.1 x.2.1 x.2.2 o (pC (z0 H0 hist) s o.op)) with
  |false=>False
  |true=>match o.guard with
   |none=>match G1 ps [] o.op&&gF ps o.dst&&kD nt o.dst with
    |false=>False
    |true=>match l9 (C3 G) o with
     |true=>match a6d P s (z0 H0 hist) o.op (kS (C3 G) b all i) with
      |some (y,H',side)=>kG s [] side (sX P G nt all b H0 rest (i+1) ((i,o,pC (z0 H0 hist) s o.op)::earlier) (tab++[maskOf tab o.after.toList]) (wV s o.dst y) ps ((i,H')::hist) K)
      |none=>False
     |false=>match stays G o.op with
      |true=>fT G s o.op λG'=>match y8 P G' s (hAt (C3 G) all H0 (maskOf tab o.after.toList) hist) o.op with
       |some (t,_,side)=>kG s [] side (sX P G nt all b H0 rest (i+1) ((i,o,pC (z0 H0 hist) s o.op)::earlier) (tab++[maskOf tab o.after.toList]) (wV s o.dst t) ps hist K)
       |none=>False
      |false=>fT G s o.op λG'=>match y8 P G' s (z0 H0 hist) o.op with
       |some (t,H',side)=>kG s [] side (sX P G nt all b H0 rest (i+1) ((i,o,pC (z0 H0 hist) s o.op)::earlier) (tab++[maskOf tab o.after.toList]) (wV s o.dst t) ps ((i,H')::hist) K)
       |none=>False
   |some (j,want)=>match(all[j]?).bind (·.dst) with
    |some g=>match zL s g with
     | .bool _=>match Nat.blt j i&&G1 ps ((g,want)::S9 ps g) o.op&&gF ps o.dst&&kD nt o.dst&&stays G o.op&&mP ps g o.dst with
      |false=>False
      |true=>fT G s o.op λG'=>match y8 P G' s (hAt (C3 G) all H0 (maskOf tab o.after.toList) hist) o.op with
       |some (t,_,side)=>kG s ((g,want)::S9 ps g) side (sX P G nt all b H0 rest (i+1) ((i,o,pC (z0 H0 hist) s o.op)::earlier) (tab++[maskOf tab o.after.toList]) (wV s o.dst t) (bU ps o.dst ((g,want)::S9 ps g)) hist K)
       |none=>False
     |_=>False
    |none=>False
def a8t(P:Program)(G:H9)(nt:Nat)(ops:Array Oper)(s:W5)(H:X9)(K:W5->X9->Prop):Prop:=
 sX P G nt ops H.length (a1e H (wP (C3 G) ops.toList)) ops.toList 0 [] [] s [] [] K
def rM(P:Program)(s:W5)(H:X9)(o:Oper)(b:Bool):Option (T×X9×Option Prop):=
 match o.guard,o.op with
 |none,.call {callee:=.builtin .append,args,argTypes}=>match args.toList,argTypes.toList with
  | [d,x],[t,tx]=>match K8 s d,P.underlying t with
   | .osl k off n,some (.slice e)=>match P.info? e,zeroCells P e,Y4 H k with
    |some i,some z,some (.arr cl _ sz N row)=>match Nat.beq z.length i.size&& !Nat.beq i.size 0&&Nat.beq sz i.size with
     |true=>(wQ H (P.underlying tx) i.size (K8 s x)).map λS=>(.osl H.length (cond b 0 off) (n+S.n),H.set k none++[some (.arr (cl&&S.cl) e i.size (cond b (n+S.n) (off+n+S.n)) (cond b (X4 (λi=>row (off+i)) n S.row) (X4 row (off+n) S.row)))],some (kM S.side (Le (off+n) N/\Lt 0 S.n/\U8 (off+n) S.n i.bytes)))
     |false=>none
    |_,_,_=>none
   |_,_=>none
  |_,_=>none
 |_,_=>none
def lA(P:Program)(G:H9)(nt:Nat)(all:Array Oper)(s:W5)(H:X9)(K:W5->X9->Prop):List Oper->Prop
 | []=>False
 |o::rest=>match G1 [] [] o.op&&kD nt o.dst with
  |false=>False
  |true=>∀b:Bool,match rM P s H o b with
   |some (t,H',side)=>kG s [] side (xQ P G nt all rest (wV s o.dst t) [] H' K)
   |none=>False
def b1c:H9->H9
 | []=>[]
 |(_,.tmp)::r=>b1c r
 |x::r=>x::b1c r
def a1o:H9->H9
 | []=>[]
 |(f,.tmp)::r=>(f,.tmp)::b1c r
 |x::r=>x::a1o r
def oV(P:Program)(G:H9)(nt:Nat)(ops:Array Oper)(s:W5)(H:X9)(K:W5->X9->Prop):Prop:=
 match twB G with
 |false=>a8t P G nt ops s H K
 |true=>match iJ ops.toList 0 none with
  |none=>a8t P G nt ops s H K
  |some k=>match a5I k ops.toList [] with
   |false=>a8t P G nt ops s H K
   |true=>a8t P (a1o G) nt (ops.toList.take k).toArray s H λs H=>lA P G nt ops s H K (ops.toList.drop k)
def b6A(body:(Exit->Sy->Prop)->Sy->Prop)(sub:Sy->Sy->Prop)(Q:Exit->Sy->Prop)(σ:Sy):Prop:=
 ∃(ι:Type) (I:ι->Sy) (μ:ι->Nat),(∃x,sub σ (I x))/\∀x,body (λe σ'=>match e with| .normal=>∃y,sub σ' (I y)/\μ y<μ x|e=>Q e σ') (I x)
def vc(P:Program)(G:H9)(nt:Nat)(sub:Sy->Sy->Prop):Code->(Exit->Sy->Prop)->Sy->Prop
 | .skip,Q,σ=>Q .normal σ
 | .region _ ops draw,Q,σ=>match draw with
  |false=>xQ P G nt ops ops.toList σ.s [] σ.H λs H=>Q .normal ⟨s,H⟩
  |true=>oV P G nt ops σ.s σ.H λs H=>Q .normal ⟨s,H⟩
 | .seq a b,Q,σ=>vc P G nt sub a (λe σ'=>match e with| .normal=>vc P G nt sub b Q σ'|e=>Q e σ') σ
 | .cond c x y,Q,σ=>match K8 σ.s c with
  | .bool b=>(b=true->vc P G nt sub x Q σ)/\(b=false->vc P G nt sub y Q σ)
  |_=>False
 | .block id body,Q,σ=>vc P G nt sub body (λe σ'=>match e with| .exit i=>(match Nat.beq i id with|true=>Q .normal σ'|false=>Q (.exit i) σ')|e=>Q e σ') σ
 | .loop body,Q,σ=>b6A (vc P G nt sub body) sub Q σ
 | .exit id,Q,σ=>Q (.exit id) σ
 | .ret,Q,σ=>Q .ret σ
 |_,_,_=>False
def a2b(P:Program)(s:W5)(H:X9):ResultVar->Option (T×Option Prop)
 | .tmp t=>some (zL s t,none)
 | .cell a t=>xJ P H t (zL s a)
def b81(P:Program)(s:W5)(H:X9)(r:List ResultVar):Option (T×Option Prop):=
 match O2 (a2b P s H) r with
 |some [x]=>some x
 |some xs=>some (.tup (xs.map (·.1)),wB xs)
 |none=>none
def cH:Option Prop->Prop->Prop
 |none,q=>q
 |some p,q=>p/\q
def b6u(P:Program)(R:List ResultVar)(post:T->Prop):Exit->Sy->Prop
 | .normal,σ| .ret,σ=>match b81 P σ.s σ.H R with
  |some (r,p)=>match M7 0 σ.H 6 r with
   |some (r',p')=>cH p (cH p' (post r'))
   |none=>False
  |none=>False
 |_,_=>False
def pS:Nat->List T->W5
 |_,[]=>[]
 |i,t::r=>(i,t)::pS (i+1) r
end Go.SS
