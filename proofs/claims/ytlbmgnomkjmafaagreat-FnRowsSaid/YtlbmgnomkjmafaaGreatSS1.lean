/- A part of the proof. -/
import Derived.WalkKit
import Derived.WalkSpells
import Derived.WalkLawsBesides
import Derived.Lib.Strings
import Derived.Laws.BytesArg
import Derived.Deep.AppendSrc
import Derived.MapKept
import Derived.DeepKeys3
namespace Go.SS
open Go.RowKit
variable{p:Prop}
abbrev Bz:Type:=List UInt8
abbrev X2:=@Option.some.injEq
abbrev R2:=@List.getD_eq_getElem?_getD
abbrev V8:=@Nat.le_refl
abbrev U0:=@Prod.mk.injEq
abbrev J4:=@List.getElem?_eq_getElem
abbrev O4:=@Bool.and_eq_true
abbrev K2:=@List.length_append
abbrev G4:=@Option.map_eq_some_iff
abbrev G1:=@Nat.eq_of_beq_eq_true
abbrev J5:=@Nat.not_lt_zero
abbrev w6:=@List.getElem?_eq_some_iff
abbrev G2:=@Int.toNat_natCast
abbrev O3:=@Nat.zero_le
abbrev E7:=@Result.andThen_ok
abbrev E4:=@of_decide_eq_true
abbrev A4:=@List.mem_of_getElem?
abbrev s6:=@of_decide_eq_false
abbrev r8:=@decide_eq_true_eq
abbrev zP:=@Nat.le_of_ble_eq_true
abbrev zV:=@Bool.or_eq_false_iff
abbrev D8:=@Sem.run_bind
abbrev uW:=@List.getElem?_append_left
abbrev C9:=@Nat.zero_add
abbrev uJ:=@Array.getElem?_eq_getElem
abbrev tG:=@List.getElem?_append_right
abbrev B2:=@Sem.run_pure
abbrev zF:=@Bool.not_eq_false'
abbrev i7:=@List.all_eq_true
abbrev m8:=@Option.map_some
abbrev yK:=@Nat.lt_of_lt_of_le
abbrev xV:=@Bool.not_eq_true'
abbrev qN:=@decide_eq_false_iff_not
abbrev yT:=@List.length_set
abbrev uG:=@decide_eq_false
abbrev cP:=@Array.getElem?_eq_some_iff
abbrev lD:=@Nat.mul_le_mul_right
abbrev tB:=@Bool.or_eq_true
abbrev vT:=@List.mem_cons
abbrev pW:=@List.getElem?_map
abbrev qK:=@decide_eq_true
abbrev cH:=@List.take_length
abbrev j_k:=@List.getElem?_set_ne
abbrev j_j:=@List.getElem?_set_self
abbrev j_i:=@Nat.sub_self
abbrev j_h:=@List.not_mem_nil
abbrev j_g:=@List.length_range
theorem A8(h:p:=by simpa using h):p:=h
theorem J6(h:p:=by cases h):p:=h
theorem a0n(h:p:=by simpa using hv):p:=h
theorem aM(h:p:=by rw[Nat.add_mul];omega):p:=h
theorem H8(h:p:=by simp at h):p:=h
theorem F3(h:p:=by simp only;omega):p:=h
theorem b5p(h:p:=by cases hd with|emp a=>exact⟨a,rfl⟩):p:=h
theorem aD(h:p:=by simp[hx]):p:=h
theorem qA(h:p:=by rintro _ _ _ _ _ h;cases h):p:=h
theorem aE(h:p:=by simpa using hi):p:=h
theorem qP(h:p:=by simpa using hx):p:=h
theorem a4X(h:p:=by simpa using Y):p:=h
theorem nK(h:p:=by cases Q):p:=h
theorem kA(h:p:=by simpa using hb):p:=h
theorem wO(h:p:=by cases hq):p:=h
theorem b6h(h:p:=by (rw[hg] at J;cases J)):p:=h
theorem a8C(h:p:=by (rw[hsty] at N;cases N)):p:=h
theorem a8M(h:p:=by simpa using hpr):p:=h
theorem a0d(h:p:=by simpa using he):p:=h
theorem a8K(h:p:=by simpa using hxl):p:=h
theorem O0(h:p:=by kernel_rfl):p:=h
theorem X1(h:p:=by decide):p:=h
theorem x7(h:p:=by first|rfl|trivial):p:=h
theorem a2E(h:p:=by have:=s6 g;omega):p:=h
theorem z7(h:p:=by trivial):p:=h
theorem a0z(h:p:=by rw[hl];omega):p:=h
theorem dM(h:p:=by cases e):p:=h
theorem b5Q(h:p:=by have:=E4 h0;omega):p:=h
theorem dR(h:p:=by rw[List.drop_zero,cH]):p:=h
theorem a9H(h:p:=by simp only[e];omega):p:=h
theorem X0(h:p:=by dsimp only;omega):p:=h
theorem b61(h:p:=by (obtain rfl:i=0:=by omega);rfl):p:=h
theorem a99(h:p:=by simpa using hu):p:=h
theorem nW(h:p:=by simpa using hd):p:=h
theorem a84(h:p:=by rw[l5];exact zP rfl):p:=h
theorem a9l(h:p:=by rw[a1];exact zP rfl):p:=h
theorem a2O(h:p:=by rw[C9];exact yT.symm):p:=h
theorem b5j(h:p:=by rw[hl];exact zP rfl):p:=h
theorem a0c(h:p:=by dsimp only;rw[K2,List.length_singleton];omega):p:=h
theorem kP(h:p:=by dsimp only;rw[K2,List.length_singleton]):p:=h
theorem mO(h:p:=by show(0:Int)<=_;omega):p:=h
theorem a4m(h:p:=by show(2:Int)≠6;decide):p:=h
theorem a4O(h:p:=by show(2:Int)<=2/\(2:Int)<=5;decide):p:=h
theorem a9S(h:p:=by show g<8;omega):p:=h
theorem a9M(h:p:=by show s<4;omega):p:=h
theorem a8T(h:p:=by show 0<=100;omega):p:=h
theorem sJ(h:p:=by rw[d]):p:=h
theorem zN(h:p:=by rw[hIi]):p:=h
theorem a2A(h:p:=by show _<=1000000000;omega):p:=h
theorem kN(h:p:=by rw[e1]):p:=h
theorem kJ(h:p:=by dsimp only at hc;omega):p:=h
theorem a7i(h:p:=by simp only[K2];omega):p:=h
theorem kD(h:p:=by rw[hK]):p:=h
theorem Z6:True:=⟨⟩
inductive T where
 |int (k:IntKind) (n:Int)
 |bool (b:Bool)
 |str (l:Bz)
 |v (x:Value)
 |bys (l:Bz)
 |sl (sz n:Nat) (row:Nat->List T)
 |bref (cells:List T)
 |ref (k i j:Nat)
 |osl (k off n:Nat)
 |agg (cs:List T)
 |tup (cs:List T)
 |fn (f:Fn) (caps:List T)
 |mpr (k:Nat)
 |own (ty:TypeId) (sz n:Nat) (row:Nat->List T)
 |posl (k v i j n:Nat)
 |pref (k v i j z a b:Nat)
 |emp
 |und
 deriving Inhabited
structure Arr where
 cl:Bool
 ty:TypeId
 sz:Nat
 n:Nat
 row:Nat->List T
inductive Ob where
 |arr (cl:Bool) (ty:TypeId) (sz n:Nat) (row:Nat->List T)
 |fam (v:Nat) (ty:TypeId) (sz n:Nat) (row:Nat->List T)
 |bys (ty:TypeId) (l:Bz)
 |mp (bo:Bool) (get:Int->Int)
 |mp2 (get:Int->Int->Bool)
def C5(l:Bz)(i:Nat):List T:=[.int .u8 ((l.getD i 0).toNat:Int)]
def Ob.toArr:Ob->Arr
 | .arr cl ty sz n row=>⟨cl,ty,sz,n,row⟩
 | .fam _ ty sz n row=>⟨false,ty,sz,n,row⟩
 | .bys ty l=>⟨true,ty,1,l.length,C5 l⟩
 | .mp _ _=>⟨true,0,0,0,λ_=>[]⟩
 | .mp2 _=>⟨true,0,0,0,λ_=>[]⟩
theorem a9T(h:p:=by simp[Ob.toArr,C5] at ht;subst ht;rfl):p:=h
theorem a3P(h:p:=by simp[Ob.toArr]):p:=h
def Ob.isArr:Ob->Bool
 | .mp _ _=>false
 | .mp2 _=>false
 | .fam .. =>false
 |_=>true
def aV(k v i:Nat):Nat->List T->List T
 |_,[]=>[]
 |j,.own _ _ n _::r=>.posl k v i j n::aV k v i (j+1) r
 |j,t::r=>t::aV k v i (j+1) r
def xD(k v:Nat)(row:Nat->List T)(i:Nat):List T:=aV k v i 0 (row i)
abbrev Y4:=List (Option Ob)
abbrev W5:=List (Nat×T)
def zY:W5->Nat->T
 | [],_=>.und
 |(j,t)::r,i=>match Nat.beq i j with|true=>t|false=>zY r i
def a0R:Value->T
 | .int k n=>.int k n
 | .bool b=>.bool b
 | .string s=>.str s.data.toList
 |x=>.v x
def L3(s:W5):Operand->T
 | .tmp t=>zY s t
 | .const c=>a0R c
 | .func f=>.v (.func (.func f) #[] #[])
 | .global g=>.v (.pointer (some ⟨g,0,none⟩))
def O7(k:IntKind)(n:Int):Prop:=k.min<=n/\n<=k.max
def V7(i:Int)(n:Nat):Prop:=0<=i/\i<n
theorem jY(h:p:=by unfold V7;omega):p:=h
def Lt(i n:Nat):Prop:=i<n
theorem H9(h:p:=by unfold Lt;omega):p:=h
theorem mL(h:p:=by unfold Lt;simp only;omega):p:=h
theorem D9(h:p:=by unfold Lt;dsimp only;omega):p:=h
def Nn(i:Int):Prop:=0<=i
theorem tI(h:p:=by unfold Nn;omega):p:=h
def LeI(i j:Int):Prop:=i<=j
theorem b0e(h:p:=by unfold LeI;omega):p:=h
def Nz(i:Int):Prop:=i≠0
theorem bH(h:p:=by unfold Nz;decide):p:=h
def a92(op:BinOp)(a b:Int):Option Bool:=
 match op with
 | .eql=>some (a==b)
 | .neq=>some (a !=b)
 | .lss=>some (decide (a<b))
 | .leq=>some (decide (a<=b))
 | .gtr=>some (decide (a>b))
 | .geq=>some (decide (a≥b))
 |_=>none
def b63(op:BinOp)(k:IntKind)(a b:Int):Option (T×Option Prop):=
 match op with
 | .add=>some (.int k (a+b),some (O7 k (a+b)))
 | .sub=>some (.int k (a-b),some (O7 k (a-b)))
 | .mul=>some (.int k (a*b),some (O7 k (a*b)))
 | .quo=>some (.int k (a.tdiv b),some (Nz b/\O7 k (a.tdiv b)))
 | .rem=>some (.int k (a.tmod b),some (Nz b))
 | .and=>some (.int k (bits .and k a b),none)
 | .or=>some (.int k (bits .or k a b),none)
 | .xor=>some (.int k (bits .xor k a b),none)
 | .andNot=>some (.int k (bits .andNot k a b),none)
 | .shl=>some (.int k (k.wrap (a*2 ^ (min b.toNat k.bits))),some (Nn b))
 | .shr=>some (.int k (a.fdiv (2 ^ (min b.toNat k.bits))),some (Nn b))
 |op=>(a92 op a b).map λr=>(.bool r,none)
def b4Z(op:BinOp)(a b:Bz):Option (T×Option Prop):=
 match op with
 | .add=>some (.str (a++b),some (Lt (a.length+b.length) 9223372036854775808))
 | .eql=>some (.bool (a==b),none)
 | .neq=>some (.bool (!(a==b)),none)
 | .lss=>some (.bool (Op.bytesLess a b),none)
 | .leq=>some (.bool (Op.bytesLess a b||a==b),none)
 | .gtr=>some (.bool (!(Op.bytesLess a b||a==b)),none)
 | .geq=>some (.bool (!(Op.bytesLess a b)),none)
 |_=>none
def eZ(op:BinOp)(k k':IntKind):Bool:=
 match op with
 | .shl| .shr=>true
 |_=>decide (k=k')
def a6M(P:Program)(t:TypeId):Bool:=
 match P.underlying t with
 |some (.struct _)|some (.array _ _)=>true
 |_=>false
def iZ(P:Program)(t:TypeId)(f:Nat):Option Field:=
 match P.underlying t with
 |some (.struct fs)=>fs[f]?
 |_=>none
def xJ(P:Program)(t:TypeId)(cs:List T)(off:Nat):Option T:=
 match(P.underlying t).isSome,a6M P t with
 |true,true=>match Nat.ble (off+P.cellsOf t) cs.length with
  |true=>some (.agg ((cs.drop off).take (P.cellsOf t)))
  |false=>none
 |true,false=>cs[off]?
 |false,_=>none
def b4q(P:Program)(R:TypeId->T->T->Option Bool)(xs Y:List T):List Field->Option Bool
 | []=>some true
 |f::r=>match decide (f.name= "_"),xJ P f.type xs f.offset,xJ P f.type Y f.offset with
  |false,some a,some b=>match R f.type a b,b4q P R xs Y r with
   |some p,some q=>some (p&&q)
   |_,_=>none
  |_,_,_=>none
def eqT(P:Program):Nat->TypeId->T->T->Option Bool
 |0,_,_,_=>none
 |d+1,t,x,y=>match P.underlying t,x,y with
  |some (.int _),.int k a,.int k' b=>match decide (k=k') with
   |true=>some (a==b)
   |false=>none
  |some .bool,.bool a,.bool b=>some (a==b)
  |some .string,.str a,.str b=>some (a==b)
  |some (.struct fs),.agg xs,.agg ys=>match P.stoodInHeld t with
   |false=>b4q P (eqT P d) xs ys fs.toList
   |true=>none
  |_,_,_=>none
def c7i(P:Program)(op:BinOp)(t:TypeId)(x y:T):Option (T×Option Prop):=
 match P.eqGuardType P.depth t,op with
 |false,.eql=>(eqT P 20 t x y).map λb=>(.bool b,none)
 |false,.neq=>(eqT P 20 t x y).map λb=>(.bool (!b),none)
 |_,_=>none
def a4A(P:Program)(op:BinOp)(t:TypeId)(b:Bool):Option (T×Option Prop):=
 match P.underlying t,op with
 |some (.pointer e),.eql=>match decide (e=P.pointee t) with
  |true=>some (.bool b,none)
  |false=>none
 |some (.pointer e),.neq=>match decide (e=P.pointee t) with
  |true=>some (.bool (!b),none)
  |false=>none
 |_,_=>none
def b3N(P:Program)(op:BinOp)(t:TypeId)(x y:T):Option (T×Option Prop):=
 match x,y with
 | .int k a,.int k' b=>match eZ op k k' with
  |true=>b63 op k a b
  |false=>none
 | .str a,.str b=>b4Z op a b
 | .bool a,.bool b=>match P.underlying t,op with
  |some .bool,.eql=>some (.bool (a==b),none)
  |some .bool,.neq=>some (.bool (!(a==b)),none)
  |_,_=>none
 | .agg xs,.agg ys=>c7i P op t (.agg xs) (.agg ys)
 | .ref ..,.v (.pointer none)=>a4A P op t false
 | .pref ..,.v (.pointer none)=>a4A P op t false
 | .v (.pointer none),.v (.pointer none)=>a4A P op t true
 | .v (.slice none 0 0),.v (.slice none 0 0)=>match P.underlying t,op with
  |some (.slice _),.eql=>some (.bool true,none)
  |some (.slice _),.neq=>some (.bool false,none)
  |_,_=>none
 |_,_=>none
def inB(ty i n:Nat):Option Prop:=
 match Nat.beq ty 1000000 with
 |true=>match i,n with
  |0,1=>none
  |i,n=>some (Lt i n)
 |false=>some (Lt i n)
def Z1(H:Y4)(k:Nat):Option Ob:=(H[k]?).bind id
theorem a8G(h:p:=by simpa[Z1] using d):p:=h
theorem aR(h:p:=by simp[Z1] at d):p:=h
def getA(H:Y4)(k:Nat):Option Arr:=match Z1 H k with
 |some (.fam v ty sz n row)=>some ⟨false,ty,sz,n,xD k v row⟩
 |some ob=>match ob.isArr with
  |true=>some ob.toArr
  |false=>none
 |none=>none
structure Own where
 v:Nat
 n:Nat
 A:Arr
def getOwn(H:Y4)(k _v i j:Nat):Option Own:=match Z1 H k with
 |some (.fam v' _ _ n row)=>match(row i)[j]? with
  |some (.own ty sz m r)=>some ⟨v',n,true,ty,sz,m,r⟩
  |_=>none
 |_=>none
def PfB(v V i n a m:Nat):Prop:=v=V/\i<n/\a<m
def yA(P:Program)(H:Y4)(t:TypeId)(a:T):Option (T×Option Prop):=
 match a with
 | .bref cells=>(xJ P t cells 0).map λx=>(x,none)
 | .ref k i j=>match getA H k with
  |some A=>(xJ P t (A.row i) j).map λx=>(x,inB A.ty i A.n)
  |_=>none
 | .pref k v i j z a b=>match getOwn H k v i j with
  |some A=>match Nat.beq z A.A.sz with
   |true=>(xJ P t (A.A.row a) b).map λx=>(x,some (PfB v A.v i A.n a A.A.n))
   |false=>none
  |none=>none
 |_=>none
def x6(P:Program)(t:TypeId)(n:Nat):Bool:=
 match P.info? t with
 |some i=>Nat.beq i.size n
 |none=>false
def A0(P:Program)(H:Y4)(t:TypeId)(x I:T):Option (T×Option Prop):=
 match I with
 | .int _ i=>
  match P.underlying t,x with
  |some (.slice e),.sl sz n row=>match x6 P e sz with
   |true=>some (.bref (row i.toNat),some (V7 i n))
   |false=>none
  |some (.slice e),.bys l=>match x6 P e 1 with
   |true=>some (.bref (C5 l i.toNat),some (V7 i l.length))
   |false=>none
  |some (.slice e),.osl k off n=>match getA H k with
   |some A=>match x6 P e A.sz with
    |true=>some (.ref k (off+i.toNat) 0,some (V7 i n))
    |false=>none
   |_=>none
  |some (.slice e),.posl k v i' j n=>match getOwn H k v i' j with
   |some A=>match x6 P e A.A.sz with
    |true=>some (.pref k v i' j A.A.sz i.toNat 0,some (V7 i n))
    |false=>none
   |_=>none
  |some (.array n e),.bref cells=>match(P.info? e).isSome with
   |true=>some (.bref (cells.drop (i.toNat*P.cellsOf e)),some (V7 i n))
   |false=>none
  |some (.array n e),.ref k r j=>match(P.info? e).isSome with
   |true=>some (.ref k r (j+i.toNat*P.cellsOf e),some (V7 i n))
   |false=>none
  |_,_=>none
 |_=>none
def a87(P:Program)(t:TypeId)(x:T):Option Int:=
 match P.underlying t,x with
 |some .string,.str l=>some l.length
 |some (.slice _),.bys l=>some l.length
 |some (.slice _),.sl _ n _=>some n
 |some (.slice _),.osl _ _ n=>some n
 |some (.slice _),.posl _ _ _ _ n=>some n
 |some (.slice _),.v (.slice none n _)=>some n
 |some (.slice _),.emp=>some 0
 |_,_=>none
def zeroCells(P:Program)(t:TypeId):Option (List T):=((P.info? t).bind (·.zero)).map λz=>z.cells.toList.map a0R
def U4:T->List T
 | .agg cs=>cs
 |t=>[t]
def I7:T->Bool
 | .agg _| .tup _| .und=>false
 | .v (.agg _)| .v (.tuple _)=>false
 |_=>true
def W7:T->Bool
 | .ref .. | .osl .. | .agg _| .tup _| .fn .. | .mpr _=>false
 | .own .. | .posl .. | .pref .. =>false
 |_=>true
def a8L:T->Bool
 | .own .. =>true
 |_=>false
def a2f(s:W5)(c a b:Operand):Option T:=
 match L3 s c with
 | .bool cb=>match a,b with
  | .const (.bool true),b=>match L3 s b with
   | .bool y=>some (.bool (cb||y))
   |_=>none
  |a,.const (.bool false)=>match L3 s a with
   | .bool x=>some (.bool (cb&&x))
   |_=>none
  |_,_=>none
 |_=>none
def Le(i n:Nat):Prop:=i<=n
theorem L6(h:p:=by unfold Le;omega):p:=h
theorem Y2(h:p:=by repeat' first|exact rfl|exact trivial|refine And.intro ?_ ?_|exact λ_ _=>rfl|exact V8 _|exact O3 _|exact λi hi=>absurd hi (J5 i)|(unfold Le;omega)):p:=h
def wC(P:Program)(H:Y4)(C dst:TypeId)(x:T):Option (T×Option Prop):=
 match P.underlying C,P.underlying dst,x with
 |some (.int _),some (.int k),.int _ n=>some (.int k (k.wrap n),none)
 |some .string,some .string,.str l=>some (.str l,none)
 |some (.slice e),some .string,.bys l=>match P.underlying e with
  |some (.int .u8)=>some (.str l,none)
  |_=>none
 |some (.slice e),some .string,.osl k off n=>match P.underlying e,Z1 H k with
  |some (.int .u8),some (.bys _ l)=>some (.str ((l.drop off).take n),some (Le (off+n) l.length))
  |_,_=>none
 |_,_,_=>none
def iY(P:Program)(t:TypeId)(x:T)(f:Nat):Option T:=
 match iZ P t f,x with
 |some fd,.agg cs=>xJ P fd.type cs fd.offset
 |_,_=>none
def wZ(P:Program)(t:TypeId)(x:T)(f:Nat):Option T:=
 match iZ P t f with
 |some d=>match x6 P d.type (P.cellsOf d.type),Nat.beq (P.cellsOf d.type) 0,x with
  |true,false,.ref k i j=>some (.ref k i (j+d.offset))
  |true,false,.bref cs=>some (.bref (cs.drop d.offset))
  |_,_,_=>none
 |none=>none
def a1i(P:Program)(t:TypeId)(x i:T):Option (T×Option Prop):=
 match P.underlying t,x,i with
 |some .string,.str l,.int _ i=>some (.int .u8 ((l.getD i.toNat 0).toNat:Int),some (V7 i l.length))
 |some (.array n e),.agg cs,.int _ i=>match x6 P e 1,xJ P e cs i.toNat with
  |true,some x=>some (x,some (V7 i n))
  |_,_=>none
 |_,_,_=>none
def jH(i:Int)(n:Nat):Prop:=0<=i/\i<=n
def b00(a h:Int)(n:Nat):Prop:=0<=a/\a<=h/\h<=n
def b2m(l:Bz):Option Int->Option Int->Bz
 |none,none=>l
 |none,some h=>l.take h.toNat
 |some a,none=>l.drop a.toNat
 |some a,some h=>(l.take h.toNat).drop a.toNat
def a65(n:Nat):Option Int->Option Int->Nat
 |none,none=>n
 |none,some h=>h.toNat
 |some a,none=>n-a.toNat
 |some a,some h=>h.toNat-a.toNat
def c4N(off:Nat):Option Int->Nat
 |none=>off
 |some a=>off+a.toNat
def a5W(row:Nat->List T):Option Int->Nat->List T
 |none=>row
 |some a=>λi=>row (a.toNat+i)
def a6s(n:Nat):Option Int->Option Int->Option Prop
 |none,none=>none
 |none,some h=>some (jH h n)
 |some a,none=>some (jH a n)
 |some a,some h=>some (b00 a h n)
def wL:Option T->Option (Option Int)
 |none=>some none
 |some (.int _ i)=>some (some i)
 |_=>none
def uL(P:Program)(H:Y4)(t:TypeId)(x:T)(o hi:Option T):Option (T×Option Prop):=
 match wL o,wL hi with
 |some a,some h=>match P.underlying t,x with
  |some .string,.str l=>some (.str (b2m l a h),a6s l.length a h)
  |some (.slice e),.bys l=>match x6 P e 1 with
   |true=>some (.bys (b2m l a h),a6s l.length a h)
   |false=>none
  |some (.slice e),.sl sz n row=>match x6 P e sz with
   |true=>some (.sl sz (a65 n a h) (a5W row a),a6s n a h)
   |false=>none
  |some (.slice e),.osl k off n=>match getA H k with
   |some A=>match x6 P e A.sz with
    |true=>some (.osl k (c4N off a) (a65 n a h),a6s n a h)
    |false=>none
   |none=>none
  |some (.slice e),.v (.slice none 0 0)=>match P.info? e with
   |some i=>match x6 P e i.size with
    |true=>some (.v (.slice none 0 0),a6s 0 a h)
    |false=>none
   |none=>none
  |_,_=>none
 |_,_=>none
def mH:T->Bool
 | .agg _=>true
 |x=>I7 x
def a7(e:Nat->Option (Nat×Nat))(cells:List T):List (Nat×T)->Option (List T)
 | []=>some cells
 |(i,x)::rest=>match e i,mH x with
  |some (off,size),true=>match Nat.beq (U4 x).length size,Nat.ble (off+(U4 x).length) cells.length with
   |true,true=>a7 e (cells.take off++U4 x++cells.drop (off+(U4 x).length)) rest
   |_,_=>none
  |_,_=>none
def qE(e:Nat->Option (Nat×Nat))(m:Nat):Nat->List (Nat×T)->Option (List T)
 |n,[]=>match Nat.beq n m with
  |true=>some []
  |false=>none
 |n,(i,x)::rest=>match e i,mH x with
  |some (off,size),true=>match Nat.beq off n,Nat.beq (U4 x).length size with
   |true,true=>(qE e m (n+size) rest).map (U4 x++ ·)
   |_,_=>none
  |_,_=>none
def a9Z(e:Nat->Option (Nat×Nat))(z:List T)(parts:List (Nat×T)):Option (List T):=
 match qE e z.length 0 parts with
 |some cs=>some cs
 |none=>a7 e z parts
def iM(P:Program)(s:W5)(t:TypeId)(parts:Array (Nat×Operand)):Option T:=
 match zeroCells P t,P.underlying t with
 |some z,some (.struct fs)=>match fs.toList.all λf=>(P.info? f.type).isSome with
  |true=>(a9Z (λi=>(fs.toList[i]?).map λf=>(f.offset,P.cellsOf f.type)) z (parts.toList.map λp=>(p.1,L3 s p.2))).map .agg
  |false=>none
 |some z,some (.array _ e)=>match(P.info? e).isSome with
  |true=>(a9Z (λi=>some (i*P.cellsOf e,P.cellsOf e)) z (parts.toList.map λp=>(p.1,L3 s p.2))).map .agg
  |false=>none
 |_,_=>none
def c5w(s:W5)(fn:Fn)(d:Array Operand):T:=.fn fn (d.toList.map (L3 s))
def c69(o:Bool)(n:Int):T:=match o with
 |true=>.bool (decide (n≠0))
 |false=>.int .i64 n
def b20(P:Program)(t:TypeId)(o:Bool):Bool:=
 match P.underlying t with
 |some (.map kt et)=>match P.underlying kt,(P.info? et).bind (·.zero),o with
  |some (.int .i64),some (.int .i64 n),false=>decide (n=0)
  |some (.int .i64),some (.bool b),true=> !b
  |_,_,_=>false
 |_=>false
def b8K(P:Program)(t:TypeId):Bool:=
 match P.underlying t with
 |some (.int .i64)=>Nat.beq (P.cellsOf t) 1
 |_=>false
def a3O(P:Program)(t:TypeId):Bool:=
 match P.underlying t with
 |some (.struct fs)=>match fs.toList with
  | [f0,f1]=>f0.name != "_" &&f1.name != "_" &&Nat.beq f0.offset 0&&Nat.beq f1.offset 1&&b8K P f0.type&&b8K P f1.type&&Nat.beq (P.cellsOf t) 2&& !Nat.beq P.types.size 0
  |_=>false
 |_=>false
def a29(P:Program)(t:TypeId):Bool:=
 match P.underlying t with
 |some (.map kt et)=>match(P.info? et).bind (·.zero) with
  |some (.bool b)=> !b&&P.keyTypeAt 2 kt&&P.tiled 2 kt&&P.keyType kt&&a3O P kt
  |_=>false
 |_=>false
def lU(P:Program)(H:Y4)(t:TypeId)(m k:T):Option (T×Option Prop):=
 match m,k with
 | .mpr j,.int .i64 n=>match Z1 H j with
  |some (.mp bo get)=>match b20 P t bo with
   |true=>some (c69 bo (get n),none)
   |false=>none
  |_=>none
 | .mpr j,.agg [.int .i64 a,.int .i64 b]=>match Z1 H j with
  |some (.mp2 get)=>match a29 P t with
   |true=>some (.bool (get a b),some (O7 .i64 a/\O7 .i64 b))
   |false=>none
  |_=>none
 |_,_=>none
def c61(o:Bool):T->Option Int
 | .int .i64 n=>match o with|false=>some n|true=>none
 | .bool b=>match o with|true=>some (cond b 1 0)|false=>none
 |_=>none
def a01(P:Program)(H:Y4)(t:TypeId)(m k x:T):Option Y4:=
 match m,k with
 | .mpr j,.int .i64 n=>match Z1 H j with
  |some (.mp bo get)=>match b20 P t bo,c61 bo x with
   |true,some v=>some (H.set j (some (.mp bo λi=>cond (decide (i=n)) v (get i))))
   |_,_=>none
  |_=>none
 |_,_=>none
def mX(P:Program)(H:Y4)(t:TypeId)(m k x:T):Option (Y4×Option Prop):=
 match m,k,x with
 | .mpr j,.agg [.int .i64 a,.int .i64 b],.bool v=>match Z1 H j with
  |some (.mp2 get)=>match a29 P t with
   |true=>some (H.set j (some (.mp2 λA B=>cond (decide (A=a/\B=b)) v (get A B))),some (O7 .i64 a/\O7 .i64 b))
   |false=>none
  |_=>none
 |_,_,_=>none
def vB(P:Program)(H:Y4)(t:TypeId):Option (T×Y4):=
 match b20 P t true,b20 P t false with
 |true,_=>some (.mpr H.length,H++[some (.mp true λ_=>0)])
 |_,true=>some (.mpr H.length,H++[some (.mp false λ_=>0)])
 |_,_=>match a29 P t with
  |true=>some (.mpr H.length,H++[some (.mp2 λ_ _=>false)])
  |false=>none
def c4p(op:UnOp)(x:T):Option (T×Option Prop):=
 match op,x with
 | .not,.bool b=>some (.bool (!b),none)
 | .neg,.int k n=>some (.int k (0-n),some (O7 k (0-n)))
 |_,_=>none
def rP(x:T)(i:Nat):Option T:=
 match x with
 | .tup cs=>cs[i]?
 |_=>none
def c5W(a b:Int):Int:=if b<a then b else a
def c2c:T->T->Option (T×Option Prop)
 | .int k a,y=>match y with
  | .int _ b=>some (.int k (c5W a b),none)
  |_=>none
 |_,_=>none
def c1Y(P:Program)(t:TypeId)(x:T):Option (T×Option Prop):=
 match P.underlying t,x with
 |some (.slice _),.v (.slice none 0 0)=>some (.int .i64 0,none)
 |_,_=>none
def L7(P:Program)(s:W5)(H:Y4)(op:Op):Option (T×Option Prop):=
 match op with
 | .move x| .assign x=>some (L3 s x,none)
 | .pick c a b=>(a2f s c a b).map (·,none)
 | .load t a=>yA P H t (L3 s a)
 | .nilCheck x=>match L3 s x with
  | .ref k i j=>some (.ref k i j,none)
  | .bref cs=>some (.bref cs,none)
  |_=>none
 | .binOp op t x y _=>b3N P op t (L3 s x) (L3 s y)
 | .unOp op _ x=>c4p op (L3 s x)
 | .convert src dst x=>wC P H src dst (L3 s x)
 | .fieldAddr t x f=>(wZ P t (L3 s x) f).map (·,none)
 | .field t x f=>(iY P t (L3 s x) f).map (·,none)
 | .indexAddr t x i=>A0 P H t (L3 s x) (L3 s i)
 | .index t x i=>a1i P t (L3 s x) (L3 s i)
 | .extract x i=>(rP (L3 s x) i).map (·,none)
 | .call {callee:=.builtin .len,args,argTypes}=>match args.toList,argTypes.toList with
  | [x],[t]=>(a87 P t (L3 s x)).map λn=>(.int .i64 n,none)
  |_,_=>none
 | .slice t x lo hi none=>uL P H t (L3 s x) (lo.map (L3 s)) (hi.map (L3 s))
 | .build t parts=>(iM P s t parts).map (·,none)
 | .makeFunc fn first captured=>match first.toList with
  | []=>some (c5w s fn captured,none)
  |_=>none
 | .lookup t m k false=>lU P H t (L3 s m) (L3 s k)
 | .call {callee:=.builtin .min,args, .. }=>match args.toList with
  | [x,y]=>c2c (L3 s x) (L3 s y)
  |_=>none
 | .call {callee:=.builtin .cap,args,argTypes}=>match args.toList,argTypes.toList with
  | [x],[t]=>c1Y P t (L3 s x)
  |_,_=>none
 |_=>none
def Q8(n:Int):UInt8:=UInt8.ofNat n.toNat
def wM:List T->Option (List Int)
 | []=>some []
 | .int .u8 n::r=>(wM r).map (n:: ·)
 |_=>none
def b7v:List Int->Option Prop
 | []=>none
 |n::r=>match b7v r with
  |none=>some (O7 .u8 n)
  |some p=>some (O7 .u8 n/\p)
def j5(P:Program)(e:TypeId):Bool:=
 match P.underlying e,zeroCells P e with
 |some (.int .u8),some [.int .u8 n]=>decide (n=0)
 |_,_=>false
def mK(a b c:Nat):Prop:=a*b<=c
theorem a5m(h:p:=by unfold mK;omega):p:=h
def a2i(P:Program)(H:Y4)(t:TypeId)(l c:T):Option (T×Y4×Option Prop):=
 match P.underlying t,l,c with
 |some (.slice e),.int .i64 n,.int .i64 m=>match P.info? e,zeroCells P e with
  |some i,some z=>match Nat.beq z.length i.size,Nat.beq i.size 0,z.all I7 with
   |true,false,true=>some (.osl H.length 0 n.toNat,H++[some (match j5 P e with
     |true=>.bys e (List.replicate n.toNat 0)
     |false=>.arr (z.all W7) e i.size n.toNat λ_=>z)],some (Nn n/\LeI n m/\mK i.bytes m.toNat 140737488355328/\Lt m.toNat 9223372036854775808))
   |_,_,_=>none
  |_,_=>none
 |_,_,_=>none
def I1(P:Program)(s:W5)(H:Y4)(t:TypeId)(len:Nat)(parts:Array (Nat×Operand)):Option (T×Y4×Option Prop):=
 match P.underlying t with
 |some (.slice e)=>match P.info? e,zeroCells P e with
  |some i,some z=>match Nat.beq z.length i.size,Nat.beq i.size 0,Nat.ble (len*i.size) 16777216 with
   |true,false,true=>match a7 (λk=>some (k*i.size,i.size)) ((List.replicate len z).flatten) (parts.toList.map λp=>(p.1,L3 s p.2)) with
    |some cs=>match j5 P e with
     |true=>(wM cs).map λn=>(.osl H.length 0 len,H++[some (.bys e (n.map Q8))],b7v n)
     |false=>match cs.all I7 with
      |true=>some (.osl H.length 0 len,H++[some (.arr (cs.all W7) e i.size len λk=>(cs.drop (k*i.size)).take i.size)],none)
      |false=>none
    |none=>none
   |_,_,_=>none
  |_,_=>none
 |_=>none
def sel(b:Bool)(x y:T):T:=match b with|true=>x|false=>y
def c7K(b:Bool)(x y:Nat->List T)(i:Nat):List T:=match b with|true=>x i|false=>y i
def mrg(b:Bool)(x y:T):T:=
 match x,y with
 | .int k n,.int k' m=>match decide (k=k') with
  |true=>.int k (cond b n m)
  |false=>sel b (.int k n) (.int k' m)
 | .bool p,.bool q=>.bool (cond b p q)
 | .str l,.str m=>.str (cond b l m)
 | .own ty sz n row,.own ty' sz' n' row'=>match decide (ty=ty'),decide (sz=sz') with
  |true,true=>.own ty sz (cond b n n') (c7K b row row')
  |_,_=>sel b (.own ty sz n row) (.own ty' sz' n' row')
 |x,y=>sel b x y
def b7a(b:Bool):List T->List T->List T
 |x::xs,o::os=>mrg b x o::b7a b xs os
 | [],os=>os
 |_::_,[]=>[]
def b3X(b:Bool):Nat->List T->List T->List T
 |0,xs,os=>b7a b xs os
 |j+1,xs,o::os=>o::b3X b j xs os
 |_+1,_,[]=>[]
def setRow(row:Nat->List T)(i j:Nat)(cs:List T)(k:Nat):List T:=b3X (Nat.beq k i) j cs (row k)
def closedOne(t:T):Bool:=W7 t&&I7 t
def c52(cs:List T):Bool:=cs.all λt=> !a8L t
def a1o(i n:Nat)(cs:List T):Prop:=i<n/\c52 cs=true
structure Abs where
 cs:List T
 ks:List Nat
 side:Option Prop
def oV(H:Y4):List T->Option Abs
 | []=>some ⟨[],[],none⟩
 | .osl m off n::r=>match off,Z1 H m,oV H r with
  |0,some (.arr true ty sz N row),some A=>some ⟨.own ty sz n row::A.cs,m::A.ks,some (match A.side with|none=>Le n N|some p=>Le n N/\p)⟩
  |_,_,_=>none
 |t::r=>match closedOne t,oV H r with
  |true,some A=>some ⟨t::A.cs,A.ks,A.side⟩
  |_,_=>none
def D7:Y4->List Nat->Y4
 |H,[]=>H
 |H,k::r=>D7 (H.set k none) r
def lJ:List Nat->Bool
 | []=>true
 |x::r=>r.all (λy=> !Nat.beq x y)&&lJ r
def ltS(i n:Nat):Option Prop->Prop
 |none=>i<n
 |some p=>i<n/\p
def rO(P:Program)(H:Y4)(t:TypeId)(a x:T):Option (Y4×Option Prop):=
 match a with
 | .pref k v i j z a b=>match Z1 H k,getOwn H k v i j,x6 P t (U4 x).length,mH x,(U4 x).all closedOne with
  |some (.fam v' ty sz n row),some A,true,true,true=>match Nat.beq z A.A.sz,Nat.ble (b+(U4 x).length) A.A.sz with
   |true,true=>some (H.set k (some (.fam v' ty sz n (setRow row i j [.own A.A.ty A.A.sz A.A.n (setRow A.A.row a b (U4 x))]))),some (PfB v v' i n a A.A.n))
   |_,_=>none
  |_,_,_,_,_=>none
 | .ref k i j=>match Z1 H k,x6 P t (U4 x).length,mH x,(U4 x).all I7 with
  |some (.arr cl ty sz n row),true,true,true=>match Nat.ble (j+(U4 x).length) sz with
   |true=>some (H.set k (some (.arr (cl&&(U4 x).all W7) ty sz n (setRow row i j (U4 x)))),inB ty i n)
   |false=>none
  |some (.bys ty l),true,true,true=>match x,j with
   | .int .u8 m,0=>some (H.set k (some (.bys ty (l.set i (Q8 m)))),some (Lt i l.length/\O7 .u8 m))
   |_,_=>none
  |some (.fam v ty sz n row),true,true,true=>match Nat.ble (j+(U4 x).length) sz with
   |true=>match(U4 x).all closedOne with
    |true=>some (H.set k (some (.fam v ty sz n (setRow row i j (U4 x)))),some (a1o i n (((row i).drop j).take (U4 x).length)))
    |false=>match oV H (U4 x) with
     |some A=>match lJ (k::A.ks) with
      |true=>some ((D7 H A.ks).set k (some (.fam (v+1) ty sz n (setRow row i j A.cs))),some (ltS i n A.side))
      |false=>none
     |none=>none
   |false=>none
  |_,_,_,_=>none
 |_=>none
def aN(_P:Program)(H:Y4)(t:TypeId)(cs:List T):Option (T×Y4×Option Prop):=
 match Nat.beq cs.length 0,cs.all I7 with
 |false,true=>some (.ref H.length 0 0,H++[some (.arr (cs.all W7) 1000000 cs.length 1 λ_=>cs)],none)
 |_,_=>none
structure Sr where
 cl:Bool
 n:Nat
 row:Nat->List T
 side:Option Prop
def yL(row:Nat->List T):Nat->Nat->List T
 |0=>row
 |off=>λi=>row (off+i)
def uU(off n m:Nat):Option Prop:=some (Le (off+n) m)
def xL(H:Y4)(d:Option TypeDesc)(sz:Nat)(x:T):Option Sr:=
 match d,x with
 |some (.slice _),.sl sz' n row=>match Nat.beq sz sz' with
  |true=>some ⟨true,n,row,none⟩
  |false=>none
 |some (.slice _),.v (.slice none 0 0)=>some ⟨true,0,λ_=>[],none⟩
 |some (.slice _),.osl k off n=>match Z1 H k with
  |some (.arr cl _ sz' m row)=>match Nat.beq sz sz' with
   |true=>some ⟨cl,n,yL row off,uU off n m⟩
   |false=>none
  |_=>none
 |_,_=>none
def i3(H:Y4)(d:Option TypeDesc)(x:T):Option (Bz×Option Prop):=
 match d,x with
 |some .string,.str l=>some (l,none)
 |some (.slice _),.bys l=>some (l,none)
 |some (.slice _),.v (.slice none 0 0)=>some ([],none)
 |some (.slice _),.osl k off n=>match Z1 H k with
  |some (.bys _ l)=>some ((l.drop off).take n,some (Le (off+n) l.length))
  |_=>none
 |_,_=>none
def lA:Option Prop->Prop->Prop
 |none,q=>q
 |some p,q=>p/\q
def X7(row:Nat->List T)(n:Nat)(row':Nat->List T)(i:Nat):List T:=
 match Nat.blt i n with
 |true=>row i
 |false=>row' (i-n)
def U9(n m bytes:Nat):Prop:=(n+m)*bytes<=140737488355328/\n+m<=9223372036854775807
theorem R1(h:p:=by unfold U9;omega):p:=h
structure SrF where
 n:Nat
 row:Nat->List T
 ks:List Nat
 side:Option Prop
def c01(H:Y4)(sz:Nat)(x:T):Option SrF:=
 match x with
 | .osl k off n=>match Z1 H k with
  |some (.arr true _ sz' m row)=>match Nat.beq sz sz' with
   |true=>some ⟨n,yL row off,[],uU off n m⟩
   |false=>none
  |some (.arr false _ sz' m row)=>match Nat.beq sz sz',off,n,m with
   |true,0,1,1=>match oV H (row 0) with
    |some A=>some ⟨1,λ_=>A.cs,A.ks,A.side⟩
    |none=>none
   |_,_,_,_=>none
  |_=>none
 |_=>none
def c32(d:Option TypeDesc)(x:T):Option Int:=
 match d,x with
 |some (.int _),.int _ n=>some n
 |_,_=>none
def nS(P:Program)(H:Y4)(t tx:TypeId)(d x:T):Option (T×Y4×Option Prop):=
 match P.underlying t with
 |some (.slice e)=>match P.info? e,zeroCells P e with
  |some i,some z=>match Nat.beq z.length i.size,Nat.beq i.size 0,d with
   |true,false,.v (.slice none 0 0)=>match j5 P e with
    |true=>(i3 H (P.underlying tx) x).map λs=>(.osl H.length 0 s.1.length,H++[some (.bys e s.1)],some (lA s.2 (Lt 0 s.1.length/\U9 0 s.1.length i.bytes)))
    |false=>match c32 (P.underlying tx) x with
     |some n=>match z.all I7 with
      |true=>some (.osl H.length 0 n.toNat,H++[some (.arr (z.all W7) e i.size n.toNat λ_=>z)],some (Nn n/\Lt 0 n.toNat/\U9 0 n.toNat i.bytes))
      |false=>none
     |none=>(xL H (P.underlying tx) i.size x).map λs=>(.osl H.length 0 s.n,H++[some (.arr s.cl e i.size s.n s.row)],some (lA s.side (Lt 0 s.n/\U9 0 s.n i.bytes)))
   |true,false,.emp=>match j5 P e with
    |true=>none
    |false=>(xL H (P.underlying tx) i.size x).map λs=>(.osl H.length 0 s.n,H++[some (.arr s.cl e i.size s.n s.row)],some (lA s.side (U9 0 s.n i.bytes)))
   |true,false,.osl k 0 n=>match Z1 H k with
    |some (.bys _ l)=>match j5 P e with
     |true=>(i3 H (P.underlying tx) x).map λs=>(.osl H.length 0 (n+s.1.length),H.set k none++[some (.bys e (l.take n++s.1))],some (lA s.2 (Le n l.length/\U9 n s.1.length i.bytes)))
     |false=>none
    |some (.arr cl _ sz N row)=>match Nat.beq sz i.size with
     |true=>(xL H (P.underlying tx) i.size x).map λs=>(.osl H.length 0 (n+s.n),H.set k none++[some (.arr (cl&&s.cl) e i.size (n+s.n) (X7 row n s.row))],some (lA s.side (Le n N/\U9 n s.n i.bytes)))
     |false=>none
    |some (.fam _ _ sz N row)=>match Nat.beq sz i.size,P.underlying tx,c01 H i.size x with
     |true,some (.slice _),some s=>match lJ (k::s.ks) with
      |true=>some (.osl H.length 0 (n+s.n),D7 H (k::s.ks)++[some (.fam 0 e i.size (n+s.n) (X7 row n s.row))],some (lA s.side (Le n N/\U9 n s.n i.bytes)))
      |false=>none
     |_,_,_=>none
    |_=>none
   |_,_,_=>none
  |_,_=>none
 |_=>none
def a85:T->Bool
 | .sl .. | .osl .. | .posl .. | .v (.slice none 0 0)=>true
 |_=>false
def isZ:T->Bool
 | .int _ i=>decide (i=0)
 |_=>false
def c7W:Option T->Bool
 |none=>true
 |some t=>isZ t
def nD(P:Program)(H:Y4)(t:TypeId)(x:T)(l:Option T)(hi M:T):Option (T×Y4×Option Prop):=
 match P.underlying t,a85 x&&c7W l&&isZ hi&&isZ M with
 |some (.slice e),true=>match P.info? e with
  |some i=>match Nat.beq i.size 0,x6 P e i.size with
   |false,true=>some (.osl H.length 0 0,H++[some (.arr true e i.size 0 λ_=>[])],none)
   |_,_=>none
  |none=>none
 |_,_=>none
def G8(row:Nat->List T)(off n:Nat)(z:List T)(j:Nat):List T:=
 match Nat.ble off j&&Nat.blt j (off+n) with
 |true=>z
 |false=>row j
def a2v(P:Program)(H:Y4)(t:TypeId)(x:T):Option (T×Y4×Option Prop):=
 match P.underlying t,x with
 |some (.slice e),.osl k off n=>match P.info? e,zeroCells P e,Z1 H k with
  |some i,some z,some (.arr true ty sz N row)=>match Nat.beq z.length i.size&&Nat.beq sz i.size&& !Nat.beq i.size 0&&z.all closedOne with
   |true=>some (.und,H.set k (some (.arr true ty sz N (G8 row off n z))),some (Le (off+n) N))
   |false=>none
  |_,_,_=>none
 |_,_=>none
def A9(P:Program)(s:W5)(H:Y4)(op:Op):Option (T×Y4×Option Prop):=
 match op with
 | .box t x=>match mH (L3 s x) with
  |true=>aN P H t (U4 (L3 s x))
  |false=>none
 | .alloc t=>match zeroCells P t with
  |some z=>aN P H t z
  |none=>none
 | .store t a x=>(rO P H t (L3 s a) (L3 s x)).map λr=>(.und,r.1,r.2)
 | .makeSlice t l c=>a2i P H t (L3 s l) (L3 s c)
 | .buildSlice t len parts=>I1 P s H t len parts
 | .convert src dst x=>match P.underlying src,P.underlying dst,L3 s x with
  |some .string,some (.slice e),.str l=>match j5 P e with
   |true=>some (.bys l,H,some (Lt l.length 140737488355329))
   |false=>none
  |_,_,_=>none
 | .call {callee:=.builtin .append,args,argTypes}=>match args.toList,argTypes.toList with
  | [d,x],[t,tx]=>nS P H t tx (L3 s d) (L3 s x)
  |_,_=>none
 | .makeMap t none=>(vB P H t).map λr=>(r.1,r.2,none)
 | .mapUpdate t m k x=>match a01 P H t (L3 s m) (L3 s k) (L3 s x) with
  |some r=>some (.und,r,none)
  |none=>(mX P H t (L3 s m) (L3 s k) (L3 s x)).map λr=>(.und,r.1,r.2)
 | .slice t x lo (some hi) (some mx)=>nD P H t (L3 s x) (lo.map (L3 s)) (L3 s hi) (L3 s mx)
 | .call {callee:=.builtin .clear,args,argTypes}=>match args.toList,argTypes.toList with
  | [x],[t]=>a2v P H t (L3 s x)
  |_,_=>none
 |_=>none
def N5{α β:Type}(f:α->Option β):List α->Option (List β)
 | []=>some []
 |a::r=>match f a,N5 f r with
  |some b,some q=>some (b::q)
  |_,_=>none
def nJ:Option Prop->Option Prop->Option Prop
 |none,q=>q
 |p,none=>p
 |some p,some q=>some (p/\q)
def wW:List (T×Option Prop)->Option Prop
 | []=>none
 |x::r=>nJ x.2 (wW r)
def c5n:T->T
 | .own _ sz n row=>.sl sz n row
 |t=>t
def a6C(row:Nat->List T)(i:Nat):List T:=(row i).map c5n
def PoB(v V i n a m:Nat):Prop:=v=V/\i<n/\a<=m
def eY(a b:List T):Nat->List T
 |0=>a
 |_+1=>b
def M6(b:Nat)(H:Y4):Nat->T->Option (T×Option Prop)
 |0,_=>none
 |d+1,t=>match t with
  | .ref k i j=>match Nat.blt k b with
   |true=>some (.ref k i j,none)
   |false=>match getA H k with
    |some A=>match i,A.n with
     |0,1=>match N5 (M6 b H d) ((A.row 0).drop j) with
      |some cs=>match cs.all λx=>W7 x.1 with
       |true=>some (.bref (cs.map (·.1)),wW cs)
       |false=>none
      |none=>none
     |_,_=>none
    |none=>none
  | .osl k off n=>match Nat.blt k b with
   |true=>some (.osl k off n,none)
   |false=>match Z1 H k with
    |some (.arr true _ sz m row)=>some (.sl sz n (yL row off),uU off n m)
    |some (.fam _ _ sz m row)=>some (.sl sz n (a6C (yL row off)),uU off n m)
    |some (.bys _ l)=>some (.bys ((l.drop off).take n),some (Le (off+n) l.length))
    |some (.arr false _ sz m row)=>match Nat.beq off 0&&Nat.beq n 2&&Nat.beq m 2&&Nat.beq sz 1 with
     |true=>match N5 (M6 b H d) (row 0),N5 (M6 b H d) (row 1) with
      |some c0,some c1=>match(c0++c1).all λx=>W7 x.1&&I7 x.1 with
       |true=>some (.sl 1 2 (eY (c0.map (·.1)) (c1.map (·.1))),wW (c0++c1))
       |false=>none
      |_,_=>none
     |false=>none
    |_=>none
  | .agg cs=>(N5 (M6 b H d) cs).map λcs=>(.agg (cs.map (·.1)),wW cs)
  | .fn f cs=>(N5 (M6 b H d) cs).map λcs=>(.fn f (cs.map (·.1)),wW cs)
  | .tup cs=>(N5 (M6 b H d) cs).map λcs=>(.tup (cs.map (·.1)),wW cs)
  | .mpr _=>none
  | .posl k v i j n=>match Nat.blt k b with
   |true=>some (.posl k v i j n,none)
   |false=>match getOwn H k v i j with
    |some A=>some (.sl A.A.sz n A.A.row,some (PoB v A.v i A.n n A.A.n))
    |none=>none
  | .pref k v i j z a c=>match Nat.blt k b with
   |true=>some (.pref k v i j z a c,none)
   |false=>none
  | .own .. =>none
  |t=>some (t,none)
def closedD:Nat->T->Bool
 |0,_=>false
 |d+1,t=>match t with
  | .agg cs=>cs.all (closedD d)
  | .fn _ cs=>cs.all (closedD d)
  | .tup cs=>cs.all (closedD d)
  | .und=>false
  |t=>W7 t
def pJ:Nat->T->Bool
 |0,_=>false
 |d+1,t=>match t with
  | .int .. | .bool _| .str _=>true
  | .agg cs=>cs.all (pJ d)
  | .tup cs=>cs.all (pJ d)
  |_=>false
structure Rl where
 (ι:Type)
 (args:ι->List T)
 (res:ι->T)
 (side:ι->Prop)
structure Rle where
 (ι:Type)
 (args:ι->List T)
 (pre:ι->Y4)
 (res:ι->T)
 (post:ι->Y4)
 (side:ι->Prop)
inductive Con where
 |pure (c:List T->Option (T×Option Prop))
 |eff (c:List T->Y4->Option (T×Y4×Option Prop))
 |rel (r:Rl)
 |mk (c:List T->Option (T×Y4×Option Prop))
 |reff (r:Rle)
 |rmk (r:Rle)
 |fz (c:List T->Option (T×Option Prop))
 |rfz (r:Rl)
 |tmp
abbrev I5:=List (FuncId×Con)
def gam:I5->FuncId->List T->Option (T×Option Prop)
 | [],_,_=>none
 |(g,c)::r,f,args=>match Nat.beq f g with
  |true=>match c with| .pure c=>c args|_=>none
  |false=>gam r f args
def qS:I5->FuncId->Option (List T->Y4->Option (T×Y4×Option Prop))
 | [],_=>none
 |(g,c)::r,f=>match Nat.beq f g with
  |true=>match c with| .eff c=>some c|_=>none
  |false=>qS r f
def gmk:I5->FuncId->Option (List T->Option (T×Y4×Option Prop))
 | [],_=>none
 |(g,c)::r,f=>match Nat.beq f g with
  |true=>match c with| .mk c=>some c|_=>none
  |false=>gmk r f
def gfz:I5->FuncId->Option (List T->Option (T×Option Prop))
 | [],_=>none
 |(g,c)::r,f=>match Nat.beq f g with
  |true=>match c with| .fz c=>some c|_=>none
  |false=>gfz r f
def Con.isRel:Con->Bool
 | .rel _| .reff _| .rmk _| .rfz _=>true
 |_=>false
def Con.isEff:Con->Bool
 | .eff _| .mk _| .reff _| .rmk _| .fz _| .rfz _=>true
 |_=>false
def Con.isEf:Con->Bool
 | .eff _| .reff _=>true
 |_=>false
def Con.isMk:Con->Bool
 | .mk _| .rmk _=>true
 |_=>false
def w4:I5->FuncId->Option Con
 | [],_=>none
 |(g,c)::r,f=>match Nat.beq f g with
  |true=>some c
  |false=>w4 r f
def b8Y(G:I5)(f:FuncId):Option Con:=
 match w4 G f with
 |some c=>match c.isRel with
  |true=>some c
  |false=>none
 |none=>none
def a4D:List T->Option (List Int)
 | []=>some []
 | .int .i64 n::r=>(a4D r).map (n:: ·)
 |_=>none
def c34(cs:List T)(sz len:Nat):Nat->List T:=
 match a4D cs,Nat.beq sz 1&&Nat.beq cs.length len with
 |some l,true=>λk=>[.int .i64 (l.getD k 0)]
 |_,_=>λk=>(cs.drop (k*sz)).take sz
def a1H(P:Program)(s:W5)(t:TypeId)(len:Nat)(parts:Array (Nat×Operand)):Option (T×Option Prop):=
 match P.underlying t with
  |some (.slice e)=>match P.info? e,zeroCells P e with
   |some i,some z=>match Nat.beq z.length i.size,Nat.beq i.size 0,Nat.ble (len*i.size) 16777216 with
    |true,false,true=>match a7 (λk=>some (k*i.size,i.size)) ((List.replicate len z).flatten) (parts.toList.map λp=>(p.1,L3 s p.2)) with
     |some cs=>match j5 P e,cs.all I7,cs.all W7 with
      |false,true,true=>some (.sl i.size len (c34 cs i.size len),none)
      |_,_,_=>none
     |none=>none
    |_,_,_=>none
   |_,_=>none
  |_=>none
def a2X(P:Program)(s:W5):Op->Option (T×Option Prop)
 | .buildSlice t 0 parts=>match P.underlying t,parts.toList with
  |some (.slice e),[]=>match P.info? e,zeroCells P e with
   |some i,some z=>match Nat.beq z.length i.size,Nat.beq i.size 0 with
    |true,false=>some (.emp,none)
    |_,_=>none
   |_,_=>none
  |_,_=>none
 | .call {callee:=.builtin .append,args,argTypes}=>match args.toList,argTypes.toList with
  | [d,x],[t,tx]=>match L3 s d,P.underlying t with
   | .emp,some (.slice e)=>match P.info? e,zeroCells P e with
    |some i,some z=>match Nat.beq z.length i.size,xL [] (P.underlying tx) i.size (L3 s x) with
     |true,some q=>match q.cl with
      |true=>some (.sl i.size q.n q.row,some (lA q.side (U9 0 q.n i.bytes)))
      |false=>none
     |_,_=>none
    |_,_=>none
   |_,_=>none
  |_,_=>none
 | .buildSlice t (n+1) parts=>a1H P s t (n+1) parts
 |_=>none
def mV:I5->Nat
 | []=>0
 |(_,.tmp)::r=>mV r+1
 |_::r=>mV r
def P9(n:Nat)(args:List Operand):Bool:=
 match Nat.ble 8 n with
 |true=>false
 |false=>match Nat.ble 4 n with
 |true=>match args with
  | .tmp d::_=>match Nat.beq (n % 2) 0 with
   |true=>Nat.blt n d
   |false=>Nat.blt d n
  |_=>true
 |false=>Nat.ble 3 n
def tC(G:I5):Op->Bool
 | .buildSlice _ (_+1) _=>Nat.ble 1 (mV G)&& !Nat.beq 9 (mV G)
 | .buildSlice _ 0 _=>Nat.ble 2 (mV G)&& !Nat.beq 9 (mV G)
 | .call {callee:=.builtin .append,args, .. }=>P9 (mV G) args.toList
 |_=>false
def anyEff:I5->Bool
 | []=>false
 |(_,c)::r=>c.isEff||anyEff r
def isEff(G:I5):Operand->Bool
 | .func f=>match w4 G f with
  |some c=>c.isEff
  |none=>false
 |_=>anyEff G
def isEf(G:I5):Operand->Bool
 | .func f=>match w4 G f with
  |some c=>c.isEf
  |none=>false
 |_=>false
def isMk(G:I5):Operand->Bool
 | .func f=>match w4 G f with
  |some c=>c.isMk
  |none=>false
 |_=>false
def S4(ρ:Nat->Option Nat):Nat->T->Option T
 |0,_=>none
 |d+1,t=>match t with
  | .ref k i j=>(ρ k).map λm=>.ref m i j
  | .osl k off n=>(ρ k).map λm=>.osl m off n
  | .mpr k=>(ρ k).map .mpr
  | .posl k v i j n=>(ρ k).map λm=>.posl m v i j n
  | .pref k v i j z a b=>(ρ k).map λm=>.pref m v i j z a b
  | .agg cs=>(N5 (S4 ρ d) cs).map .agg
  | .tup cs=>(N5 (S4 ρ d) cs).map .tup
  | .fn f cs=>(N5 (S4 ρ d) cs).map (.fn f)
  |t=>some t
def mB(ρ:Nat->Option Nat)(ob:Ob):Option Ob:=
 match ob with
 | .bys ty l=>some (.bys ty l)
 | .fam v ty sz n row=>some (.fam v ty sz n row)
 | .arr true ty sz n row=>some (.arr true ty sz n row)
 | .arr false ty sz n row=>match n with
  |1=>(N5 (S4 ρ 6) (row 0)).map λr=>.arr false ty sz 1 λ_=>r
  |_=>none
 | .mp bo get=>some (.mp bo get)
 | .mp2 get=>some (.mp2 get)
def memN(k:Nat):List Nat->Bool
 | []=>false
 |x::r=>Nat.beq k x||memN k r
def a2y:List Nat->Bool
 | []=>true
 |x::r=> !memN x r&&a2y r
def jS:List T->List Nat
 | []=>[]
 | .ref k _ _::r=>k::jS r
 | .osl k _ _::r=>k::jS r
 | .agg cs::r=>idsA cs++jS r
 | .fn _ cs::r=>idsA cs++jS r
 |_::r=>jS r
where
 idsA:List T->List Nat
 | []=>[]
 | .ref k _ _::r=>k::idsA r
 | .osl k _ _::r=>k::idsA r
 |_::r=>idsA r
def c7R:Option Ob->List Nat
 |some (.arr false _ _ 1 row)=>jS (row 0)
 |_=>[]
def m3(H:Y4):Nat->List Nat->List Nat->List Nat
 |0,_,E8=>E8
 |_+1,[],E8=>E8
 |d+1,k::r,E8=>match memN k E8 with
  |true=>m3 H d r E8
  |false=>m3 H d (c7R (Z1 H k)++r) (E8++[k])
def m5(k:Nat):List Nat->Nat->Option Nat
 | [],_=>none
 |x::r,i=>match Nat.beq k x with
  |true=>some i
  |false=>m5 k r (i+1)
def iF:List Nat->Nat->Option Nat
 | [],_=>none
 |k::_,0=>some k
 |_::r,i+1=>iF r i
def a6W(ks:List Nat)(len i:Nat):Option Nat:=
 match iF ks i with
 |some k=>some k
 |none=>some (len+(i-ks.length))
def M5:Y4->List Nat->List (Option Ob)->Y4
 |H,k::ks,o::os=>M5 (H.set k o) ks os
 |H,_,_=>H
def obB(ρ:Nat->Option Nat):Option Ob->Option (Option Ob)
 |none=>some none
 |some ob=>(mB ρ ob).map some
def i8(c:List T->Y4->Option (T×Y4×Option Prop))(H:Y4)(ks:List Nat)(args:List T):Option (T×Y4×Option Prop):=
 match a2y ks,N5 (S4 (λk=>m5 k ks 0) 6) args,N5 (λk=>(Z1 H k).bind (mB λk=>m5 k ks 0)) ks with
 |true,some as,some obs=>match c as (obs.map some) with
  |some (r,H',p)=>match Nat.ble ks.length H'.length,S4 (a6W ks H.length) 6 r,N5 (obB (a6W ks H.length)) H' with
   |true,some r',some os=>some (r',M5 H ks os++os.drop ks.length,p)
   |_,_,_=>none
  |none=>none
 |_,_,_=>none
def dV:Nat->Option Nat
 |0=>none
 |k+1=>some (k+1)
def c6J:Nat->Nat->List Nat
 |_,0=>[]
 |i,n+1=>i::c6J (i+1) n
def okA(t:T):Bool:=
 match t with
 | .ref 0 0 _=>true
 |t=>match S4 dV 6 t with
  |some _=>true
  |none=>false
def b82:Y4->Nat
 |some (.arr _ _ sz _ _)::_=>sz
 |_=>0
def b9s(c:List T->Y4->Option (T×Y4×Option Prop))(sz n:Nat)(H:Y4)(as:List T):Option (T×Y4×Option Prop):=
 match H with
 |some (.arr false ty szW m row)::rest=>match m,N5 (obB dV) rest,N5 (S4 dV 6) (row 0),as.all okA&&Nat.ble sz szW with
  |1,some rest0,some cs,true=>match i8 c (some (.arr false ty sz 1 λ_=>cs.take sz)::rest0) (c6J 0 n) as with
   |some (r,some (.arr _ ty' sz' m' row')::rest',p)=>match m',Nat.beq sz' sz,S4 dV 6 r,N5 (obB dV) rest',N5 (S4 dV 6) (row' 0) with
    |1,true,some r',some rest2,some cs'=>some (r',some (.arr false ty' szW 1 λ_=>cs'++cs.drop sz)::rest2,p)
    |_,_,_,_,_=>none
   |_=>none
  |_,_,_,_=>none
 |_=>none
def I2(ks:List Nat):Y4->Nat->Y4
 | [],_=>[]
 |o::r,i=>(match memN i ks with|true=>o|false=>none)::I2 ks r (i+1)
def c1v(c:List T->Option (T×Option Prop))(H:Y4)(ks:List Nat)(args:List T):Option (T×Y4×Option Prop):=
 match N5 (M6 0 (I2 ks H 0) 6) args with
 |some bs=>match c (bs.map (·.1)) with
  |some (r,p)=>some (r,D7 H ks,nJ (wW bs) p)
  |none=>none
 |none=>none
def a2t(c:List T->Option (T×Y4×Option Prop))(H:Y4)(args:List T):Option (T×Y4×Option Prop):=
 match N5 (M6 0 H 6) args with
 |some bs=>match c (bs.map (·.1)) with
  |some (r,H',p)=>match S4 (λk=>some (H.length+k)) 6 r,N5 (obB λk=>some (H.length+k)) H' with
   |some r',some os=>some (r',H++os,nJ (wW bs) p)
   |_,_=>none
  |none=>none
 |none=>none
def uQ(t:T):Bool:=
 match t with
 | .int .. | .bool _| .str _| .v _=>true
 |_=>false
def c76(v V i n a m M:Nat)(row:Nat->List T):Prop:=v=V/\i<n/\a<=m/\M=m/\∀r,r<M->∀t ∈ row r,uQ t=true
def b5C(c:List T->Y4->Option (T×Y4×Option Prop))(H:Y4)(args:List T):Option (T×Y4×Option Prop):=
 match args with
 | .posl k v i j n::rest=>match rest.all (closedD 6),Z1 H k,getOwn H k v i j with
  |true,some (.fam v' ty sz N row),some A=>match c (.osl 0 0 n::rest) [some (.arr true A.A.ty A.A.sz A.A.n A.A.row)] with
   |some (r,[some (.arr true _ sz' n' row')],p)=>match pJ 6 r,Nat.beq sz' A.A.sz with
    |true,true=>some (r,H.set k (some (.fam v' ty sz N (setRow row i j [.own A.A.ty sz' n' row']))),nJ p (some (c76 v v' i N n A.A.n n' row')))
    |_,_=>none
   |_=>none
  |_,_,_=>none
 |_=>none
def xF(G:I5)(H:Y4)(f:FuncId)(args:List T):Option (T×Y4×Option Prop):=
 match qS G f with
 |some c=>match args with
  | .posl .. ::_=>b5C c H args
  |_=>i8 c H (m3 H 64 (jS args) []) args
 |none=>match gmk G f with
  |some c=>a2t c H args
  |none=>match gfz G f with
   |some c=>c1v c H (m3 H 64 (jS args) []) args
   |none=>none
def cE(s:W5):Operand->Option (FuncId×List T)
 | .func f=>some (f,[])
 |x=>match L3 s x with
  | .fn (.func f) cs=>some (f,cs)
  | .v (.func (.func f) first caps)=>match first.toList,caps.toList with
   | [],[]=>some (f,[])
   |_,_=>none
  |_=>none
def zS(G:I5)(H:Y4)(f:FuncId)(args:List T):Option (T×Option Prop):=
 match args.all (closedD 6) with
 |true=>gam G f args
 |false=>match N5 (M6 0 H 6) args with
  |some bs=>match gam G f (bs.map (·.1)) with
   |some (r,p)=>match pJ 6 r with
    |true=>some (r,nJ (wW bs) p)
    |false=>none
   |none=>none
  |none=>none
def K1(P:Program)(G:I5)(s:W5)(H:Y4)(op:Op):Option (T×Y4×Option Prop):=
 match L7 P s H op with
 |some (t,p)=>some (t,H,p)
 |none=>match A9 P s H op with
  |some r=>some r
  |none=>match op with
   | .call {callee:=.value x,args, .. }=>match isEff G x with
    |true=>match x with
     | .func f=>xF G H f (args.toList.map (L3 s))
     |x=>match cE s x with
      |some (f,cs)=>match isEff G (.func f) with
       |true=>xF G H f (args.toList.map (L3 s)++cs)
       |false=>(zS G H f (args.toList.map (L3 s)++cs)).map λr=>(r.1,H,r.2)
      |none=>none
    |false=>match cE s x with
     |some (f,cs)=>(zS G H f (args.toList.map (L3 s)++cs)).map λr=>(r.1,H,r.2)
     |none=>none
   |_=>none
def A5(P:Program)(G:I5)(s:W5)(H:Y4)(op:Op):Option (T×Y4×Option Prop):=
 match tC G op with
 |true=>match a2X P s op with
  |some (t,p)=>some (t,H,p)
  |none=>none
 |false=>K1 P G s H op
structure Sy where
 s:W5
 H:Y4
abbrev D4:=List (Nat×Bool)
abbrev A3:=List (Nat×D4)
def S5:A3->Nat->D4
 | [],_=>[]
 |(j,p)::r,t=>match Nat.beq t j with|true=>p|false=>S5 r t
def oL:D4->D4->Bool
 | [],[]=>true
 |(a,b)::p,(c,d)::q=>Nat.beq a c&&(b==d)&&oL p q
 |_,_=>false
def sufB(p:D4):D4->Bool
 | []=>oL p []
 |x::q=>oL p (x::q)||sufB p q
def B6(s:W5):D4->Prop->Prop
 | [],p=>p
 |(t,b)::r,p=>match zY s t with
  | .bool x=>B6 s r (x=b->p)
  |_=>False
def sD(s:W5):D4->Bool
 | []=>true
 |(t,_)::r=>match zY s t with
  | .bool _=>sD s r
  |_=>false
def Z7(n:Nat)(row row':Nat->List T):Prop:=∀i,i<n->row i=row' i
def yX:Nat->T->T->Prop
 |0,_,_=>False
 |d+1,t,t'=>
  match t,t' with
  |_,.und=>True
  | .int k a,.int k' b=>match decide (k=k') with|true=>a=b|false=>False
  | .bool a,.bool b=>a=b
  | .str a,.str b=>a=b
  | .bys a,.bys b=>a=b
  | .v (.slice none 0 0),.sl _ n _=>n=0
  | .v (.slice none 0 0),.bys l=>l=[]
  | .emp,.sl _ n _=>n=0
  | .emp,.bys l=>l=[]
  | .emp,.emp=>True
  | .v x,.v y=>x=y
  | .sl sz n row,.sl sz' m row'=>match Nat.beq sz sz' with|true=>n=m/\Z7 n row row'|false=>False
  | .ref k i j,.ref k' i' j'=>match Nat.beq k k' with|true=>i=i'/\j=j'|false=>False
  | .osl k off n,.osl k' off' n'=>match Nat.beq k k' with|true=>off=off'/\n=n'|false=>False
  | .mpr k,.mpr k'=>match Nat.beq k k' with|true=>True|false=>False
  | .agg as,.agg bs=>matsV (yX d) as bs
  | .tup as,.tup bs=>matsV (yX d) as bs
  | .fn f as,.fn g bs=>f=g/\matsV (yX d) as bs
  | .bref as,.bref bs=>match bs.all W7 with|true=>matsP (yX d) as bs|false=>False
  |_,_=>False
where
 matsP (f:T->T->Prop):List T->List T->Prop
 |_,[]=>True
 |a::r,b::q=>f a b/\matsP f r q
 |_,_=>False
 matsV (f:T->T->Prop):List T->List T->Prop
 | [],[]=>True
 |a::r,b::q=>f a b/\matsV f r q
 |_,_=>False
def eJ(as bs:List T):Prop:=yX.matsV (yX 6) as bs
def b7A:T->T->Prop
 | .own _ sz n row,.own _ sz' n' row'=>sz=sz'/\n=n'/\Z7 n row row'
 |t,t'=>t=t'
def b4C:List T->List T->Prop
 | [],[]=>True
 |a::r,b::q=>b7A a b/\b4C r q
 |_,_=>False
def U7(n:Nat)(row row':Nat->List T):Prop:=∀i,i<n->b4C (row i) (row' i)
def a3g(o o':Option Ob):Prop:=
 match o,o' with
 |some (.arr cl _ sz n row),some (.arr cl' _ sz' n' row')=>match Nat.beq sz sz',cl,cl' with
  |true,true,true=>n=n'/\Z7 n row row'
  |true,_,false=>match(row' 0).all I7 with
   |true=>n=1/\n'=1/\yX.matsV (yX 6) (row 0) (row' 0)
   |false=>False
  |_,_,_=>False
 |some (.fam v _ sz n row),some (.fam v' _ sz' n' row')=>match Nat.beq sz sz' with
  |true=>v=v'/\n=n'/\U7 n row row'
  |false=>False
 |some (.bys _ l),some (.bys _ l')=>l=l'
 |_,_=>False
def a8u:Y4->Y4->Prop
 | [],[]=>True
 |o::r,o'::r'=>a3g o o'/\a8u r r'
 |_,_=>False
def b9Z(r:Rle)(x:r.ι)(as:List T)(H:Y4):Option (T×Y4×Option Prop):=
 match Nat.ble 9 (b82 (r.pre x))&& !Nat.beq (b82 H) (b82 (r.pre x)) with
 |false=>some (r.res x,r.post x,some (eJ as (r.args x)/\a8u H (r.pre x)/\r.side x))
 |true=>b9s (λas H=>some (r.res x,r.post x,some (eJ as (r.args x)/\a8u H (r.pre x)/\r.side x))) (b82 (r.pre x)) (r.pre x).length H as
def c2f(G:I5)(s:W5):Op->Option (FuncId×Con)
 | .call {callee:=.value x, .. }=>match cE s x with
  |some (f,_)=>(b8Y G f).map λr=>(f,r)
  |none=>none
 |_=>none
def c7S(f:FuncId)(r:Rl)(x:r.ι)(G:I5):I5:=(f,.pure λas=>some (r.res x,some (eJ as (r.args x)/\r.side x)))::G
def b0i(f:FuncId)(r:Rle)(x:r.ι)(G:I5):I5:=(f,.eff λas H=>b9Z r x as H)::G
def c6L(f:FuncId)(r:Rle)(x:r.ι)(G:I5):I5:=(f,.mk λas=>some (r.res x,r.post x,some (eJ as (r.args x)/\r.side x)))::G
def c6Z(f:FuncId)(r:Rl)(x:r.ι)(G:I5):I5:=(f,.fz λas=>some (r.res x,some (eJ as (r.args x)/\r.side x)))::G
def b8f:I5->FuncId->Option Con
 | [],_=>none
 |(g,_)::r,f=>match Nat.beq f g with
  |true=>w4 r f
  |false=>b8f r f
def gM(G:I5)(s:W5)(op:Op)(k:I5->Prop):Prop:=
 match c2f G s op with
 |none=>k G
 |some (f,c)=>match c with
  | .rel r=>∃x:r.ι,k (c7S f r x G)
  | .reff r=>match b8f G f with
   |some (.reff r2)=>(∃x:r.ι,k (b0i f r x G))∨∃x:r2.ι,k (b0i f r2 x G)
   |_=>∃x:r.ι,k (b0i f r x G)
  | .rmk r=>∃x:r.ι,k (c6L f r x G)
  | .rfz r=>∃x:r.ι,k (c6Z f r x G)
  |_=>k G
def kX(s:W5)(h:D4):Option Prop->Prop->Prop
 |none,q=>q
 |some p,q=>B6 s h p/\q
def gO(ps:A3)(h:D4):Operand->Bool
 | .tmp t=>sufB (S5 ps t) h
 |_=>true
def G5(ps:A3)(h:D4)(op:Op):Bool:=
 match op with
 | .pick (.tmp t) a b=>sufB (S5 ps t) h&&gO ps ((t,true)::h) a&&gO ps ((t,false)::h) b
 | .pick _ _ _=>false
 |op=>op.operands.toList.all (gO ps h)
def eX(ps:A3)(d:Nat):Bool:=ps.all λx=> !Nat.beq x.1 d&&x.2.all λy=> !Nat.beq y.1 d
def gW(ps:A3):Option Tmp->Bool
 |none=>true
 |some d=>eX ps d
def xN(s:W5)(d:Option Tmp)(t:T):W5:=match d with|some d=>(d,t)::s|none=>s
def cU(ps:A3)(d:Option Tmp)(p:D4):A3:=match d with|some d=>(d,p)::ps|none=>ps
def bV(s:W5):A3->W5
 | []=>s
 |(d,_)::r=>(d,.und)::bV s r
def s9(G:I5)(op:Op):Bool:=
 match op with
 | .box .. | .alloc .. | .store .. | .makeSlice .. | .buildSlice .. | .makeMap .. | .mapUpdate .. | .slice _ _ _ _ (some _)=>false
 | .call {callee:=.builtin .append, .. }=>false
 | .call {callee:=.builtin .clear, .. }=>false
 | .call {callee:=.value x, .. }=> !isEff G x
 |_=>true
def stays(G:I5)(op:Op):Bool:=
 match tC G op with
 |true=>true
 |false=>s9 G op
def kS(nt:Nat):Option Tmp->Bool
 |none=>true
 |some d=>Nat.blt d nt
def nI(ps:A3)(g:Nat):Option Tmp->Bool
 |none=>false
 |some d=> !Nat.beq d g&&(S5 ps g).all λy=> !Nat.beq y.1 d
def a8k(P:Program)(s:W5):Op->Option (Nat×Bool)
 | .binOp op t x y _=>match P.underlying t,L3 s x,L3 s y,op with
  |some (.slice _),.sl _ n _,.v (.slice none 0 0),.eql=>some (n,false)
  |some (.slice _),.sl _ n _,.v (.slice none 0 0),.neq=>some (n,true)
  |some (.slice _),.osl _ _ n,.v (.slice none 0 0),.eql=>some (n,false)
  |some (.slice _),.osl _ _ n,.v (.slice none 0 0),.neq=>some (n,true)
  |_,_,_,_=>none
 |_=>none
def c5u(b:Bool)(n:Nat):Prop:=b=true->n=0
def yJ(P:Program)(G:I5)(nt:Nat)(all:Array Oper):List Oper->W5->A3->Y4->(W5->Y4->Prop)->Prop
 | [],s,ps,H,K=>K (bV s ps) H
 |o::rest,s,ps,H,K=>
  match o.guard with
  |none=>match G5 ps [] o.op&&gW ps o.dst&&kS nt o.dst with
   |false=>False
   |true=>match a8k P s o.op with
    |some (n,neg)=>∀b:Bool,c5u b n->yJ P G nt all rest (xN s o.dst (.bool (cond neg (!b) b))) ps H K
    |none=>gM G s o.op λG'=>match A5 P G' s H o.op with
     |some (t,H',side)=>kX s [] side (yJ P G nt all rest (xN s o.dst t) ps H' K)
     |none=>False
  |some (j,want)=>match(all[j]?).bind (·.dst) with
   |some g=>match zY s g with
    | .bool _=>match G5 ps ((g,want)::S5 ps g) o.op&&gW ps o.dst&&kS nt o.dst&&nI ps g o.dst with
     |false=>False
     |true=>match stays G o.op with
      |true=>gM G s o.op λG'=>match A5 P G' s H o.op with
       |some (t,_,side)=>kX s ((g,want)::S5 ps g) side (yJ P G nt all rest (xN s o.dst t) (cU ps o.dst ((g,want)::S5 ps g)) H K)
       |none=>False
      |false=>match sD s ((g,want)::S5 ps g) with
       |false=>False
       |true=>gM G s o.op λG'=>match A5 P G' s H o.op with
        |some (t,H',side)=>kX s ((g,want)::S5 ps g) side (B6 s ((g,want)::S5 ps g) (yJ P G nt all rest (xN s o.dst t) (cU ps o.dst ((g,want)::S5 ps g)) H' K)/\
          (B6 s ((g,want)::S5 ps g) False->yJ P G nt all rest (xN s o.dst t) (cU ps o.dst ((g,want)::S5 ps g)) H K))
        |none=>False
    |_=>False
   |none=>False
def maskOf(t:List Nat):List Edge->Nat
 | []=>0
 |e::r=>match Region.binds .any e with
  |true=>Nat.lor (Nat.lor (Nat.shiftLeft 1 e.on) (t.getD e.on 0)) (maskOf t r)
  |false=>maskOf t r
def sS:List Operand->List Nat
 | []=>[]
 | .tmp t::r=>t::sS r
 |_::r=>sS r
def oN(all:Array Oper)(o:Oper):List Nat:=
 match o.guard with
 |none=>sS o.op.operands.toList
 |some (j,_)=>match(all[j]?).bind (·.dst) with
  |some g=>g::sS o.op.operands.toList
  |none=>sS o.op.operands.toList
def yO(G:I5)(op:Op):Bool:=
 match op with
 | .box .. | .alloc .. | .makeSlice .. | .buildSlice .. | .makeMap .. | .slice _ _ _ (some _) (some _)=>true
 | .call {callee:=.value x, .. }=>isMk G x
 |_=>false
def a97(op:Op):Bool:=
 match op with
 | .call {callee:=.value _, .. }=>true
 |_=>false
def b6O(op:Op):Bool:=
 match op with
 | .buildSlice .. =>true
 |_=>false
def floatB(G:I5)(op:Op):Bool:=b6O op||(a97 op&&yO G op)
def b1H(G:I5)(op:Op):Bool:=
 match op with
 | .call {callee:=.value x, .. }=>isEf G x
 |_=>false
def O8(G:I5):Bool:=Nat.beq 8 (mV G)
def twB(G:I5):Bool:=Nat.beq 9 (mV G)
def c6j(o:Oper):Bool:=
 match o.guard with
 |some _=>false
 |none=>match o.op with
  | .call {callee:=.builtin .append, .. }=>true
  |_=>false
def jC:List Oper->Nat->Option Nat->Option Nat
 | [],_,r=>r
 |o::l,i,r=>jC l (i+1) (match c6j o with|true=>some i|false=>r)
def b6Q(i:Nat)(o:Oper):Bool:=o.after.toList.all λe=> !Region.binds .any e||Nat.blt e.on i
def gdB(i:Nat)(o:Oper):Bool:=
 match o.guard with
 |some (j,_)=>Nat.blt j i
 |none=>true
def a5j(k:Nat):List Oper->List Nat->Bool
 | [],_=>true
 |o::r,tab=>b6Q tab.length o&&gdB tab.length o&&(Nat.blt tab.length k||Nat.beq (maskOf tab o.after.toList) (2 ^ tab.length-1))&&a5j k r (tab++[maskOf tab o.after.toList])
def q7(fl:Bool)(o:Oper):Bool:=
 match o.guard with
 |some _=>false
 |none=>match o.op with
  | .alloc _=>true
  | .call {callee:=.builtin .append, .. }=>fl
  |_=>false
def xK(fl:Bool):List Oper->Nat
 | []=>0
 |o::r=>match q7 fl o with
  |true=>xK fl r+1
  |false=>xK fl r
def lL(fl:Bool)(b:Nat)(all:Array Oper)(i:Nat):Nat:=b+xK fl (all.toList.take i)
def a5G(P:Program)(s:W5)(H:Y4)(op:Op)(r:Nat):Option (T×Y4×Option Prop):=
 match op with
 | .alloc t=>match zeroCells P t with
  |some z=>match Nat.beq z.length 0,z.all I7,Z1 H r,Nat.blt r H.length with
   |false,true,none,true=>some (.ref r 0 0,H.set r (some (.arr (z.all W7) 1000000 z.length 1 λ_=>z)),none)
   |_,_,_,_=>none
  |none=>none
 | .call {callee:=.builtin .append,args,argTypes}=>match args.toList,argTypes.toList with
  | [d,x],[t,tx]=>match L3 s d,P.underlying t with
   | .emp,some (.slice e)=>match P.info? e,zeroCells P e with
    |some i,some z=>match Nat.beq z.length i.size,xL [] (P.underlying tx) i.size (L3 s x) with
     |true,some q=>match q.cl,Z1 H r,Nat.blt r H.length with
      |true,none,true=>some (.osl r 0 q.n,H.set r (some (.arr true e i.size q.n q.row)),some (lA q.side (U9 0 q.n i.bytes)))
      |_,_,_=>none
     |_,_=>none
    |_,_=>none
   |_,_=>none
  |_,_=>none
 |_=>none
def a0X(H:Y4):Nat->Y4
 |0=>H
 |n+1=>H++List.replicate (n+1) none++[some (.arr true 0 1 0 λ_=>[])]
def b0v(u:Option Tmp)(l:List Nat):Bool:=
 match u with
 |some u=>l.any λv=>Nat.beq u v
 |none=>false
def a2p(a b:Option Tmp):Bool:=
 match a,b with
 |some a,some b=>Nat.beq a b
 |_,_=>false
def pureB(op:Op):Bool:=
 match op with
 | .move _| .assign _| .pick .. | .nilCheck _| .binOp .. | .unOp .. | .fieldAddr .. | .field .. | .extract .. | .build .. | .makeFunc .. | .index .. =>true
 |_=>false
def a0k(s:W5)(op:Op):Option (List Nat):=
 match op with
 | .load _ a=>match L3 s a with
  | .ref k _ _=>some [k]
  | .bref _=>some []
  |_=>none
 | .indexAddr _ x _=>match L3 s x with
  | .sl .. | .bys _=>some []
  | .osl k _ _=>some [k]
  |_=>none
 | .convert _ _ x=>match L3 s x with
  | .str _| .bys _| .int .. =>some []
  |_=>none
 | .slice _ x _ _ none=>match L3 s x with
  | .str _| .bys _| .sl .. =>some []
  | .osl k _ _=>some [k]
  |_=>none
 | .buildSlice .. =>some []
 | .call {callee:=.builtin .len, .. }=>some []
 | .call {callee:=.builtin .append, .. }=>some []
 | .call {callee:=.value x,args, .. }=>match cE s x with
  |some (_,cs)=>match(args.toList.map (L3 s)++cs).all (closedD 6) with
   |true=>some []
   |false=>none
  |none=>none
 |_=>none
def uD(H:Y4)(s:W5)(op:Op):Option (List Nat):=
 match op with
 | .call {callee:=.builtin .append,args, .. }=>match args.toList with
  |d::_=>match L3 s d with
   | .osl k _ _=>match Z1 H k with
    |some (.fam ..)=>none
    |_=>some [k]
   | .v _=>some []
   | .emp=>some []
   |_=>none
  | []=>none
 | .store _ a x=>match L3 s a with
  | .ref k _ _=>match Z1 H k with
   |some (.fam ..)=>match(U4 (L3 s x)).all closedOne with
    |true=>some [k]
    |false=>none
   |_=>some [k]
  | .pref k _ _ _ _ _ _=>some [k]
  |_=>none
 | .call {callee:=.value x,args, .. }=>match cE s x with
  |some (_,cs)=>match args.toList.map (L3 s)++cs with
   | .posl .. ::_=>none
   |as=>some (m3 H 64 (jS as) [])
  |none=>none
 |_=>none
abbrev RW:=Option (List Nat)×Option (List Nat)
def pN(H:Y4)(s:W5)(op:Op):RW:=(a0k s op,uD H s op)
def disjB(r w:Option (List Nat)):Bool:=
 match r,w with
 |some r,some w=>r.all λk=>w.all λj=> !Nat.beq k j
 |_,_=>false
def q8(G:I5)(all:Array Oper)(m i:Nat)(x:Oper)(f:RW)(o:Oper)(fo:RW):Bool:=
 !a2p x.dst o.dst&&(Nat.testBit m i||(!b0v x.dst (oN all o)&& !b0v o.dst (oN all x)&&(match stays G x.op,stays G o.op with
  |true,true=>true
  |true,false=>yO G o.op||pureB x.op||disjB f.1 fo.2
  |false,true=>yO G x.op||pureB o.op||disjB fo.1 f.2
  |false,false=>q7 (O8 G) o&&(q7 (O8 G) x||floatB G x.op||(b1H G x.op&&f.2.isSome)))))
def a1f(i:Nat)(o:Oper):Bool:=o.after.toList.all λe=> !Region.binds .any e||Nat.blt e.on i
def A6(H0:Y4):List (Nat×Y4)->Y4
 | []=>H0
 |(_,H)::_=>H
def B9(fl:Bool)(all:Array Oper)(k:Nat):Bool:=
 match all[k]? with
 |some o=>q7 fl o
 |none=>false
def hAt(fl:Bool)(all:Array Oper)(H0:Y4)(m:Nat):List (Nat×Y4)->Y4
 | []=>H0
 |(k,H)::r=>match Nat.testBit m k&& !B9 fl all k with
  |true=>H
  |false=>hAt fl all H0 m r
def tO(P:Program)(G:I5)(nt:Nat)(all:Array Oper)(b:Nat)(H0:Y4):List Oper->Nat->List (Nat×Oper×RW)->List Nat->W5->A3->List (Nat×Y4)->(W5->Y4->Prop)->Prop
 | [],_,_,_,s,ps,hist,K=>K (bV s ps) (A6 H0 hist)
 |o::rest,i,earlier,tab,s,ps,hist,K=>
  match a1f i o&&earlier.all (λx=>q8 G all (maskOf tab o.after.toList) x.1 x.2.1 x.2.2 o (pN (A6 H0 hist) s o.op)) with
  |false=>False
  |true=>match o.guard with
   |none=>match G5 ps [] o.op&&gW ps o.dst&&kS nt o.dst with
    |false=>False
    |true=>match q7 (O8 G) o with
     |true=>match a5G P s (A6 H0 hist) o.op (lL (O8 G) b all i) with
      |some (y,H',side)=>kX s [] side (tO P G nt all b H0 rest (i+1) ((i,o,pN (A6 H0 hist) s o.op)::earlier) (tab++[maskOf tab o.after.toList]) (xN s o.dst y) ps ((i,H')::hist) K)
      |none=>False
     |false=>match stays G o.op with
      |true=>gM G s o.op λG'=>match A5 P G' s (hAt (O8 G) all H0 (maskOf tab o.after.toList) hist) o.op with
       |some (t,_,side)=>kX s [] side (tO P G nt all b H0 rest (i+1) ((i,o,pN (A6 H0 hist) s o.op)::earlier) (tab++[maskOf tab o.after.toList]) (xN s o.dst t) ps hist K)
       |none=>False
      |false=>gM G s o.op λG'=>match A5 P G' s (A6 H0 hist) o.op with
       |some (t,H',side)=>kX s [] side (tO P G nt all b H0 rest (i+1) ((i,o,pN (A6 H0 hist) s o.op)::earlier) (tab++[maskOf tab o.after.toList]) (xN s o.dst t) ps ((i,H')::hist) K)
       |none=>False
   |some (j,want)=>match(all[j]?).bind (·.dst) with
    |some g=>match zY s g with
     | .bool _=>match Nat.blt j i&&G5 ps ((g,want)::S5 ps g) o.op&&gW ps o.dst&&kS nt o.dst&&stays G o.op&&nI ps g o.dst with
      |false=>False
      |true=>gM G s o.op λG'=>match A5 P G' s (hAt (O8 G) all H0 (maskOf tab o.after.toList) hist) o.op with
       |some (t,_,side)=>kX s ((g,want)::S5 ps g) side (tO P G nt all b H0 rest (i+1) ((i,o,pN (A6 H0 hist) s o.op)::earlier) (tab++[maskOf tab o.after.toList]) (xN s o.dst t) (cU ps o.dst ((g,want)::S5 ps g)) hist K)
       |none=>False
     |_=>False
    |none=>False
def a7W(P:Program)(G:I5)(nt:Nat)(ops:Array Oper)(s:W5)(H:Y4)(K:W5->Y4->Prop):Prop:=
 tO P G nt ops H.length (a0X H (xK (O8 G) ops.toList)) ops.toList 0 [] [] s [] [] K
def sG(P:Program)(s:W5)(H:Y4)(o:Oper)(b:Bool):Option (T×Y4×Option Prop):=
 match o.guard,o.op with
 |none,.call {callee:=.builtin .append,args,argTypes}=>match args.toList,argTypes.toList with
  | [d,x],[t,tx]=>match L3 s d,P.underlying t with
   | .osl k off n,some (.slice e)=>match P.info? e,zeroCells P e,Z1 H k with
    |some i,some z,some (.arr cl _ sz N row)=>match Nat.beq z.length i.size&& !Nat.beq i.size 0&&Nat.beq sz i.size with
     |true=>(xL H (P.underlying tx) i.size (L3 s x)).map λS=>(.osl H.length (cond b 0 off) (n+S.n),H.set k none++[some (.arr (cl&&S.cl) e i.size (cond b (n+S.n) (off+n+S.n)) (cond b (X7 (λi=>row (off+i)) n S.row) (X7 row (off+n) S.row)))],some (lA S.side (Le (off+n) N/\Lt 0 S.n/\U9 (off+n) S.n i.bytes)))
     |false=>none
    |_,_,_=>none
   |_,_=>none
  |_,_=>none
 |_,_=>none
def lS(P:Program)(G:I5)(nt:Nat)(all:Array Oper)(s:W5)(H:Y4)(K:W5->Y4->Prop):List Oper->Prop
 | []=>False
 |o::rest=>match G5 [] [] o.op&&kS nt o.dst with
  |false=>False
  |true=>∀b:Bool,match sG P s H o b with
   |some (t,H',side)=>kX s [] side (yJ P G nt all rest (xN s o.dst t) [] H' K)
   |none=>False
def b0p:I5->I5
 | []=>[]
 |(_,.tmp)::r=>b0p r
 |x::r=>x::b0p r
def a1b:I5->I5
 | []=>[]
 |(f,.tmp)::r=>(f,.tmp)::b0p r
 |x::r=>x::a1b r
def pH(P:Program)(G:I5)(nt:Nat)(ops:Array Oper)(s:W5)(H:Y4)(K:W5->Y4->Prop):Prop:=
 match twB G with
 |false=>a7W P G nt ops s H K
 |true=>match jC ops.toList 0 none with
  |none=>a7W P G nt ops s H K
  |some k=>match a5j k ops.toList [] with
   |false=>a7W P G nt ops s H K
   |true=>a7W P (a1b G) nt (ops.toList.take k).toArray s H λs H=>lS P G nt ops s H K (ops.toList.drop k)
def b42(body:(Exit->Sy->Prop)->Sy->Prop)(sub:Sy->Sy->Prop)(Q:Exit->Sy->Prop)(σ:Sy):Prop:=
 ∃(ι:Type) (I:ι->Sy) (μ:ι->Nat),(∃x,sub σ (I x))/\∀x,body (λe σ'=>match e with| .normal=>∃y,sub σ' (I y)/\μ y<μ x|e=>Q e σ') (I x)
def vc(P:Program)(G:I5)(nt:Nat)(sub:Sy->Sy->Prop):Code->(Exit->Sy->Prop)->Sy->Prop
 | .skip,Q,σ=>Q .normal σ
 | .region _ ops draw,Q,σ=>match draw with
  |false=>yJ P G nt ops ops.toList σ.s [] σ.H λs H=>Q .normal ⟨s,H⟩
  |true=>pH P G nt ops σ.s σ.H λs H=>Q .normal ⟨s,H⟩
 | .seq a b,Q,σ=>vc P G nt sub a (λe σ'=>match e with| .normal=>vc P G nt sub b Q σ'|e=>Q e σ') σ
 | .cond c x y,Q,σ=>match L3 σ.s c with
  | .bool b=>(b=true->vc P G nt sub x Q σ)/\(b=false->vc P G nt sub y Q σ)
  |_=>False
 | .block id body,Q,σ=>vc P G nt sub body (λe σ'=>match e with| .exit i=>(match Nat.beq i id with|true=>Q .normal σ'|false=>Q (.exit i) σ')|e=>Q e σ') σ
 | .loop body,Q,σ=>b42 (vc P G nt sub body) sub Q σ
 | .exit id,Q,σ=>Q (.exit id) σ
 | .ret,Q,σ=>Q .ret σ
 |_,_,_=>False
def a1Y(P:Program)(s:W5)(H:Y4):ResultVar->Option (T×Option Prop)
 | .tmp t=>some (zY s t,none)
 | .cell a t=>yA P H t (zY s a)
def b7f(P:Program)(s:W5)(H:Y4)(r:List ResultVar):Option (T×Option Prop):=
 match N5 (a1Y P s H) r with
 |some [x]=>some x
 |some xs=>some (.tup (xs.map (·.1)),wW xs)
 |none=>none
def dD:Option Prop->Prop->Prop
 |none,q=>q
 |some p,q=>p/\q
def b40(P:Program)(R:List ResultVar)(post:T->Prop):Exit->Sy->Prop
 | .normal,σ| .ret,σ=>match b7f P σ.s σ.H R with
  |some (r,p)=>match M6 0 σ.H 6 r with
   |some (r',p')=>dD p (dD p' (post r'))
   |none=>False
  |none=>False
 |_,_=>False
def qG:Nat->List T->W5
 |_,[]=>[]
 |i,t::r=>(i,t)::qG (i+1) r
structure Env where
 N:Nat->Prop
 L:Nat->Prop
 β:Nat->Nat
 κ:Nat->Nat
 z:Nat->Nat×List Value
 L2:Nat->Nat->Prop
 b2:Nat->Nat->Nat->Nat->Nat
 c2:Nat->Nat->Nat->Nat->Nat
inductive Rd(E:Env)(w:World):T->Value->Prop
 |int (k:IntKind) (n:Int):Rd E w (.int k n) (.int k n)
 |bool (b:Bool):Rd E w (.bool b) (.bool b)
 |str (l:Bz):Rd E w (.str l) (.string ⟨l.toArray⟩)
 |v (x:Value):Rd E w (.v x) x
 |slNil (sz:Nat) (row:Nat->List T):Rd E w (.sl sz 0 row) (.slice none 0 0)
 |sl (sz n:Nat) (row:Nat->List T) (b off cap:Nat) (u:Nat->Nat->Value) (hN:E.N b) (hc:n<=cap)
   (hl:∀i,i<n->(row i).length=sz) (h1:∀i t,i<n->t ∈ row i->I7 t=true/\W7 t=true)
   (hr:∀i j t,i<n->(row i)[j]? =some t->w.cell? ⟨b,off+i*sz+j,none⟩=some (u i j))
   (ht:∀i j t,i<n->(row i)[j]? =some t->Rd E w t (u i j)):Rd E w (.sl sz n row) (.slice (some ⟨b,off,none⟩) n cap)
 |bysNil:Rd E w (.bys []) (.slice none 0 0)
 |slEmp (sz:Nat) (row:Nat->List T) (a:Addr):Rd E w (.sl sz 0 row) (.slice (some a) 0 0)
 |bysEmp (a:Addr):Rd E w (.bys []) (.slice (some a) 0 0)
 |bys (l:Bz) (b off cap:Nat) (hN:E.N b) (hc:l.length<=cap)
   (hr:∀i x,l[i]? =some x->w.cell? ⟨b,off+i,none⟩=some (.int .u8 (x.toNat:Int))):Rd E w (.bys l) (.slice (some ⟨b,off,none⟩) l.length cap)
 |bref (cells:List T) (b off:Nat) (u:Nat->Value) (hN:E.N b) (h1:∀t,t ∈ cells->W7 t=true)
   (hr:∀j t,cells[j]? =some t->w.cell? ⟨b,off+j,none⟩=some (u j))
   (ht:∀j t,cells[j]? =some t->Rd E w t (u j)):Rd E w (.bref cells) (.pointer (some ⟨b,off,none⟩))
 |ref (k i j:Nat) (hL:E.L k):Rd E w (.ref k i j) (.pointer (some ⟨E.β k,i*(E.z k).1+j,none⟩))
 |osl (k off n o:Nat) (a:Option Addr) (hL:E.L k) (hn:off+n<=E.κ k) (ho:off<E.κ k∨off=0->o=off*(E.z k).1) (ha:E.κ k≠0->a=some ⟨E.β k,o,none⟩):Rd E w (.osl k off n) (.slice a n (E.κ k-off))
 |posl (k v i j n:Nat) (a:Option Addr) (hL:E.L2 k v) (hn:n<=E.c2 k v i j) (ha:E.c2 k v i j≠0->a=some ⟨E.b2 k v i j,0,none⟩):Rd E w (.posl k v i j n) (.slice a n (E.c2 k v i j))
 |pref (k v i j z a b:Nat) (hL:E.L2 k v):Rd E w (.pref k v i j z a b) (.pointer (some ⟨E.b2 k v i j,a*z+b,none⟩))
 |agg (cs:List T) (vs:Array Value) (hl:cs.length=vs.size) (ht:∀(i:Nat) (t:T) (x:Value),cs[i]? =some t->vs[i]? =some x->Rd E w t x):Rd E w (.agg cs) (.agg vs)
 |tup (cs:List T) (vs:Array Value) (hl:cs.length=vs.size) (ht:∀(i:Nat) (t:T) (x:Value),cs[i]? =some t->vs[i]? =some x->Rd E w t x):Rd E w (.tup cs) (.tuple vs)
 |fn (f:Fn) (cs:List T) (vs:Array Value) (hl:cs.length=vs.size) (ht:∀(i:Nat) (t:T) (x:Value),cs[i]? =some t->vs[i]? =some x->Rd E w t x):Rd E w (.fn f cs) (.func f #[] vs)
 |mpr (k:Nat) (hL:E.L k):Rd E w (.mpr k) (.map (some (E.β k)))
 |emp (a:Option Addr):Rd E w .emp (.slice a 0 0)
 |und (x:Value):Rd E w .und x
structure Env.le(E E':Env):Prop where
 N:∀b,E.N b->E'.N b
 L:∀k,E.L k->E'.L k
 β:∀k,E.L k->E'.β k=E.β k
 κ:∀k,E.L k->E'.κ k=E.κ k
 z:∀k,E.L k->E'.z k=E.z k
 L2:∀k v,E.L2 k v->E'.L2 k v
 b2:∀k v i j,E.L2 k v->E'.b2 k v i j=E.b2 k v i j
 c2:∀k v i j,E.L2 k v->E'.c2 k v i j=E.c2 k v i j
theorem Env.le.refl(E:Env):E.le E:=⟨λ_ h=>h,λ_ h=>h,λ_ _=>rfl,λ_ _=>rfl,λ_ _=>rfl,λ_ _ h=>h,λ_ _ _ _ _=>rfl,λ_ _ _ _ _=>rfl⟩
theorem Env.le.trans{A B C:Env}(h:A.le B)(k:B.le C):A.le C:=
 ⟨λb x=>k.N b (h.N b x),λb x=>k.L b (h.L b x),λb x=>(k.β b (h.L b x)).trans (h.β b x),λb x=>(k.κ b (h.L b x)).trans (h.κ b x),λb x=>(k.z b (h.L b x)).trans (h.z b x),
  λb v x=>k.L2 b v (h.L2 b v x),λb v i j x=>(k.b2 b v i j (h.L2 b v x)).trans (h.b2 b v i j x),λb v i j x=>(k.c2 b v i j (h.L2 b v x)).trans (h.c2 b v i j x)⟩
section
variable {E E':Env} {w w':World} {P:Program}
theorem Rd.mono(e:E.le E')(W:∀b,E.N b->w'.heap[b]? =w.heap[b]?){t:T}{x:Value}(h:Rd E w t x):Rd E' w' t x:=by
 induction h with
 |int k n=>exact .int k n
 |bool b=>exact .bool b
 |str l=>exact .str l
 |v x=>exact .v x
 |slNil sz row=>exact .slNil sz row
 |sl sz n row b off cap u g C hl q r _ I=>
  exact .sl sz n row b off cap u (e.N b g) C hl q (λi j t hi J=>by rw[World.cell?_of_block (w:=w) (W b g)];exact r i j t hi J) I
 |bysNil=>exact .bysNil
 |slEmp sz row a=>exact .slEmp sz row a
 |bysEmp a=>exact .bysEmp a
 |bys l b off cap g C r=>exact .bys l b off cap (e.N b g) C λi x hx=>by rw[World.cell?_of_block (w:=w) (W b g)];exact r i x hx
 |bref cells b off u g q r _ I=>exact .bref cells b off u (e.N b g) q (λj t J=>by rw[World.cell?_of_block (w:=w) (W b g)];exact r j t J) I
 |ref k i j d=>rw[←e.β k d,←e.z k d];exact .ref k i j (e.L k d)
 |osl k off n o a d A O B=>rw[←e.κ k d];exact .osl k off n o a (e.L k d) (by rw[e.κ k d];exact A) (by rw[e.κ k d,e.z k d];exact O) (by rw[e.κ k d,e.β k d];exact B)
 |posl k v i j n a d A B=>rw[←e.c2 k v i j d];exact .posl k v i j n a (e.L2 k v d) (by rw[e.c2 k v i j d];exact A) (by rw[e.c2 k v i j d,e.b2 k v i j d];exact B)
 |pref k v i j z a b d=>rw[←e.b2 k v i j d];exact .pref k v i j z a b (e.L2 k v d)
 |agg cs vs hl _ I=>exact .agg cs vs hl I
 |tup cs vs hl _ I=>exact .tup cs vs hl I
 |fn f cs vs hl _ I=>exact .fn f cs vs hl I
 |mpr k d=>rw[←e.β k d];exact .mpr k (e.L k d)
 |emp a=>exact .emp a
 |und x=>exact .und x
def Siz(cs:Array Value)(n:Nat)(t:List Value):Prop:=n+t.length<=cs.size/\∀j u,t[j]? =some u->cs[n+j]? =some u
theorem a8A{cs:Array Value}{n:Nat}(h:n<=cs.size):Siz cs n []:=⟨h,λj u U=>(by cases U)⟩
theorem Siz.le{cs:Array Value}{n:Nat}{t:List Value}(h:Siz cs n t):n<=cs.size:=Nat.le_trans (Nat.le_add_right _ _) h.1
theorem Siz.any{cs:Array Value}{n:Nat}{t:List Value}(h:Siz cs n t):Siz cs n []:=a8A h.le
theorem Siz.keep{cs C:Array Value}{n:Nat}{t:List Value}(h:Siz cs n t)(e:C.size=cs.size)(d:∀q,n<=q->C[q]? =cs[q]?):Siz C n t:=
 ⟨by rw[e];exact h.1,λj u U=>by rw[d _ (Nat.le_add_right _ _)];exact h.2 j u U⟩
def T4(E:Env)(w:World)(k:Nat)(A:Arr):Prop:=
 (E.z k).1=A.sz/\A.n<=E.κ k/\(∀i,i<A.n->(A.row i).length=A.sz)/\(∀i t,i<A.n->t ∈ A.row i->I7 t=true)/\(A.cl=true->∀i t,i<A.n->t ∈ A.row i->W7 t=true)/\
   ∃cs ty,(E.κ k≠0->w.heap[E.β k]? =some (.cells cs ty (0,0)))/\Siz cs (E.κ k*A.sz) (E.z k).2/\
    ∀i j t,i<A.n->(A.row i)[j]? =some t->∃u,cs[i*A.sz+j]? =some u/\Rd E w t u
def a0P(o:Bool)(n:Int):Value:=match o with
 |true=>.bool (decide (n≠0))
 |false=>.int .i64 n
def lk(n:Int):List MapEntry->Option Value
 | []=>none
 |e::r=>match e.key with
  | .int .i64 m=>if n=m then some e.val else lk n r
  |_=>lk n r
def c4Q(o:Bool)(get:Int->Int)(es:List MapEntry):Prop:=
 (∀e ∈ es,∃m,e.key= .int .i64 m)/\∀n,match lk n es with
  |some v=>v=a0P o (get n)
  |none=>get n=0
def b0y(E:Env)(w:World)(k:Nat)(o:Bool)(get:Int->Int):Prop:=
 E.κ k≠0/\∃es clock,w.heap[E.β k]? =some (.map es clock)/\c4Q o get es.toList
def r9(a b:Int):Value:=.agg #[.int .i64 a,.int .i64 b]
def a1j(E:Env)(w:World)(k:Nat)(get:Int->Int->Bool):Prop:=
 E.κ k≠0/\∃es clock,w.heap[E.β k]? =some (.map es clock)/\(∀e ∈ es.toList,∃a b,O7 .i64 a/\O7 .i64 b/\e.key=r9 a b/\e.val= .bool (get a b))/\
  (∀a b,get a b=true->∃e ∈ es.toList,e.key=r9 a b)/\(es.toList.map (·.key)).Nodup
def Env.sub(E:Env)(k v i j z:Nat):Env:={E with β:=λ_=>E.b2 k v i j,κ:=λ_=>E.c2 k v i j,z:=λ_=>(z,[])}
def b4U(t:T):Bool:=a8L t||closedOne t
structure FamOk(E:Env)(w:World)(k v:Nat)(ty:TypeId)(sz n:Nat)(row:Nat->List T):Prop where
 l2:E.L2 k v
 arr:T4 E w k ⟨false,ty,sz,n,xD k v row⟩
 fam:∀i t,i<n->t ∈ row i->b4U t=true
 own:∀i j oty osz on orow,i<n->(row i)[j]? =some (.own oty osz on orow)->T4 (E.sub k v i j osz) w 0 ⟨true,oty,osz,on,orow⟩/\(E.c2 k v i j≠0->E.κ k≠0->E.b2 k v i j≠E.β k)
 inj:∀i j i' j' oty osz on orow oty' osz' on' orow',i<n->i'<n->(row i)[j]? =some (.own oty osz on orow)->(row i')[j']? =some (.own oty' osz' on' orow')->
  E.c2 k v i j≠0->E.c2 k v i' j'≠0->E.b2 k v i j=E.b2 k v i' j'->i=i'/\j=j'
def i6(E:Env)(w:World)(k:Nat)(ob:Ob):Prop:=
 match ob with
 | .mp bo get=>b0y E w k bo get
 | .mp2 get=>a1j E w k get
 | .fam v ty sz n row=>FamOk E w k v ty sz n row
 |ob=>T4 E w k ob.toArr
def a8e(E:Env)(k:Nat)(ob:Ob)(b:Nat):Prop:=
 ∃v ty sz n row i j oty osz on orow,ob= .fam v ty sz n row/\i<n/\(row i)[j]? =some (.own oty osz on orow)/\E.c2 k v i j≠0/\b=E.b2 k v i j
def B7(E:Env)(k:Nat)(ob:Ob)(b:Nat):Prop:=(E.κ k≠0/\b=E.β k)∨a8e E k ob b
structure HeapOk(E:Env)(w:World)(H:Y4):Prop where
 live:∀k ob,Z1 H k=some ob->E.L k/\i6 E w k ob/\∀b,B7 E k ob b->¬E.N b
 inj:∀k k' ob ob' b,Z1 H k=some ob->Z1 H k'=some ob'->B7 E k ob b->B7 E k' ob' b->k=k'
 lt:∀k,E.L k->k<H.length
 l2:∀k v,E.L2 k v->E.L k
 cur:∀k ob v,Z1 H k=some ob->E.L2 k v->∃v0 ty sz n row,ob= .fam v0 ty sz n row/\v<=v0
theorem a8e.not{E:Env}{k:Nat}{ob:Ob}{b:Nat}(h:a8e E k ob b)(N:∀v ty sz n row,ob≠ .fam v ty sz n row):False:=by
 obtain⟨v,ty,sz,n,row,_,_,_,_,_,_,e,_⟩:=h;exact N v ty sz n row e
theorem B7.arr{E:Env}{k:Nat}{ob:Ob}{b:Nat}(h:B7 E k ob b)(hi:ob.isArr=true):E.κ k≠0/\b=E.β k:=by
 rcases h with h|h
 ·exact h
 ·exact(h.not (by rintro v ty sz n row rfl;cases hi)).elim
theorem A2{α:Type}{xs:Array α}{i:Nat}{x:α}(h:xs[i]? =some x):i<xs.size:=(cP.1 h).1
theorem i6.blt{E:Env}{w:World}{k:Nat}{ob:Ob}{b:Nat}(h:i6 E w k ob)(B:B7 E k ob b):b<w.heap.size:=by
 rcases B with⟨e,rfl⟩|⟨v,ty,sz,n,row,i,j,O,z,on,o,rfl,hi,J,g,rfl⟩
 ·cases ob with
  |mp q get=>obtain⟨_,f,C,d,_⟩:=h;exact A2 d
  |mp2 get=>obtain⟨_,f,C,d,_⟩:=h;exact A2 d
  |fam v ty sz n row=>obtain⟨_,_,_,_,_,cs,ty,d,_⟩:=h.arr;exact A2 (d e)
  |arr cl ty sz n row=>obtain⟨_,_,_,_,_,cs,ty,d,_⟩:=h;exact A2 (d e)
  |bys ty l=>obtain⟨_,_,_,_,_,cs,ty,d,_⟩:=h;exact A2 (d e)
 ·obtain⟨⟨_,_,_,_,_,cs,ty,d,_⟩,_⟩:=h.own i j O z on o hi J;exact A2 (d g)
theorem HeapOk.blt{E:Env}{w:World}{H:Y4}(h:HeapOk E w H){k:Nat}{ob:Ob}{b:Nat}(d:Z1 H k=some ob)(B:B7 E k ob b):b<w.heap.size:=(h.live k ob d).2.1.blt B
theorem a4S(c:Value):Rd E w (a0R c) c:=by
 cases c<;>first|exact .int _ _|exact .bool _|exact .v _|skip
 case string s=>exact .str s.data.toList
def Sl(E:Env)(w:World)(a:Act)(s:W5)(i:Nat):Prop:=Rd E w (zY s i) (a.tmps.getD i undef)
def G0(E:Env)(w:World)(a:Act)(s:W5)(x:Operand):Prop:=Rd E w (L3 s x) (a.eval x)
theorem a1E{a:Act}{s:W5}{x:Operand}(h:∀t,x= .tmp t->Sl E w a s t):G0 E w a s x:=by
 cases x with
 |tmp t=>exact h t rfl
 |const c=>exact a4S c
 |func f=>exact .v _
 |global g=>exact .v _
theorem u5{b:Bool}{x:Value}(h:Rd E w (.bool b) x):x= .bool b:=by cases h;rfl
theorem J3{k:IntKind}{n:Int}{x:Value}(h:Rd E w (.int k n) x):x= .int k n:=by cases h;rfl
theorem yE{l:Bz}{x:Value}(h:Rd E w (.str l) x):x= .string ⟨l.toArray⟩:=by cases h;rfl
theorem wK{y x:Value}(h:Rd E w (.v y) x):x=y:=by cases h;rfl
theorem iN{a:Act}{s:W5}{c x y:Operand}{t:T}(h:a2f s c x y=some t)(hc:G0 E w a s c)
  (hx:∀b,L3 s c= .bool b->b=true->G0 E w a s x) (Y:∀b,L3 s c= .bool b->b=false->G0 E w a s y):
  ∃b,a.eval c= .bool b/\Rd E w t (if b then a.eval x else a.eval y):=by
 unfold a2f at h;unfold G0 at hc;split at h
 ·rename_i cb hcb;rw[hcb] at hc;refine⟨cb,u5 hc,?_⟩
  split at h
  ·split at h
   ·rename_i yb hyb;simp only[X2] at h;subst h;cases cb with
    |true=>simp only[Bool.true_or,if_true];exact .bool true
    |false=>
     have:=Y false hcb rfl;unfold G0 at this;rw[hyb] at this;simp only[Bool.false_or,Bool.false_eq_true,if_false];exact this
   ·cases h
  ·split at h
   ·rename_i xb hxb;simp only[X2] at h;subst h;cases cb with
    |false=>simp only[Bool.false_and,Bool.false_eq_true,if_false];exact .bool false
    |true=>
     have:=hx true hcb rfl;unfold G0 at this;rw[hxb] at this;simp only[Bool.true_and,if_true];exact this
   ·cases h
  ·cases h
 ·cases h
end
section
variable {E:Env} {w:World} {P:Program}
theorem hJ{k:IntKind}{n:Int}(h:O7 k n):k.wrap n=n:=by
 obtain⟨d,e⟩:=h;unfold IntKind.wrap;cases k<;>simp only[IntKind.min,IntKind.max,IntKind.signed,IntKind.bits,Bool.true_and,Bool.false_and,if_true,if_false,Bool.false_eq_true,ge_iff_le,r8] at* <;>(try split)<;>omega
theorem rF(t:TypeId)(h:(P.underlying t).isSome=true):(isAgg t).run P w= .ok (a6M P t) w:=by
 obtain⟨d,hd⟩:=Option.isSome_iff_exists.1 h;unfold isAgg a6M;rw[hd];simp only[D8,run_underlying hd,E7];cases d<;>rfl
theorem C2(t:TypeId)(h:(P.info? t).isSome=true):(sizeOf t).run P w= .ok (P.cellsOf t) w:=by
 obtain⟨d,hd⟩:=Option.isSome_iff_exists.1 h;unfold sizeOf Program.cellsOf typeInfo;simp[hd]
theorem yN{t:TypeId}(h:(P.underlying t).isSome=true):(P.info? t).isSome=true:=by
 unfold Program.underlying at h;cases hi:P.info? t with
 |none=>rw[hi] at h;cases h
 |some i=>rfl
theorem H4(h:p:=by simp;omega):p:=h
theorem Z9(h:p:=by omega):p:=h
theorem iT{t:TypeId}{cs:List T}{vs:Array Value}{off:Nat}{x:T}(hx:xJ P t cs off=some x)
  (hl:cs.length=vs.size) (d:∀(i:Nat) (t:T) (x:Value),cs[i]? =some t->vs[i]? =some x->Rd E w t x):
  ∃v,(part t vs off).run P w= .ok v w/\Rd E w x v:=by
 unfold xJ at hx;unfold part;split at hx
 ·rename_i hu hag;simp only[D8,rF t hu,E7];split at hx
  ·rename_i hb;simp only[X2] at hx;subst hx;have hb':=zP hb;simp only[hag,if_true,D8,C2 t (yN hu),E7,B2];refine⟨_,rfl,.agg _ _ H4 λi y z hy hz=>?_⟩
   rw[List.getElem?_take] at hy
   rw[Array.getElem?_extract] at hz
   split at hy
   ·rw[List.getElem?_drop] at hy
    split at hz
    ·exact d (off+i) y z hy hz
    ·cases hz
   ·cases hy
  ·cases hx
 ·rename_i hu hag;simp only[D8,rF t hu,E7];have e:off<cs.length:=by
   rcases Nat.lt_or_ge off cs.length with h|h
   ·exact h
   ·rw[List.getElem?_eq_none h] at hx;cases hx
  have hv:vs[off]? =some (vs[off]' Z9):=uJ _
  simp only[hag,Bool.false_eq_true,if_false,hv,B2];exact⟨_,rfl,d off _ _ hx hv⟩
 ·cases hx
theorem c3g{op:BinOp}{a b:Int}{r:Bool}(h:a92 op a b=some r):Op.intCmp op a b=pure (.bool r):=by
 unfold a92 at h;split at h<;>simp only[X2,reduceCtorEq] at h<;>subst h<;>rfl
theorem W8(h:p:=by simp):p:=h
theorem c5b{op:BinOp}{k k':IntKind}{a b:Int}{ty:TypeId}{t:T}{side:Option Prop}(h:b63 op k a b=some (t,side))(hk:eZ op k k'=true)(hs:side.getD True):
  ∃v,(binOp op ty (.int k a) (.int k' b)).run P w= .ok v w/\Rd E w t v:=by
 have hkk:op≠ .shl->op≠ .shr->k=k':=by
  intro h1 h2;unfold eZ at hk;split at hk
  ·exact absurd rfl h1
  ·exact absurd rfl h2
  ·exact E4 hk
 unfold b63 at h;split at h
 case h_1|h_2|h_3=>
  obtain rfl:=hkk W8 W8
  simp only[X2,U0] at h;obtain⟨rfl,rfl⟩:=h;simp only[Option.getD_some] at hs;simp only[binOp_add,binOp_sub,binOp_mul,Op.intArith,B2,hJ hs];exact⟨_,rfl,.int _ _⟩
 case h_4=>
  obtain rfl:=hkk W8 W8
  simp only[X2,U0] at h;obtain⟨rfl,rfl⟩:=h;obtain⟨h1,h2⟩:=hs;simp only[binOp_quo,Op.intDiv];rw[if_neg h1];simp only[B2,hJ h2];exact⟨_,rfl,.int _ _⟩
 case h_5=>
  obtain rfl:=hkk W8 W8
  simp only[X2,U0] at h;obtain⟨rfl,rfl⟩:=h;simp only[binOp_rem,Op.intDiv];rw[if_neg (show b≠0 from hs)]
  exact⟨_,rfl,.int _ _⟩
 case h_6|h_7|h_8|h_9=>
  obtain rfl:=hkk W8 W8
  simp only[X2,U0] at h;obtain⟨rfl,rfl⟩:=h;simp only[binOp_and,binOp_or,binOp_xor,binOp_andNot,intBits_and,intBits_or,intBits_xor,intBits_andNot];exact⟨_,rfl,.int _ _⟩
 case h_10|h_11=>
  simp only[X2,U0] at h;obtain⟨rfl,rfl⟩:=h;have hs:0<=b:=hs;simp only[binOp,Op.shift];rw[if_neg Z9]
  exact⟨_,rfl,.int _ _⟩
 case h_12 hadd hsub hmul hquo hrem hand hor hxor handn hshl hshr=>
  obtain rfl:=hkk hshl hshr;cases hc:a92 op a b with
  |none=>rw[hc] at h;cases h
  |some r=>
   rw[hc] at h;simp only[m8,X2,U0] at h;obtain⟨rfl,rfl⟩:=h;have he:=c3g hc;have:binOp op ty (.int k a) (.int k b)=Op.intCmp op a b:=by
    cases op<;>first|rfl|simp_all [binOp]
   rw[this,he];exact⟨_,rfl,.bool _⟩
end
section
variable {E:Env} {w:World} {P:Program}
theorem oW(l:Bz):(ByteArray.mk l.toArray).toList=l:=by rw[ByteArray.toList_eq]
theorem c5A{op:BinOp}{a b:Bz}{ty:TypeId}{t:T}{side:Option Prop}(h:b4Z op a b=some (t,side))(d:side.getD True):
  ∃v,(binOp op ty (.string ⟨a.toArray⟩) (.string ⟨b.toArray⟩)).run P w= .ok v w/\Rd E w t v:=by
 unfold b4Z at h;split at h<;>simp only[X2,U0,reduceCtorEq] at h<;>obtain⟨rfl,rfl⟩:=h
 ·have d:a.length+b.length<9223372036854775808:=d;have e:(⟨a.toArray⟩++⟨b.toArray⟩:ByteArray)=⟨(a++b).toArray⟩:=by
   apply ByteArray.ext
   simp
  simp only[binOp,Op.stringOp];rw[if_neg (by simp only[ByteArray.size,List.size_toArray,IntKind.max_i64];omega),e]
  exact⟨_,rfl,.str _⟩
 all_goals
  simp only[binOp,Op.stringOp,oW];exact⟨_,rfl,.bool _⟩
theorem c1b{d:Nat}{xs Y:List T}{U vs:Array Value}{R:TypeId->T->T->Option Bool}
  (hrec:∀t x y r u v,R t x y=some r->Rd E w x u->Rd E w y v->(Op.equalIn d t u v).run P w= .ok r w)
  (hxl:xs.length=U.size) (hyl:Y.length=vs.size) (hx:∀(i:Nat) (t:T) (x:Value),xs[i]? =some t->U[i]? =some x->Rd E w t x)
  (hy:∀(i:Nat) (t:T) (x:Value),Y[i]? =some t->vs[i]? =some x->Rd E w t x):
  ∀(F:List Field) (r:Bool),b4q P R xs Y F=some r->(Op.eqFields d U vs F).run P w= .ok r w:=by
 intro F;induction F with
 |nil=>
  intro r h;simp only[b4q,X2] at h;subst h;rfl
 |cons f F I=>
  intro r h;simp only[b4q] at h;split at h
  ·rename_i a b hd ha hb;split at h
   ·rename_i p q hp hq;simp only[X2] at h;subst h;have hne:f.name≠ "_" :=s6 hd;obtain⟨u,hu,hru⟩:=iT (P:=P) ha hxl hx;obtain⟨v,hv,hrv⟩:=iT (P:=P) hb hyl hy;have he:=hrec _ _ _ _ _ _ hp hru hrv;simp only[Op.eqFields];rw[if_pos hne];simp only[D8,hu,hv,he,E7];cases p with
    |true=>simpa using I q hq
    |false=>simp
   ·cases h
  ·cases h
theorem b5E:∀(d D:Nat) (t:TypeId) (x y:T) (r:Bool) (u v:Value),d<=D->eqT P d t x y=some r->Rd E w x u->Rd E w y v->(Op.equalIn D t u v).run P w= .ok r w:=by
 intro d;induction d with
 |zero=>intro D t x y r u v _ h;simp[eqT] at h
 |succ d I=>
  intro D t x y r u v o h hx hy;obtain⟨D,rfl⟩:∃D',D=D'+1:=⟨D-1,Z9⟩
  unfold eqT at h;split at h
  ·rename_i k0 k a k' b hu;split at h
   ·rename_i i;obtain rfl:=E4 i;simp only[X2] at h;subst h;rw[J3 hx,J3 hy];exact run_equalIn_int w D t k k0 a b hu
   ·cases h
  ·rename_i a b hu;simp only[X2] at h;subst h;rw[u5 hx,u5 hy];exact run_equalIn_bool' w D t a b hu
  ·rename_i a b hu;simp only[X2] at h;subst h;rw[yE hx,yE hy];have:=run_equalIn_string (P:=P) w D t ⟨a.toArray⟩ ⟨b.toArray⟩ hu
   rwa [oW,oW] at this
  ·rename_i fs xs ys hu;split at h
   ·rename_i hst;cases hx with
    |agg _ U l f=>
     cases hy with
     |agg _ vs L e=>
      have F:P.fieldsOf t=fs:=by unfold Program.fieldsOf;rw[hu]
      rw[run_equalIn_struct w D t U vs (by rw[F];exact hu) hst,F]
      exact c1b (λt x y r u v j g n=>I D t x y r u v Z9 j g n) l L f e _ _ h
   ·cases h
  ·cases h
theorem a5Z{op:BinOp}{ty:TypeId}{ox oy:Operand}{b:Bool}{t:T}{side:Option Prop}{u v:Value}{a:Option Addr}(h:a4A P op ty b=some (t,side))(B:a.isNone=b)(hu:u= .pointer a)(hv:v= .pointer none):
  ∃r,(do eqGuard op ty ox oy u v;binOp op ty u v:Sem Value).run P w= .ok r w/\Rd E w t r:=by
 subst hu;subst hv;unfold a4A at h;split at h
 ·rename_i e hu;split at h
  ·rename_i he;have hu:P.underlying ty=some (.pointer (P.pointee ty)):=by rw[hu,E4 he]
   simp only[X2,U0] at h;obtain⟨rfl,rfl⟩:=h;simp only[eqGuard_at_pointer,D8,B2,E7,run_eql_pointer_nil w ty a hu,B];exact⟨_,rfl,.bool _⟩
  ·cases h
 ·rename_i e hu;split at h
  ·rename_i he;have hu:P.underlying ty=some (.pointer (P.pointee ty)):=by rw[hu,E4 he]
   simp only[X2,U0] at h;obtain⟨rfl,rfl⟩:=h;simp only[eqGuard_at_pointer,D8,B2,E7,run_neq_pointer_nil w ty a hu,B];exact⟨_,rfl,.bool _⟩
  ·cases h
 ·cases h
theorem c3w{op:BinOp}{ty:TypeId}{x y:T}{ox oy:Operand}{t:T}{side:Option Prop}{u v:Value}(h:b3N P op ty x y=some (t,side))(d:side.getD True)
  (hx:Rd E w x u) (hy:Rd E w y v):
  ∃r,(do eqGuard op ty ox oy u v;binOp op ty u v:Sem Value).run P w= .ok r w/\Rd E w t r:=by
 unfold b3N at h;split at h
 ·rename_i k a k' b;split at h
  ·rename_i e;rw[J3 hx,J3 hy];simp only[eqGuard_at_int,D8,B2,E7];exact c5b h e d
  ·cases h
 ·rename_i a b;rw[yE hx,yE hy];simp only[eqGuard_at_string,D8,B2,E7];exact c5A h d
 ·rename_i a b;rw[u5 hx,u5 hy];simp only[eqGuard_at_bool,D8,B2,E7];split at h
  ·rename_i hu;simp only[X2,U0] at h;obtain⟨rfl,rfl⟩:=h;refine⟨.bool (a==b),?_,.bool _⟩
   simp only[binOp];simp[Op.equal,Op.maxDepth,run_equalIn_bool' w 9999 ty a b hu]
  ·rename_i hu;simp only[X2,U0] at h;obtain⟨rfl,rfl⟩:=h;refine⟨.bool (!(a==b)),?_,.bool _⟩
   simp only[binOp];simp[Op.equal,Op.maxDepth,run_equalIn_bool' w 9999 ty a b hu]
  ·cases h
 ·rename_i xs ys;unfold c7i at h;have hgu:∃us,u= .agg us:=by cases hx with|agg _ us _ _=>exact⟨us,rfl⟩
  have V:∃us,v= .agg us:=by cases hy with|agg _ us _ _=>exact⟨us,rfl⟩
  obtain⟨us,rfl⟩:=hgu;obtain⟨vs,rfl⟩:=V;split at h
  ·rename_i hg;cases he:eqT P 20 ty (.agg xs) (.agg ys) with
   |none=>rw[he] at h;cases h
   |some r=>
    rw[he] at h;simp only[m8,X2,U0] at h;obtain⟨rfl,rfl⟩:=h;have R:=b5E (P:=P) (E:=E) (w:=w) 20 10000 ty _ _ r _ _ Z9 he hx hy
    simp only[D8,run_eqGuard_agg w _ ty ox oy us vs hg,E7,run_eql_struct,R];exact⟨_,rfl,.bool _⟩
  ·rename_i hg;cases he:eqT P 20 ty (.agg xs) (.agg ys) with
   |none=>rw[he] at h;cases h
   |some r=>
    rw[he] at h;simp only[m8,X2,U0] at h;obtain⟨rfl,rfl⟩:=h;have R:=b5E (P:=P) (E:=E) (w:=w) 20 10000 ty _ _ r _ _ Z9 he hx hy
    simp only[D8,run_eqGuard_agg w _ ty ox oy us vs hg,E7,run_neq_struct,R];exact⟨_,rfl,.bool _⟩
  ·cases h
 ·cases hx with
  |ref k i j L=>exact a5Z h (a:=some _) rfl rfl (wK hy)
 ·cases hx with
  |pref k v i j z a b L=>exact a5Z h (a:=some _) rfl rfl (wK hy)
 ·exact a5Z h (a:=none) rfl (wK hx) (wK hy)
 ·rw[wK hx,wK hy];split at h
  ·rename_i hu;simp only[X2,U0] at h;obtain⟨rfl,rfl⟩:=h;simp only[eqGuard_at_slice,binOp];simp[run_equal_slice_nil w ty _ none 0 0 hu];exact .bool _
  ·rename_i hu;simp only[X2,U0] at h;obtain⟨rfl,rfl⟩:=h;simp only[eqGuard_at_slice,binOp];simp[run_equal_slice_nil w ty _ none 0 0 hu];exact .bool _
  ·cases h
 ·cases h
end
section
variable {E:Env} {w:World} {P:Program}
theorem M8{t:TypeId}{n:Nat}(h:x6 P t n=true):(sizeOf t).run P w= .ok n w/\P.cellsOf t=n:=by
 unfold x6 at h;split at h
 ·rename_i i hi;have hn:=G1 h;refine⟨?_,by unfold Program.cellsOf;rw[hi];exact hn⟩
  rw[C2 t (by rw[hi];rfl)]
  unfold Program.cellsOf;rw[hi];simp[hn]
 ·cases h
theorem C0{E':Env}(e:∀b,E.N b->E'.N b){t:T}{x:Value}(h:Rd E w t x):W7 t=true->Rd E' w t x:=by
 induction h with
 |int k n=>exact λ_=>.int k n
 |bool b=>exact λ_=>.bool b
 |str l=>exact λ_=>.str l
 |v x=>exact λ_=>.v x
 |slNil sz row=>exact λ_=>.slNil sz row
 |slEmp sz row a=>exact λ_=>.slEmp sz row a
 |emp a=>exact λ_=>.emp a
 |bysEmp a=>exact λ_=>.bysEmp a
 |sl sz n row b off cap u B C hl d r _ I=>
  exact λ_=>.sl sz n row b off cap u (e b B) C hl d r (λi j t hi J=>I i j t hi J (d i t hi (A4 J)).2)
 |bysNil=>exact λ_=>.bysNil
 |bys l b off cap B C r=>exact λ_=>.bys l b off cap (e b B) C r
 |bref cells b off u B d r _ I=>exact λ_=>.bref cells b off u (e b B) d r (λj t J=>I j t J (d t (A4 J)))
 |ref=>intro h;cases h
 |osl=>intro h;cases h
 |posl=>intro h;cases h
 |pref=>intro h;cases h
 |agg=>intro h;cases h
 |tup=>intro h;cases h
 |fn=>intro h;cases h
 |mpr=>intro h;cases h
 |und x=>exact λ_=>.und x
theorem pM{t:TypeId}{cells:List T}{b off o:Nat}{u:Nat->Value}{x:T}(hx:xJ P t cells o=some x)
  (r:∀(j:Nat) (t:T),cells[j]? =some t->w.cell? ⟨b,off+j,none⟩=some (u j)) (e:∀(j:Nat) (t:T),cells[j]? =some t->Rd E w t (u j)):
  ∃v,(loadVar t ⟨b,off+o,none⟩).run P w= .ok v w/\Rd E w x v:=by
 unfold xJ at hx;unfold loadVar;split at hx
 ·rename_i hu hag;split at hx
  ·rename_i B;simp only[X2] at hx;subst hx;have f:=zP B;have h:∀j,j<P.cellsOf t->w.cell? (Addr.add ⟨b,off+o,none⟩ j)=some (u (o+j)):=by
    intro j J;have d:cells[o+j]? =some (cells[o+j]' Z9):=J4 _
    have:=r _ _ d;rw[Addr.add_lit,show off+o+j=off+(o+j) by omega]
    exact this
   simp only[D8,rF t hu,E7,hag,if_true,C2 t (yN hu),run_loadCells w _ _ (λj=>u (o+j)) h,B2]
   refine⟨_,rfl,.agg _ _ H4 λi y z hy Z=>?_⟩
   rw[List.getElem?_take] at hy
   split at hy
   ·rename_i hi;rw[List.getElem?_drop] at hy
    simp[hi] at Z;subst Z;exact e _ _ hy
   ·cases hy
  ·cases hx
 ·rename_i hu hag;have C:=r _ _ hx;simp only[D8,rF t hu,E7,hag,Bool.false_eq_true,if_false,run_load,C];exact⟨_,rfl,e _ _ hx⟩
 ·cases hx
theorem Q4{b i:Nat}{cs:Array Value}{ty:TypeId}{fz:Nat×Nat}(h:w.heap[b]? =some (.cells cs ty fz)):w.cell? ⟨b,i,none⟩=cs[i]? :=by
 simp[World.cell?,h]
theorem a0Q{H:Y4}{k:Nat}{A:Arr}(h:getA H k=some A):∃ob,Z1 H k=some ob/\((ob.toArr=A/\ob.isArr=true)∨∃v ty sz n row,ob= .fam v ty sz n row/\A=⟨false,ty,sz,n,xD k v row⟩):=by
 unfold getA at h;split at h
 ·rename_i v ty sz n row ho;simp only[X2] at h;exact⟨_,ho,.inr ⟨v,ty,sz,n,row,rfl,h.symm⟩⟩
 ·rename_i ob hnf ho;split at h
  ·rename_i hi;simp only[X2] at h;exact⟨ob,ho,.inl ⟨h,hi⟩⟩
  ·cases h
 ·cases h
theorem i6.arr{k:Nat}{ob:Ob}(h:i6 E w k ob)(hi:ob.isArr=true):T4 E w k ob.toArr:=by
 cases ob<;>first|exact h|cases hi
theorem HeapOk.arr{H:Y4}(i:HeapOk E w H){k:Nat}{A:Arr}(h:getA H k=some A):E.L k/\T4 E w k A/\(E.κ k≠0->¬E.N (E.β k)):=by
 obtain⟨ob,o,j⟩:=a0Q h;obtain⟨g,e,f⟩:=i.live k ob o;rcases j with⟨rfl,hi⟩|⟨v,ty,sz,n,row,rfl,rfl⟩
 ·exact⟨g,e.arr hi,λd=>f _ (.inl ⟨d,rfl⟩)⟩
 ·exact⟨g,FamOk.arr e,λd=>f _ (.inl ⟨d,rfl⟩)⟩
theorem b7O{k:Nat}{A:Arr}(h:T4 E w k A){i:Nat}(hi:i<A.n):
  ∃u:Nat->Value,(∀(j:Nat) (t:T),(A.row i)[j]? =some t->w.cell? ⟨E.β k,i*(E.z k).1+j,none⟩=some (u j))/\(∀(j:Nat) (t:T),(A.row i)[j]? =some t->Rd E w t (u j)):=by
 obtain⟨Z,N,hl,e,l,cs,ty,B,d,C⟩:=h;have B:=B Z9
 refine⟨λj=>(w.cell? ⟨E.β k,i*(E.z k).1+j,none⟩).getD undef,λj t J=>?_,λj t J=>?_⟩
 ·obtain⟨u,U,_⟩:=C i j t hi J;simp only[Q4 B,Z,U,Option.getD_some]
 ·obtain⟨u,U,r⟩:=C i j t hi J;simp only[Q4 B,Z,U,Option.getD_some];exact r
theorem eU{H:Y4}(d:HeapOk E w H){k:Nat}{A:Arr}(h:getA H k=some A){i:Nat}(hi:i<A.n):
  ∃u:Nat->Value,(∀(j:Nat) (t:T),(A.row i)[j]? =some t->w.cell? ⟨E.β k,i*(E.z k).1+j,none⟩=some (u j))/\(∀(j:Nat) (t:T),(A.row i)[j]? =some t->Rd E w t (u j)):=
 b7O (d.arr h).2.1 hi
theorem yV{H:Y4}{k v i j:Nat}{A:Own}(h:getOwn H k v i j=some A):∃ty sz row,Z1 H k=some (.fam A.v ty sz A.n row)/\(row i)[j]? =some (.own A.A.ty A.A.sz A.A.n A.A.row)/\A.A.cl=true:=by
 unfold getOwn at h;split at h
 ·rename_i v' ty sz n row ho;split at h
  ·rename_i J;simp only[X2] at h;subst h;exact⟨ty,sz,row,ho,J,rfl⟩
  ·cases h
 ·cases h
theorem a10{H:Y4}(e:HeapOk E w H){k v i j:Nat}{A:Own}(h:getOwn H k v i j=some A)(hv:v=A.v)(hi:i<A.n):T4 (E.sub k v i j A.A.sz) w 0 A.A/\E.L k/\E.L2 k v:=by
 obtain⟨ty,sz,row,o,J,l⟩:=yV h;obtain⟨f,d,g⟩:=e.live k _ o;subst hv;have:=(FamOk.own d i j _ _ _ _ hi J).1;refine⟨?_,f,FamOk.l2 d⟩
 obtain⟨v,n,cl,ty,sz,m,r⟩:=A;simp only at l;subst l;exact this
theorem b5r{ty i n:Nat}(h:(inB ty i n).getD True):i<n:=by
 unfold inB at h;split at h
 ·split at h
  ·omega
  ·exact h
 ·exact h
theorem a9W{H:Y4}(f:HeapOk E w H){t:TypeId}{x:T}{v:Value}{y:T}{side:Option Prop}(h:yA P H t x=some (y,side))(g:side.getD True)(hx:Rd E w x v):
  ∃r,(Instr.loadAt t v).run P w= .ok r w/\Rd E w y r:=by
 unfold yA at h;split at h
 ·rename_i cells;cases htk:xJ P t cells 0 with
  |none=>rw[htk] at h;cases h
  |some z=>
   rw[htk] at h;simp only[m8,X2,U0] at h;obtain⟨rfl,rfl⟩:=h;cases hx with
   |bref _ b off u N F R d=>
    simp only[Instr.loadAt,Instr.sureAddr,D8,B2,E7];exact pM (o:=0) htk R d
 ·rename_i k i j;split at h
  ·rename_i A hk;cases htk:xJ P t (A.row i) j with
   |none=>rw[htk] at h;cases h
   |some z=>
    rw[htk] at h;simp only[m8,X2,U0] at h;obtain⟨rfl,rfl⟩:=h;cases hx with
    |ref _ _ _ L=>
     obtain⟨u,R,d⟩:=eU f hk (b5r g);simp only[Instr.loadAt,Instr.sureAddr,D8,B2,E7];exact pM htk R d
  ·cases h
 ·rename_i k v i j z a b;split at h
  ·rename_i A hA;split at h
   ·rename_i hz;obtain rfl:=G1 hz;cases htk:xJ P t (A.A.row a) b with
    |none=>rw[htk] at h;cases h
    |some y=>
     rw[htk] at h;simp only[m8,X2,U0] at h;obtain⟨rfl,rfl⟩:=h;obtain⟨hv,hi,B⟩:PfB v A.v i A.n a A.A.n:=g;obtain⟨e,_,_⟩:=a10 f hA hv hi;obtain⟨u,R,d⟩:=b7O e B;have l:A.A.cl=true:=by obtain⟨_,_,_,_,_,l⟩:=yV hA;exact l
     cases hx with
     |pref _ _ _ _ _ _ _ L=>
      simp only[Instr.loadAt,Instr.sureAddr,D8,B2,E7];obtain⟨_,_,_,_,O,_⟩:=e;exact pM htk R λq t J=>C0 (E:=E.sub k v i j A.A.sz) (E':=E) (λb C=>C) (d q t J) (O l a t B (A4 J))
   ·cases h
  ·cases h
 ·cases h
theorem eS{t:TypeId}{f:Nat}{d:Field}(h:iZ P t f=some d):∃F,P.underlying t=some (.struct F)/\F[f]? =some d:=by
 unfold iZ at h;split at h
 ·rename_i F u;exact⟨F,u,h⟩
 ·cases h
theorem a0o{cells:List T}{b off o:Nat}{u:Nat->Value}(f:E.N b)(e:∀t,t ∈ cells->W7 t=true)(r:∀(j:Nat) (t:T),cells[j]? =some t->w.cell? ⟨b,off+j,none⟩=some (u j))
  (d:∀(j:Nat) (t:T),cells[j]? =some t->Rd E w t (u j)):Rd E w (.bref (cells.drop o)) (.pointer (some ⟨b,off+o,none⟩)):=
 .bref _ b (off+o) (λj=>u (o+j)) f (λt d=>e t (List.mem_of_mem_drop d)) (λj t h=>by rw[List.getElem?_drop] at h;rw[show off+o+j=off+(o+j) by omega];exact r _ _ h)
  (λj t h=>by rw[List.getElem?_drop] at h;exact d _ _ h)
theorem a1Q{t:TypeId}{x:T}{v:Value}{f:Nat}{y:T}(h:wZ P t x f=some y)(hx:Rd E w x v):
  ∃r,(Instr.fieldAt t v f).run P w= .ok r w/\Rd E w y r:=by
 unfold wZ at h;split at h
 ·rename_i fd hfd;obtain⟨fs,hu,hf⟩:=eS hfd;split at h
  ·rename_i k i j hc hz;simp only[X2] at h;subst h;have hne:P.cellsOf fd.type≠0:=Nat.ne_of_beq_eq_false hz;cases hx with
   |ref _ _ _ L=>
    simp only[Instr.fieldAt,D8,run_underlying hu,E7,hf,Instr.sureAddr,B2,fieldPlace,(M8 (w:=w) hc).1];rw[if_neg hne];simp only[B2,E7,Addr.add_lit];refine⟨_,rfl,?_⟩
    rw[Nat.add_assoc];exact .ref k i (j+fd.offset) L
  ·rename_i cs hc hz;simp only[X2] at h;subst h;have hne:P.cellsOf fd.type≠0:=Nat.ne_of_beq_eq_false hz;cases hx with
   |bref _ b off u N d R e=>
    simp only[Instr.fieldAt,D8,run_underlying hu,E7,hf,Instr.sureAddr,B2,fieldPlace,(M8 (w:=w) hc).1];rw[if_neg hne];simp only[B2,E7,Addr.add_lit];exact⟨_,rfl,a0o N d R e⟩
  ·cases h
 ·cases h
theorem b7Z{t:TypeId}{x:T}{v:Value}{f:Nat}{y:T}(h:iY P t x f=some y)(hx:Rd E w x v):
  ∃r,(Instr.field t v f).run P w= .ok r w/\Rd E w y r:=by
 unfold iY at h;split at h
 ·rename_i fd cs hfd;obtain⟨fs,hu,hf⟩:=eS hfd;cases hx with
  |agg _ vs hl d=>
   simp only[Instr.field,D8,run_underlying hu,E7,hf,asAgg,B2];exact iT h hl d
 ·cases h
theorem a1U{H:Y4}(hH:HeapOk E w H){t:TypeId}{x i:T}{v I:Value}{y:T}{side:Option Prop}(h:A0 P H t x i=some (y,side))(hs:side.getD True)(hx:Rd E w x v)(hi:Rd E w i I):
  ∃r,(Instr.indexAt t v I).run P w= .ok r w/\Rd E w y r:=by
 unfold A0 at h;split at h
 ·rename_i ki i;rw[J3 hi];split at h
  ·rename_i e sz n row hu;split at h
   ·rename_i hc;simp only[X2,U0] at h;obtain⟨rfl,rfl⟩:=h;have hb:0<=i/\i<n:=hs;cases hx with
    |slNil=>exact absurd hb.2 Z9
    |slEmp=>exact absurd hb.2 Z9
    |sl _ _ _ b off cap u N f hl B R g=>
     simp only[Instr.indexAt,asIntOf,D8,B2,E7,run_underlying hu];rw[if_pos hb];simp only[D8,(M8 (w:=w) hc).1,E7,B2,Addr.add_lit];have d:i.toNat<n:=Z9
     exact⟨_,rfl,.bref _ b _ (u i.toNat) N (λt M=>(B _ t d M).2) (λj t J=>R _ _ _ d J) (λj t J=>g _ _ _ d J)⟩
   ·cases h
  ·rename_i e l hu;split at h
   ·rename_i hc;simp only[X2,U0] at h;obtain⟨rfl,rfl⟩:=h;have hb:0<=i/\i<l.length:=hs;cases hx with
    |bysNil=>exact absurd hb.2 H4
    |bysEmp=>exact absurd hb.2 H4
    |bys _ b off cap N f R=>
     simp only[Instr.indexAt,asIntOf,D8,B2,E7,run_underlying hu];rw[if_pos hb];simp only[D8,(M8 (w:=w) hc).1,E7,B2,Addr.add_lit,Nat.mul_one];have d:i.toNat<l.length:=Z9
     refine⟨_,rfl,.bref _ b _ (λ_=>.int .u8 ((l.getD i.toNat 0).toNat:Int)) N (λt M=>by simp[C5] at M;subst M;rfl) (λj t J=>?_) (λj t J=>?_)⟩
     ·cases j with
      |zero=>
       have:=R i.toNat _ (J4 d)
       simpa[List.getD,J4 d] using this
      |succ j=>simp[C5] at J
     ·cases j with
      |zero=>simp[C5] at J;subst J;exact .int _ _
      |succ j=>simp[C5] at J
   ·cases h
  ·rename_i e k off n hu;split at h
   ·rename_i A hk;split at h
    ·rename_i hc;simp only[X2,U0] at h;obtain⟨rfl,rfl⟩:=h;have hb:0<=i/\i<n:=hs;obtain⟨hL,⟨hz,_⟩,_⟩:=hH.arr hk;cases hx with
     |osl _ _ _ o a _ C O q=>
      rw[q Z9]
      simp only[Instr.indexAt,asIntOf,D8,B2,E7,run_underlying hu];rw[if_pos hb];simp only[D8,(M8 (w:=w) hc).1,E7,B2,Addr.add_lit];refine⟨_,rfl,?_⟩
      have:=Rd.ref (E:=E) (w:=w) k (off+i.toNat) 0 hL;rw[Nat.add_zero,Nat.add_mul] at this;rw[←hz,O (.inl Z9)]
      exact this
    ·cases h
   ·cases h
  ·rename_i e k v i' j n hu;split at h
   ·rename_i A hA;split at h
    ·rename_i hc;simp only[X2,U0] at h;obtain⟨rfl,rfl⟩:=h;have hb:0<=i/\i<n:=hs;cases hx with
     |posl _ _ _ _ _ a hL C q=>
      rw[q Z9]
      simp only[Instr.indexAt,asIntOf,D8,B2,E7,run_underlying hu];rw[if_pos hb];simp only[D8,(M8 (w:=w) hc).1,E7,B2,Addr.add_lit];refine⟨_,rfl,?_⟩
      rw[C9];exact .pref k v i' j A.A.sz i.toNat 0 hL
    ·cases h
   ·cases h
  ·rename_i n e cells hu;split at h
   ·rename_i hc;simp only[X2,U0] at h;obtain⟨rfl,rfl⟩:=h;have hb:0<=i/\i<n:=hs;cases hx with
    |bref _ b off u N z R g=>
     simp only[Instr.indexAt,asIntOf,D8,B2,E7,run_underlying hu,Instr.sureAddr];rw[if_pos hb];simp only[D8,C2 e hc,E7,B2,Addr.add_lit];exact⟨_,rfl,a0o N z R g⟩
   ·cases h
  ·rename_i n e k r j hu;split at h
   ·rename_i hc;simp only[X2,U0] at h;obtain⟨rfl,rfl⟩:=h;have hb:0<=i/\i<n:=hs;cases hx with
    |ref _ _ _ hL=>
     simp only[Instr.indexAt,asIntOf,D8,B2,E7,run_underlying hu,Instr.sureAddr];rw[if_pos hb];simp only[D8,C2 e hc,E7,B2,Addr.add_lit];refine⟨_,rfl,?_⟩
     rw[Nat.add_assoc];exact .ref k r _ hL
   ·cases h
  ·cases h
 ·cases h
end
section
variable {E:Env} {w:World} {P:Program}
theorem b73{t:TypeId}{x i:T}{v I:Value}{y:T}{side:Option Prop}(h:a1i P t x i=some (y,side))(hs:side.getD True)(hx:Rd E w x v)(hi:Rd E w i I):
  ∃r,(Instr.index t v I).run P w= .ok r w/\Rd E w y r:=by
 unfold a1i at h;split at h
 ·rename_i l ki i hu;simp only[X2,U0] at h;obtain⟨rfl,rfl⟩:=h;have hb:0<=i/\i<l.length:=hs;rw[yE hx,J3 hi];have hlt:i.toNat<l.length:=by omega
  have g:(ByteArray.mk l.toArray)[i.toNat]? =some (l.getD i.toNat 0):=by
   have:(ByteArray.mk l.toArray)[i.toNat]? =some ((ByteArray.mk l.toArray)[i.toNat]'(by simpa[ByteArray.size] using hlt)):=getElem?_pos _ _ _
   rw[this];congr 1
   simp only[List.getD,J4 hlt,Option.getD_some]
   rfl
  simp only[Instr.index,asIntOf,D8,B2,E7,run_underlying hu];rw[if_pos hb.1,g];exact⟨_,rfl,.int _ _⟩
 ·rename_i n e cs ki i hu;split at h
  ·rename_i x0 hc hx0;simp only[X2,U0] at h;obtain⟨rfl,rfl⟩:=h;have hb:0<=i/\i<n:=hs;rw[J3 hi];cases hx with
   |agg _ vs hl d=>
    simp only[Instr.index,asIntOf,D8,B2,E7,run_underlying hu];rw[if_pos hb];simp only[D8,(M8 (w:=w) hc).1,E7,Nat.mul_one];exact iT hx0 hl d
  ·cases h
 ·cases h
theorem a5r{x:T}{v:Value}{i:Nat}{y:T}(h:rP x i=some y)(hx:Rd E w x v):
  ∃r,(Instr.extract v i).run P w= .ok r w/\Rd E w y r:=by
 unfold rP at h;split at h
 ·rename_i cs;cases hx with
  |tup _ vs hl d=>
   have t:i<cs.length:=by
    rcases Nat.lt_or_ge i cs.length with h'|h'
    ·exact h'
    ·rw[List.getElem?_eq_none h'] at h;cases h
   have hv:vs[i]? =some (vs[i]' Z9):=uJ _
   simp only[Instr.extract,hv,B2];exact⟨_,rfl,d _ _ _ h hv⟩
 ·cases h
theorem kB{P:Program}{w:World}(b off:Nat)(l:Bz)(cap:Nat)(h:∀i x,l[i]? =some x->w.cell? ⟨b,off+i,none⟩=some (.int .u8 (x.toNat:Int))):
  (Conv.bytesToString (.slice (some ⟨b,off,none⟩) l.length cap)).run P w= .ok (.string ⟨l.toArray⟩) w:=by
 have hl:(loadCells ⟨b,off,none⟩ l.length).run P w= .ok ((l.map λx=>(x.toNat:Int)).map (Value.int .u8)).toArray w:=by
  have:=run_loadCells_list (P:=P) w ⟨b,off,none⟩ ((l.map λx=>(x.toNat:Int)).map (Value.int .u8)) (λj v J=>by
   simp only[List.map_map,pW,G4,Function.comp] at J
   obtain⟨x,hx,rfl⟩:=J;rw[Addr.add_lit];exact h j x hx)
  simpa using this
 rw[run_bytesToString w ⟨b,off,none⟩ l.length cap _ hl];congr 2
 rw[foldl_push_bytes];apply ByteArray.ext
 simp only[ByteArray.empty,ByteArray.emptyWithCapacity,List.map_map];have:(List.map ((λn:Int=>UInt8.ofNat n.toNat)∘λx:UInt8=>(x.toNat:Int)) l)=l:=by
  conv=>rhs;rw[←List.map_id l]
  apply List.map_congr_left
  intro x _;simp
 rw[this];simp
 try rfl
theorem a7y{H:Y4}{k:Nat}{ob:Ob}(h:Z1 H k=some ob)(hi:ob.isArr=true:=by rfl):getA H k=some ob.toArr:=by
 unfold getA;rw[h];cases ob<;>first|(cases hi;done)|rfl
theorem a9o(h:p:=by simpa using hl):p:=h
theorem b8o{H:Y4}(hH:HeapOk E w H){C dst:TypeId}{x:T}{v:Value}{y:T}{side:Option Prop}(h:wC P H C dst x=some (y,side))(hs:side.getD True)(hx:Rd E w x v):
  ∃r,(convert C dst v).run P w= .ok r w/\Rd E w y r:=by
 unfold wC at h;split at h
 ·rename_i ks t k n hsr hd;simp only[X2,U0] at h;obtain⟨rfl,rfl⟩:=h;rw[J3 hx];simp only[convert,D8,run_underlying hsr,run_underlying hd,E7,Conv.intToInt,B2];exact⟨_,rfl,.int _ _⟩
 ·rename_i l hsr hd;simp only[X2,U0] at h;obtain⟨rfl,rfl⟩:=h;rw[yE hx];simp only[convert,D8,run_underlying hsr,run_underlying hd,E7,B2];exact⟨_,rfl,.str _⟩
 ·rename_i e l hsr hd;split at h
  ·rename_i he;simp only[X2,U0] at h;obtain⟨rfl,rfl⟩:=h;cases hx with
   |bysNil=>
    rw[run_convert_bytes_string w C dst e _ _ _ hsr he hd];exact⟨_,rfl,.str []⟩
   |bysEmp a=>
    rw[run_convert_bytes_string w C dst e _ _ _ hsr he hd];have hl:(loadCells a 0).run P w= .ok #[] w:=by
     have:=run_loadCells_list (P:=P) w a [] (λj v J=>by simp at J)
     simpa using this
    have:=run_bytesToString w a 0 0 [] a9o
    exact⟨_,this,.str []⟩
   |bys _ b off cap hN hc R=>
    rw[run_convert_bytes_string w C dst e _ _ _ hsr he hd];exact⟨_,kB b off l cap R,.str l⟩
  ·cases h
 ·rename_i e k off n hsrc hd;split at h
  ·rename_i tyb l he hob;simp only[X2,U0] at h;obtain⟨rfl,rfl⟩:=h;have hs:off+n<=l.length:=hs;obtain⟨hL,⟨hz,hn,hl,hone,hcl,cs,ty,hb,hsz,hc⟩,hN⟩:=hH.live _ _ hob;simp only[Ob.toArr] at hz hn hl hone hcl hsz hc;cases hx with
   |osl _ _ _ o a _ q O A=>
    rw[run_convert_bytes_string w C dst e _ _ _ hsrc he hd];have N:((l.drop off).take n).length=n:=by simp;omega
    by_cases f:E.κ k=0
    ·obtain rfl:n=0:=by omega
     rw[f,Nat.zero_sub];refine⟨.string ⟨#[]⟩,?_,by rw[List.take_zero];exact .str []⟩
     cases a with
     |none=>rfl
     |some a=>
      have hl:(loadCells a 0).run P w= .ok #[] w:=by
       have:=run_loadCells_list (P:=P) w a [] (λj v J=>by simp at J)
       simpa using this
      have:=run_bytesToString w a 0 0 [] a9o
      exact this
    have hb:=hb f;rw[A f];have:=kB (P:=P) (w:=w) (E.β k) o ((l.drop off).take n) (E.κ k-off) (λi x hx=>by
     have hi:i<n:=by
      rcases Nat.lt_or_ge i n with h'|h'
      ·exact h'
      ·rw[List.getElem?_eq_none Z9] at hx;cases hx
     have d:l[off+i]? =some x:=by
      rw[List.getElem?_take] at hx
      rw[if_pos hi,List.getElem?_drop] at hx
      exact hx
     have W:(C5 l (off+i))[0]? =some (.int .u8 (x.toNat:Int)):=by
      simp[C5,List.getD,d]
     obtain⟨u,U,g⟩:=hc (off+i) 0 _ Z9 W
     have hob:o=off:=by
      have:=O (.inl Z9)
      rw[hz,Nat.mul_one] at this;exact this
     rw[Q4 hb,hob];rw[J3 g] at U;rw[Nat.mul_one,Nat.add_zero] at U;exact U)
    rw[N] at this;exact⟨_,this,.str _⟩
  ·cases h
 ·cases h
theorem b2S{isSlice:Bool}{len cap:Nat}{L hi:Option T}{lv hv:Option Value}{a h:Option Int}(ha:wL L=some a)(hh:wL hi=some h)
  (hlo:∀x,L=some x->∃v,lv=some v/\Rd E w x v) (hhi:∀x,hi=some x->∃v,hv=some v/\Rd E w x v) (hlo':L=none->lv=none) (hhi':hi=none->hv=none)
  (C:len<=cap) (hs:(a6s len a h).getD True):
  ∃l m:Nat,(Instr.sliceBounds isSlice len cap lv hv none).run P w= .ok (l,m,cap) w/\l<=m/\m<=len/\l=(a.getD 0).toNat/\m=(h.getD (len:Int)).toNat/\a65 len a h=m-l:=by
 have key:∀(x:T) (v:Value) (i:Int) (y:Nat) (code:BoundsCode),wL (some x)=some (some i)->Rd E w x v->0<=i->i<=y->(Instr.sliceBound v y code).run P w= .ok i.toNat w:=by
  intro x v i y code hx r e h1;unfold wL at hx;split at hx
  ·rename_i q;cases q
  ·rename_i k j q;simp only[X2] at q hx;subst q;subst hx;rw[J3 r];simp only[Instr.sliceBound,asIntOf,D8,B2,E7];rw[if_pos ⟨e,h1⟩];rfl
  ·cases hx
 have n:∀(o:Option T) (i:Option Int),wL o=some i->(o=none/\i=none)∨∃x j,o=some x/\i=some j:=by
  intro o i O;unfold wL at O;split at O
  ·simp only[X2] at O;exact .inl ⟨rfl,O.symm⟩
  ·rename_i k j;simp only[X2] at O;exact .inr ⟨_,j,rfl,O.symm⟩
  ·cases O
 rcases n L a ha with⟨rfl,rfl⟩|⟨x,i,rfl,rfl⟩<;>rcases n hi h hh with⟨rfl,rfl⟩|⟨y,j,rfl,rfl⟩
 ·rw[hlo' rfl,hhi' rfl];exact⟨0,len,by simp[Instr.sliceBounds],Z9,Z9,rfl,W8,by simp[a65]⟩
 ·obtain⟨v,rfl,hv⟩:=hhi y rfl;rw[hlo' rfl];have hs:0<=j/\j<=len:=hs;have:=λcode=>key y v j cap code hh hv hs.1 Z9
  exact⟨0,j.toNat,by simp[Instr.sliceBounds,this],Z9,Z9,rfl,W8,by simp[a65]⟩
 ·obtain⟨v,rfl,hv⟩:=hlo x rfl;rw[hhi' rfl];have hs:0<=i/\i<=len:=hs;have:=λcode=>key x v i len code ha hv hs.1 hs.2
  exact⟨i.toNat,len,by simp[Instr.sliceBounds,this],Z9,Z9,W8,W8,by simp[a65]⟩
 ·obtain⟨v,rfl,hv⟩:=hlo x rfl;obtain⟨u,rfl,hu⟩:=hhi y rfl;have hs:0<=i/\i<=j/\j<=len:=hs;have h1:=λcode=>key y u j cap code hh hu Z9 Z9
  have d:=λcode=>key x v i j.toNat code ha hv hs.1 Z9
  exact⟨i.toNat,j.toNat,by simp[Instr.sliceBounds,h1,d],Z9,Z9,W8,W8,by simp[a65]⟩
theorem iK(l:Bz)(a h:Option Int)(i m:Nat)(A:i=(a.getD 0).toNat)(M:m=(h.getD (l.length:Int)).toNat):b2m l a h=(l.take m).drop i:=by
 subst A;subst M;unfold b2m;split<;>simp
theorem b1Z(row:Nat->List T)(a:Option Int):a5W row a=λi=>row ((a.getD 0).toNat+i):=by
 unfold a5W;split<;>simp
theorem c1m(off:Nat)(a:Option Int):c4N off a=off+(a.getD 0).toNat:=by
 unfold c4N;split<;>simp
theorem b4w{H:Y4}(hH:HeapOk E w H){t:TypeId}{x:T}{v:Value}{O hi:Option T}{lv hv:Option Value}{y:T}{side:Option Prop}(h:uL P H t x O hi=some (y,side))(hs:side.getD True)(hx:Rd E w x v)
  (hlo:∀x,O=some x->∃v,lv=some v/\Rd E w x v) (hhi:∀x,hi=some x->∃v,hv=some v/\Rd E w x v) (hlo':O=none->lv=none) (hhi':hi=none->hv=none):
  ∃r,(Instr.sliceAt t v lv hv none).run P w= .ok r w/\Rd E w y r:=by
 unfold uL at h;split at h
 ·rename_i a hb ha hh;have bnd:=λ(isSlice:Bool) (len cap:Nat) (hc:len<=cap) (hs:(a6s len a hb).getD True)=>b2S (P:=P) (E:=E) (w:=w) (isSlice:=isSlice) ha hh hlo hhi hlo' hhi' hc hs
  split at h
  ·rename_i l hu;simp only[X2,U0] at h;obtain⟨rfl,rfl⟩:=h;rw[yE hx];obtain⟨i,m,hr,him,hml,hi,hm,_⟩:=bnd false l.length l.length (V8 _) hs;have q:(Instr.sliceBounds false (ByteArray.mk l.toArray).size (ByteArray.mk l.toArray).size lv hv none).run P w= .ok (i,m,l.length) w:=by
    simpa[ByteArray.size] using hr
   simp only[Instr.sliceAt,Instr.slice,D8,run_underlying hu,E7,Option.isSome_none,Bool.false_eq_true,if_false,B2,q];refine⟨_,rfl,?_⟩
   have:(ByteArray.mk l.toArray).extract i m=⟨(b2m l a hb).toArray⟩:=by
    apply ByteArray.ext
    apply Array.ext'
    rw[Lib.extract_data,iK l a hb i m hi hm,List.drop_take]
   rw[this];exact .str _
  ·rename_i e l hu;split at h
   ·rename_i hc;simp only[X2,U0] at h;obtain⟨rfl,rfl⟩:=h;cases hx with
    |bysNil=>
     obtain⟨i,m,hr,him,hml,hi,hm,_⟩:=bnd true 0 0 (V8 _) hs;simp only[Instr.sliceAt,Instr.slice,D8,run_underlying hu,E7,hr,(M8 (w:=w) hc).1,B2];refine⟨_,rfl,?_⟩
     rw[iK [] a hb i m hi hm];have h1:m=0:=by simpa using hml
     have g:i=0:=Z9
     subst h1;subst g;simp only[List.take_nil,List.drop_nil,j_i,if_pos];exact .bysNil
    |bysEmp z=>
     obtain⟨i,m,hr,him,hml,hi,hm,_⟩:=bnd true 0 0 (V8 _) hs;simp only[Instr.sliceAt,Instr.slice,D8,run_underlying hu,E7,hr,(M8 (w:=w) hc).1,B2];refine⟨_,rfl,?_⟩
     rw[iK [] a hb i m hi hm];have h1:m=0:=by simpa using hml
     have g:i=0:=Z9
     subst h1;subst g;simp only[List.take_nil,List.drop_nil,j_i,if_pos];exact .bysEmp _
    |bys _ b off cap hN f L=>
     obtain⟨i,m,hr,him,hml,hi,hm,_⟩:=bnd true l.length cap f hs;simp only[Instr.sliceAt,Instr.slice,D8,run_underlying hu,E7,hr,(M8 (w:=w) hc).1,B2];refine⟨_,rfl,?_⟩
     rw[iK l a hb i m hi hm];have N:((l.take m).drop i).length=m-i:=by simp;omega
     rw[←N];split
     ·rename_i C;exact .bys _ b off _ hN Z9 (λj x hj=>by
       have:j<((l.take m).drop i).length:=(w6.1 hj).1
       omega)
     ·simp only[m8,Addr.add_lit,Nat.mul_one];exact .bys _ b (off+i) _ hN Z9 (λj x hj=>by
       rw[List.getElem?_drop,List.getElem?_take] at hj
       split at hj
       ·rw[show off+i+j=off+(i+j) by omega];exact L _ _ hj
       ·cases hj)
   ·cases h
  ·rename_i e sz n row hu;split at h
   ·rename_i hc;simp only[X2,U0] at h;obtain⟨rfl,rfl⟩:=h;cases hx with
    |slNil=>
     obtain⟨i,m,hr,him,hml,hi,hm,d⟩:=bnd true 0 0 (V8 _) hs;simp only[Instr.sliceAt,Instr.slice,D8,run_underlying hu,E7,hr,(M8 (w:=w) hc).1,B2];refine⟨_,rfl,?_⟩
     have h1:m=0:=Z9
     have g:i=0:=Z9
     rw[d,h1,g];simp only[j_i,if_pos];exact .slNil _ _
    |slEmp _ _ z=>
     obtain⟨i,m,hr,him,hml,hi,hm,d⟩:=bnd true 0 0 (V8 _) hs;simp only[Instr.sliceAt,Instr.slice,D8,run_underlying hu,E7,hr,(M8 (w:=w) hc).1,B2];refine⟨_,rfl,?_⟩
     have h1:m=0:=Z9
     have g:i=0:=Z9
     rw[d,h1,g];simp only[j_i,if_pos];exact .slEmp _ _ _
    |sl _ _ _ b off cap u hN f hl h1 L hct=>
     obtain⟨i,m,hr,him,hml,hi,hm,d⟩:=bnd true n cap f hs;simp only[Instr.sliceAt,Instr.slice,D8,run_underlying hu,E7,hr,(M8 (w:=w) hc).1,B2];refine⟨_,rfl,?_⟩
     rw[d,b1Z,←hi];split
     ·rename_i C;exact .sl _ _ _ b off _ u hN Z9 (λj hj=>Z9) (λj _ hj=>Z9) (λj _ _ hj=>Z9) (λj _ _ hj=>Z9)
     ·simp only[m8,Addr.add_lit];refine .sl _ _ _ b (off+i*sz) _ (λj=>u (i+j)) hN Z9 (λj hj=>hl _ Z9) (λj t hj=>h1 _ _ Z9) (λj c t hj ht=>?_) (λj c t hj ht=>hct _ _ _ Z9 ht)
      rw[show off+i*sz+j*sz+c=off+(i+j)*sz+c by rw[Nat.add_mul];omega]
      exact L _ _ _ Z9 ht
   ·cases h
  ·rename_i e k off n hu;split at h
   ·rename_i A hA;split at h
    ·rename_i hc;simp only[X2,U0] at h;obtain⟨rfl,rfl⟩:=h;obtain⟨hL,⟨hz,_⟩,_⟩:=hH.arr hA;cases hx with
     |osl _ _ _ o z _ F B ha0=>
      obtain⟨i,m,hr,him,hml,hi,hm,d⟩:=bnd true n (E.κ k-off) Z9 hs
      simp only[Instr.sliceAt,Instr.slice,D8,run_underlying hu,E7,hr,(M8 (w:=w) hc).1,B2];refine⟨_,rfl,?_⟩
      rw[d,c1m,←hi];rw[show E.κ k-off-i=E.κ k- (off+i) by omega]
      split
      ·rename_i C;exact .osl k (off+i) (m-i) o z hL Z9 (λh=>by
        rcases h with h|h
        ·omega
        ·rw[h,B (.inr Z9),show off=0 by omega]) ha0
      ·rw[ha0 Z9]
       simp only[m8,Addr.add_lit];refine .osl k (off+i) (m-i) _ _ hL Z9 (λh=>?_) (λ_=>rfl)
       rw[B Z9,hz,Nat.add_mul]
    ·cases h
   ·cases h
  ·rename_i e hu;split at h
   ·rename_i i0 hi0;split at h
    ·rename_i hc;simp only[X2,U0] at h;obtain⟨rfl,rfl⟩:=h;rw[wK hx];obtain⟨i,m,hr,him,hml,hi,hm,_⟩:=bnd true 0 0 (V8 _) hs;simp only[Instr.sliceAt,Instr.slice,D8,run_underlying hu,E7,hr,(M8 (w:=w) hc).1,B2];refine⟨_,rfl,?_⟩
     have h1:m=0:=Z9
     have g:i=0:=Z9
     subst h1;subst g;exact .v _
    ·cases h
   ·cases h
  ·cases h
 ·cases h
theorem c5Z{op:UnOp}{x:T}{v:Value}{y:T}{side:Option Prop}(h:c4p op x=some (y,side))(d:side.getD True)(hx:Rd E w x v):
  ∃r,(Op.unary op v).run P w= .ok r w/\Rd E w y r:=by
 unfold c4p at h;split at h
 ·simp only[X2,U0] at h;obtain⟨rfl,rfl⟩:=h;rw[u5 hx];exact⟨_,rfl,.bool _⟩
 ·rename_i k n;simp only[X2,U0] at h;obtain⟨rfl,rfl⟩:=h;rw[J3 hx];have d:O7 k (0-n):=d;simp only[Op.unary,Op.intArith,hJ d];exact⟨_,rfl,.int _ _⟩
 ·cases h
theorem c3M{x:T}{v:Value}{n:Int}{t ty:TypeId}(h:a87 P t x=some n)(hx:Rd E w x v):
  (Builtin.len_ #[t] ty #[v]).run P w= .ok (.int .i64 n) w:=by
 have L:∀(e:TypeId) (a:Option Addr) (m c:Nat),P.underlying t=some (.slice e)->(Builtin.len_ #[t] ty #[.slice a m c]).run P w= .ok (.int .i64 m) w:=by
  intro e a m c hu;simp[Builtin.len_,run_underlying hu,goInt]
 unfold a87 at h;split at h
 ·rename_i l hu;simp only[X2] at h;subst h;rw[yE hx];simp[Builtin.len_,run_underlying hu,goInt];rfl
 ·rename_i e l hu;simp only[X2] at h;subst h;cases hx with
  |bysNil=>exact L e _ 0 _ hu
  |bysEmp=>exact L e _ 0 _ hu
  |bys=>exact L e _ _ _ hu
 ·rename_i e sz n row hu;simp only[X2] at h;subst h;cases hx with
  |slNil=>exact L e _ 0 _ hu
  |slEmp=>exact L e _ 0 _ hu
  |sl=>exact L e _ _ _ hu
 ·rename_i e k off n hu;simp only[X2] at h;subst h;cases hx with
  |osl=>exact L e _ _ _ hu
 ·rename_i e k v i j n hu;simp only[X2] at h;subst h;cases hx with
  |posl=>exact L e _ _ _ hu
 ·rename_i e n c hu;simp only[X2] at h;subst h;rw[wK hx];exact L e _ _ _ hu
 ·rename_i e hu;simp only[X2] at h;subst h;cases hx with
  |emp=>exact L e _ 0 _ hu
 ·cases h
theorem a0S{k i j:Nat}{x:Value}(h:Rd E w (.ref k i j) x):x= .pointer (some ⟨E.β k,i*(E.z k).1+j,none⟩):=by cases h;rfl
theorem a9F{cs:List T}{x:Value}(h:Rd E w (.bref cs) x):∃ad,x= .pointer (some ad):=by cases h;exact⟨_,rfl⟩
def tT(E:Env)(w:World)(cs:List T)(vs:Array Value):Prop:=cs.length=vs.size/\∀(i:Nat) (t:T) (x:Value),cs[i]? =some t->vs[i]? =some x->Rd E w t x
theorem yU{x:T}{v:Value}(hx:Rd E w x v)(hp:mH x=true):tT E w (U4 x) v.cells:=by
 have one:∀{x:T} {v:Value},Rd E w x v->U4 x=[x]->v.cells= #[v]->tT E w (U4 x) v.cells:=by
  intro x v hx d g;rw[d,g];refine⟨rfl,λi t y h Y=>?_⟩
  cases i with
  |zero=>simp at h Y;subst h;subst Y;exact hx
  |succ i=>simp at h
 cases hx with
 |agg cs vs hl h=>exact⟨hl,h⟩
 |tup=>simp[mH,I7] at hp
 |und=>simp[mH,I7] at hp
 |v=>
  cases v<;>first|exact one (.v _) rfl rfl|(simp[mH,I7] at hp)
 |int=>exact one (.int _ _) rfl rfl
 |bool=>exact one (.bool _) rfl rfl
 |str=>exact one (.str _) rfl rfl
 |slNil=>exact one (.slNil _ _) rfl rfl
 |slEmp sz row a=>exact one (.slEmp sz row a) rfl rfl
 |emp a=>exact one (.emp a) rfl rfl
 |bysEmp a=>exact one (.bysEmp a) rfl rfl
 |sl sz n row b off cap u N C hl d r h=>exact one (.sl sz n row b off cap u N C hl d r h) rfl rfl
 |bysNil=>exact one .bysNil rfl rfl
 |bys l b off cap N C r=>exact one (.bys l b off cap N C r) rfl rfl
 |bref cells b off u N d r h=>exact one (.bref cells b off u N d r h) rfl rfl
 |ref k i j L=>exact one (.ref k i j L) rfl rfl
 |osl k off n o a L e O A=>exact one (.osl k off n o a L e O A) rfl rfl
 |posl k v i j n a L e A=>exact one (.posl k v i j n a L e A) rfl rfl
 |pref k v i j z a b L=>exact one (.pref k v i j z a b L) rfl rfl
 |fn f cs vs hl h=>exact one (.fn f cs vs hl h) rfl rfl
 |mpr k L=>exact one (.mpr k L) rfl rfl
theorem b1J(m:List Value):∀(j off:Nat) (cells:Array Value),off+j+m.length<=cells.size->
  ((m.zipIdx j).foldl (λcs (p:Value×Nat)=>cs.setIfInBounds (off+p.2) p.1) cells).toList=cells.toList.take (off+j)++m++cells.toList.drop (off+j+m.length):=by
 induction m with
 |nil=>intro j off cells h;simp
 |cons x m I=>
  intro j off cells h;simp only[List.length_cons] at h;simp only[List.zipIdx_cons,List.foldl_cons];rw[I (j+1) off _ H4]
  simp only[Array.toList_setIfInBounds,List.length_cons];apply List.ext_getElem?
  intro i;simp only[List.getElem?_append,K2,List.length_take,yT,Array.length_toList,List.getElem?_take,List.getElem?_set,List.getElem?_drop,List.length_cons]
  rw[Nat.min_eq_left Z9,Nat.min_eq_left Z9]
  by_cases d:i<off+j
  ·simp[d,show i<off+(j+1) by omega,show i<off+(j+1)+m.length by omega,show i<off+j+(m.length+1) by omega,show ¬off+j=i by omega]
  ·by_cases h2:i=off+j
   ·subst h2;simp[show off+j<off+(j+1) by omega,show off+j<off+(j+1)+m.length by omega,show off+j<cells.size by omega]
   ·by_cases h3:i<off+j+1+m.length
    ·rw[if_pos Z9,if_neg Z9,if_pos Z9,if_neg Z9]
     rw[show i- (off+j)=(i- (off+(j+1)))+1 by omega]
     simp
    ·rw[if_neg Z9,if_neg Z9]
     rw[if_neg Z9]
     congr 1
     omega
theorem jD{e:Nat->Option (Nat×Nat)}:∀(parts:List (Nat×T)) (V:List (Nat×Value)) (cs out:List T) (vs:Array Value),
  a7 e cs parts=some out->tT E w cs vs->parts.length=V.length->(∀(i:Nat) (p:Nat×T) (q:Nat×Value),parts[i]? =some p->V[i]? =some q->p.1=q.1/\Rd E w p.2 q.2)->
  ∃u,Instr.fill e vs V=some u/\tT E w out u:=by
 intro parts;induction parts with
 |nil=>
  intro V cs out vs h r hl hp;simp only[a7,X2] at h;subst h;cases V with
  |nil=>exact⟨vs,rfl,r⟩
  |cons q V=>simp at hl
 |cons p parts I=>
  intro V cs out vs h r hl hp;cases V with
  |nil=>simp at hl
  |cons q V=>
   obtain⟨i,x⟩:=p;obtain⟨J,v⟩:=q;obtain⟨rfl,hx⟩:=hp 0 _ _ rfl rfl;simp only at hx;simp only[a7] at h;split at h
   ·rename_i off size hpl hpb;split at h
    ·rename_i B A;have F:=G1 B;have C:=zP A;obtain⟨z,l⟩:=yU hx hpb;obtain⟨L,f⟩:=r;have hfold:(v.cells.zipIdx.foldl (λcs (c,j)=>cs.setIfInBounds (off+j) c) vs).toList=vs.toList.take off++v.cells.toList++vs.toList.drop (off+v.cells.size):=by
      have:=b1J v.cells.toList 0 off vs H4
      simp only[Nat.add_zero,Array.length_toList] at this;rw[←this,←Array.foldl_toList,Array.toList_zipIdx]
     have W:tT E w (cs.take off++U4 x++cs.drop (off+(U4 x).length)) (v.cells.zipIdx.foldl (λcs (c,j)=>cs.setIfInBounds (off+j) c) vs):=by
      refine⟨?_,λk t y ht hy=>?_⟩
      ·rw[←Array.length_toList,hfold];simp;omega
      ·rw[←Array.getElem?_toList,hfold] at hy
       simp only[List.getElem?_append,K2,List.length_take,Array.length_toList,List.getElem?_take,List.getElem?_drop,←L,←z] at ht hy
       rw[Nat.min_eq_left Z9] at ht hy
       by_cases hk1:k<off+(U4 x).length
       ·rw[if_pos hk1] at ht hy;by_cases hk2:k<off
        ·rw[if_pos hk2,if_pos hk2] at ht;rw[if_pos hk2,if_pos hk2] at hy;exact f _ _ _ ht (by simpa using hy)
        ·rw[if_neg hk2] at ht hy;exact l _ _ _ ht (by simpa using hy)
       ·rw[if_neg hk1] at ht hy;exact f _ _ _ ht (by simpa using hy)
     obtain⟨u,n,d⟩:=I V _ out _ h W a9o (λj p q g o=>hp (j+1) p q (by simpa using g) (by simpa using o))
     refine⟨u,?_,d⟩
     simp only[Instr.fill,hpl];rw[if_neg]
     ·exact n
     ·simp only[tB,r8];omega
    ·cases h
   ·cases h
theorem j4{t:TypeId}{z:List T}(h:zeroCells P t=some z):∃v,(zeroValue t).run P w= .ok v w/\tT E w z v.cells/\∃i,P.info? t=some i/\i.zero=some v:=by
 unfold zeroCells at h;cases hi:P.info? t with
 |none=>rw[hi] at h;cases h
 |some i=>
  rw[hi] at h;cases Z:i.zero with
  |none=>simp[Z] at h
  |some v=>
   simp only[Option.bind_some,Z,m8,X2] at h;subst h;refine⟨v,by simp[zeroValue,typeInfo,hi,Z],⟨W8,λi t x d hx=>?_⟩,i,rfl,Z⟩
   simp only[pW,Array.getElem?_toList,hx,m8,X2] at d
   subst d;exact a4S x
theorem jL:∀(F:List Field),(∀f ∈ F,(P.info? f.type).isSome=true)->(F.mapM λf=>(do pure (f.offset,←sizeOf f.type):Sem (Nat×Nat))).run P w= .ok (F.map λf=>(f.offset,P.cellsOf f.type)) w:=by
 intro F;induction F with
 |nil=>intro _;rfl
 |cons f F i=>
  intro h;simp only[List.mapM_cons,D8,C2 f.type (h f W8),E7,B2,i (λg d=>h g (by simp[d])),List.map_cons]
theorem a6c(F:Array Field)(h:∀f ∈ F.toList,(P.info? f.type).isSome=true):(F.mapM λf=>(do pure (f.offset,←sizeOf f.type):Sem (Nat×Nat))).run P w= .ok (F.map λf=>(f.offset,P.cellsOf f.type)) w:=by
 rw[Array.mapM_eq_mapM_toList,Sem.run_map,jL F.toList h];simp only[E7];congr 1
 apply Array.ext'
 simp
theorem a0x{place:Nat->Option (Nat×Nat)}{m:Nat}:∀(parts:List (Nat×T)) (n:Nat) (cs:List T),qE place m n parts=some cs->n+cs.length=m:=by
 intro parts;induction parts with
 |nil=>
  intro n cs h;simp only[qE] at h;split at h
  ·rename_i B;cases h;exact G1 B
  ·cases h
 |cons p parts I=>
  intro n cs h;obtain⟨i,x⟩:=p;simp only[qE] at h;split at h
  ·split at h
   ·rename_i h1 h2;cases hr:qE place m (n+_) parts with
    |none=>rw[hr] at h;cases h
    |some C=>
     rw[hr] at h;simp only[m8,X2] at h;subst h;have:=I _ _ hr;have h2:=G1 h2;rw[K2];omega
   ·cases h
  ·cases h
theorem b6E{place:Nat->Option (Nat×Nat)}{m:Nat}:∀(parts:List (Nat×T)) (n:Nat) (cells cs:List T),qE place m n parts=some cs->cells.length=m->a7 place cells parts=some (cells.take n++cs):=by
 intro parts;induction parts with
 |nil=>
  intro n cells cs h M;have:=a0x _ _ _ h;simp only[qE] at h;split at h
  ·cases h;simp only[a7,List.append_nil];rw[List.take_of_length_le (by simp at this;omega)]
  ·cases h
 |cons p parts I=>
  intro n cells cs h M;have hl:=a0x _ _ _ h;obtain⟨i,x⟩:=p;simp only[qE] at h;simp only[a7];split at h
  ·rename_i off size hpl hpb;split at h
   ·rename_i h1 h2;cases hr:qE place m (n+size) parts with
    |none=>rw[hr] at h;cases h
    |some C=>
     rw[hr] at h;simp only[m8,X2] at h;subst h;have d:=G1 h1;have f:=G1 h2;subst d;rw[K2] at hl;have e:Nat.ble (off+(U4 x).length) cells.length=true:=Nat.ble_eq_true_of_le Z9
     simp only[h2,e];rw[I (off+size) _ _ hr H4]
     congr 1
     have t:(cells.take off).length=off:=by rw[List.length_take];omega
     rw[←List.append_assoc];congr 1
     rw[List.append_assoc,List.take_append,t,List.take_of_length_le Z9,show off+size-off=(U4 x).length by omega,List.take_left']
     rfl
   ·cases h
  ·cases h
theorem b3L{e:Nat->Option (Nat×Nat)}{z:List T}{parts:List (Nat×T)}:a9Z e z parts=a7 e z parts:=by
 unfold a9Z;split
 ·rename_i cs h;rw[b6E _ _ _ _ h rfl];rfl
 ·rfl
theorem b3G{a:Act}{s:W5}{t:TypeId}{parts:Array (Nat×Operand)}{y:T}(h:iM P s t parts=some y)(u:∀p ∈ parts.toList,G0 E w a s p.2):
  ∃r,(Instr.build t (parts.map λ(i,x)=>(i,a.eval x))).run P w= .ok r w/\Rd E w y r:=by
 have g:∀(i:Nat) (p:Nat×T) (q:Nat×Value),(parts.toList.map λp=>(p.1,L3 s p.2))[i]? =some p->(parts.map λ(i,x)=>(i,a.eval x)).toList[i]? =some q->p.1=q.1/\Rd E w p.2 q.2:=by
  intro i p q hp Q;simp only[Array.toList_map,pW,G4] at hp Q
  obtain⟨x,hx,rfl⟩:=hp;obtain⟨X,l,rfl⟩:=Q;rw[hx] at l;simp only[X2] at l;subst l;exact⟨rfl,u x (A4 hx)⟩
 have N:(parts.toList.map λp=>(p.1,L3 s p.2)).length=(parts.map λ(i,x)=>(i,a.eval x)).toList.length:=W8
 unfold iM at h;simp only[b3L] at h;split at h
 ·rename_i z fs hz hu;obtain⟨v,hv,hrl,_⟩:=j4 (E:=E) (w:=w) hz;split at h
  ·rename_i hall;cases hf:a7 (λi=>(fs.toList[i]?).map λf=>(f.offset,P.cellsOf f.type)) z (parts.toList.map λp=>(p.1,L3 s p.2)) with
   |none=>rw[hf] at h;cases h
   |some out=>
    rw[hf] at h;simp only[m8,X2] at h;subst h;obtain⟨U,j,d⟩:=jD _ _ _ _ _ hf hrl N g;have o:∀f ∈ fs.toList,(P.info? f.type).isSome=true:=i7.1 hall;have L:(λ(i:Nat)=>(fs.toList[i]?).map λf:Field=>(f.offset,P.cellsOf f.type))=λ(i:Nat)=>(fs.map λf:Field=>(f.offset,P.cellsOf f.type))[i]? :=by
     funext i
     simp
    rw[L] at j;simp only[Instr.build,D8,hv,E7,B2,run_underlying hu,a6c fs o,j];exact⟨_,rfl,.agg _ _ d.1 d.2⟩
  ·cases h
 ·rename_i z n e hz hu;obtain⟨v,hv,hrl,_⟩:=j4 (E:=E) (w:=w) hz;split at h
  ·rename_i he;cases hf:a7 (λi=>some (i*P.cellsOf e,P.cellsOf e)) z (parts.toList.map λp=>(p.1,L3 s p.2)) with
   |none=>rw[hf] at h;cases h
   |some out=>
    rw[hf] at h;simp only[m8,X2] at h;subst h;obtain⟨U,j,d⟩:=jD _ _ _ _ _ hf hrl N g;simp only[Instr.build,D8,hv,E7,B2,run_underlying hu,C2 e he,j];exact⟨_,rfl,.agg _ _ d.1 d.2⟩
  ·cases h
 ·cases h
def E8(op:Op):List Operand:=
 match op with
 | .pick c _ _=>[c]
 |op=>op.operands.toList
theorem b5k(h:p:=by simp only[E8,Op.operands,Call.operands,Array.toList_append,List.mem_append];exact .inr hx):p:=h
theorem a9I{t:TypeId}{o:Bool}(h:b20 P t o=true):∃d e,P.underlying t=some (.map d e)/\P.underlying d=some (.int .i64)/\(zeroValue e).run P w= .ok (a0P o 0) w:=by
 unfold b20 at h;split at h
 ·rename_i d e u;have z:∀v,(P.info? e).bind (·.zero)=some v->(zeroValue e).run P w= .ok v w:=by
   intro v hv;cases hi:P.info? e with
   |none=>rw[hi] at hv;cases hv
   |some i=>
    rw[hi] at hv;simp only[Option.bind_some] at hv;simp[zeroValue,typeInfo,hi,hv]
  split at h
  ·rename_i n hk he;have:=E4 h;subst this;exact⟨d,e,u,hk,z _ he⟩
  ·rename_i b hk he;cases b
   ·exact⟨d,e,u,hk,z _ he⟩
   ·cases h
  ·cases h
 ·cases h
theorem nP{n:Int}:∀(l:List MapEntry) (i:Nat),(∀e ∈ l,∃m,e.key= .int .i64 m)->lk n l=none->Instr.findNow (.int .i64) (.int .i64 n) l i=some none:=by
 intro l;induction l with
 |nil=>intro i _ _;rfl
 |cons e l I=>
  intro i hi h;obtain⟨m,hm⟩:=hi e W8
  simp only[lk,hm] at h;split at h
  ·cases h
  ·rename_i hne;simp only[Instr.findNow,hm,Instr.sameNow,if_true];rw[show(n==m)=false from by simpa using hne]
   exact I _ (λe d=>hi e (by simp[d])) h
theorem mU{n:Int}{v:Value}:∀(l:List MapEntry) (i:Nat),(∀e ∈ l,∃m,e.key= .int .i64 m)->lk n l=some v->
  ∃j e,l[j]? =some e/\e.key= .int .i64 n/\e.val=v/\Instr.findNow (.int .i64) (.int .i64 n) l i=some (some (i+j,v))/\
   ∀x,(∀e ∈ l.modify j (λe=>{e with key:=.int .i64 n,val:=x}),∃m,e.key= .int .i64 m)/\∀n',lk n' (l.modify j (λe=>{e with key:=.int .i64 n,val:=x}))=if n'=n then some x else lk n' l:=by
 intro l;induction l with
 |nil=>intro i _ h;cases h
 |cons e l ih=>
  intro i hi h;obtain⟨m,hm⟩:=hi e W8
  have hi':∀e ∈ l,∃m,e.key= .int .i64 m:=λe he=>hi e (by simp[he])
  simp only[lk,hm] at h;split at h
  ·rename_i he;subst he;simp only[X2] at h;refine⟨0,e,rfl,hm,h,?_,λx=>⟨λe' he'=>?_,λn'=>?_⟩⟩
   ·simp[Instr.findNow,hm,Instr.sameNow,h]
   ·simp only[List.modify_zero_cons,vT] at he';rcases he' with rfl|he'
    ·exact⟨n,rfl⟩
    ·exact hi' e' he'
   ·simp only[List.modify_zero_cons,lk,hm];split
    ·rfl
    ·rfl
  ·rename_i hne;obtain⟨j,e',h1,h2,h3,h4,h5⟩:=ih (i+1) hi' h;refine⟨j+1,e',by simpa using h1,h2,h3,?_,λx=>?_⟩
   ·simp only[Instr.findNow,hm,Instr.sameNow,if_true];rw[show(n==m)=false from by simpa using hne]
    simp only[h4];congr 3
    omega
   ·obtain⟨g1,g2⟩:=h5 x;refine⟨λe'' he''=>?_,λn'=>?_⟩
    ·simp only[List.modify_succ_cons,vT] at he'';rcases he'' with rfl|he''
     ·exact⟨m,hm⟩
     ·exact g1 e'' he''
    ·simp only[List.modify_succ_cons,lk,hm];split
     ·rename_i M;subst M;rw[if_neg (Ne.symm hne)]
     ·exact g2 n'
theorem a96(o:Bool)(n:Int):Rd E w (c69 o n) (a0P o n):=by
 cases o
 ·exact .int _ _
 ·exact .bool _
theorem oB{t:TypeId}(h:P.underlying t=some (.int .i64))(b:Bool)(d:Nat)(n:Int):(Instr.checkKey b (d+1) t (.int .i64 n)).run P w= .ok () w:=by
 unfold Instr.checkKey;simp only[D8,run_underlying h,E7,B2]
theorem a9L{n:Int}(h:O7 .i64 n):(Lit.int .i64 n).wf=true:=by
 unfold O7 at h;unfold Lit.wf
 simpa using h
theorem nT{P:Program}{f:TypeId}(h:a3O P f=true)(n:P.keyType f=true){a b:Int}(A:O7 .i64 a)(B:O7 .i64 b):∃l,keyOf P f (r9 a b)=some l:=by
 unfold a3O at h;split at h
 ·rename_i fs hu;split at h
  ·rename_i F x d;simp only[O4] at h;obtain⟨⟨⟨⟨⟨⟨⟨r,N⟩,o⟩,O⟩,v⟩,g⟩,c2⟩,sz⟩:=h;have z:∃m,P.types.size=m+1:=by
    cases j:P.types.size with
    |zero=>rw[j] at sz;simp at sz
    |succ m=>exact⟨m,rfl⟩
   obtain⟨m,M⟩:=z;have i64:∀{t:TypeId},b8K P t=true->P.underlying t=some (.int .i64)/\P.cellsOf t=1:=by
    intro t e;unfold b8K at e;split at e
    ·rename_i i;exact⟨i,G1 e⟩
    ·cases e
   obtain⟨u,Z⟩:=i64 v;obtain⟨U,q⟩:=i64 g;have o:=G1 o;have O:=G1 O;have c2:=G1 c2;unfold keyOf;simp only[hu];rw[if_pos (by simp[n,r9,Value.formed,hu,c2]),M]
   unfold Program.keyLits;simp only[hu,r9,Value.cells];rw[if_pos ⟨by rw[c2];rfl,by rw[←Array.all_toList,d];simp[r,N]⟩,d]
   simp[o,O,Z,q,Program.keyLits,u,U,a9L A,a9L B]
  ·cases h
 ·cases h
theorem a8R{P:Program}{w:World}{t:TypeId}(h:a29 P t=true):∃kt et,P.underlying t=some (.map kt et)/\WideMaps.KeyLaw P kt/\a3O P kt=true/\P.keyType kt=true/\(zeroValue et).run P w= .ok (.bool false) w:=by
 unfold a29 at h;split at h
 ·rename_i kt et hu;split at h
  ·rename_i b z;simp only[O4,xV] at h;obtain⟨⟨⟨⟨rfl,f⟩,j⟩,l⟩,e⟩:=h;have W:(match P.underlying kt with|some (.array _ _)|some (.struct _)=>true|_=>false)=true:=by
    have d:=e;unfold a3O at d;split at d
    ·rename_i g;rw[g]
    ·cases d
   refine⟨kt,et,hu,Go.deep_law (m:=2) Z9 f j W,e,l,?_⟩
   cases hi:P.info? et with
   |none=>rw[hi] at z;cases z
   |some i=>
    rw[hi] at z;simp only[Option.bind_some] at z;simp[zeroValue,typeInfo,hi,z]
  ·cases h
 ·cases h
theorem b8j{H:Y4}(hH:HeapOk E w H){t:TypeId}{m k:T}{M z:Value}{y:T}{side:Option Prop}(h:lU P H t m k=some (y,side))(O:side.getD True)(hm:Rd E w m M)(hk:Rd E w k z):
  ∃r,(Instr.lookup t M z false).run P w= .ok r w/\Rd E w y r:=by
 unfold lU at h;split at h
 ·rename_i j n;split at h
  ·rename_i bo get hob;split at h
   ·rename_i hb;simp only[X2,U0] at h;obtain⟨rfl,rfl⟩:=h;rw[J3 hk];obtain⟨kt,et,hu,hku,hz⟩:=a9I (w:=w) hb;obtain⟨hL,⟨_,es,clock,hblk,hi,hg⟩,hN⟩:=hH.live j _ hob;cases hm with
    |mpr _ _=>
     have o:=oB (w:=w) hku es.isEmpty 9999 n;have N:=hg n;cases hl:lk n es.toList with
     |none=>
      rw[hl] at N;have F:=MapKept.run_findKey (w:=w) hku (nP es.toList 0 hi hl);simp only[Instr.lookup,D8,run_underlying hu,E7,MapKept.run_getObj_map hblk,o,F,hz,B2,Bool.false_eq_true,if_false];exact⟨_,rfl,by rw[show get n=0 from N];exact a96 bo 0⟩
     |some v=>
      rw[hl] at N;obtain⟨i,e,_,_,_,A,_⟩:=mU es.toList 0 hi hl;have F:=MapKept.run_findKey (w:=w) hku A;simp only[Instr.lookup,D8,run_underlying hu,E7,MapKept.run_getObj_map hblk,o,F,B2,Bool.false_eq_true,if_false];exact⟨_,rfl,by rw[show v=_ from N];exact a96 bo _⟩
   ·cases h
  ·cases h
 ·rename_i j a b;split at h
  ·rename_i get hob;split at h
   ·rename_i hb;simp only[X2,U0] at h;obtain⟨rfl,rfl⟩:=h;obtain⟨R,I⟩:=O;obtain⟨kt,et,hu,K,hp,f,hz⟩:=a8R (w:=w) hb;obtain⟨hL,⟨U,es,clock,hblk,hent,X,J⟩,hN⟩:=hH.live j _ hob;obtain⟨l,hl⟩:=nT hp f R I;have x:z=r9 a b:=by
     cases hk with
     |agg _ vs g B=>
      obtain⟨q,V,rfl⟩:∃q V,vs= #[q,V]:=by
       match vs,g with
       |⟨[q,V]⟩,_=>exact⟨q,V,rfl⟩
      rw[J3 (B 0 _ q rfl rfl),J3 (B 1 _ V rfl rfl)];rfl
    subst x;have L:∀e ∈ es.toList,∃l,keyOf P kt e.key=some l:=λe he=>by
     obtain⟨a',b',C,Q,d,_⟩:=hent e he;rw[d];exact nT hp f C Q
    cases hm with
    |mpr _ _=>
     rcases K.find w hl es.toList L with⟨u,h2⟩|⟨i,e,u,h2,h3⟩
     ·have hg:get a b=false:=by
       cases hg:get a b with
       |false=>rfl
       |true=>
        obtain⟨e,he,d⟩:=X a b hg;exact absurd d (h2 e he)
      exact⟨.bool false,by simp[Instr.lookup,run_underlying hu,MapKept.run_getObj_map hblk,K.check w _ hl,u,hz,Result.andThen],by rw[hg];exact .bool false⟩
     ·obtain⟨a',b',_,_,hk1,hv⟩:=hent e (A4 h2);have he:r9 a' b'=r9 a b:=hk1.symm.trans h3;simp only[r9,Value.agg.injEq] at he;have h4:a'=a/\b'=b:=by simpa using he
      obtain⟨rfl,rfl⟩:=h4;exact⟨.bool (get a' b'),by simp[Instr.lookup,run_underlying hu,MapKept.run_getObj_map hblk,K.check w _ hl,u,hv,Result.andThen],.bool _⟩
   ·cases h
  ·cases h
 ·cases h
theorem K5(h:p:=by simp[E8,Op.operands]):p:=h
theorem tN(h:p:=by simpa using ha):p:=h
theorem a0p(h:p:=by simpa using hat):p:=h
theorem vM(h:p:=by simp[E8,Op.operands,Call.operands]):p:=h
theorem c3z{a:Act}{s:W5}{H:Y4}{o:Oper}{t:T}{side:Option Prop}(h:L7 P s H o.op=some (t,side))(hs:side.getD True)(hH:HeapOk E w H)
  (hop:∀x ∈ E8 o.op,G0 E w a s x)
  (hpk:∀c x y,o.op= .pick c x y->(∀b,L3 s c= .bool b->b=true->G0 E w a s x)/\(∀b,L3 s c= .bool b->b=false->G0 E w a s y)):
  ∃v,(execOp a.eval o).run P w= .ok (.value v) w/\Rd E w t v:=by
 have lift:∀{m:Sem Value} {v:Value},m.run P w= .ok v w->(do pure (Next.value (←m)):Sem Next).run P w= .ok (.value v) w:=by
  intro m v hm;simp only[D8,hm,E7,B2]
 obtain⟨dst,op,ty,pos,after,guard⟩:=o;simp only at h hop hpk ⊢;unfold L7 at h;split at h
 case h_1 x=>
  simp only[X2,U0] at h;obtain⟨rfl,rfl⟩:=h;exact⟨a.eval x,rfl,hop x K5⟩
 case h_2 x=>
  simp only[X2,U0] at h;obtain⟨rfl,rfl⟩:=h;exact⟨a.eval x,rfl,hop x K5⟩
 case h_3 c x y=>
  cases hp:a2f s c x y with
  |none=>rw[hp] at h;cases h
  |some z=>
   rw[hp] at h;simp only[m8,X2,U0] at h;obtain⟨rfl,rfl⟩:=h;obtain⟨h1,h2⟩:=hpk c x y rfl;obtain⟨b,hb,hr⟩:=iN hp (hop c (by simp[E8])) h1 h2
   refine⟨_,?_,hr⟩
   simp only[execOp,hb,asBool,D8,B2,E7]
 case h_4 t' x=>
  obtain⟨r,hr,hrd⟩:=a9W (P:=P) hH h hs (hop x K5)
  exact⟨r,lift hr,hrd⟩
 case h_5 x=>
  have hx:=hop x K5
  unfold G0 at hx;split at h
  ·rename_i k i j he;simp only[X2,U0] at h;obtain⟨rfl,rfl⟩:=h;rw[he] at hx;refine⟨a.eval x,?_,hx⟩
   obtain⟨ad,had⟩:∃ad,a.eval x= .pointer (some ad):=by first|exact⟨_,a0S hx⟩|exact a9F hx
   simp only[execOp,had];rfl
  ·rename_i cs he;simp only[X2,U0] at h;obtain⟨rfl,rfl⟩:=h;rw[he] at hx;refine⟨a.eval x,?_,hx⟩
   obtain⟨ad,had⟩:∃ad,a.eval x= .pointer (some ad):=by first|exact⟨_,a0S hx⟩|exact a9F hx
   simp only[execOp,had];rfl
  ·cases h
 case h_6 bop t' x y yt=>
  obtain⟨r,hr,hrd⟩:=c3w (P:=P) (ox:=x) (oy:=y) h hs (hop x K5) (hop y K5)
  exact⟨r,lift hr,hrd⟩
 case h_7 uop t' x=>
  obtain⟨r,hr,hrd⟩:=c5Z (P:=P) h hs (hop x K5)
  exact⟨r,lift hr,hrd⟩
 case h_8 src dst' x=>
  obtain⟨r,hr,hrd⟩:=b8o (P:=P) hH h hs (hop x K5)
  exact⟨r,lift hr,hrd⟩
 case h_9 t' x f=>
  cases hp:wZ P t' (L3 s x) f with
  |none=>rw[hp] at h;cases h
  |some z=>
   rw[hp] at h;simp only[m8,X2,U0] at h;obtain⟨rfl,rfl⟩:=h;obtain⟨r,hr,hrd⟩:=a1Q (P:=P) hp (hop x K5)
   exact⟨r,lift hr,hrd⟩
 case h_10 t' x f=>
  cases hp:iY P t' (L3 s x) f with
  |none=>rw[hp] at h;cases h
  |some z=>
   rw[hp] at h;simp only[m8,X2,U0] at h;obtain⟨rfl,rfl⟩:=h;obtain⟨r,hr,hrd⟩:=b7Z (P:=P) hp (hop x K5)
   exact⟨r,lift hr,hrd⟩
 case h_11 t' x i=>
  obtain⟨r,hr,hrd⟩:=a1U (P:=P) hH h hs (hop x K5) (hop i K5)
  exact⟨r,lift hr,hrd⟩
 case h_12 t' x i=>
  obtain⟨r,hr,hrd⟩:=b73 (P:=P) h hs (hop x K5) (hop i K5)
  exact⟨r,lift hr,hrd⟩
 case h_13 x i=>
  cases hp:rP (L3 s x) i with
  |none=>rw[hp] at h;cases h
  |some z=>
   rw[hp] at h;simp only[m8,X2,U0] at h;obtain⟨rfl,rfl⟩:=h;obtain⟨r,hr,hrd⟩:=a5r (P:=P) hp (hop x K5)
   exact⟨r,lift hr,hrd⟩
 case h_14 args argTypes=>
  split at h
  ·rename_i x t' ha hat;obtain rfl:args= #[x]:=Array.ext' tN
   obtain rfl:argTypes= #[t']:=Array.ext' a0p
   cases hp:a87 P t' (L3 s x) with
   |none=>rw[hp] at h;cases h
   |some n=>
    rw[hp] at h;simp only[m8,X2,U0] at h;obtain⟨rfl,rfl⟩:=h;have hn:=c3M (P:=P) (ty:=ty) hp (hop x vM)
    refine⟨_,?_,.int _ _⟩
    simp[execOp,resolve,invoke,builtin,hn,Result.andThen]
  ·cases h
 case h_15 t' x lo hi=>
  obtain⟨r,hr,hrd⟩:=b4w (P:=P) (lv:=lo.map a.eval) (hv:=hi.map a.eval) hH h hs (hop x K5)
   (λy hy=>by
    cases lo with
    |none=>cases hy
    |some z=>
     simp only[m8,X2] at hy;subst hy;exact⟨_,rfl,hop z K5⟩)
   (λy hy=>by
    cases hi with
    |none=>cases hy
    |some z=>
     simp only[m8,X2] at hy;subst hy;exact⟨_,rfl,hop z K5⟩)
   (λhn=>by cases lo with|none=>rfl|some z=>cases hn) (λhn=>by cases hi with|none=>rfl|some z=>cases hn)
  exact⟨r,lift hr,hrd⟩
 case h_16 t' parts=>
  cases hp:iM P s t' parts with
  |none=>rw[hp] at h;cases h
  |some z=>
   rw[hp] at h;simp only[m8,X2,U0] at h;obtain⟨rfl,rfl⟩:=h;obtain⟨r,hr,hrd⟩:=b3G (P:=P) hp (λp hp=>hop p.2 (by simp only[E8,Op.operands,List.mem_map];exact⟨p,hp,rfl⟩))
   exact⟨r,lift hr,hrd⟩
 case h_17 fn first captured=>
  split at h
  ·rename_i hf;simp only[X2,U0] at h;obtain⟨rfl,rfl⟩:=h;obtain rfl:first= #[]:=Array.ext' (by simpa using hf)
   refine⟨_,lift (m:=Instr.makeFunc fn (#[].map a.eval) (captured.map a.eval)) rfl,?_⟩
   simp only[Array.map_empty];refine .fn _ _ _ W8 λi t x ht hx=>?_
   simp only[pW,Array.getElem?_map,G4,Array.getElem?_toList] at ht hx
   obtain⟨p,hp,rfl⟩:=ht;obtain⟨q,hq,rfl⟩:=hx;rw[hp] at hq;simp only[X2] at hq;subst hq;exact hop p (by simp only[E8,Op.operands,Array.toList_append,List.mem_append];exact .inr (by simpa using Array.mem_of_getElem? hp))
  ·cases h
 case h_18 t' m k=>
  obtain⟨r,hr,hrd⟩:=b8j (P:=P) hH h hs (hop m K5) (hop k K5)
  exact⟨r,lift hr,hrd⟩
 case h_19 args argTypes=>
  split at h
  ·rename_i x y ha;obtain rfl:args= #[x,y]:=Array.ext' tN
   have hx:=hop x vM
   have hy:=hop y vM
   unfold c2c at h;split at h
   ·rename_i k m hm;split at h
    ·rename_i k2 n hn;simp only[X2,U0] at h;obtain⟨rfl,rfl⟩:=h;unfold G0 at hx hy;rw[hm] at hx;rw[hn] at hy;have ex:=J3 hx;have ey:=J3 hy;refine⟨_,?_,.int _ _⟩
     simp[execOp,resolve,invoke,builtin,Builtin.min_,Builtin.min2,ex,ey,Result.andThen,c5W]
    ·cases h
   ·cases h
  ·cases h
 case h_20 args argTypes=>
  split at h
  ·rename_i x t ha ht;obtain rfl:args= #[x]:=Array.ext' tN
   obtain rfl:argTypes= #[t]:=Array.ext' (by simpa using ht)
   have hx:=hop x vM
   unfold c1Y at h;split at h
   ·rename_i e hu hv;simp only[X2,U0] at h;obtain⟨rfl,rfl⟩:=h;unfold G0 at hx;rw[hv] at hx;have ex:=wK hx;refine⟨_,?_,.int _ _⟩
    simp[execOp,resolve,invoke,builtin,Builtin.cap_,ex,Result.andThen,run_underlying hu,goInt]
   ·cases h
  ·cases h
 case h_21=>cases h
end
structure Ctx where
 w0:World
 X:Nat->Prop
 N0:Nat->Prop
 nt:Nat
 E0:Env
 m:Nat
structure Fr(w0:World)(X:Nat->Prop)(w:World):Prop where
 os:w.os=w0.os
 tape:w.tape=w0.tape
 output:w.output=w0.output
 size:w0.heap.size<=w.heap.size
 block:∀b,b<w0.heap.size->¬X b->w.heap[b]? =w0.heap[b]?
structure Keep(c:Ctx)(E:Env)(w:World):Prop where
 N:∀b,c.E0.N b->E.N b
 L:∀k,k<c.m->c.E0.L k->E.L k/\E.β k=c.E0.β k/\E.κ k=c.E0.κ k/\E.z k=c.E0.z k
 same:∀b,c.E0.N b->w.heap[b]? =c.w0.heap[b]?
 L2:∀k v,k<c.m->c.E0.L2 k v->E.L2 k v/\∀i j,E.b2 k v i j=c.E0.b2 k v i j/\E.c2 k v i j=c.E0.c2 k v i j
structure Inv(c:Ctx)(E:Env)(H:Y4)(w:World):Prop where
 heap:HeapOk E w H
 nlt:∀b,E.N b->b<w.heap.size
 nnew:∀b,E.N b->c.N0 b∨c.w0.heap.size<=b∨c.X b
 bnew:∀k ob b,Z1 H k=some ob->B7 E k ob b->c.w0.heap.size<=b∨c.X b
 fr:Fr c.w0 c.X w
 keep:Keep c E w
structure Stp(E:Env)(w:World)(E':Env)(w':World):Prop where
 le:E.le E'
 same:∀b,E.N b->w'.heap[b]? =w.heap[b]?
structure Step(E:Env)(w:World)(E':Env)(w':World):Prop where
 le:E.le E'
 same:∀b,E.N b->w'.heap[b]? =w.heap[b]?
 nl:∀k,E'.L k->E.L k∨∀j,E.L j->j<k
theorem Step.stp{E E':Env}{w w':World}(h:Step E w E' w'):Stp E w E' w':=⟨h.le,h.same⟩
instance{E E':Env}{w w':World}:Coe (Step E w E' w') (Stp E w E' w'):=⟨Step.stp⟩
theorem Step.refl(E:Env)(w:World):Step E w E w:=⟨Env.le.refl E,λ_ _=>rfl,λ_ h=>.inl h⟩
theorem Step.trans{A B C:Env}{u v w:World}(h:Step A u B v)(k:Step B v C w):Step A u C w:=
 ⟨h.le.trans k.le,λb e=>(k.same b (h.le.N b e)).trans (h.same b e),λi hi=>(k.nl i hi).elim (h.nl i) λJ=>.inr λj d=>J j (h.le.L j d)⟩
theorem Stp.rd{E E':Env}{w w':World}(h:Stp E w E' w'){t:T}{x:Value}(hx:Rd E w t x):Rd E' w' t x:=hx.mono h.le h.same
theorem Step.rd{E E':Env}{w w':World}(h:Step E w E' w'){t:T}{x:Value}(hx:Rd E w t x):Rd E' w' t x:=hx.mono h.le h.same
theorem Keep.step{c:Ctx}{E E':Env}{w w':World}(h:Keep c E w)(d:Stp E w E' w'):Keep c E' w' where
 N:=λb B=>d.le.N b (h.N b B)
 L:=λk g l=>by
  obtain⟨e,f,n,o⟩:=h.L k g l;exact⟨d.le.L k e,(d.le.β k e).trans f,(d.le.κ k e).trans n,(d.le.z k e).trans o⟩
 same:=λb B=>(d.same b (h.N b B)).trans (h.same b B)
 L2:=λk v g l=>by
  obtain⟨e,f⟩:=h.L2 k v g l;exact⟨d.le.L2 k v e,λi j=>⟨(d.le.b2 k v i j e).trans (f i j).1,(d.le.c2 k v i j e).trans (f i j).2⟩⟩
theorem Fr.heap{w0 w w':World}{X:Nat->Prop}(h:Fr w0 X w)(o:w'.os=w.os)(t:w'.tape=w.tape)(hp:w'.output=w.output)(f:w.heap.size<=w'.heap.size)
  (B:∀b,b<w0.heap.size->¬X b->w'.heap[b]? =w.heap[b]?):Fr w0 X w':=
 ⟨o.trans h.os,t.trans h.tape,hp.trans h.output,Nat.le_trans h.size f,λb e d=>(B b e d).trans (h.block b e d)⟩
def Env.push(E:Env)(k b κ z:Nat):Env where
 N:=E.N
 L:=λi=>E.L i∨i=k
 β:=λi=>if i=k then b else E.β i
 κ:=λi=>if i=k then κ else E.κ i
 z:=λi=>if i=k then(z,[]) else E.z i
 L2:=E.L2
 b2:=E.b2
 c2:=E.c2
theorem b5N(h:p:=by rintro rfl;exact h hi):p:=h
theorem Env.push_le{E:Env}{k b κ z:Nat}(h:¬E.L k):E.le (E.push k b κ z):=
 ⟨λ_ h=>h,λ_ h=>.inl h,λi hi=>if_neg b5N,λi hi=>if_neg b5N,λi hi=>if_neg b5N,λ_ _ h=>h,λ_ _ _ _ _=>rfl,λ_ _ _ _ _=>rfl⟩
theorem o7{H:Y4}{x:Option Ob}{k:Nat}:Z1 (H++[x]) k=if k<H.length then Z1 H k else if k=H.length then x else none:=by
 unfold Z1;rw[List.getElem?_append]
 split
 ·rfl
 ·split
  ·rename_i h;subst h;simp
  ·rename_i h1 h2;rw[List.getElem?_eq_none H4]
   rfl
theorem H3{H:Y4}{k:Nat}{ob:Ob}(h:Z1 H k=some ob):k<H.length:=by
 rcases Nat.lt_or_ge k H.length with h'|h'
 ·exact h'
 ·unfold Z1 at h;rw[List.getElem?_eq_none h'] at h
  cases h
theorem T9{H:Y4}{x:Option Ob}{i k:Nat}(hi:i<H.length):Z1 (H.set i x) k=if k=i then x else Z1 H k:=by
 unfold Z1;rw[List.getElem?_set]
 split
 ·rename_i h;subst h;simp
 ·rename_i h;rw[if_neg (λe=>h e.symm)]
section
variable {c:Ctx} {E:Env} {H:Y4} {w w':World} {P:Program}
theorem T4.mono{E':Env}{k k':Nat}{A:Arr}(h:T4 E w k A)(l:∀t x,Rd E w t x->Rd E' w' t x)(B:E'.β k'=E.β k)(e:E'.κ k'=E.κ k)(Z:E'.z k'=E.z k)(W:E.κ k≠0->w'.heap[E.β k]? =w.heap[E.β k]?):T4 E' w' k' A:=by
 obtain⟨q,f,g,d,o,cs,ty,C,n,v⟩:=h;refine⟨by rw[Z];exact q,by rw[e];exact f,g,d,o,cs,ty,λh=>by rw[e] at h;rw[B,W h];exact C h,by rw[e,Z];exact n,λi j t hi J=>?_⟩
 obtain⟨u,U,r⟩:=v i j t hi J;exact⟨u,U,l t u r⟩
theorem T4.closedN{E':Env}{k k':Nat}{A:Arr}(h:T4 E w k A)(I:A.cl=true)(F:∀b,E.N b->E'.N b)(q:∀b,E.N b->w'.heap[b]? =w.heap[b]?)(B:E'.β k'=E.β k)(f:E'.κ k'=E.κ k)(Z:(E'.z k').1=A.sz)(d:∀cs n,Siz cs n (E.z k).2->Siz cs n (E'.z k').2)(W:E.κ k≠0->w'.heap[E.β k]? =w.heap[E.β k]?):T4 E' w' k' A:=by
 obtain⟨L,l,o,e,g,cs,ty,C,v,x⟩:=h;refine⟨Z,by rw[f];exact l,o,e,g,cs,ty,λh=>by rw[f] at h;rw[B,W h];exact C h,by rw[f];exact d _ _ v,λi j t hi J=>?_⟩
 obtain⟨u,U,r⟩:=x i j t hi J;exact⟨u,U,C0 (E:=E) (E':=E') F (r.mono (E:=E) (E':=E) (Env.le.refl E) q) (g I i t hi (A4 J))⟩
theorem T4.closed{E':Env}{k k':Nat}{A:Arr}(h:T4 E w k A)(e:A.cl=true)(f:∀b,E.N b->E'.N b)(d:∀b,E.N b->w'.heap[b]? =w.heap[b]?)(B:E'.β k'=E.β k)(g:E'.κ k'=E.κ k)(Z:E'.z k'=E.z k)(W:E.κ k≠0->w'.heap[E.β k]? =w.heap[E.β k]?):T4 E' w' k' A:=
 h.closedN e f d B g (by rw[Z];exact h.1) (λ_ _ h=>by rw[Z];exact h) W
theorem FamOk.mono{E':Env}{k v:Nat}{ty:TypeId}{sz n:Nat}{row:Nat->List T}(h:FamOk E w k v ty sz n row)(e:E.L k)(hs:Stp E w E' w')(hw:∀b,B7 E k (.fam v ty sz n row) b->w'.heap[b]? =w.heap[b]?):FamOk E' w' k v ty sz n row:=by
 have h2:=h.l2;refine⟨hs.le.L2 k v h2,h.arr.mono (λt x=>hs.rd) (hs.le.β k e) (hs.le.κ k e) (hs.le.z k e) (λr=>hw _ (.inl ⟨r,rfl⟩)),h.fam,λi j oty osz on orow hi hj=>?_,λi j I J oty osz on orow O o g orow' hi l hj f hc d q=>?_⟩
 ·obtain⟨h3,h4⟩:=h.own i j oty osz on orow hi hj;refine⟨h3.closed rfl hs.le.N hs.same (hs.le.b2 k v i j h2) (hs.le.c2 k v i j h2) rfl (λhc=>hw _ (.inr ⟨v,ty,sz,n,row,i,j,oty,osz,on,orow,rfl,hi,hj,hc,rfl⟩)),?_⟩
  rw[hs.le.b2 k v i j h2,hs.le.c2 k v i j h2,hs.le.κ k e,hs.le.β k e];exact h4
 ·rw[hs.le.c2 k v _ _ h2] at hc d;rw[hs.le.b2 k v _ _ h2,hs.le.b2 k v _ _ h2] at q;exact h.inj i j I J oty osz on orow O o g orow' hi l hj f hc d q
theorem i6.mono{E':Env}{k:Nat}{ob:Ob}(h:i6 E w k ob)(e:E.L k)(d:Stp E w E' w')(W:∀b,B7 E k ob b->w'.heap[b]? =w.heap[b]?):i6 E' w' k ob:=by
 cases ob with
 |mp o get=>
  obtain⟨f,j,C,i,g⟩:=h;exact⟨by rw[d.le.κ k e];exact f,j,C,by rw[d.le.β k e,W _ (.inl ⟨f,rfl⟩)];exact i,g⟩
 |mp2 get=>
  obtain⟨f,j,C,i,g⟩:=h;exact⟨by rw[d.le.κ k e];exact f,j,C,by rw[d.le.β k e,W _ (.inl ⟨f,rfl⟩)];exact i,g⟩
 |fam=>exact FamOk.mono h e d W
 |arr=>exact T4.mono h (λt x=>d.rd) (d.le.β k e) (d.le.κ k e) (d.le.z k e) (λf=>W _ (.inl ⟨f,rfl⟩))
 |bys=>exact T4.mono h (λt x=>d.rd) (d.le.β k e) (d.le.κ k e) (d.le.z k e) (λf=>W _ (.inl ⟨f,rfl⟩))
theorem B7.back{E':Env}{k:Nat}{ob:Ob}{b:Nat}(h:B7 E' k ob b)(l:i6 E w k ob)(g:E.L k)(e:E.le E'):B7 E k ob b:=by
 rcases h with⟨f,rfl⟩|⟨v,ty,sz,n,row,i,j,O,z,on,o,rfl,hi,J,C,rfl⟩
 ·rw[e.κ k g] at f;exact .inl ⟨f,e.β k g⟩
 ·have d:=FamOk.l2 l;rw[e.c2 k v i j d] at C;exact .inr ⟨v,ty,sz,n,row,i,j,O,z,on,o,rfl,hi,J,C,e.b2 k v i j d⟩
theorem T4.ob{k:Nat}{ob:Ob}(h:T4 E w k ob.toArr)(hi:ob.isArr=true):i6 E w k ob:=by
 cases ob<;>first|exact h|cases hi
theorem b0o(h:p:=by have:=h.fr.size;omega):p:=h
theorem Inv.pushO(h:Inv c E H w)(O:w'.os=w.os)(M:w'.tape=w.tape)(hp:w'.output=w.output)(Z:w.heap.size<=w'.heap.size)(C:∀b,b<w.heap.size->w'.heap[b]? =w.heap[b]?)
  (ob:Ob) (b κ:Nat) (F:∀v ty sz n row,ob≠ .fam v ty sz n row) (l:κ≠0->w.heap.size<=b) (W:Step E w (E.push H.length b κ ob.toArr.sz) w'->i6 (E.push H.length b κ ob.toArr.sz) w' H.length ob):
  Inv c (E.push H.length b κ ob.toArr.sz) (H++[some ob]) w'/\Step E w (E.push H.length b κ ob.toArr.sz) w':=by
 have g:¬E.L H.length:=λN=>by have:=h.heap.lt _ N;omega
 have r:E.le (E.push H.length b κ ob.toArr.sz):=Env.push_le g;have d:Step E w (E.push H.length b κ ob.toArr.sz) w':=⟨r,λb l=>C b (h.nlt b l),λi hi=>hi.elim .inl λe=>.inr λj U=>e▸h.heap.lt j U⟩
 have I:(E.push H.length b κ ob.toArr.sz).β H.length=b:=if_pos rfl;have z:(E.push H.length b κ ob.toArr.sz).κ H.length=κ:=if_pos rfl;have hold:∀k ob' x,Z1 H k=some ob'->B7 (E.push H.length b κ ob.toArr.sz) k ob' x->B7 E k ob' x/\x<w.heap.size:=λk ob' x hk hx=>by
  obtain⟨u,A,J⟩:=h.heap.live k ob' hk;have:=hx.back A u r;exact⟨this,h.heap.blt hk this⟩
 have B:∀x,B7 (E.push H.length b κ ob.toArr.sz) H.length ob x->w.heap.size<=x:=λx hx=>by
  rcases hx with⟨q,rfl⟩|q
  ·rw[z] at q;rw[I];exact l q
  ·exact(q.not F).elim
 have key:∀k ob',Z1 (H++[some ob]) k=some ob'->Z1 H k=some ob'∨(k=H.length/\ob'=ob):=λk ob' hk=>by
  rw[o7] at hk;split at hk
  ·exact .inl hk
  ·split at hk
   ·rename_i R;simp only[X2] at hk;exact .inr ⟨R,hk.symm⟩
   ·cases hk
 refine⟨⟨⟨λk ob' hk=>?_,λk k' o o' x hk hk' hx f=>?_,λk hk=>?_,λk v hk=>.inl (h.heap.l2 k v hk),λk ob' v hk t=>?_⟩,λb l=>by have:=h.nlt b l;omega,h.nnew,λk ob' x hk hx=>?_,h.fr.heap O M hp Z (λb q V=>C b b0o),h.keep.step d⟩,d⟩
 ·rcases key k ob' hk with hk|⟨rfl,rfl⟩
  ·obtain⟨u,A,J⟩:=h.heap.live k ob' hk;exact⟨.inl u,A.mono u d (λx hx=>C x (h.heap.blt hk hx)),λx hx=>J x (hold k ob' x hk hx).1⟩
  ·exact⟨.inr rfl,W d,λx hx Q=>by have:=h.nlt x Q;have:=B x hx;omega⟩
 ·rcases key k o hk with hk|⟨rfl,rfl⟩
  ·obtain⟨a1,a2⟩:=hold k o x hk hx;rcases key k' o' hk' with hk'|⟨rfl,rfl⟩
   ·exact h.heap.inj k k' o o' x hk hk' a1 (hold k' o' x hk' f).1
   ·have:=B x f;omega
  ·rcases key k' o' hk' with hk'|⟨rfl,rfl⟩
   ·obtain⟨a1,a2⟩:=hold k' o' x hk' f;have:=B x hx;omega
   ·rfl
 ·rcases hk with hk|hk
  ·have:=h.heap.lt k hk;simp;omega
  ·simp;omega
 ·rcases key k ob' hk with hk|⟨rfl,rfl⟩
  ·exact h.heap.cur k ob' v hk t
  ·exact absurd (h.heap.l2 _ v t) g
 ·rcases key k ob' hk with hk|⟨rfl,rfl⟩
  ·exact h.bnew k ob' x hk (hold k ob' x hk hx).1
  ·have:=h.fr.size;have:=B x hx;exact .inl Z9
theorem Inv.push(h:Inv c E H w)(O:w'.os=w.os)(r:w'.tape=w.tape)(hp:w'.output=w.output)(Z:w.heap.size<=w'.heap.size)(W:∀b,b<w.heap.size->w'.heap[b]? =w.heap[b]?)
  (ob:Ob) (b κ:Nat) (cs:Array Value) (ty:TypeId) (B:κ≠0->w.heap.size<=b) (g:κ≠0->w'.heap[b]? =some (.cells cs ty (0,0))) (o:cs.size=κ*ob.toArr.sz) (N:ob.toArr.n<=κ)
  (hl:∀i,i<ob.toArr.n->(ob.toArr.row i).length=ob.toArr.sz) (x:∀i t,i<ob.toArr.n->t ∈ ob.toArr.row i->I7 t=true) (L:ob.toArr.cl=true->∀i t,i<ob.toArr.n->t ∈ ob.toArr.row i->W7 t=true)
  (R:∀i j t,i<ob.toArr.n->(ob.toArr.row i)[j]? =some t->∃u,cs[i*ob.toArr.sz+j]? =some u/\Rd E w t u) (A:ob.isArr=true:=by rfl):
  Inv c (E.push H.length b κ ob.toArr.sz) (H++[some ob]) w'/\Step E w (E.push H.length b κ ob.toArr.sz) w':=by
 have l:(E.push H.length b κ ob.toArr.sz).β H.length=b:=if_pos rfl;have d:(E.push H.length b κ ob.toArr.sz).κ H.length=κ:=if_pos rfl;have f:(E.push H.length b κ ob.toArr.sz).z H.length=(ob.toArr.sz,[]):=if_pos rfl;refine h.pushO O r hp Z W ob b κ (by rintro v ty sz n row rfl;cases A) B λe=>T4.ob ⟨by rw[f],by rw[d];exact N,hl,x,L,cs,ty,by rw[l,d];exact g,
     by rw[d,f];exact a8A (Nat.le_of_eq o.symm),λi j t hi J=>?_⟩ A
 obtain⟨u,U,q⟩:=R i j t hi J;exact⟨u,U,e.rd q⟩
theorem Inv.to(h:Inv c E H w){E':Env}{H':Y4}(O:w'.os=w.os)(t:w'.tape=w.tape)(hp:w'.output=w.output)(z:w.heap.size<=w'.heap.size)(hstep:Stp E w E' w')(k:Nat)(Gv:Nat->Prop)
  (hN':∀b,E'.N b->E.N b) (hold:∀i o,Z1 H' i=some o->i≠k->Z1 H i=some o/\¬Gv i)
  (hnew:∀o,Z1 H' k=some o->E'.L k/\i6 E' w' k o/\∀b,B7 E' k o b->w.heap.size<=b∨∃m o',Gv m/\Z1 H m=some o'/\B7 E m o' b)
  (hw:∀b,b<w.heap.size->(∀m o,Gv m->Z1 H m=some o->¬B7 E m o b)->w'.heap[b]? =w.heap[b]?)
  (lt:∀i,E'.L i->i<H'.length) (l2:∀i v,E'.L2 i v->E'.L i) (cur:∀o i v,Z1 H' i=some o->E'.L2 i v->∃v0 ty sz n row,o= .fam v0 ty sz n row/\v<=v0):
  Inv c E' H' w':=by
 have hlive:=h.heap.live;have ob:∀i o b,Z1 H' i=some o->i≠k->B7 E' i o b->Z1 H i=some o/\¬Gv i/\B7 E i o b:=λi o b hi e hb=>by
  obtain⟨h1,h2⟩:=hold i o hi e;obtain⟨e1,e2,_⟩:=hlive i o h1;exact⟨h1,h2,hb.back e2 e1 hstep.le⟩
 refine⟨⟨λi o hi=>?_,λi i' o o' b hi hi' hb hb'=>?_,lt,l2,λi o v hi hv=>cur o i v hi hv⟩,λb hb=>by have:=h.nlt b (hN' b hb);omega,λb hb=>h.nnew b (hN' b hb),λi o b hi hb=>?_,
  h.fr.heap O t hp z (λb h1 h2=>hw b b0o (λm o hm hmo hb=>?_)),h.keep.step hstep⟩
 ·by_cases hik:i=k
  ·subst hik;obtain⟨n1,n2,n3⟩:=hnew o hi;refine⟨n1,n2,λb hb hN=>?_⟩
   rcases n3 b hb with h3|⟨m,o',hm,hmo,hmb⟩
   ·have:=h.nlt b (hN' b hN);omega
   ·exact(hlive m o' hmo).2.2 b hmb (hN' b hN)
  ·obtain⟨h1,h2⟩:=hold i o hi hik;obtain⟨e1,e2,e3⟩:=hlive i o h1;refine⟨hstep.le.L i e1,e2.mono e1 hstep (λb hb=>hw b (e2.blt hb) λm o' hm hmo hmb=>?_),λb hb hN=>e3 b (ob i o b hi hik hb).2.2 (hN' b hN)⟩
   have:=h.heap.inj i m o o' b h1 hmo hb hmb;exact h2 (this▸hm)
 ·by_cases hik:i=k
  ·by_cases hik':i'=k
   ·rw[hik,hik']
   ·subst hik;obtain⟨q1,q2,q3⟩:=ob i' o' b hi' hik' hb';rcases(hnew o hi).2.2 b hb with h3|⟨m,o2,hm,hmo,hmb⟩
    ·have:=h.heap.blt q1 q3;omega
    ·have:=h.heap.inj i' m o' o2 b q1 hmo q3 hmb;exact absurd (this▸hm) q2
  ·obtain⟨q1,q2,q3⟩:=ob i o b hi hik hb;by_cases hik':i'=k
   ·subst hik';rcases(hnew o' hi').2.2 b hb' with h3|⟨m,o2,hm,hmo,hmb⟩
    ·have:=h.heap.blt q1 q3;omega
    ·have:=h.heap.inj i m o o2 b q1 hmo q3 hmb;exact absurd (this▸hm) q2
   ·obtain⟨f,g,d⟩:=ob i' o' b hi' hik' hb';exact h.heap.inj i i' o o' b q1 f q3 d
 ·by_cases hik:i=k
  ·subst hik;rcases(hnew o hi).2.2 b hb with h3|⟨m,o2,hm,hmo,hmb⟩
   ·have:=h.fr.size;exact .inl Z9
   ·exact h.bnew m o2 b hmo hmb
  ·obtain⟨q1,q2,q3⟩:=ob i o b hi hik hb;exact h.bnew i o b q1 q3
 ·rcases h.bnew m o b hmo hb with h3|h3
  ·omega
  ·exact h2 h3
theorem C4(w:World)(o:Obj):(w.alloc o).os=w.os/\(w.alloc o).tape=w.tape/\(w.alloc o).output=w.output/\(∀b,b<w.heap.size->(w.alloc o).heap[b]? =w.heap[b]?)/\(w.alloc o).heap[w.heap.size]? =some o:=
 ⟨rfl,rfl,rfl,λ_ h=>heap_alloc_old w o h,heap_alloc_new w o⟩
theorem a8p(h:Inv c E H w){t:TypeId}{y:T}{H':Y4}(he:vB P H t=some (y,H')):
  ∃r w' E',(Instr.makeMap t none).run P w= .ok r w'/\Rd E' w' y r/\Inv c E' H' w'/\Step E w E' w':=by
 have M:∀o,∃r w' E',(Instr.makeMap t none).run P w= .ok r w'/\Rd E' w' (.mpr H.length) r/\Inv c E' (H++[some (.mp o λ_=>0)]) w'/\Step E w E' w':=by
  intro o;obtain⟨e,f,g,A,i⟩:=C4 w (.map #[] 0);have:=h.pushO (w':=w.alloc (.map #[] 0)) e f g W8 A (.mp o λ_=>0) w.heap.size 1 (by rintro v ty sz n row he;cases he) (λ_=>V8 _) (λ_=>⟨by rw[show(E.push H.length w.heap.size 1 (Ob.mp o λ_=>0).toArr.sz).κ H.length=1 from if_pos rfl];simp, #[],0,by rw[show(E.push H.length w.heap.size 1 (Ob.mp o λ_=>0).toArr.sz).β H.length=w.heap.size from if_pos rfl];exact i,W8,λn=>rfl⟩)
  refine⟨_,_,_,rfl,?_,this.1,this.2⟩
  have R:=Rd.mpr (E:=E.push H.length w.heap.size 1 (Ob.mp o λ_=>0).toArr.sz) (w:=w.alloc (.map #[] 0)) H.length (.inr rfl)
  rw[show(E.push H.length w.heap.size 1 (Ob.mp o λ_=>0).toArr.sz).β H.length=w.heap.size from if_pos rfl] at R
  exact R
 have d:∃r w' E',(Instr.makeMap t none).run P w= .ok r w'/\Rd E' w' (.mpr H.length) r/\Inv c E' (H++[some (.mp2 λ_ _=>false)]) w'/\Step E w E' w':=by
  obtain⟨e,f,g,A,i⟩:=C4 w (.map #[] 0);have:=h.pushO (w':=w.alloc (.map #[] 0)) e f g W8 A (.mp2 λ_ _=>false) w.heap.size 1 (by rintro v ty sz n row he;cases he) (λ_=>V8 _) (λ_=>⟨by rw[show(E.push H.length w.heap.size 1 (Ob.mp2 λ_ _=>false).toArr.sz).κ H.length=1 from if_pos rfl];simp, #[],0,by rw[show(E.push H.length w.heap.size 1 (Ob.mp2 λ_ _=>false).toArr.sz).β H.length=w.heap.size from if_pos rfl];exact i,W8,λa b j=>by(cases j),W8⟩)
  refine⟨_,_,_,rfl,?_,this.1,this.2⟩
  have R:=Rd.mpr (E:=E.push H.length w.heap.size 1 (Ob.mp2 λ_ _=>false).toArr.sz) (w:=w.alloc (.map #[] 0)) H.length (.inr rfl)
  rw[show(E.push H.length w.heap.size 1 (Ob.mp2 λ_ _=>false).toArr.sz).β H.length=w.heap.size from if_pos rfl] at R
  exact R
 unfold vB at he;split at he
 ·simp only[X2,U0] at he;obtain⟨rfl,rfl⟩:=he;exact M true
 ·simp only[X2,U0] at he;obtain⟨rfl,rfl⟩:=he;exact M false
 ·split at he
  ·simp only[X2,U0] at he;obtain⟨rfl,rfl⟩:=he;exact d
  ·cases he
theorem b3I(h:Inv c E H w){t:TypeId}{cs:List T}{y:T}{H':Y4}{side:Option Prop}(d:aN P H t cs=some (y,H',side)){vs:Array Value}(hv:tT E w cs vs):
  ∃E',Inv c E' H' (w.alloc (.cells vs t))/\Step E w E' (w.alloc (.cells vs t))/\Rd E' (w.alloc (.cells vs t)) y (.pointer (some ⟨w.heap.size,0,none⟩)):=by
 unfold aN at d;split at d
 ·rename_i e;simp only[X2,U0] at d;obtain⟨rfl,rfl,rfl⟩:=d;obtain⟨g,l,n,A,o⟩:=C4 w (.cells vs t);have:=h.push g l n W8 A (.arr (cs.all W7) 1000000 cs.length 1 λ_=>cs) w.heap.size 1 vs t (λ_=>V8 _) (λ_=>o) (by simp only[Ob.toArr,Nat.one_mul];exact hv.1.symm) (V8 1) (λ_ _=>rfl) (λi t _ ht=>i7.1 e t ht)
   (λhcl i t hi ht=>i7.1 hcl t ht) (λi j t hi hj=>by
    obtain rfl:i=0:=by simp only[Ob.toArr] at hi;omega
    have f:j<cs.length:=(w6.1 hj).1
    have J:vs[j]? =some (vs[j]'(by have:=hv.1;omega)):=uJ _
    exact⟨_,by rw[Nat.zero_mul,C9];exact J,hv.2 _ _ _ hj J⟩)
  refine⟨_,this.1,this.2,?_⟩
  have r:=Rd.ref (E:=E.push H.length w.heap.size 1 cs.length) (w:=w.alloc (.cells vs t)) H.length 0 0 (.inr rfl);have B:(E.push H.length w.heap.size 1 cs.length).β H.length=w.heap.size:=if_pos rfl;rw[B,Nat.zero_mul,C9] at r;exact r
 ·cases d
theorem c7j(h:Inv c E H w){t:TypeId}{r:Nat}{z:List T}{vs:Array Value}(hr:r<H.length)(l:¬E.L r)(hone:z.all I7=true)(hv:tT E w z vs):
  ∃E',Inv c E' (H.set r (some (.arr (z.all W7) 1000000 z.length 1 λ_=>z))) (w.alloc (.cells vs t))/\Stp E w E' (w.alloc (.cells vs t))/\Rd E' (w.alloc (.cells vs t)) (.ref r 0 0) (.pointer (some ⟨w.heap.size,0,none⟩))/\∀k,E'.L k->E.L k∨k=r:=by
 obtain⟨B,C,q,A,a5⟩:=C4 w (.cells vs t);let E':=E.push r w.heap.size 1 z.length
 have d:Stp E w E' (w.alloc (.cells vs t)):=⟨Env.push_le l,λb hb=>A b (h.nlt b hb)⟩
 have hb:E'.β r=w.heap.size:=if_pos rfl;have hκ:E'.κ r=1:=if_pos rfl;have hz:E'.z r=(z.length,[]):=if_pos rfl;refine⟨E',h.to B C q W8 d r (λ_=>False) (λ_ h=>h) (λi o hi f=>?_) (λo hi=>?_) (λb hb _=>A b hb) (λi hi=>?_) (λi v hv=>.inl (h.heap.l2 i v hv)) (λo i v hi hv=>?_),d,?_,λ_ h=>h⟩
 ·rw[T9 hr,if_neg f] at hi;exact⟨hi,λh=>h⟩
 ·rw[T9 hr,if_pos rfl] at hi;simp only[X2] at hi;subst hi;refine⟨.inr rfl,T4.ob ⟨by rw[hz];rfl,by rw[hκ];exact V8 1,λ_ _=>rfl,λi t _ ht=>i7.1 hone t ht,λhcl i t hi ht=>i7.1 hcl t ht,vs,t,by rw[hb];exact λ_=>a5,by rw[hκ,hz];simp only[Ob.toArr,Nat.one_mul];exact a8A (Nat.le_of_eq hv.1),λi j u hi hj=>?_⟩ rfl,λb hb'=>?_⟩
  ·obtain rfl:i=0:=by simp only[Ob.toArr] at hi;omega
   have x:j<z.length:=(w6.1 hj).1
   have J:vs[j]? =some (vs[j]'(by have:=hv.1;omega)):=uJ _
   exact⟨_,by rw[Nat.zero_mul,C9];exact J,d.rd (hv.2 _ _ _ hj J)⟩
  ·rcases hb' with⟨_,rfl⟩|hb'
   ·rw[hb];exact .inl (V8 _)
   ·exact(hb'.not (by rintro v ty sz n row g;cases g)).elim
 ·rw[yT];rcases hi with hi|rfl
  ·exact h.heap.lt i hi
  ·exact hr
 ·rw[T9 hr] at hi;split at hi
  ·rename_i g;subst g;exact absurd (h.heap.l2 _ v hv) l
  ·exact h.heap.cur i o v hi hv
 ·have e:=Rd.ref (E:=E') (w:=w.alloc (.cells vs t)) r 0 0 (.inr rfl);rw[hb,Nat.zero_mul,C9] at e;exact e
end
end Go.SS
