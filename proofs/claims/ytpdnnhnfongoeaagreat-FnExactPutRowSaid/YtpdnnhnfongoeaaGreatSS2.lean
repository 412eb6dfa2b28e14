/- A part of the proof. -/
import Derived.Test.YtpdnnhnfongoeaaGreatSS1
import Derived.MapKept
import Derived.DeepKeys3
namespace Go.SS
open Go.RowKit
structure Env where
 N:Nat->Prop
 L:Nat->Prop
 β:Nat->Nat
 κ:Nat->Nat
 z:Nat->Nat×List Value
 L2:Nat->Nat->Prop
 b2:Nat->Nat->Nat->Nat->Nat
 c2:Nat->Nat->Nat->Nat->Nat
inductive Rd(E:Env)(w:World):T->Value->Prop
 |int (k:IntKind) (n:Int):Rd E w (.int k n) (.int k n)
 |bool (b:Bool):Rd E w (.bool b) (.bool b)
 |str (l:Bz):Rd E w (.str l) (.string ⟨l.toArray⟩)
 |v (x:Value):Rd E w (.v x) x
 |slNil (sz:Nat) (row:Nat->List T):Rd E w (.sl sz 0 row) (.slice none 0 0)
 |sl (sz n:Nat) (row:Nat->List T) (b off cap:Nat) (u:Nat->Nat->Value) (hN:E.N b) (hc:n<=cap)
   (hl:∀i,i<n->(row i).length=sz) (h1:∀i t,i<n->t ∈ row i->H7 t=true/\W5 t=true)
   (hr:∀i j t,i<n->(row i)[j]? =some t->w.cell? ⟨b,off+i*sz+j,none⟩=some (u i j))
   (ht:∀i j t,i<n->(row i)[j]? =some t->Rd E w t (u i j)):Rd E w (.sl sz n row) (.slice (some ⟨b,off,none⟩) n cap)
 |bysNil:Rd E w (.bys []) (.slice none 0 0)
 |slEmp (sz:Nat) (row:Nat->List T) (a:Addr):Rd E w (.sl sz 0 row) (.slice (some a) 0 0)
 |bysEmp (a:Addr):Rd E w (.bys []) (.slice (some a) 0 0)
 |bys (l:Bz) (b off cap:Nat) (hN:E.N b) (hc:l.length<=cap)
   (hr:∀i x,l[i]? =some x->w.cell? ⟨b,off+i,none⟩=some (.int .u8 (x.toNat:Int))):Rd E w (.bys l) (.slice (some ⟨b,off,none⟩) l.length cap)
 |bref (cells:List T) (b off:Nat) (u:Nat->Value) (hN:E.N b) (h1:∀t,t ∈ cells->W5 t=true)
   (hr:∀j t,cells[j]? =some t->w.cell? ⟨b,off+j,none⟩=some (u j))
   (ht:∀j t,cells[j]? =some t->Rd E w t (u j)):Rd E w (.bref cells) (.pointer (some ⟨b,off,none⟩))
 |ref (k i j:Nat) (hL:E.L k):Rd E w (.ref k i j) (.pointer (some ⟨E.β k,i*(E.z k).1+j,none⟩))
 |osl (k off n o:Nat) (a:Option Addr) (hL:E.L k) (hn:off+n<=E.κ k) (ho:off<E.κ k∨off=0->o=off*(E.z k).1) (ha:E.κ k≠0->a=some ⟨E.β k,o,none⟩):Rd E w (.osl k off n) (.slice a n (E.κ k-off))
 |posl (k v i j n:Nat) (a:Option Addr) (hL:E.L2 k v) (hn:n<=E.c2 k v i j) (ha:E.c2 k v i j≠0->a=some ⟨E.b2 k v i j,0,none⟩):Rd E w (.posl k v i j n) (.slice a n (E.c2 k v i j))
 |pref (k v i j z a b:Nat) (hL:E.L2 k v):Rd E w (.pref k v i j z a b) (.pointer (some ⟨E.b2 k v i j,a*z+b,none⟩))
 |agg (cs:List T) (vs:Array Value) (hl:cs.length=vs.size) (ht:∀(i:Nat) (t:T) (x:Value),cs[i]? =some t->vs[i]? =some x->Rd E w t x):Rd E w (.agg cs) (.agg vs)
 |tup (cs:List T) (vs:Array Value) (hl:cs.length=vs.size) (ht:∀(i:Nat) (t:T) (x:Value),cs[i]? =some t->vs[i]? =some x->Rd E w t x):Rd E w (.tup cs) (.tuple vs)
 |fn (f:Fn) (cs:List T) (vs:Array Value) (hl:cs.length=vs.size) (ht:∀(i:Nat) (t:T) (x:Value),cs[i]? =some t->vs[i]? =some x->Rd E w t x):Rd E w (.fn f cs) (.func f #[] vs)
 |mpr (k:Nat) (hL:E.L k):Rd E w (.mpr k) (.map (some (E.β k)))
 |emp (a:Option Addr):Rd E w .emp (.slice a 0 0)
 |und (x:Value):Rd E w .und x
structure Env.le(E E':Env):Prop where
 N:∀b,E.N b->E'.N b
 L:∀k,E.L k->E'.L k
 β:∀k,E.L k->E'.β k=E.β k
 κ:∀k,E.L k->E'.κ k=E.κ k
 z:∀k,E.L k->E'.z k=E.z k
 L2:∀k v,E.L2 k v->E'.L2 k v
 b2:∀k v i j,E.L2 k v->E'.b2 k v i j=E.b2 k v i j
 c2:∀k v i j,E.L2 k v->E'.c2 k v i j=E.c2 k v i j
def Env.le.refl(E:Env):E.le E:=⟨λ_ h=>h,λ_ h=>h,λ_ _=>rfl,λ_ _=>rfl,λ_ _=>rfl,λ_ _ h=>h,λ_ _ _ _ _=>rfl,λ_ _ _ _ _=>rfl⟩
def Env.le.trans{A B C:Env}(h:A.le B)(k:B.le C):A.le C:=
 ⟨λb x=>k.N b (h.N b x),λb x=>k.L b (h.L b x),λb x=>(k.β b (h.L b x)).trans (h.β b x),λb x=>(k.κ b (h.L b x)).trans (h.κ b x),λb x=>(k.z b (h.L b x)).trans (h.z b x),
  λb v x=>k.L2 b v (h.L2 b v x),λb v i j x=>(k.b2 b v i j (h.L2 b v x)).trans (h.b2 b v i j x),λb v i j x=>(k.c2 b v i j (h.L2 b v x)).trans (h.c2 b v i j x)⟩
section
variable {E E':Env} {w w':World} {P:Program}
def Rd.mono(e:E.le E')(W:∀b,E.N b->w'.heap[b]? =w.heap[b]?){t:T}{x:Value}(h:Rd E w t x):Rd E' w' t x:=by
 induction h with
 |int k n=>exact .int k n
 |bool b=>exact .bool b
 |str l=>exact .str l
 |v x=>exact .v x
 |slNil sz row=>exact .slNil sz row
 |sl sz n row b off cap u g F q A r _ I=>
  exact .sl sz n row b off cap u (e.N b g) F q A (λi j t hi J=>by rw[World.cell?_of_block (w:=w) (W b g)];exact r i j t hi J) I
 |bysNil=>exact .bysNil
 |slEmp sz row a=>exact .slEmp sz row a
 |bysEmp a=>exact .bysEmp a
 |bys l b off cap g F r=>exact .bys l b off cap (e.N b g) F λi x X=>by rw[World.cell?_of_block (w:=w) (W b g)];exact r i x X
 |bref cells b off u g A r _ I=>exact .bref cells b off u (e.N b g) A (λj t J=>by rw[World.cell?_of_block (w:=w) (W b g)];exact r j t J) I
 |ref k i j d=>rw[←e.β k d,←e.z k d];exact .ref k i j (e.L k d)
 |osl k off n o a d B O C=>rw[←e.κ k d];exact .osl k off n o a (e.L k d) (by rw[e.κ k d];exact B) (by rw[e.κ k d,e.z k d];exact O) (by rw[e.κ k d,e.β k d];exact C)
 |posl k v i j n a d B C=>rw[←e.c2 k v i j d];exact .posl k v i j n a (e.L2 k v d) (by rw[e.c2 k v i j d];exact B) (by rw[e.c2 k v i j d,e.b2 k v i j d];exact C)
 |pref k v i j z a b d=>rw[←e.b2 k v i j d];exact .pref k v i j z a b (e.L2 k v d)
 |agg cs vs q _ I=>exact .agg cs vs q I
 |tup cs vs q _ I=>exact .tup cs vs q I
 |fn f cs vs q _ I=>exact .fn f cs vs q I
 |mpr k d=>rw[←e.β k d];exact .mpr k (e.L k d)
 |emp a=>exact .emp a
 |und x=>exact .und x
def Siz(cs:Array Value)(n:Nat)(t:List Value):Prop:=n+t.length<=cs.size/\∀j u,t[j]? =some u->cs[n+j]? =some u
def a9m{cs:Array Value}{n:Nat}(h:n<=cs.size):Siz cs n []:=⟨h,λj u U=>(by cases U)⟩
def Siz.le{cs:Array Value}{n:Nat}{t:List Value}(h:Siz cs n t):n<=cs.size:=Nat.le_trans (Nat.le_add_right _ _) h.1
def Siz.any{cs:Array Value}{n:Nat}{t:List Value}(h:Siz cs n t):Siz cs n []:=a9m h.le
def Siz.keep{cs C:Array Value}{n:Nat}{t:List Value}(h:Siz cs n t)(e:C.size=cs.size)(d:∀q,n<=q->C[q]? =cs[q]?):Siz C n t:=
 ⟨by rw[e];exact h.1,λj u U=>by rw[d _ (Nat.le_add_right _ _)];exact h.2 j u U⟩
def T5(E:Env)(w:World)(k:Nat)(A:Arr):Prop:=
 (E.z k).1=A.sz/\A.n<=E.κ k/\(∀i,i<A.n->(A.row i).length=A.sz)/\(∀i t,i<A.n->t ∈ A.row i->H7 t=true)/\(A.cl=true->∀i t,i<A.n->t ∈ A.row i->W5 t=true)/\
   ∃cs ty,(E.κ k≠0->w.heap[E.β k]? =some (.cells cs ty (0,0)))/\Siz cs (E.κ k*A.sz) (E.z k).2/\
    ∀i j t,i<A.n->(A.row i)[j]? =some t->∃u,cs[i*A.sz+j]? =some u/\Rd E w t u
def a1d(o:Bool)(n:Int):Value:=match o with
 |true=>.bool (decide (n≠0))
 |false=>.int .i64 n
def lk(n:Int):List MapEntry->Option Value
 | []=>none
 |e::r=>match e.key with
  | .int .i64 m=>if n=m then some e.val else lk n r
  |_=>lk n r
def c7s(o:Bool)(get:Int->Int)(es:List MapEntry):Prop:=
 (∀e ∈ es,∃m,e.key= .int .i64 m)/\∀n,match lk n es with
  |some v=>v=a1d o (get n)
  |none=>get n=0
def b1k(E:Env)(w:World)(k:Nat)(o:Bool)(get:Int->Int):Prop:=
 E.κ k≠0/\∃es clock,w.heap[E.β k]? =some (.map es clock)/\c7s o get es.toList
def m8(a b:Int):Value:=.agg #[.int .i64 a,.int .i64 b]
def a1y(E:Env)(w:World)(k:Nat)(get:Int->Int->Bool):Prop:=
 E.κ k≠0/\∃es clock,w.heap[E.β k]? =some (.map es clock)/\(∀e ∈ es.toList,∃a b,R2 .i64 a/\R2 .i64 b/\e.key=m8 a b/\e.val= .bool (get a b))/\
  (∀a b,get a b=true->∃e ∈ es.toList,e.key=m8 a b)/\(es.toList.map (·.key)).Nodup
def Env.sub(E:Env)(k v i j z:Nat):Env:={E with β:=λ_=>E.b2 k v i j,κ:=λ_=>E.c2 k v i j,z:=λ_=>(z,[])}
def b6s(t:T):Bool:=a9E t||closedOne t
structure FamOk(E:Env)(w:World)(k v:Nat)(ty:TypeId)(sz n:Nat)(row:Nat->List T):Prop where
 l2:E.L2 k v
 arr:T5 E w k ⟨false,ty,sz,n,wH k v row⟩
 fam:∀i t,i<n->t ∈ row i->b6s t=true
 own:∀i j oty osz on orow,i<n->(row i)[j]? =some (.own oty osz on orow)->T5 (E.sub k v i j osz) w 0 ⟨true,oty,osz,on,orow⟩/\(E.c2 k v i j≠0->E.κ k≠0->E.b2 k v i j≠E.β k)
 inj:∀i j i' j' oty osz on orow oty' osz' on' orow',i<n->i'<n->(row i)[j]? =some (.own oty osz on orow)->(row i')[j']? =some (.own oty' osz' on' orow')->
  E.c2 k v i j≠0->E.c2 k v i' j'≠0->E.b2 k v i j=E.b2 k v i' j'->i=i'/\j=j'
def zZ(E:Env)(w:World)(k:Nat)(ob:Ob):Prop:=
 match ob with
 | .mp bo get=>b1k E w k bo get
 | .mp2 get=>a1y E w k get
 | .fam v ty sz n row=>FamOk E w k v ty sz n row
 |ob=>T5 E w k ob.toArr
def a8T(E:Env)(k:Nat)(ob:Ob)(b:Nat):Prop:=
 ∃v ty sz n row i j oty osz on orow,ob= .fam v ty sz n row/\i<n/\(row i)[j]? =some (.own oty osz on orow)/\E.c2 k v i j≠0/\b=E.b2 k v i j
def A3(E:Env)(k:Nat)(ob:Ob)(b:Nat):Prop:=(E.κ k≠0/\b=E.β k)∨a8T E k ob b
structure HeapOk(E:Env)(w:World)(H:X9):Prop where
 live:∀k ob,Y4 H k=some ob->E.L k/\zZ E w k ob/\∀b,A3 E k ob b->¬E.N b
 inj:∀k k' ob ob' b,Y4 H k=some ob->Y4 H k'=some ob'->A3 E k ob b->A3 E k' ob' b->k=k'
 lt:∀k,E.L k->k<H.length
 l2:∀k v,E.L2 k v->E.L k
 cur:∀k ob v,Y4 H k=some ob->E.L2 k v->∃v0 ty sz n row,ob= .fam v0 ty sz n row/\v<=v0
def a8T.not{E:Env}{k:Nat}{ob:Ob}{b:Nat}(h:a8T E k ob b)(N:∀v ty sz n row,ob≠ .fam v ty sz n row):False:=by
 obtain⟨v,ty,sz,n,row,_,_,_,_,_,_,e,_⟩:=h;exact N v ty sz n row e
def A3.arr{E:Env}{k:Nat}{ob:Ob}{b:Nat}(h:A3 E k ob b)(hi:ob.isArr=true):E.κ k≠0/\b=E.β k:=by
 rcases h with h|h
 ·exact h
 ·exact(h.not (by rintro v ty sz n row rfl;cases hi)).elim
def y0{α:Type}{xs:Array α}{i:Nat}{x:α}(h:xs[i]? =some x):i<xs.size:=(aC.1 h).1
def zZ.blt{E:Env}{w:World}{k:Nat}{ob:Ob}{b:Nat}(h:zZ E w k ob)(B:A3 E k ob b):b<w.heap.size:=by
 rcases B with⟨e,rfl⟩|⟨v,ty,sz,n,row,i,j,O,z,on,o,rfl,hi,J,g,rfl⟩
 ·cases ob with
  |mp q get=>obtain⟨_,f,C,d,_⟩:=h;exact y0 d
  |mp2 get=>obtain⟨_,f,C,d,_⟩:=h;exact y0 d
  |fam v ty sz n row=>obtain⟨_,_,_,_,_,cs,ty,d,_⟩:=h.arr;exact y0 (d e)
  |arr cl ty sz n row=>obtain⟨_,_,_,_,_,cs,ty,d,_⟩:=h;exact y0 (d e)
  |bys ty l=>obtain⟨_,_,_,_,_,cs,ty,d,_⟩:=h;exact y0 (d e)
 ·obtain⟨⟨_,_,_,_,_,cs,ty,d,_⟩,_⟩:=h.own i j O z on o hi J;exact y0 (d g)
def HeapOk.blt{E:Env}{w:World}{H:X9}(h:HeapOk E w H){k:Nat}{ob:Ob}{b:Nat}(d:Y4 H k=some ob)(B:A3 E k ob b):b<w.heap.size:=(h.live k ob d).2.1.blt B
def a5r(c:Value):Rd E w (a1g c) c:=by
 cases c<;>first|exact .int _ _|exact .bool _|exact .v _|skip
 case string s=>exact .str s.data.toList
def Sl(E:Env)(w:World)(a:Act)(s:W4)(i:Nat):Prop:=Rd E w (zH s i) (a.tmps.getD i undef)
def F0(E:Env)(w:World)(a:Act)(s:W4)(x:Operand):Prop:=Rd E w (K6 s x) (a.eval x)
def a1Y{a:Act}{s:W4}{x:Operand}(h:∀t,x= .tmp t->Sl E w a s t):F0 E w a s x:=by
 cases x with
 |tmp t=>exact h t rfl
 |const c=>exact a5r c
 |func f=>exact .v _
 |global g=>exact .v _
def r5{b:Bool}{x:Value}(h:Rd E w (.bool b) x):x= .bool b:=by cases h;rfl
def H9{k:IntKind}{n:Int}{x:Value}(h:Rd E w (.int k n) x):x= .int k n:=by cases h;rfl
def vL{l:Bz}{x:Value}(h:Rd E w (.str l) x):x= .string ⟨l.toArray⟩:=by cases h;rfl
def vP{y x:Value}(h:Rd E w (.v y) x):x=y:=by cases h;rfl
def c3n{a:Act}{s:W4}{c x y:Operand}{t:T}(h:a2v s c x y=some t)(hc:F0 E w a s c)
  (X:∀b,K6 s c= .bool b->b=true->F0 E w a s x) (Y:∀b,K6 s c= .bool b->b=false->F0 E w a s y):
  ∃b,a.eval c= .bool b/\Rd E w t (if b then a.eval x else a.eval y):=by
 unfold a2v at h;unfold F0 at hc;split at h
 ·rename_i cb hcb;rw[hcb] at hc;refine⟨cb,r5 hc,?_⟩
  split at h
  ·split at h
   ·rename_i yb hyb;simp only[X0] at h;subst h;cases cb with
    |true=>simp only[Bool.true_or,if_true];exact .bool true
    |false=>
     have:=Y false hcb rfl;unfold F0 at this;rw[hyb] at this;simp only[Bool.false_or,Bool.false_eq_true,if_false];exact this
   ·cases h
  ·split at h
   ·rename_i xb hxb;simp only[X0] at h;subst h;cases cb with
    |false=>simp only[Bool.false_and,Bool.false_eq_true,if_false];exact .bool false
    |true=>
     have:=X true hcb rfl;unfold F0 at this;rw[hxb] at this;simp only[Bool.true_and,if_true];exact this
   ·cases h
  ·cases h
 ·cases h
end
section
variable {E:Env} {w:World} {P:Program}
def gE{k:IntKind}{n:Int}(h:R2 k n):k.wrap n=n:=by
 obtain⟨d,e⟩:=h;unfold IntKind.wrap;cases k<;>simp only[IntKind.min,IntKind.max,IntKind.signed,IntKind.bits,Bool.true_and,Bool.false_and,if_true,if_false,Bool.false_eq_true,ge_iff_le,o8] at* <;>(try split)<;>omega
def qN(t:TypeId)(h:(P.underlying t).isSome=true):(isAgg t).run P w= .ok (a7l P t) w:=by
 obtain⟨d,hd⟩:=Option.isSome_iff_exists.1 h;unfold isAgg a7l;rw[hd];simp only[D1,run_underlying hd,D6];cases d<;>rfl
def A9(t:TypeId)(h:(P.info? t).isSome=true):(sizeOf t).run P w= .ok (P.cellsOf t) w:=by
 obtain⟨d,hd⟩:=Option.isSome_iff_exists.1 h;unfold sizeOf Program.cellsOf typeInfo;simp[hd]
def xO{t:TypeId}(h:(P.underlying t).isSome=true):(P.info? t).isSome=true:=by
 unfold Program.underlying at h;cases hi:P.info? t with
 |none=>rw[hi] at h;cases h
 |some i=>rfl
def gZ{t:TypeId}{cs:List T}{vs:Array Value}{off:Nat}{x:T}(hx:wM P t cs off=some x)
  (l:cs.length=vs.size) (d:∀(i:Nat) (t:T) (x:Value),cs[i]? =some t->vs[i]? =some x->Rd E w t x):
  ∃v,(part t vs off).run P w= .ok v w/\Rd E w x v:=by
 unfold wM at hx;unfold part;split at hx
 ·rename_i hu hag;simp only[D1,qN t hu,D6];split at hx
  ·rename_i hb;simp only[X0] at hx;subst hx;have hb':=yH hb;simp only[hag,if_true,D1,A9 t (xO hu),D6,z5];refine⟨_,rfl,.agg _ _ C7 λi y z hy hz=>?_⟩
   rw[List.getElem?_take] at hy
   rw[Array.getElem?_extract] at hz
   split at hy
   ·rw[List.getElem?_drop] at hy
    split at hz
    ·exact d (off+i) y z hy hz
    ·cases hz
   ·cases hy
  ·cases hx
 ·rename_i hu hag;simp only[D1,qN t hu,D6];have e:off<cs.length:=by
   rcases Nat.lt_or_ge off cs.length with h|h
   ·exact h
   ·rw[List.getElem?_eq_none h] at hx;cases hx
  have hv:vs[off]? =some (vs[off]' Z9):=tB _
  simp only[hag,Bool.false_eq_true,if_false,hv,z5];exact⟨_,rfl,d off _ _ hx hv⟩
 ·cases hx
def c5X{op:BinOp}{a b:Int}{r:Bool}(h:b0Q op a b=some r):Op.intCmp op a b=pure (.bool r):=by
 unfold b0Q at h;split at h<;>simp only[X0,reduceCtorEq] at h<;>subst h<;>rfl
def c7K{op:BinOp}{k k':IntKind}{a b:Int}{ty:TypeId}{t:T}{side:Option Prop}(h:b8Y op k a b=some (t,side))(hk:eA op k k'=true)(hs:side.getD True):
  ∃v,(binOp op ty (.int k a) (.int k' b)).run P w= .ok v w/\Rd E w t v:=by
 have hkk:op≠ .shl->op≠ .shr->k=k':=by
  intro h1 h2;unfold eA at hk;split at hk
  ·exact absurd rfl h1
  ·exact absurd rfl h2
  ·exact G7 hk
 unfold b8Y at h;split at h
 case h_1|h_2|h_3=>
  obtain rfl:=hkk W7 W7
  simp only[X0,U4] at h;obtain⟨rfl,rfl⟩:=h;simp only[Option.getD_some] at hs;simp only[binOp_add,binOp_sub,binOp_mul,Op.intArith,z5,gE hs];exact⟨_,rfl,.int _ _⟩
 case h_4=>
  obtain rfl:=hkk W7 W7
  simp only[X0,U4] at h;obtain⟨rfl,rfl⟩:=h;obtain⟨h1,h2⟩:=hs;simp only[binOp_quo,Op.intDiv];rw[if_neg h1];simp only[z5,gE h2];exact⟨_,rfl,.int _ _⟩
 case h_5=>
  obtain rfl:=hkk W7 W7
  simp only[X0,U4] at h;obtain⟨rfl,rfl⟩:=h;simp only[binOp_rem,Op.intDiv];rw[if_neg (show b≠0 from hs)]
  exact⟨_,rfl,.int _ _⟩
 case h_6|h_7|h_8|h_9=>
  obtain rfl:=hkk W7 W7
  simp only[X0,U4] at h;obtain⟨rfl,rfl⟩:=h;simp only[binOp_and,binOp_or,binOp_xor,binOp_andNot,intBits_and,intBits_or,intBits_xor,intBits_andNot];exact⟨_,rfl,.int _ _⟩
 case h_10|h_11=>
  simp only[X0,U4] at h;obtain⟨rfl,rfl⟩:=h;have hs:0<=b:=hs;simp only[binOp,Op.shift];rw[if_neg Z9]
  exact⟨_,rfl,.int _ _⟩
 case h_12 hadd hsub hmul hquo hrem hand hor hxor handn hshl hshr=>
  obtain rfl:=hkk hshl hshr;cases hc:b0Q op a b with
  |none=>rw[hc] at h;cases h
  |some r=>
   rw[hc] at h;simp only[h9,X0,U4] at h;obtain⟨rfl,rfl⟩:=h;have he:=c5X hc;have:binOp op ty (.int k a) (.int k b)=Op.intCmp op a b:=by
    cases op<;>first|rfl|simp_all [binOp]
   rw[this,he];exact⟨_,rfl,.bool _⟩
end
section
variable {E:Env} {w:World} {P:Program}
def oI(l:Bz):(ByteArray.mk l.toArray).toList=l:=by rw[ByteArray.toList_eq]
def c8a{op:BinOp}{a b:Bz}{ty:TypeId}{t:T}{side:Option Prop}(h:b6w op a b=some (t,side))(d:side.getD True):
  ∃v,(binOp op ty (.string ⟨a.toArray⟩) (.string ⟨b.toArray⟩)).run P w= .ok v w/\Rd E w t v:=by
 unfold b6w at h;split at h<;>simp only[X0,U4,reduceCtorEq] at h<;>obtain⟨rfl,rfl⟩:=h
 ·have d:a.length+b.length<9223372036854775808:=d;have e:(⟨a.toArray⟩++⟨b.toArray⟩:ByteArray)=⟨(a++b).toArray⟩:=by
   apply ByteArray.ext
   simp
  simp only[binOp,Op.stringOp];rw[if_neg (by simp only[ByteArray.size,List.size_toArray,IntKind.max_i64];omega),e]
  exact⟨_,rfl,.str _⟩
 all_goals
  simp only[binOp,Op.stringOp,oI];exact⟨_,rfl,.bool _⟩
def c3M{d:Nat}{xs Y:List T}{U vs:Array Value}{R:TypeId->T->T->Option Bool}
  (hrec:∀t x y r u v,R t x y=some r->Rd E w x u->Rd E w y v->(Op.equalIn d t u v).run P w= .ok r w)
  (hxl:xs.length=U.size) (hyl:Y.length=vs.size) (hx:∀(i:Nat) (t:T) (x:Value),xs[i]? =some t->U[i]? =some x->Rd E w t x)
  (hy:∀(i:Nat) (t:T) (x:Value),Y[i]? =some t->vs[i]? =some x->Rd E w t x):
  ∀(F:List Field) (r:Bool),b5W P R xs Y F=some r->(Op.eqFields d U vs F).run P w= .ok r w:=by
 intro F;induction F with
 |nil=>
  intro r h;simp only[b5W,X0] at h;subst h;rfl
 |cons f F I=>
  intro r h;simp only[b5W] at h;split at h
  ·rename_i a b hd ha hb;split at h
   ·rename_i p q hp hq;simp only[X0] at h;subst h;have hne:f.name≠ "_" :=r9 hd;obtain⟨u,hu,hru⟩:=gZ (P:=P) ha hxl hx;obtain⟨v,hv,hrv⟩:=gZ (P:=P) hb hyl hy;have he:=hrec _ _ _ _ _ _ hp hru hrv;simp only[Op.eqFields];rw[if_pos hne];simp only[D1,hu,hv,he,D6];cases p with
    |true=>simpa using I q hq
    |false=>simp
   ·cases h
  ·cases h
def b7z:∀(d D:Nat) (t:TypeId) (x y:T) (r:Bool) (u v:Value),d<=D->eqT P d t x y=some r->Rd E w x u->Rd E w y v->(Op.equalIn D t u v).run P w= .ok r w:=by
 intro d;induction d with
 |zero=>intro D t x y r u v _ h;simp[eqT] at h
 |succ d I=>
  intro D t x y r u v o h hx hy;obtain⟨D,rfl⟩:∃D',D=D'+1:=⟨D-1,Z9⟩
  unfold eqT at h;split at h
  ·rename_i k0 k a k' b hu;split at h
   ·rename_i i;obtain rfl:=G7 i;simp only[X0] at h;subst h;rw[H9 hx,H9 hy];exact run_equalIn_int w D t k k0 a b hu
   ·cases h
  ·rename_i a b hu;simp only[X0] at h;subst h;rw[r5 hx,r5 hy];exact run_equalIn_bool' w D t a b hu
  ·rename_i a b hu;simp only[X0] at h;subst h;rw[vL hx,vL hy];have:=run_equalIn_string (P:=P) w D t ⟨a.toArray⟩ ⟨b.toArray⟩ hu
   rwa [oI,oI] at this
  ·rename_i fs xs ys hu;split at h
   ·rename_i hst;cases hx with
    |agg _ U l f=>
     cases hy with
     |agg _ vs L e=>
      have F:P.fieldsOf t=fs:=by unfold Program.fieldsOf;rw[hu]
      rw[run_equalIn_struct w D t U vs (by rw[F];exact hu) hst,F]
      exact c3M (λt x y r u v j g n=>I D t x y r u v Z9 j g n) l L f e _ _ h
   ·cases h
  ·cases h
def a6C{op:BinOp}{ty:TypeId}{ox oy:Operand}{b:Bool}{t:T}{side:Option Prop}{u v:Value}{a:Option Addr}(h:a46 P op ty b=some (t,side))(B:a.isNone=b)(hu:u= .pointer a)(hv:v= .pointer none):
  ∃r,(do eqGuard op ty ox oy u v;binOp op ty u v:Sem Value).run P w= .ok r w/\Rd E w t r:=by
 subst hu;subst hv;unfold a46 at h;split at h
 ·rename_i e hu;split at h
  ·rename_i he;have hu:P.underlying ty=some (.pointer (P.pointee ty)):=by rw[hu,G7 he]
   simp only[X0,U4] at h;obtain⟨rfl,rfl⟩:=h;simp only[eqGuard_at_pointer,D1,z5,D6,run_eql_pointer_nil w ty a hu,B];exact⟨_,rfl,.bool _⟩
  ·cases h
 ·rename_i e hu;split at h
  ·rename_i he;have hu:P.underlying ty=some (.pointer (P.pointee ty)):=by rw[hu,G7 he]
   simp only[X0,U4] at h;obtain⟨rfl,rfl⟩:=h;simp only[eqGuard_at_pointer,D1,z5,D6,run_neq_pointer_nil w ty a hu,B];exact⟨_,rfl,.bool _⟩
  ·cases h
 ·cases h
def c6b{op:BinOp}{ty:TypeId}{x y:T}{ox oy:Operand}{t:T}{side:Option Prop}{u v:Value}(h:b5c P op ty x y=some (t,side))(d:side.getD True)
  (hx:Rd E w x u) (hy:Rd E w y v):
  ∃r,(do eqGuard op ty ox oy u v;binOp op ty u v:Sem Value).run P w= .ok r w/\Rd E w t r:=by
 unfold b5c at h;split at h
 ·rename_i k a k' b;split at h
  ·rename_i e;rw[H9 hx,H9 hy];simp only[eqGuard_at_int,D1,z5,D6];exact c7K h e d
  ·cases h
 ·rename_i a b;rw[vL hx,vL hy];simp only[eqGuard_at_string,D1,z5,D6];exact c8a h d
 ·rename_i a b;rw[r5 hx,r5 hy];simp only[eqGuard_at_bool,D1,z5,D6];split at h
  ·rename_i hu;simp only[X0,U4] at h;obtain⟨rfl,rfl⟩:=h;refine⟨.bool (a==b),?_,.bool _⟩
   simp only[binOp];simp[Op.equal,Op.maxDepth,run_equalIn_bool' w 9999 ty a b hu]
  ·rename_i hu;simp only[X0,U4] at h;obtain⟨rfl,rfl⟩:=h;refine⟨.bool (!(a==b)),?_,.bool _⟩
   simp only[binOp];simp[Op.equal,Op.maxDepth,run_equalIn_bool' w 9999 ty a b hu]
  ·cases h
 ·rename_i xs ys;unfold c9m at h;have hgu:∃us,u= .agg us:=by cases hx with|agg _ us _ _=>exact⟨us,rfl⟩
  have V:∃us,v= .agg us:=by cases hy with|agg _ us _ _=>exact⟨us,rfl⟩
  obtain⟨us,rfl⟩:=hgu;obtain⟨vs,rfl⟩:=V;split at h
  ·rename_i hg;cases he:eqT P 20 ty (.agg xs) (.agg ys) with
   |none=>rw[he] at h;cases h
   |some r=>
    rw[he] at h;simp only[h9,X0,U4] at h;obtain⟨rfl,rfl⟩:=h;have R:=b7z (P:=P) (E:=E) (w:=w) 20 10000 ty _ _ r _ _ Z9 he hx hy
    simp only[D1,run_eqGuard_agg w _ ty ox oy us vs hg,D6,run_eql_struct,R];exact⟨_,rfl,.bool _⟩
  ·rename_i hg;cases he:eqT P 20 ty (.agg xs) (.agg ys) with
   |none=>rw[he] at h;cases h
   |some r=>
    rw[he] at h;simp only[h9,X0,U4] at h;obtain⟨rfl,rfl⟩:=h;have R:=b7z (P:=P) (E:=E) (w:=w) 20 10000 ty _ _ r _ _ Z9 he hx hy
    simp only[D1,run_eqGuard_agg w _ ty ox oy us vs hg,D6,run_neq_struct,R];exact⟨_,rfl,.bool _⟩
  ·cases h
 ·cases hx with
  |ref k i j L=>exact a6C h (a:=some _) rfl rfl (vP hy)
 ·cases hx with
  |pref k v i j z a b L=>exact a6C h (a:=some _) rfl rfl (vP hy)
 ·exact a6C h (a:=none) rfl (vP hx) (vP hy)
 ·rw[vP hx,vP hy];split at h
  ·rename_i hu;simp only[X0,U4] at h;obtain⟨rfl,rfl⟩:=h;simp only[eqGuard_at_slice,binOp];simp[run_equal_slice_nil w ty _ none 0 0 hu];exact .bool _
  ·rename_i hu;simp only[X0,U4] at h;obtain⟨rfl,rfl⟩:=h;simp only[eqGuard_at_slice,binOp];simp[run_equal_slice_nil w ty _ none 0 0 hu];exact .bool _
  ·cases h
 ·cases h
end
section
variable {E:Env} {w:World} {P:Program}
def M9{t:TypeId}{n:Nat}(h:u9 P t n=true):(sizeOf t).run P w= .ok n w/\P.cellsOf t=n:=by
 unfold u9 at h;split at h
 ·rename_i i hi;have hn:=F5 h;refine⟨?_,by unfold Program.cellsOf;rw[hi];exact hn⟩
  rw[A9 t (by rw[hi];rfl)]
  unfold Program.cellsOf;rw[hi];simp[hn]
 ·cases h
def A7{E':Env}(e:∀b,E.N b->E'.N b){t:T}{x:Value}(h:Rd E w t x):W5 t=true->Rd E' w t x:=by
 induction h with
 |int k n=>exact λ_=>.int k n
 |bool b=>exact λ_=>.bool b
 |str l=>exact λ_=>.str l
 |v x=>exact λ_=>.v x
 |slNil sz row=>exact λ_=>.slNil sz row
 |slEmp sz row a=>exact λ_=>.slEmp sz row a
 |emp a=>exact λ_=>.emp a
 |bysEmp a=>exact λ_=>.bysEmp a
 |sl sz n row b off cap u B C L d r _ I=>
  exact λ_=>.sl sz n row b off cap u (e b B) C L d r (λi j t hi J=>I i j t hi J (d i t hi (y4 J)).2)
 |bysNil=>exact λ_=>.bysNil
 |bys l b off cap B C r=>exact λ_=>.bys l b off cap (e b B) C r
 |bref cells b off u B d r _ I=>exact λ_=>.bref cells b off u (e b B) d r (λj t J=>I j t J (d t (y4 J)))
 |ref=>intro h;cases h
 |osl=>intro h;cases h
 |posl=>intro h;cases h
 |pref=>intro h;cases h
 |agg=>intro h;cases h
 |tup=>intro h;cases h
 |fn=>intro h;cases h
 |mpr=>intro h;cases h
 |und x=>exact λ_=>.und x
def pA{t:TypeId}{cells:List T}{b off o:Nat}{u:Nat->Value}{x:T}(hx:wM P t cells o=some x)
  (r:∀(j:Nat) (t:T),cells[j]? =some t->w.cell? ⟨b,off+j,none⟩=some (u j)) (e:∀(j:Nat) (t:T),cells[j]? =some t->Rd E w t (u j)):
  ∃v,(loadVar t ⟨b,off+o,none⟩).run P w= .ok v w/\Rd E w x v:=by
 unfold wM at hx;unfold loadVar;split at hx
 ·rename_i hu hag;split at hx
  ·rename_i B;simp only[X0] at hx;subst hx;have f:=yH B;have h:∀j,j<P.cellsOf t->w.cell? (Addr.add ⟨b,off+o,none⟩ j)=some (u (o+j)):=by
    intro j J;have d:cells[o+j]? =some (cells[o+j]' Z9):=I1 _
    have:=r _ _ d;rw[Addr.add_lit,show off+o+j=off+(o+j) by omega]
    exact this
   simp only[D1,qN t hu,D6,hag,if_true,A9 t (xO hu),run_loadCells w _ _ (λj=>u (o+j)) h,z5]
   refine⟨_,rfl,.agg _ _ C7 λi y z hy Z=>?_⟩
   rw[List.getElem?_take] at hy
   split at hy
   ·rename_i hi;rw[List.getElem?_drop] at hy
    simp[hi] at Z;subst Z;exact e _ _ hy
   ·cases hy
  ·cases hx
 ·rename_i hu hag;have C:=r _ _ hx;simp only[D1,qN t hu,D6,hag,Bool.false_eq_true,if_false,run_load,C];exact⟨_,rfl,e _ _ hx⟩
 ·cases hx
def S2{b i:Nat}{cs:Array Value}{ty:TypeId}{fz:Nat×Nat}(h:w.heap[b]? =some (.cells cs ty fz)):w.cell? ⟨b,i,none⟩=cs[i]? :=by
 simp[World.cell?,h]
def a1e{H:X9}{k:Nat}{A:Arr}(h:getA H k=some A):∃ob,Y4 H k=some ob/\((ob.toArr=A/\ob.isArr=true)∨∃v ty sz n row,ob= .fam v ty sz n row/\A=⟨false,ty,sz,n,wH k v row⟩):=by
 unfold getA at h;split at h
 ·rename_i v ty sz n row ho;simp only[X0] at h;exact⟨_,ho,.inr ⟨v,ty,sz,n,row,rfl,h.symm⟩⟩
 ·rename_i ob hnf ho;split at h
  ·rename_i hi;simp only[X0] at h;exact⟨ob,ho,.inl ⟨h,hi⟩⟩
  ·cases h
 ·cases h
def zZ.arr{k:Nat}{ob:Ob}(h:zZ E w k ob)(hi:ob.isArr=true):T5 E w k ob.toArr:=by
 cases ob<;>first|exact h|cases hi
def HeapOk.arr{H:X9}(i:HeapOk E w H){k:Nat}{A:Arr}(h:getA H k=some A):E.L k/\T5 E w k A/\(E.κ k≠0->¬E.N (E.β k)):=by
 obtain⟨ob,o,j⟩:=a1e h;obtain⟨g,e,f⟩:=i.live k ob o;rcases j with⟨rfl,hi⟩|⟨v,ty,sz,n,row,rfl,rfl⟩
 ·exact⟨g,e.arr hi,λd=>f _ (.inl ⟨d,rfl⟩)⟩
 ·exact⟨g,FamOk.arr e,λd=>f _ (.inl ⟨d,rfl⟩)⟩
def b9S{k:Nat}{A:Arr}(h:T5 E w k A){i:Nat}(hi:i<A.n):
  ∃u:Nat->Value,(∀(j:Nat) (t:T),(A.row i)[j]? =some t->w.cell? ⟨E.β k,i*(E.z k).1+j,none⟩=some (u j))/\(∀(j:Nat) (t:T),(A.row i)[j]? =some t->Rd E w t (u j)):=by
 obtain⟨Z,N,L,e,l,cs,ty,B,d,C⟩:=h;have B:=B Z9
 refine⟨λj=>(w.cell? ⟨E.β k,i*(E.z k).1+j,none⟩).getD undef,λj t J=>?_,λj t J=>?_⟩
 ·obtain⟨u,U,_⟩:=C i j t hi J;simp only[S2 B,Z,U,Option.getD_some]
 ·obtain⟨u,U,r⟩:=C i j t hi J;simp only[S2 B,Z,U,Option.getD_some];exact r
def b8s{H:X9}(d:HeapOk E w H){k:Nat}{A:Arr}(h:getA H k=some A){i:Nat}(hi:i<A.n):
  ∃u:Nat->Value,(∀(j:Nat) (t:T),(A.row i)[j]? =some t->w.cell? ⟨E.β k,i*(E.z k).1+j,none⟩=some (u j))/\(∀(j:Nat) (t:T),(A.row i)[j]? =some t->Rd E w t (u j)):=
 b9S (d.arr h).2.1 hi
def xW{H:X9}{k v i j:Nat}{A:Own}(h:getOwn H k v i j=some A):∃ty sz row,Y4 H k=some (.fam A.v ty sz A.n row)/\(row i)[j]? =some (.own A.A.ty A.A.sz A.A.n A.A.row)/\A.A.cl=true:=by
 unfold getOwn at h;split at h
 ·rename_i v' ty sz n row ho;split at h
  ·rename_i J;simp only[X0] at h;subst h;exact⟨ty,sz,row,ho,J,rfl⟩
  ·cases h
 ·cases h
def a2h{H:X9}(e:HeapOk E w H){k v i j:Nat}{A:Own}(h:getOwn H k v i j=some A)(hv:v=A.v)(hi:i<A.n):T5 (E.sub k v i j A.A.sz) w 0 A.A/\E.L k/\E.L2 k v:=by
 obtain⟨ty,sz,row,o,J,l⟩:=xW h;obtain⟨f,d,g⟩:=e.live k _ o;subst hv;have:=(FamOk.own d i j _ _ _ _ hi J).1;refine⟨?_,f,FamOk.l2 d⟩
 obtain⟨v,n,cl,ty,sz,m,r⟩:=A;simp only at l;subst l;exact this
def b7j{ty i n:Nat}(h:(inB ty i n).getD True):i<n:=by
 unfold inB at h;split at h
 ·split at h
  ·omega
  ·exact h
 ·exact h
def b0K{H:X9}(f:HeapOk E w H){t:TypeId}{x:T}{v:Value}{y:T}{side:Option Prop}(h:xF P H t x=some (y,side))(g:side.getD True)(X:Rd E w x v):
  ∃r,(Instr.loadAt t v).run P w= .ok r w/\Rd E w y r:=by
 unfold xF at h;split at h
 ·rename_i cells;cases htk:wM P t cells 0 with
  |none=>rw[htk] at h;cases h
  |some z=>
   rw[htk] at h;simp only[h9,X0,U4] at h;obtain⟨rfl,rfl⟩:=h;cases X with
   |bref _ b off u N F R d=>
    simp only[Instr.loadAt,Instr.sureAddr,D1,z5,D6];exact pA (o:=0) htk R d
 ·rename_i k i j;split at h
  ·rename_i A hk;cases htk:wM P t (A.row i) j with
   |none=>rw[htk] at h;cases h
   |some z=>
    rw[htk] at h;simp only[h9,X0,U4] at h;obtain⟨rfl,rfl⟩:=h;cases X with
    |ref _ _ _ L=>
     obtain⟨u,R,d⟩:=b8s f hk (b7j g);simp only[Instr.loadAt,Instr.sureAddr,D1,z5,D6];exact pA htk R d
  ·cases h
 ·rename_i k v i j z a b;split at h
  ·rename_i A hA;split at h
   ·rename_i hz;obtain rfl:=F5 hz;cases htk:wM P t (A.A.row a) b with
    |none=>rw[htk] at h;cases h
    |some y=>
     rw[htk] at h;simp only[h9,X0,U4] at h;obtain⟨rfl,rfl⟩:=h;obtain⟨hv,hi,B⟩:PfB v A.v i A.n a A.A.n:=g;obtain⟨e,_,_⟩:=a2h f hA hv hi;obtain⟨u,R,d⟩:=b9S e B;have l:A.A.cl=true:=by obtain⟨_,_,_,_,_,l⟩:=xW hA;exact l
     cases X with
     |pref _ _ _ _ _ _ _ L=>
      simp only[Instr.loadAt,Instr.sureAddr,D1,z5,D6];obtain⟨_,_,_,_,O,_⟩:=e;exact pA htk R λq t J=>A7 (E:=E.sub k v i j A.A.sz) (E':=E) (λb C=>C) (d q t J) (O l a t B (y4 J))
   ·cases h
  ·cases h
 ·cases h
def dV{t:TypeId}{f:Nat}{d:Field}(h:iB P t f=some d):∃F,P.underlying t=some (.struct F)/\F[f]? =some d:=by
 unfold iB at h;split at h
 ·rename_i F u;exact⟨F,u,h⟩
 ·cases h
def a0L{cells:List T}{b off o:Nat}{u:Nat->Value}(f:E.N b)(e:∀t,t ∈ cells->W5 t=true)(r:∀(j:Nat) (t:T),cells[j]? =some t->w.cell? ⟨b,off+j,none⟩=some (u j))
  (d:∀(j:Nat) (t:T),cells[j]? =some t->Rd E w t (u j)):Rd E w (.bref (cells.drop o)) (.pointer (some ⟨b,off+o,none⟩)):=
 .bref _ b (off+o) (λj=>u (o+j)) f (λt d=>e t (List.mem_of_mem_drop d)) (λj t h=>by rw[List.getElem?_drop] at h;rw[show off+o+j=off+(o+j) by omega];exact r _ _ h)
  (λj t h=>by rw[List.getElem?_drop] at h;exact d _ _ h)
def a2a{t:TypeId}{x:T}{v:Value}{f:Nat}{y:T}(h:wD P t x f=some y)(hx:Rd E w x v):
  ∃r,(Instr.fieldAt t v f).run P w= .ok r w/\Rd E w y r:=by
 unfold wD at h;split at h
 ·rename_i fd hfd;obtain⟨fs,hu,hf⟩:=dV hfd;split at h
  ·rename_i k i j hc hz;simp only[X0] at h;subst h;have hne:P.cellsOf fd.type≠0:=Nat.ne_of_beq_eq_false hz;cases hx with
   |ref _ _ _ L=>
    simp only[Instr.fieldAt,D1,run_underlying hu,D6,hf,Instr.sureAddr,z5,fieldPlace,(M9 (w:=w) hc).1];rw[if_neg hne];simp only[z5,D6,Addr.add_lit];refine⟨_,rfl,?_⟩
    rw[Nat.add_assoc];exact .ref k i (j+fd.offset) L
  ·rename_i cs hc hz;simp only[X0] at h;subst h;have hne:P.cellsOf fd.type≠0:=Nat.ne_of_beq_eq_false hz;cases hx with
   |bref _ b off u N d R e=>
    simp only[Instr.fieldAt,D1,run_underlying hu,D6,hf,Instr.sureAddr,z5,fieldPlace,(M9 (w:=w) hc).1];rw[if_neg hne];simp only[z5,D6,Addr.add_lit];exact⟨_,rfl,a0L N d R e⟩
  ·cases h
 ·cases h
def b94{t:TypeId}{x:T}{v:Value}{f:Nat}{y:T}(h:iA P t x f=some y)(hx:Rd E w x v):
  ∃r,(Instr.field t v f).run P w= .ok r w/\Rd E w y r:=by
 unfold iA at h;split at h
 ·rename_i fd cs hfd;obtain⟨fs,hu,hf⟩:=dV hfd;cases hx with
  |agg _ vs l d=>
   simp only[Instr.field,D1,run_underlying hu,D6,hf,asAgg,z5];exact gZ h l d
 ·cases h
def a2c{H:X9}(hH:HeapOk E w H){t:TypeId}{x i:T}{v iv:Value}{y:T}{side:Option Prop}(h:x8 P H t x i=some (y,side))(hs:side.getD True)(hx:Rd E w x v)(hi:Rd E w i iv):
  ∃r,(Instr.indexAt t v iv).run P w= .ok r w/\Rd E w y r:=by
 unfold x8 at h;split at h
 ·rename_i ki i;rw[H9 hi];split at h
  ·rename_i e sz n row hu;split at h
   ·rename_i hc;simp only[X0,U4] at h;obtain⟨rfl,rfl⟩:=h;have hb:0<=i/\i<n:=hs;cases hx with
    |slNil=>exact absurd hb.2 Z9
    |slEmp=>exact absurd hb.2 Z9
    |sl _ _ _ b off cap u N f L B R g=>
     simp only[Instr.indexAt,asIntOf,D1,z5,D6,run_underlying hu];rw[if_pos hb];simp only[D1,(M9 (w:=w) hc).1,D6,z5,Addr.add_lit];have d:i.toNat<n:=Z9
     exact⟨_,rfl,.bref _ b _ (u i.toNat) N (λt M=>(B _ t d M).2) (λj t J=>R _ _ _ d J) (λj t J=>g _ _ _ d J)⟩
   ·cases h
  ·rename_i e l hu;split at h
   ·rename_i hc;simp only[X0,U4] at h;obtain⟨rfl,rfl⟩:=h;have hb:0<=i/\i<l.length:=hs;cases hx with
    |bysNil=>exact absurd hb.2 C7
    |bysEmp=>exact absurd hb.2 C7
    |bys _ b off cap N f R=>
     simp only[Instr.indexAt,asIntOf,D1,z5,D6,run_underlying hu];rw[if_pos hb];simp only[D1,(M9 (w:=w) hc).1,D6,z5,Addr.add_lit,Nat.mul_one];have d:i.toNat<l.length:=Z9
     refine⟨_,rfl,.bref _ b _ (λ_=>.int .u8 ((l.getD i.toNat 0).toNat:Int)) N (λt M=>by simp[B5] at M;subst M;rfl) (λj t J=>?_) (λj t J=>?_)⟩
     ·cases j with
      |zero=>
       have:=R i.toNat _ (I1 d)
       simpa[List.getD,I1 d] using this
      |succ j=>simp[B5] at J
     ·cases j with
      |zero=>simp[B5] at J;subst J;exact .int _ _
      |succ j=>simp[B5] at J
   ·cases h
  ·rename_i e k off n hu;split at h
   ·rename_i A hk;split at h
    ·rename_i hc;simp only[X0,U4] at h;obtain⟨rfl,rfl⟩:=h;have hb:0<=i/\i<n:=hs;obtain⟨hL,⟨hz,_⟩,_⟩:=hH.arr hk;cases hx with
     |osl _ _ _ o a _ C O q=>
      rw[q Z9]
      simp only[Instr.indexAt,asIntOf,D1,z5,D6,run_underlying hu];rw[if_pos hb];simp only[D1,(M9 (w:=w) hc).1,D6,z5,Addr.add_lit];refine⟨_,rfl,?_⟩
      have:=Rd.ref (E:=E) (w:=w) k (off+i.toNat) 0 hL;rw[Nat.add_zero,Nat.add_mul] at this;rw[←hz,O (.inl Z9)]
      exact this
    ·cases h
   ·cases h
  ·rename_i e k v i' j n hu;split at h
   ·rename_i A hA;split at h
    ·rename_i hc;simp only[X0,U4] at h;obtain⟨rfl,rfl⟩:=h;have hb:0<=i/\i<n:=hs;cases hx with
     |posl _ _ _ _ _ a hL C q=>
      rw[q Z9]
      simp only[Instr.indexAt,asIntOf,D1,z5,D6,run_underlying hu];rw[if_pos hb];simp only[D1,(M9 (w:=w) hc).1,D6,z5,Addr.add_lit];refine⟨_,rfl,?_⟩
      rw[D4];exact .pref k v i' j A.A.sz i.toNat 0 hL
    ·cases h
   ·cases h
  ·rename_i n e cells hu;split at h
   ·rename_i hc;simp only[X0,U4] at h;obtain⟨rfl,rfl⟩:=h;have hb:0<=i/\i<n:=hs;cases hx with
    |bref _ b off u N z R g=>
     simp only[Instr.indexAt,asIntOf,D1,z5,D6,run_underlying hu,Instr.sureAddr];rw[if_pos hb];simp only[D1,A9 e hc,D6,z5,Addr.add_lit];exact⟨_,rfl,a0L N z R g⟩
   ·cases h
  ·rename_i n e k r j hu;split at h
   ·rename_i hc;simp only[X0,U4] at h;obtain⟨rfl,rfl⟩:=h;have hb:0<=i/\i<n:=hs;cases hx with
    |ref _ _ _ hL=>
     simp only[Instr.indexAt,asIntOf,D1,z5,D6,run_underlying hu,Instr.sureAddr];rw[if_pos hb];simp only[D1,A9 e hc,D6,z5,Addr.add_lit];refine⟨_,rfl,?_⟩
     rw[Nat.add_assoc];exact .ref k r _ hL
   ·cases h
  ·cases h
 ·cases h
end
section
variable {E:Env} {w:World} {P:Program}
def b97{t:TypeId}{x i:T}{v iv:Value}{y:T}{side:Option Prop}(h:a1x P t x i=some (y,side))(hs:side.getD True)(hx:Rd E w x v)(hi:Rd E w i iv):
  ∃r,(Instr.index t v iv).run P w= .ok r w/\Rd E w y r:=by
 unfold a1x at h;split at h
 ·rename_i l ki i hu;simp only[X0,U4] at h;obtain⟨rfl,rfl⟩:=h;have hb:0<=i/\i<l.length:=hs;rw[vL hx,H9 hi];have hlt:i.toNat<l.length:=by omega
  have g:(ByteArray.mk l.toArray)[i.toNat]? =some (l.getD i.toNat 0):=by
   have:(ByteArray.mk l.toArray)[i.toNat]? =some ((ByteArray.mk l.toArray)[i.toNat]'(by simpa[ByteArray.size] using hlt)):=getElem?_pos _ _ _
   rw[this];congr 1
   simp only[List.getD,I1 hlt,Option.getD_some]
   rfl
  simp only[Instr.index,asIntOf,D1,z5,D6,run_underlying hu];rw[if_pos hb.1,g];exact⟨_,rfl,.int _ _⟩
 ·rename_i n e cs ki i hu;split at h
  ·rename_i x0 hc hx0;simp only[X0,U4] at h;obtain⟨rfl,rfl⟩:=h;have hb:0<=i/\i<n:=hs;rw[H9 hi];cases hx with
   |agg _ vs L d=>
    simp only[Instr.index,asIntOf,D1,z5,D6,run_underlying hu];rw[if_pos hb];simp only[D1,(M9 (w:=w) hc).1,D6,Nat.mul_one];exact gZ hx0 L d
  ·cases h
 ·cases h
def a5W{x:T}{v:Value}{i:Nat}{y:T}(h:qY x i=some y)(hx:Rd E w x v):
  ∃r,(Instr.extract v i).run P w= .ok r w/\Rd E w y r:=by
 unfold qY at h;split at h
 ·rename_i cs;cases hx with
  |tup _ vs l d=>
   have t:i<cs.length:=by
    rcases Nat.lt_or_ge i cs.length with h'|h'
    ·exact h'
    ·rw[List.getElem?_eq_none h'] at h;cases h
   have hv:vs[i]? =some (vs[i]' Z9):=tB _
   simp only[Instr.extract,hv,z5];exact⟨_,rfl,d _ _ _ h hv⟩
 ·cases h
def jJ{P:Program}{w:World}(b off:Nat)(l:Bz)(cap:Nat)(h:∀i x,l[i]? =some x->w.cell? ⟨b,off+i,none⟩=some (.int .u8 (x.toNat:Int))):
  (Conv.bytesToString (.slice (some ⟨b,off,none⟩) l.length cap)).run P w= .ok (.string ⟨l.toArray⟩) w:=by
 have L:(loadCells ⟨b,off,none⟩ l.length).run P w= .ok ((l.map λx=>(x.toNat:Int)).map (Value.int .u8)).toArray w:=by
  have:=run_loadCells_list (P:=P) w ⟨b,off,none⟩ ((l.map λx=>(x.toNat:Int)).map (Value.int .u8)) (λj v J=>by
   simp only[List.map_map,oE,F1,Function.comp] at J
   obtain⟨x,X,rfl⟩:=J;rw[Addr.add_lit];exact h j x X)
  simpa using this
 rw[run_bytesToString w ⟨b,off,none⟩ l.length cap _ L];congr 2
 rw[foldl_push_bytes];apply ByteArray.ext
 simp only[ByteArray.empty,ByteArray.emptyWithCapacity,List.map_map];have:(List.map ((λn:Int=>UInt8.ofNat n.toNat)∘λx:UInt8=>(x.toNat:Int)) l)=l:=by
  conv=>rhs;rw[←List.map_id l]
  apply List.map_congr_left
  intro x _;simp
 rw[this];simp
 try rfl
def a77{H:X9}{k:Nat}{ob:Ob}(h:Y4 H k=some ob)(hi:ob.isArr=true:=by rfl):getA H k=some ob.toArr:=by
 unfold getA;rw[h];cases ob<;>first|(cases hi;done)|rfl
def c0B{H:X9}(hH:HeapOk E w H){C dst:TypeId}{x:T}{v:Value}{y:T}{side:Option Prop}(h:vG P H C dst x=some (y,side))(hs:side.getD True)(hx:Rd E w x v):
  ∃r,(convert C dst v).run P w= .ok r w/\Rd E w y r:=by
 unfold vG at h;split at h
 ·rename_i ks t k n hsr hd;simp only[X0,U4] at h;obtain⟨rfl,rfl⟩:=h;rw[H9 hx];simp only[convert,D1,run_underlying hsr,run_underlying hd,D6,Conv.intToInt,z5];exact⟨_,rfl,.int _ _⟩
 ·rename_i l hsr hd;simp only[X0,U4] at h;obtain⟨rfl,rfl⟩:=h;rw[vL hx];simp only[convert,D1,run_underlying hsr,run_underlying hd,D6,z5];exact⟨_,rfl,.str _⟩
 ·rename_i e l hsr hd;split at h
  ·rename_i he;simp only[X0,U4] at h;obtain⟨rfl,rfl⟩:=h;cases hx with
   |bysNil=>
    rw[run_convert_bytes_string w C dst e _ _ _ hsr he hd];exact⟨_,rfl,.str []⟩
   |bysEmp a=>
    rw[run_convert_bytes_string w C dst e _ _ _ hsr he hd];have hl:(loadCells a 0).run P w= .ok #[] w:=by
     have:=run_loadCells_list (P:=P) w a [] (λj v J=>by simp at J)
     simpa using this
    have:=run_bytesToString w a 0 0 [] a9v
    exact⟨_,this,.str []⟩
   |bys _ b off cap hN hc R=>
    rw[run_convert_bytes_string w C dst e _ _ _ hsr he hd];exact⟨_,jJ b off l cap R,.str l⟩
  ·cases h
 ·rename_i e k off n hsrc hd;split at h
  ·rename_i tyb l he hob;simp only[X0,U4] at h;obtain⟨rfl,rfl⟩:=h;have hs:off+n<=l.length:=hs;obtain⟨hL,⟨hz,hn,hl,hone,hcl,cs,ty,hb,hsz,hc⟩,hN⟩:=hH.live _ _ hob;simp only[Ob.toArr] at hz hn hl hone hcl hsz hc;cases hx with
   |osl _ _ _ o a _ q O A=>
    rw[run_convert_bytes_string w C dst e _ _ _ hsrc he hd];have N:((l.drop off).take n).length=n:=by simp;omega
    by_cases f:E.κ k=0
    ·obtain rfl:n=0:=by omega
     rw[f,Nat.zero_sub];refine⟨.string ⟨#[]⟩,?_,by rw[List.take_zero];exact .str []⟩
     cases a with
     |none=>rfl
     |some a=>
      have hl:(loadCells a 0).run P w= .ok #[] w:=by
       have:=run_loadCells_list (P:=P) w a [] (λj v J=>by simp at J)
       simpa using this
      have:=run_bytesToString w a 0 0 [] a9v
      exact this
    have hb:=hb f;rw[A f];have:=jJ (P:=P) (w:=w) (E.β k) o ((l.drop off).take n) (E.κ k-off) (λi x hx=>by
     have hi:i<n:=by
      rcases Nat.lt_or_ge i n with h'|h'
      ·exact h'
      ·rw[List.getElem?_eq_none Z9] at hx;cases hx
     have d:l[off+i]? =some x:=by
      rw[List.getElem?_take] at hx
      rw[if_pos hi,List.getElem?_drop] at hx
      exact hx
     have W:(B5 l (off+i))[0]? =some (.int .u8 (x.toNat:Int)):=by
      simp[B5,List.getD,d]
     obtain⟨u,U,g⟩:=hc (off+i) 0 _ Z9 W
     have hob:o=off:=by
      have:=O (.inl Z9)
      rw[hz,Nat.mul_one] at this;exact this
     rw[S2 hb,hob];rw[H9 g] at U;rw[Nat.mul_one,Nat.add_zero] at U;exact U)
    rw[N] at this;exact⟨_,this,.str _⟩
  ·cases h
 ·cases h
def b4g{isSlice:Bool}{len cap:Nat}{L hi:Option T}{lv hv:Option Value}{a h:Option Int}(ha:vQ L=some a)(hh:vQ hi=some h)
  (hlo:∀x,L=some x->∃v,lv=some v/\Rd E w x v) (hhi:∀x,hi=some x->∃v,hv=some v/\Rd E w x v) (hlo':L=none->lv=none) (hhi':hi=none->hv=none)
  (C:len<=cap) (hs:(a62 len a h).getD True):
  ∃l m:Nat,(Instr.sliceBounds isSlice len cap lv hv none).run P w= .ok (l,m,cap) w/\l<=m/\m<=len/\l=(a.getD 0).toNat/\m=(h.getD (len:Int)).toNat/\a7D len a h=m-l:=by
 have key:∀(x:T) (v:Value) (i:Int) (y:Nat) (code:BoundsCode),vQ (some x)=some (some i)->Rd E w x v->0<=i->i<=y->(Instr.sliceBound v y code).run P w= .ok i.toNat w:=by
  intro x v i y code X r e h1;unfold vQ at X;split at X
  ·rename_i q;cases q
  ·rename_i k j q;simp only[X0] at q X;subst q;subst X;rw[H9 r];simp only[Instr.sliceBound,asIntOf,D1,z5,D6];rw[if_pos ⟨e,h1⟩];rfl
  ·cases X
 have n:∀(o:Option T) (i:Option Int),vQ o=some i->(o=none/\i=none)∨∃x j,o=some x/\i=some j:=by
  intro o i O;unfold vQ at O;split at O
  ·simp only[X0] at O;exact .inl ⟨rfl,O.symm⟩
  ·rename_i k j;simp only[X0] at O;exact .inr ⟨_,j,rfl,O.symm⟩
  ·cases O
 rcases n L a ha with⟨rfl,rfl⟩|⟨x,i,rfl,rfl⟩<;>rcases n hi h hh with⟨rfl,rfl⟩|⟨y,j,rfl,rfl⟩
 ·rw[hlo' rfl,hhi' rfl];exact⟨0,len,by simp[Instr.sliceBounds],Z9,Z9,rfl,W7,by simp[a7D]⟩
 ·obtain⟨v,rfl,hv⟩:=hhi y rfl;rw[hlo' rfl];have hs:0<=j/\j<=len:=hs;have:=λcode=>key y v j cap code hh hv hs.1 Z9
  exact⟨0,j.toNat,by simp[Instr.sliceBounds,this],Z9,Z9,rfl,W7,by simp[a7D]⟩
 ·obtain⟨v,rfl,hv⟩:=hlo x rfl;rw[hhi' rfl];have hs:0<=i/\i<=len:=hs;have:=λcode=>key x v i len code ha hv hs.1 hs.2
  exact⟨i.toNat,len,by simp[Instr.sliceBounds,this],Z9,Z9,W7,W7,by simp[a7D]⟩
 ·obtain⟨v,rfl,hv⟩:=hlo x rfl;obtain⟨u,rfl,hu⟩:=hhi y rfl;have hs:0<=i/\i<=j/\j<=len:=hs;have h1:=λcode=>key y u j cap code hh hu Z9 Z9
  have d:=λcode=>key x v i j.toNat code ha hv hs.1 Z9
  exact⟨i.toNat,j.toNat,by simp[Instr.sliceBounds,h1,d],Z9,Z9,W7,W7,by simp[a7D]⟩
def gU(l:Bz)(a h:Option Int)(i m:Nat)(A:i=(a.getD 0).toNat)(M:m=(h.getD (l.length:Int)).toNat):xD l a h=(l.take m).drop i:=by
 subst A;subst M;unfold xD;split<;>simp
def b3a(row:Nat->List T)(a:Option Int):a6z row a=λi=>row ((a.getD 0).toNat+i):=by
 unfold a6z;split<;>simp
def c3Y(off:Nat)(a:Option Int):c7r off a=off+(a.getD 0).toNat:=by
 unfold c7r;split<;>simp
def b52{H:X9}(hH:HeapOk E w H){t:TypeId}{x:T}{v:Value}{O hi:Option T}{lv hv:Option Value}{y:T}{side:Option Prop}(h:tU P H t x O hi=some (y,side))(hs:side.getD True)(hx:Rd E w x v)
  (hlo:∀x,O=some x->∃v,lv=some v/\Rd E w x v) (hhi:∀x,hi=some x->∃v,hv=some v/\Rd E w x v) (hlo':O=none->lv=none) (hhi':hi=none->hv=none):
  ∃r,(Instr.sliceAt t v lv hv none).run P w= .ok r w/\Rd E w y r:=by
 unfold tU at h;split at h
 ·rename_i a hb ha hh;have bnd:=λ(isSlice:Bool) (len cap:Nat) (hc:len<=cap) (hs:(a62 len a hb).getD True)=>b4g (P:=P) (E:=E) (w:=w) (isSlice:=isSlice) ha hh hlo hhi hlo' hhi' hc hs
  split at h
  ·rename_i l hu;simp only[X0,U4] at h;obtain⟨rfl,rfl⟩:=h;rw[vL hx];obtain⟨i,m,hr,him,hml,hi,hm,_⟩:=bnd false l.length l.length (U9 _) hs;have q:(Instr.sliceBounds false (ByteArray.mk l.toArray).size (ByteArray.mk l.toArray).size lv hv none).run P w= .ok (i,m,l.length) w:=by
    simpa[ByteArray.size] using hr
   simp only[Instr.sliceAt,Instr.slice,D1,run_underlying hu,D6,Option.isSome_none,Bool.false_eq_true,if_false,z5,q];refine⟨_,rfl,?_⟩
   have:(ByteArray.mk l.toArray).extract i m=⟨(xD l a hb).toArray⟩:=by
    apply ByteArray.ext
    apply Array.ext'
    rw[Lib.extract_data,gU l a hb i m hi hm,List.drop_take]
   rw[this];exact .str _
  ·rename_i e l hu;split at h
   ·rename_i hc;simp only[X0,U4] at h;obtain⟨rfl,rfl⟩:=h;cases hx with
    |bysNil=>
     obtain⟨i,m,hr,him,hml,hi,hm,_⟩:=bnd true 0 0 (U9 _) hs;simp only[Instr.sliceAt,Instr.slice,D1,run_underlying hu,D6,hr,(M9 (w:=w) hc).1,z5];refine⟨_,rfl,?_⟩
     rw[gU [] a hb i m hi hm];have h1:m=0:=by simpa using hml
     have g:i=0:=Z9
     subst h1;subst g;simp only[List.take_nil,List.drop_nil,j_h,if_pos];exact .bysNil
    |bysEmp z=>
     obtain⟨i,m,hr,him,hml,hi,hm,_⟩:=bnd true 0 0 (U9 _) hs;simp only[Instr.sliceAt,Instr.slice,D1,run_underlying hu,D6,hr,(M9 (w:=w) hc).1,z5];refine⟨_,rfl,?_⟩
     rw[gU [] a hb i m hi hm];have h1:m=0:=by simpa using hml
     have g:i=0:=Z9
     subst h1;subst g;simp only[List.take_nil,List.drop_nil,j_h,if_pos];exact .bysEmp _
    |bys _ b off cap hN f L=>
     obtain⟨i,m,hr,him,hml,hi,hm,_⟩:=bnd true l.length cap f hs;simp only[Instr.sliceAt,Instr.slice,D1,run_underlying hu,D6,hr,(M9 (w:=w) hc).1,z5];refine⟨_,rfl,?_⟩
     rw[gU l a hb i m hi hm];have N:((l.take m).drop i).length=m-i:=by simp;omega
     rw[←N];split
     ·rename_i C;exact .bys _ b off _ hN Z9 (λj x hj=>by
       have:j<((l.take m).drop i).length:=(u6.1 hj).1
       omega)
     ·simp only[h9,Addr.add_lit,Nat.mul_one];exact .bys _ b (off+i) _ hN Z9 (λj x hj=>by
       rw[List.getElem?_drop,List.getElem?_take] at hj
       split at hj
       ·rw[show off+i+j=off+(i+j) by omega];exact L _ _ hj
       ·cases hj)
   ·cases h
  ·rename_i e sz n row hu;split at h
   ·rename_i hc;simp only[X0,U4] at h;obtain⟨rfl,rfl⟩:=h;cases hx with
    |slNil=>
     obtain⟨i,m,hr,him,hml,hi,hm,d⟩:=bnd true 0 0 (U9 _) hs;simp only[Instr.sliceAt,Instr.slice,D1,run_underlying hu,D6,hr,(M9 (w:=w) hc).1,z5];refine⟨_,rfl,?_⟩
     have h1:m=0:=Z9
     have g:i=0:=Z9
     rw[d,h1,g];simp only[j_h,if_pos];exact .slNil _ _
    |slEmp _ _ z=>
     obtain⟨i,m,hr,him,hml,hi,hm,d⟩:=bnd true 0 0 (U9 _) hs;simp only[Instr.sliceAt,Instr.slice,D1,run_underlying hu,D6,hr,(M9 (w:=w) hc).1,z5];refine⟨_,rfl,?_⟩
     have h1:m=0:=Z9
     have g:i=0:=Z9
     rw[d,h1,g];simp only[j_h,if_pos];exact .slEmp _ _ _
    |sl _ _ _ b off cap u hN f hl h1 L hct=>
     obtain⟨i,m,hr,him,hml,hi,hm,d⟩:=bnd true n cap f hs;simp only[Instr.sliceAt,Instr.slice,D1,run_underlying hu,D6,hr,(M9 (w:=w) hc).1,z5];refine⟨_,rfl,?_⟩
     rw[d,b3a,←hi];split
     ·rename_i C;exact .sl _ _ _ b off _ u hN Z9 (λj hj=>Z9) (λj _ hj=>Z9) (λj _ _ hj=>Z9) (λj _ _ hj=>Z9)
     ·simp only[h9,Addr.add_lit];refine .sl _ _ _ b (off+i*sz) _ (λj=>u (i+j)) hN Z9 (λj hj=>hl _ Z9) (λj t hj=>h1 _ _ Z9) (λj c t hj ht=>?_) (λj c t hj ht=>hct _ _ _ Z9 ht)
      rw[show off+i*sz+j*sz+c=off+(i+j)*sz+c by rw[Nat.add_mul];omega]
      exact L _ _ _ Z9 ht
   ·cases h
  ·rename_i e k off n hu;split at h
   ·rename_i A hA;split at h
    ·rename_i hc;simp only[X0,U4] at h;obtain⟨rfl,rfl⟩:=h;obtain⟨hL,⟨hz,_⟩,_⟩:=hH.arr hA;cases hx with
     |osl _ _ _ o z _ F B ha0=>
      obtain⟨i,m,hr,him,hml,hi,hm,d⟩:=bnd true n (E.κ k-off) Z9 hs
      simp only[Instr.sliceAt,Instr.slice,D1,run_underlying hu,D6,hr,(M9 (w:=w) hc).1,z5];refine⟨_,rfl,?_⟩
      rw[d,c3Y,←hi];rw[show E.κ k-off-i=E.κ k- (off+i) by omega]
      split
      ·rename_i C;exact .osl k (off+i) (m-i) o z hL Z9 (λh=>by
        rcases h with h|h
        ·omega
        ·rw[h,B (.inr Z9),show off=0 by omega]) ha0
      ·rw[ha0 Z9]
       simp only[h9,Addr.add_lit];refine .osl k (off+i) (m-i) _ _ hL Z9 (λh=>?_) (λ_=>rfl)
       rw[B Z9,hz,Nat.add_mul]
    ·cases h
   ·cases h
  ·rename_i e hu;split at h
   ·rename_i i0 hi0;split at h
    ·rename_i hc;simp only[X0,U4] at h;obtain⟨rfl,rfl⟩:=h;rw[vP hx];obtain⟨i,m,hr,him,hml,hi,hm,_⟩:=bnd true 0 0 (U9 _) hs;simp only[Instr.sliceAt,Instr.slice,D1,run_underlying hu,D6,hr,(M9 (w:=w) hc).1,z5];refine⟨_,rfl,?_⟩
     have h1:m=0:=Z9
     have g:i=0:=Z9
     subst h1;subst g;exact .v _
    ·cases h
   ·cases h
  ·cases h
 ·cases h
def c8r{op:UnOp}{x:T}{v:Value}{y:T}{side:Option Prop}(h:c65 op x=some (y,side))(d:side.getD True)(X:Rd E w x v):
  ∃r,(Op.unary op v).run P w= .ok r w/\Rd E w y r:=by
 unfold c65 at h;split at h
 ·simp only[X0,U4] at h;obtain⟨rfl,rfl⟩:=h;rw[r5 X];exact⟨_,rfl,.bool _⟩
 ·rename_i k n;simp only[X0,U4] at h;obtain⟨rfl,rfl⟩:=h;rw[H9 X];have d:R2 k (0-n):=d;simp only[Op.unary,Op.intArith,gE d];exact⟨_,rfl,.int _ _⟩
 ·cases h
def c6t{x:T}{v:Value}{n:Int}{t ty:TypeId}(h:a9T P t x=some n)(hx:Rd E w x v):
  (Builtin.len_ #[t] ty #[v]).run P w= .ok (.int .i64 n) w:=by
 have L:∀(e:TypeId) (a:Option Addr) (m c:Nat),P.underlying t=some (.slice e)->(Builtin.len_ #[t] ty #[.slice a m c]).run P w= .ok (.int .i64 m) w:=by
  intro e a m c hu;simp[Builtin.len_,run_underlying hu,goInt]
 unfold a9T at h;split at h
 ·rename_i l hu;simp only[X0] at h;subst h;rw[vL hx];simp[Builtin.len_,run_underlying hu,goInt];rfl
 ·rename_i e l hu;simp only[X0] at h;subst h;cases hx with
  |bysNil=>exact L e _ 0 _ hu
  |bysEmp=>exact L e _ 0 _ hu
  |bys=>exact L e _ _ _ hu
 ·rename_i e sz n row hu;simp only[X0] at h;subst h;cases hx with
  |slNil=>exact L e _ 0 _ hu
  |slEmp=>exact L e _ 0 _ hu
  |sl=>exact L e _ _ _ hu
 ·rename_i e k off n hu;simp only[X0] at h;subst h;cases hx with
  |osl=>exact L e _ _ _ hu
 ·rename_i e k v i j n hu;simp only[X0] at h;subst h;cases hx with
  |posl=>exact L e _ _ _ hu
 ·rename_i e n c hu;simp only[X0] at h;subst h;rw[vP hx];exact L e _ _ _ hu
 ·rename_i e hu;simp only[X0] at h;subst h;cases hx with
  |emp=>exact L e _ 0 _ hu
 ·cases h
def a1h{k i j:Nat}{x:Value}(h:Rd E w (.ref k i j) x):x= .pointer (some ⟨E.β k,i*(E.z k).1+j,none⟩):=by cases h;rfl
def b0v{cs:List T}{x:Value}(h:Rd E w (.bref cs) x):∃ad,x= .pointer (some ad):=by cases h;exact⟨_,rfl⟩
def tC(E:Env)(w:World)(cs:List T)(vs:Array Value):Prop:=cs.length=vs.size/\∀(i:Nat) (t:T) (x:Value),cs[i]? =some t->vs[i]? =some x->Rd E w t x
def xV{x:T}{v:Value}(X:Rd E w x v)(hp:lP x=true):tC E w (U7 x) v.cells:=by
 have one:∀{x:T} {v:Value},Rd E w x v->U7 x=[x]->v.cells= #[v]->tC E w (U7 x) v.cells:=by
  intro x v X d q;rw[d,q];refine⟨rfl,λi t y h Y=>?_⟩
  cases i with
  |zero=>simp at h Y;subst h;subst Y;exact X
  |succ i=>simp at h
 cases X with
 |agg cs vs e h=>exact⟨e,h⟩
 |tup=>simp[lP,H7] at hp
 |und=>simp[lP,H7] at hp
 |v=>
  cases v<;>first|exact one (.v _) rfl rfl|(simp[lP,H7] at hp)
 |int=>exact one (.int _ _) rfl rfl
 |bool=>exact one (.bool _) rfl rfl
 |str=>exact one (.str _) rfl rfl
 |slNil=>exact one (.slNil _ _) rfl rfl
 |slEmp sz row a=>exact one (.slEmp sz row a) rfl rfl
 |emp a=>exact one (.emp a) rfl rfl
 |bysEmp a=>exact one (.bysEmp a) rfl rfl
 |sl sz n row b off cap u N C e d r h=>exact one (.sl sz n row b off cap u N C e d r h) rfl rfl
 |bysNil=>exact one .bysNil rfl rfl
 |bys l b off cap N C r=>exact one (.bys l b off cap N C r) rfl rfl
 |bref cells b off u N d r h=>exact one (.bref cells b off u N d r h) rfl rfl
 |ref k i j L=>exact one (.ref k i j L) rfl rfl
 |osl k off n o a L g O A=>exact one (.osl k off n o a L g O A) rfl rfl
 |posl k v i j n a L g A=>exact one (.posl k v i j n a L g A) rfl rfl
 |pref k v i j z a b L=>exact one (.pref k v i j z a b L) rfl rfl
 |fn f cs vs e h=>exact one (.fn f cs vs e h) rfl rfl
 |mpr k L=>exact one (.mpr k L) rfl rfl
def b2O(m:List Value):∀(j off:Nat) (cells:Array Value),off+j+m.length<=cells.size->
  ((m.zipIdx j).foldl (λcs (p:Value×Nat)=>cs.setIfInBounds (off+p.2) p.1) cells).toList=cells.toList.take (off+j)++m++cells.toList.drop (off+j+m.length):=by
 induction m with
 |nil=>intro j off cells h;simp
 |cons x m I=>
  intro j off cells h;simp only[List.length_cons] at h;simp only[List.zipIdx_cons,List.foldl_cons];rw[I (j+1) off _ C7]
  simp only[Array.toList_setIfInBounds,List.length_cons];apply List.ext_getElem?
  intro i;simp only[List.getElem?_append,F9,List.length_take,zW,Array.length_toList,List.getElem?_take,List.getElem?_set,List.getElem?_drop,List.length_cons]
  rw[Nat.min_eq_left Z9,Nat.min_eq_left Z9]
  by_cases d:i<off+j
  ·simp[d,show i<off+(j+1) by omega,show i<off+(j+1)+m.length by omega,show i<off+j+(m.length+1) by omega,show ¬off+j=i by omega]
  ·by_cases h2:i=off+j
   ·subst h2;simp[show off+j<off+(j+1) by omega,show off+j<off+(j+1)+m.length by omega,show off+j<cells.size by omega]
   ·by_cases h3:i<off+j+1+m.length
    ·rw[if_pos Z9,if_neg Z9,if_pos Z9,if_neg Z9]
     rw[show i- (off+j)=(i- (off+(j+1)))+1 by omega]
     simp
    ·rw[if_neg Z9,if_neg Z9]
     rw[if_neg Z9]
     congr 1
     omega
def iH{e:Nat->Option (Nat×Nat)}:∀(parts:List (Nat×T)) (V:List (Nat×Value)) (cs out:List T) (vs:Array Value),
  zN e cs parts=some out->tC E w cs vs->parts.length=V.length->(∀(i:Nat) (p:Nat×T) (q:Nat×Value),parts[i]? =some p->V[i]? =some q->p.1=q.1/\Rd E w p.2 q.2)->
  ∃u,Instr.fill e vs V=some u/\tC E w out u:=by
 intro parts;induction parts with
 |nil=>
  intro V cs out vs h r l hp;simp only[zN,X0] at h;subst h;cases V with
  |nil=>exact⟨vs,rfl,r⟩
  |cons q V=>simp at l
 |cons p parts J=>
  intro V cs out vs h r l hp;cases V with
  |nil=>simp at l
  |cons q V=>
   obtain⟨i,x⟩:=p;obtain⟨M,v⟩:=q;obtain⟨rfl,X⟩:=hp 0 _ _ rfl rfl;simp only at X;simp only[zN] at h;split at h
   ·rename_i off size hpl hpb;split at h
    ·rename_i C B;have I:=F5 C;have F:=yH B;obtain⟨A,n⟩:=xV X hpb;obtain⟨L,f⟩:=r;have hfold:(v.cells.zipIdx.foldl (λcs (c,j)=>cs.setIfInBounds (off+j) c) vs).toList=vs.toList.take off++v.cells.toList++vs.toList.drop (off+v.cells.size):=by
      have:=b2O v.cells.toList 0 off vs C7
      simp only[Nat.add_zero,Array.length_toList] at this;rw[←this,←Array.foldl_toList,Array.toList_zipIdx]
     have W:tC E w (cs.take off++U7 x++cs.drop (off+(U7 x).length)) (v.cells.zipIdx.foldl (λcs (c,j)=>cs.setIfInBounds (off+j) c) vs):=by
      refine⟨?_,λk t y ht hy=>?_⟩
      ·rw[←Array.length_toList,hfold];simp;omega
      ·rw[←Array.getElem?_toList,hfold] at hy
       simp only[List.getElem?_append,F9,List.length_take,Array.length_toList,List.getElem?_take,List.getElem?_drop,←L,←A] at ht hy
       rw[Nat.min_eq_left Z9] at ht hy
       by_cases hk1:k<off+(U7 x).length
       ·rw[if_pos hk1] at ht hy;by_cases hk2:k<off
        ·rw[if_pos hk2,if_pos hk2] at ht;rw[if_pos hk2,if_pos hk2] at hy;exact f _ _ _ ht (by simpa using hy)
        ·rw[if_neg hk2] at ht hy;exact n _ _ _ ht (by simpa using hy)
       ·rw[if_neg hk1] at ht hy;exact f _ _ _ ht (by simpa using hy)
     obtain⟨u,o,d⟩:=J V _ out _ h W (by simpa using l) (λj p q g z=>hp (j+1) p q (by simpa using g) (by simpa using z))
     refine⟨u,?_,d⟩
     simp only[Instr.fill,hpl];rw[if_neg]
     ·exact o
     ·simp only[nT,o8];omega
    ·cases h
   ·cases h
def e9{t:TypeId}{z:List T}(h:zeroCells P t=some z):∃v,(zeroValue t).run P w= .ok v w/\tC E w z v.cells/\∃i,P.info? t=some i/\i.zero=some v:=by
 unfold zeroCells at h;cases hi:P.info? t with
 |none=>rw[hi] at h;cases h
 |some i=>
  rw[hi] at h;cases Z:i.zero with
  |none=>simp[Z] at h
  |some v=>
   simp only[Option.bind_some,Z,h9,X0] at h;subst h;refine⟨v,by simp[zeroValue,typeInfo,hi,Z],⟨W7,λi t x d X=>?_⟩,i,rfl,Z⟩
   simp only[oE,Array.getElem?_toList,X,h9,X0] at d
   subst d;exact a5r x
def iR:∀(F:List Field),(∀f ∈ F,(P.info? f.type).isSome=true)->(F.mapM λf=>(do pure (f.offset,←sizeOf f.type):Sem (Nat×Nat))).run P w= .ok (F.map λf=>(f.offset,P.cellsOf f.type)) w:=by
 intro F;induction F with
 |nil=>intro _;rfl
 |cons f F i=>
  intro h;simp only[List.mapM_cons,D1,A9 f.type (h f W7),D6,z5,i (λg d=>h g (by simp[d])),List.map_cons]
def a6L(F:Array Field)(h:∀f ∈ F.toList,(P.info? f.type).isSome=true):(F.mapM λf=>(do pure (f.offset,←sizeOf f.type):Sem (Nat×Nat))).run P w= .ok (F.map λf=>(f.offset,P.cellsOf f.type)) w:=by
 rw[Array.mapM_eq_mapM_toList,Sem.run_map,iR F.toList h];simp only[D6];congr 1
 apply Array.ext'
 simp
def a0V{place:Nat->Option (Nat×Nat)}{m:Nat}:∀(parts:List (Nat×T)) (n:Nat) (cs:List T),pO place m n parts=some cs->n+cs.length=m:=by
 intro parts;induction parts with
 |nil=>
  intro n cs h;simp only[pO] at h;split at h
  ·rename_i B;cases h;exact F5 B
  ·cases h
 |cons p parts I=>
  intro n cs h;obtain⟨i,x⟩:=p;simp only[pO] at h;split at h
  ·split at h
   ·rename_i h1 h2;cases hr:pO place m (n+_) parts with
    |none=>rw[hr] at h;cases h
    |some C=>
     rw[hr] at h;simp only[h9,X0] at h;subst h;have:=I _ _ hr;have h2:=F5 h2;rw[F9];omega
   ·cases h
  ·cases h
def b8E{place:Nat->Option (Nat×Nat)}{m:Nat}:∀(parts:List (Nat×T)) (n:Nat) (cells cs:List T),pO place m n parts=some cs->cells.length=m->zN place cells parts=some (cells.take n++cs):=by
 intro parts;induction parts with
 |nil=>
  intro n cells cs h M;have:=a0V _ _ _ h;simp only[pO] at h;split at h
  ·cases h;simp only[zN,List.append_nil];rw[List.take_of_length_le (by simp at this;omega)]
  ·cases h
 |cons p parts I=>
  intro n cells cs h M;have l:=a0V _ _ _ h;obtain⟨i,x⟩:=p;simp only[pO] at h;simp only[zN];split at h
  ·rename_i off size hpl hpb;split at h
   ·rename_i h1 h2;cases hr:pO place m (n+size) parts with
    |none=>rw[hr] at h;cases h
    |some C=>
     rw[hr] at h;simp only[h9,X0] at h;subst h;have d:=F5 h1;have f:=F5 h2;subst d;rw[F9] at l;have e:Nat.ble (off+(U7 x).length) cells.length=true:=Nat.ble_eq_true_of_le Z9
     simp only[h2,e];rw[I (off+size) _ _ hr C7]
     congr 1
     have t:(cells.take off).length=off:=by rw[List.length_take];omega
     rw[←List.append_assoc];congr 1
     rw[List.append_assoc,List.take_append,t,List.take_of_length_le Z9,show off+size-off=(U7 x).length by omega,List.take_left']
     rfl
   ·cases h
  ·cases h
def b5a{e:Nat->Option (Nat×Nat)}{z:List T}{parts:List (Nat×T)}:b0M e z parts=zN e z parts:=by
 unfold b0M;split
 ·rename_i cs h;rw[b8E _ _ _ _ h rfl];rfl
 ·rfl
def b46{a:Act}{s:W4}{t:TypeId}{parts:Array (Nat×Operand)}{y:T}(h:gX P s t parts=some y)(u:∀p ∈ parts.toList,F0 E w a s p.2):
  ∃r,(Instr.build t (parts.map λ(i,x)=>(i,a.eval x))).run P w= .ok r w/\Rd E w y r:=by
 have g:∀(i:Nat) (p:Nat×T) (q:Nat×Value),(parts.toList.map λp=>(p.1,K6 s p.2))[i]? =some p->(parts.map λ(i,x)=>(i,a.eval x)).toList[i]? =some q->p.1=q.1/\Rd E w p.2 q.2:=by
  intro i p q hp Q;simp only[Array.toList_map,oE,F1] at hp Q
  obtain⟨x,X,rfl⟩:=hp;obtain⟨A,l,rfl⟩:=Q;rw[X] at l;simp only[X0] at l;subst l;exact⟨rfl,u x (y4 X)⟩
 have N:(parts.toList.map λp=>(p.1,K6 s p.2)).length=(parts.map λ(i,x)=>(i,a.eval x)).toList.length:=W7
 unfold gX at h;simp only[b5a] at h;split at h
 ·rename_i z fs hz hu;obtain⟨v,hv,hrl,_⟩:=e9 (E:=E) (w:=w) hz;split at h
  ·rename_i hall;cases hf:zN (λi=>(fs.toList[i]?).map λf=>(f.offset,P.cellsOf f.type)) z (parts.toList.map λp=>(p.1,K6 s p.2)) with
   |none=>rw[hf] at h;cases h
   |some out=>
    rw[hf] at h;simp only[h9,X0] at h;subst h;obtain⟨U,j,d⟩:=iH _ _ _ _ _ hf hrl N g;have o:∀f ∈ fs.toList,(P.info? f.type).isSome=true:=b9.1 hall;have L:(λ(i:Nat)=>(fs.toList[i]?).map λf:Field=>(f.offset,P.cellsOf f.type))=λ(i:Nat)=>(fs.map λf:Field=>(f.offset,P.cellsOf f.type))[i]? :=by
     funext i
     simp
    rw[L] at j;simp only[Instr.build,D1,hv,D6,z5,run_underlying hu,a6L fs o,j];exact⟨_,rfl,.agg _ _ d.1 d.2⟩
  ·cases h
 ·rename_i z n e hz hu;obtain⟨v,hv,hrl,_⟩:=e9 (E:=E) (w:=w) hz;split at h
  ·rename_i he;cases hf:zN (λi=>some (i*P.cellsOf e,P.cellsOf e)) z (parts.toList.map λp=>(p.1,K6 s p.2)) with
   |none=>rw[hf] at h;cases h
   |some out=>
    rw[hf] at h;simp only[h9,X0] at h;subst h;obtain⟨U,j,d⟩:=iH _ _ _ _ _ hf hrl N g;simp only[Instr.build,D1,hv,D6,z5,run_underlying hu,A9 e he,j];exact⟨_,rfl,.agg _ _ d.1 d.2⟩
  ·cases h
 ·cases h
def D7(op:Op):List Operand:=
 match op with
 | .pick c _ _=>[c]
 |op=>op.operands.toList
def b5A{p:Prop}(h:p:=by simp only[D7,Op.operands,Call.operands,Array.toList_append,List.mem_append];exact .inr hx):p:=h
def b0z{t:TypeId}{o:Bool}(h:b4r P t o=true):∃d e,P.underlying t=some (.map d e)/\P.underlying d=some (.int .i64)/\(zeroValue e).run P w= .ok (a1d o 0) w:=by
 unfold b4r at h;split at h
 ·rename_i d e u;have z:∀v,(P.info? e).bind (·.zero)=some v->(zeroValue e).run P w= .ok v w:=by
   intro v hv;cases hi:P.info? e with
   |none=>rw[hi] at hv;cases hv
   |some i=>
    rw[hi] at hv;simp only[Option.bind_some] at hv;simp[zeroValue,typeInfo,hi,hv]
  split at h
  ·rename_i n hk he;have:=G7 h;subst this;exact⟨d,e,u,hk,z _ he⟩
  ·rename_i b hk he;cases b
   ·exact⟨d,e,u,hk,z _ he⟩
   ·cases h
  ·cases h
 ·cases h
def mT{n:Int}:∀(l:List MapEntry) (i:Nat),(∀e ∈ l,∃m,e.key= .int .i64 m)->lk n l=none->Instr.findNow (.int .i64) (.int .i64 n) l i=some none:=by
 intro l;induction l with
 |nil=>intro i _ _;rfl
 |cons e l I=>
  intro i hi h;obtain⟨m,hm⟩:=hi e W7
  simp only[lk,hm] at h;split at h
  ·cases h
  ·rename_i hne;simp only[Instr.findNow,hm,Instr.sameNow,if_true];rw[show(n==m)=false from by simpa using hne]
   exact I _ (λe d=>hi e (by simp[d])) h
def lY{n:Int}{v:Value}:∀(l:List MapEntry) (i:Nat),(∀e ∈ l,∃m,e.key= .int .i64 m)->lk n l=some v->
  ∃j e,l[j]? =some e/\e.key= .int .i64 n/\e.val=v/\Instr.findNow (.int .i64) (.int .i64 n) l i=some (some (i+j,v))/\
   ∀x,(∀e ∈ l.modify j (λe=>{e with key:=.int .i64 n,val:=x}),∃m,e.key= .int .i64 m)/\∀n',lk n' (l.modify j (λe=>{e with key:=.int .i64 n,val:=x}))=if n'=n then some x else lk n' l:=by
 intro l;induction l with
 |nil=>intro i _ h;cases h
 |cons e l ih=>
  intro i hi h;obtain⟨m,hm⟩:=hi e W7
  have hi':∀e ∈ l,∃m,e.key= .int .i64 m:=λe he=>hi e (by simp[he])
  simp only[lk,hm] at h;split at h
  ·rename_i he;subst he;simp only[X0] at h;refine⟨0,e,rfl,hm,h,?_,λx=>⟨λe' he'=>?_,λn'=>?_⟩⟩
   ·simp[Instr.findNow,hm,Instr.sameNow,h]
   ·simp only[List.modify_zero_cons,vN] at he';rcases he' with rfl|he'
    ·exact⟨n,rfl⟩
    ·exact hi' e' he'
   ·simp only[List.modify_zero_cons,lk,hm];split
    ·rfl
    ·rfl
  ·rename_i hne;obtain⟨j,e',h1,h2,h3,h4,h5⟩:=ih (i+1) hi' h;refine⟨j+1,e',by simpa using h1,h2,h3,?_,λx=>?_⟩
   ·simp only[Instr.findNow,hm,Instr.sameNow,if_true];rw[show(n==m)=false from by simpa using hne]
    simp only[h4];congr 3
    omega
   ·obtain⟨g1,g2⟩:=h5 x;refine⟨λe'' he''=>?_,λn'=>?_⟩
    ·simp only[List.modify_succ_cons,vN] at he'';rcases he'' with rfl|he''
     ·exact⟨m,hm⟩
     ·exact g1 e'' he''
    ·simp only[List.modify_succ_cons,lk,hm];split
     ·rename_i M;subst M;rw[if_neg (Ne.symm hne)]
     ·exact g2 n'
def b0T(o:Bool)(n:Int):Rd E w (c9g o n) (a1d o n):=by
 cases o
 ·exact .int _ _
 ·exact .bool _
def nH{t:TypeId}(h:P.underlying t=some (.int .i64))(b:Bool)(d:Nat)(n:Int):(Instr.checkKey b (d+1) t (.int .i64 n)).run P w= .ok () w:=by
 unfold Instr.checkKey;simp only[D1,run_underlying h,D6,z5]
def b0B{n:Int}(h:R2 .i64 n):(Lit.int .i64 n).wf=true:=by
 unfold R2 at h;unfold Lit.wf
 simpa using h
def mZ{P:Program}{f:TypeId}(h:a4i P f=true)(n:P.keyType f=true){a b:Int}(A:R2 .i64 a)(B:R2 .i64 b):∃l,keyOf P f (m8 a b)=some l:=by
 unfold a4i at h;split at h
 ·rename_i fs hu;split at h
  ·rename_i F x d;simp only[J5] at h;obtain⟨⟨⟨⟨⟨⟨⟨r,N⟩,o⟩,O⟩,v⟩,g⟩,c2⟩,sz⟩:=h;have z:∃m,P.types.size=m+1:=by
    cases j:P.types.size with
    |zero=>rw[j] at sz;simp at sz
    |succ m=>exact⟨m,rfl⟩
   obtain⟨m,M⟩:=z;have i64:∀{t:TypeId},c06 P t=true->P.underlying t=some (.int .i64)/\P.cellsOf t=1:=by
    intro t e;unfold c06 at e;split at e
    ·rename_i i;exact⟨i,F5 e⟩
    ·cases e
   obtain⟨u,Z⟩:=i64 v;obtain⟨U,q⟩:=i64 g;have o:=F5 o;have O:=F5 O;have c2:=F5 c2;unfold keyOf;simp only[hu];rw[if_pos (by simp[n,m8,Value.formed,hu,c2]),M]
   unfold Program.keyLits;simp only[hu,m8,Value.cells];rw[if_pos ⟨by rw[c2];rfl,by rw[←Array.all_toList,d];simp[r,N]⟩,d]
   simp[o,O,Z,q,Program.keyLits,u,U,b0B A,b0B B]
  ·cases h
 ·cases h
def a9J{P:Program}{w:World}{t:TypeId}(h:a3C P t=true):∃kt et,P.underlying t=some (.map kt et)/\WideMaps.KeyLaw P kt/\a4i P kt=true/\P.keyType kt=true/\(zeroValue et).run P w= .ok (.bool false) w:=by
 unfold a3C at h;split at h
 ·rename_i kt et hu;split at h
  ·rename_i b z;simp only[J5,vZ] at h;obtain⟨⟨⟨⟨rfl,f⟩,j⟩,l⟩,e⟩:=h;have W:(match P.underlying kt with|some (.array _ _)|some (.struct _)=>true|_=>false)=true:=by
    have d:=e;unfold a4i at d;split at d
    ·rename_i g;rw[g]
    ·cases d
   refine⟨kt,et,hu,Go.deep_law (m:=2) Z9 f j W,e,l,?_⟩
   cases hi:P.info? et with
   |none=>rw[hi] at z;cases z
   |some i=>
    rw[hi] at z;simp only[Option.bind_some] at z;simp[zeroValue,typeInfo,hi,z]
  ·cases h
 ·cases h
def c0s{H:X9}(hH:HeapOk E w H){t:TypeId}{m k:T}{M A:Value}{y:T}{side:Option Prop}(h:lA P H t m k=some (y,side))(Q:side.getD True)(hm:Rd E w m M)(hk:Rd E w k A):
  ∃r,(Instr.lookup t M A false).run P w= .ok r w/\Rd E w y r:=by
 unfold lA at h;split at h
 ·rename_i j n;split at h
  ·rename_i bo get hob;split at h
   ·rename_i hb;simp only[X0,U4] at h;obtain⟨rfl,rfl⟩:=h;rw[H9 hk];obtain⟨kt,et,hu,hku,hz⟩:=b0z (w:=w) hb;obtain⟨hL,⟨_,es,clock,hblk,hi,hg⟩,hN⟩:=hH.live j _ hob;cases hm with
    |mpr _ _=>
     have q:=nH (w:=w) hku es.isEmpty 9999 n;have N:=hg n;cases L:lk n es.toList with
     |none=>
      rw[L] at N;have F:=MapKept.run_findKey (w:=w) hku (mT es.toList 0 hi L);simp only[Instr.lookup,D1,run_underlying hu,D6,MapKept.run_getObj_map hblk,q,F,hz,z5,Bool.false_eq_true,if_false];exact⟨_,rfl,by rw[show get n=0 from N];exact b0T bo 0⟩
     |some v=>
      rw[L] at N;obtain⟨i,e,_,_,_,B,_⟩:=lY es.toList 0 hi L;have F:=MapKept.run_findKey (w:=w) hku B;simp only[Instr.lookup,D1,run_underlying hu,D6,MapKept.run_getObj_map hblk,q,F,z5,Bool.false_eq_true,if_false];exact⟨_,rfl,by rw[show v=_ from N];exact b0T bo _⟩
   ·cases h
  ·cases h
 ·rename_i j a b;split at h
  ·rename_i get hob;split at h
   ·rename_i hb;simp only[X0,U4] at h;obtain⟨rfl,rfl⟩:=h;obtain⟨R,J⟩:=Q;obtain⟨kt,et,hu,K,hp,f,hz⟩:=a9J (w:=w) hb;obtain⟨hL,⟨W,es,clock,hblk,hent,X,O⟩,hN⟩:=hH.live j _ hob;obtain⟨l,L⟩:=mZ hp f R J;have z:A=m8 a b:=by
     cases hk with
     |agg _ vs g C=>
      obtain⟨u,V,rfl⟩:∃u V,vs= #[u,V]:=by
       match vs,g with
       |⟨[u,V]⟩,_=>exact⟨u,V,rfl⟩
      rw[H9 (C 0 _ u rfl rfl),H9 (C 1 _ V rfl rfl)];rfl
    subst z;have o:∀e ∈ es.toList,∃l,keyOf P kt e.key=some l:=λe he=>by
     obtain⟨a',b',I,U,d,_⟩:=hent e he;rw[d];exact mZ hp f I U
    cases hm with
    |mpr _ _=>
     rcases K.find w L es.toList o with⟨x,h2⟩|⟨i,e,x,h2,h3⟩
     ·have hg:get a b=false:=by
       cases hg:get a b with
       |false=>rfl
       |true=>
        obtain⟨e,he,d⟩:=X a b hg;exact absurd d (h2 e he)
      exact⟨.bool false,by simp[Instr.lookup,run_underlying hu,MapKept.run_getObj_map hblk,K.check w _ L,x,hz,Result.andThen],by rw[hg];exact .bool false⟩
     ·obtain⟨a',b',_,_,hk1,hv⟩:=hent e (y4 h2);have he:m8 a' b'=m8 a b:=hk1.symm.trans h3;simp only[m8,Value.agg.injEq] at he;have h4:a'=a/\b'=b:=by simpa using he
      obtain⟨rfl,rfl⟩:=h4;exact⟨.bool (get a' b'),by simp[Instr.lookup,run_underlying hu,MapKept.run_getObj_map hblk,K.check w _ L,x,hv,Result.andThen],.bool _⟩
   ·cases h
  ·cases h
 ·cases h
def J9{p:Prop}(h:p:=by simp[D7,Op.operands]):p:=h
def vD{p:Prop}(h:p:=by simp[D7,Op.operands,Call.operands]):p:=h
def c6g{a:Act}{s:W4}{H:X9}{o:Oper}{t:T}{side:Option Prop}(h:L6 P s H o.op=some (t,side))(hs:side.getD True)(hH:HeapOk E w H)
  (hop:∀x ∈ D7 o.op,F0 E w a s x)
  (hpk:∀c x y,o.op= .pick c x y->(∀b,K6 s c= .bool b->b=true->F0 E w a s x)/\(∀b,K6 s c= .bool b->b=false->F0 E w a s y)):
  ∃v,(execOp a.eval o).run P w= .ok (.value v) w/\Rd E w t v:=by
 have lift:∀{m:Sem Value} {v:Value},m.run P w= .ok v w->(do pure (Next.value (←m)):Sem Next).run P w= .ok (.value v) w:=by
  intro m v hm;simp only[D1,hm,D6,z5]
 obtain⟨dst,op,ty,pos,after,guard⟩:=o;simp only at h hop hpk ⊢;unfold L6 at h;split at h
 case h_1 x=>
  simp only[X0,U4] at h;obtain⟨rfl,rfl⟩:=h;exact⟨a.eval x,rfl,hop x J9⟩
 case h_2 x=>
  simp only[X0,U4] at h;obtain⟨rfl,rfl⟩:=h;exact⟨a.eval x,rfl,hop x J9⟩
 case h_3 c x y=>
  cases hp:a2v s c x y with
  |none=>rw[hp] at h;cases h
  |some z=>
   rw[hp] at h;simp only[h9,X0,U4] at h;obtain⟨rfl,rfl⟩:=h;obtain⟨h1,h2⟩:=hpk c x y rfl;obtain⟨b,hb,hr⟩:=c3n hp (hop c (by simp[D7])) h1 h2
   refine⟨_,?_,hr⟩
   simp only[execOp,hb,asBool,D1,z5,D6]
 case h_4 t' x=>
  obtain⟨r,hr,hrd⟩:=b0K (P:=P) hH h hs (hop x J9)
  exact⟨r,lift hr,hrd⟩
 case h_5 x=>
  have hx:=hop x J9
  unfold F0 at hx;split at h
  ·rename_i k i j he;simp only[X0,U4] at h;obtain⟨rfl,rfl⟩:=h;rw[he] at hx;refine⟨a.eval x,?_,hx⟩
   obtain⟨ad,had⟩:∃ad,a.eval x= .pointer (some ad):=by first|exact⟨_,a1h hx⟩|exact b0v hx
   simp only[execOp,had];rfl
  ·rename_i cs he;simp only[X0,U4] at h;obtain⟨rfl,rfl⟩:=h;rw[he] at hx;refine⟨a.eval x,?_,hx⟩
   obtain⟨ad,had⟩:∃ad,a.eval x= .pointer (some ad):=by first|exact⟨_,a1h hx⟩|exact b0v hx
   simp only[execOp,had];rfl
  ·cases h
 case h_6 bop t' x y yt=>
  obtain⟨r,hr,hrd⟩:=c6b (P:=P) (ox:=x) (oy:=y) h hs (hop x J9) (hop y J9)
  exact⟨r,lift hr,hrd⟩
 case h_7 uop t' x=>
  obtain⟨r,hr,hrd⟩:=c8r (P:=P) h hs (hop x J9)
  exact⟨r,lift hr,hrd⟩
 case h_8 src dst' x=>
  obtain⟨r,hr,hrd⟩:=c0B (P:=P) hH h hs (hop x J9)
  exact⟨r,lift hr,hrd⟩
 case h_9 t' x f=>
  cases hp:wD P t' (K6 s x) f with
  |none=>rw[hp] at h;cases h
  |some z=>
   rw[hp] at h;simp only[h9,X0,U4] at h;obtain⟨rfl,rfl⟩:=h;obtain⟨r,hr,hrd⟩:=a2a (P:=P) hp (hop x J9)
   exact⟨r,lift hr,hrd⟩
 case h_10 t' x f=>
  cases hp:iA P t' (K6 s x) f with
  |none=>rw[hp] at h;cases h
  |some z=>
   rw[hp] at h;simp only[h9,X0,U4] at h;obtain⟨rfl,rfl⟩:=h;obtain⟨r,hr,hrd⟩:=b94 (P:=P) hp (hop x J9)
   exact⟨r,lift hr,hrd⟩
 case h_11 t' x i=>
  obtain⟨r,hr,hrd⟩:=a2c (P:=P) hH h hs (hop x J9) (hop i J9)
  exact⟨r,lift hr,hrd⟩
 case h_12 t' x i=>
  obtain⟨r,hr,hrd⟩:=b97 (P:=P) h hs (hop x J9) (hop i J9)
  exact⟨r,lift hr,hrd⟩
 case h_13 x i=>
  cases hp:qY (K6 s x) i with
  |none=>rw[hp] at h;cases h
  |some z=>
   rw[hp] at h;simp only[h9,X0,U4] at h;obtain⟨rfl,rfl⟩:=h;obtain⟨r,hr,hrd⟩:=a5W (P:=P) hp (hop x J9)
   exact⟨r,lift hr,hrd⟩
 case h_14 args argTypes=>
  split at h
  ·rename_i x t' ha hat;obtain rfl:args= #[x]:=Array.ext' sT
   obtain rfl:argTypes= #[t']:=Array.ext' a0K
   cases hp:a9T P t' (K6 s x) with
   |none=>rw[hp] at h;cases h
   |some n=>
    rw[hp] at h;simp only[h9,X0,U4] at h;obtain⟨rfl,rfl⟩:=h;have hn:=c6t (P:=P) (ty:=ty) hp (hop x vD)
    refine⟨_,?_,.int _ _⟩
    simp[execOp,resolve,invoke,builtin,hn,Result.andThen]
  ·cases h
 case h_15 t' x lo hi=>
  obtain⟨r,hr,hrd⟩:=b52 (P:=P) (lv:=lo.map a.eval) (hv:=hi.map a.eval) hH h hs (hop x J9)
   (λy hy=>by
    cases lo with
    |none=>cases hy
    |some z=>
     simp only[h9,X0] at hy;subst hy;exact⟨_,rfl,hop z J9⟩)
   (λy hy=>by
    cases hi with
    |none=>cases hy
    |some z=>
     simp only[h9,X0] at hy;subst hy;exact⟨_,rfl,hop z J9⟩)
   (λhn=>by cases lo with|none=>rfl|some z=>cases hn) (λhn=>by cases hi with|none=>rfl|some z=>cases hn)
  exact⟨r,lift hr,hrd⟩
 case h_16 t' parts=>
  cases hp:gX P s t' parts with
  |none=>rw[hp] at h;cases h
  |some z=>
   rw[hp] at h;simp only[h9,X0,U4] at h;obtain⟨rfl,rfl⟩:=h;obtain⟨r,hr,hrd⟩:=b46 (P:=P) hp (λp hp=>hop p.2 (by simp only[D7,Op.operands,List.mem_map];exact⟨p,hp,rfl⟩))
   exact⟨r,lift hr,hrd⟩
 case h_17 fn first captured=>
  split at h
  ·rename_i hf;simp only[X0,U4] at h;obtain⟨rfl,rfl⟩:=h;obtain rfl:first= #[]:=Array.ext' a4N
   refine⟨_,lift (m:=Instr.makeFunc fn (#[].map a.eval) (captured.map a.eval)) rfl,?_⟩
   simp only[Array.map_empty];refine .fn _ _ _ W7 λi t x ht hx=>?_
   simp only[oE,Array.getElem?_map,F1,Array.getElem?_toList] at ht hx
   obtain⟨p,hp,rfl⟩:=ht;obtain⟨q,hq,rfl⟩:=hx;rw[hp] at hq;simp only[X0] at hq;subst hq;exact hop p (by simp only[D7,Op.operands,Array.toList_append,List.mem_append];exact .inr (by simpa using Array.mem_of_getElem? hp))
  ·cases h
 case h_18 t' m k=>
  obtain⟨r,hr,hrd⟩:=c0s (P:=P) hH h hs (hop m J9) (hop k J9)
  exact⟨r,lift hr,hrd⟩
 case h_19 args argTypes=>
  split at h
  ·rename_i x y ha;obtain rfl:args= #[x,y]:=Array.ext' sT
   have hx:=hop x vD
   have hy:=hop y vD
   unfold c4U at h;split at h
   ·rename_i k m hm;split at h
    ·rename_i k2 n hn;simp only[X0,U4] at h;obtain⟨rfl,rfl⟩:=h;unfold F0 at hx hy;rw[hm] at hx;rw[hn] at hy;have ex:=H9 hx;have ey:=H9 hy;refine⟨_,?_,.int _ _⟩
     simp[execOp,resolve,invoke,builtin,Builtin.min_,Builtin.min2,ex,ey,Result.andThen,c8o]
    ·cases h
   ·cases h
  ·cases h
 case h_20 args argTypes=>
  split at h
  ·rename_i x t ha ht;obtain rfl:args= #[x]:=Array.ext' sT
   obtain rfl:argTypes= #[t]:=Array.ext' (by simpa using ht)
   have hx:=hop x vD
   unfold c4E at h;split at h
   ·rename_i e hu hv;simp only[X0,U4] at h;obtain⟨rfl,rfl⟩:=h;unfold F0 at hx;rw[hv] at hx;have ex:=vP hx;refine⟨_,?_,.int _ _⟩
    simp[execOp,resolve,invoke,builtin,Builtin.cap_,ex,Result.andThen,run_underlying hu,goInt]
   ·cases h
  ·cases h
 case h_21=>cases h
end
structure Ctx where
 w0:World
 X:Nat->Prop
 N0:Nat->Prop
 nt:Nat
 E0:Env
 m:Nat
structure Fr(w0:World)(X:Nat->Prop)(w:World):Prop where
 os:w.os=w0.os
 tape:w.tape=w0.tape
 output:w.output=w0.output
 size:w0.heap.size<=w.heap.size
 block:∀b,b<w0.heap.size->¬X b->w.heap[b]? =w0.heap[b]?
structure Keep(c:Ctx)(E:Env)(w:World):Prop where
 N:∀b,c.E0.N b->E.N b
 L:∀k,k<c.m->c.E0.L k->E.L k/\E.β k=c.E0.β k/\E.κ k=c.E0.κ k/\E.z k=c.E0.z k
 same:∀b,c.E0.N b->w.heap[b]? =c.w0.heap[b]?
 L2:∀k v,k<c.m->c.E0.L2 k v->E.L2 k v/\∀i j,E.b2 k v i j=c.E0.b2 k v i j/\E.c2 k v i j=c.E0.c2 k v i j
structure Inv(c:Ctx)(E:Env)(H:X9)(w:World):Prop where
 heap:HeapOk E w H
 nlt:∀b,E.N b->b<w.heap.size
 nnew:∀b,E.N b->c.N0 b∨c.w0.heap.size<=b∨c.X b
 bnew:∀k ob b,Y4 H k=some ob->A3 E k ob b->c.w0.heap.size<=b∨c.X b
 fr:Fr c.w0 c.X w
 keep:Keep c E w
structure Stp(E:Env)(w:World)(E':Env)(w':World):Prop where
 le:E.le E'
 same:∀b,E.N b->w'.heap[b]? =w.heap[b]?
structure Step(E:Env)(w:World)(E':Env)(w':World):Prop where
 le:E.le E'
 same:∀b,E.N b->w'.heap[b]? =w.heap[b]?
 nl:∀k,E'.L k->E.L k∨∀j,E.L j->j<k
def Step.stp{E E':Env}{w w':World}(h:Step E w E' w'):Stp E w E' w':=⟨h.le,h.same⟩
instance{E E':Env}{w w':World}:Coe (Step E w E' w') (Stp E w E' w'):=⟨Step.stp⟩
def Step.refl(E:Env)(w:World):Step E w E w:=⟨Env.le.refl E,λ_ _=>rfl,λ_ h=>.inl h⟩
def Step.trans{A B C:Env}{u v w:World}(h:Step A u B v)(k:Step B v C w):Step A u C w:=
 ⟨h.le.trans k.le,λb e=>(k.same b (h.le.N b e)).trans (h.same b e),λi hi=>(k.nl i hi).elim (h.nl i) λJ=>.inr λj d=>J j (h.le.L j d)⟩
def Stp.rd{E E':Env}{w w':World}(h:Stp E w E' w'){t:T}{x:Value}(X:Rd E w t x):Rd E' w' t x:=X.mono h.le h.same
def Step.rd{E E':Env}{w w':World}(h:Step E w E' w'){t:T}{x:Value}(X:Rd E w t x):Rd E' w' t x:=X.mono h.le h.same
def Keep.step{c:Ctx}{E E':Env}{w w':World}(h:Keep c E w)(d:Stp E w E' w'):Keep c E' w' where
 N:=λb B=>d.le.N b (h.N b B)
 L:=λk g l=>by
  obtain⟨e,f,n,o⟩:=h.L k g l;exact⟨d.le.L k e,(d.le.β k e).trans f,(d.le.κ k e).trans n,(d.le.z k e).trans o⟩
 same:=λb B=>(d.same b (h.N b B)).trans (h.same b B)
 L2:=λk v g l=>by
  obtain⟨e,f⟩:=h.L2 k v g l;exact⟨d.le.L2 k v e,λi j=>⟨(d.le.b2 k v i j e).trans (f i j).1,(d.le.c2 k v i j e).trans (f i j).2⟩⟩
def Fr.heap{w0 w w':World}{X:Nat->Prop}(h:Fr w0 X w)(o:w'.os=w.os)(t:w'.tape=w.tape)(hp:w'.output=w.output)(f:w.heap.size<=w'.heap.size)
  (B:∀b,b<w0.heap.size->¬X b->w'.heap[b]? =w.heap[b]?):Fr w0 X w':=
 ⟨o.trans h.os,t.trans h.tape,hp.trans h.output,Nat.le_trans h.size f,λb e d=>(B b e d).trans (h.block b e d)⟩
def Env.push(E:Env)(k b κ z:Nat):Env where
 N:=E.N
 L:=λi=>E.L i∨i=k
 β:=λi=>if i=k then b else E.β i
 κ:=λi=>if i=k then κ else E.κ i
 z:=λi=>if i=k then(z,[]) else E.z i
 L2:=E.L2
 b2:=E.b2
 c2:=E.c2
def Env.push_le{E:Env}{k b κ z:Nat}(h:¬E.L k):E.le (E.push k b κ z):=
 ⟨λ_ h=>h,λ_ h=>.inl h,λi hi=>if_neg b9t,λi hi=>if_neg b9t,λi hi=>if_neg b9t,λ_ _ h=>h,λ_ _ _ _ _=>rfl,λ_ _ _ _ _=>rfl⟩
def k6{H:X9}{x:Option Ob}{k:Nat}:Y4 (H++[x]) k=if k<H.length then Y4 H k else if k=H.length then x else none:=by
 unfold Y4;rw[List.getElem?_append]
 split
 ·rfl
 ·split
  ·rename_i h;subst h;simp
  ·rename_i h1 h2;rw[List.getElem?_eq_none C7]
   rfl
def G1{H:X9}{k:Nat}{ob:Ob}(h:Y4 H k=some ob):k<H.length:=by
 rcases Nat.lt_or_ge k H.length with h'|h'
 ·exact h'
 ·unfold Y4 at h;rw[List.getElem?_eq_none h'] at h
  cases h
def U2{H:X9}{x:Option Ob}{i k:Nat}(hi:i<H.length):Y4 (H.set i x) k=if k=i then x else Y4 H k:=by
 unfold Y4;rw[List.getElem?_set]
 split
 ·rename_i h;subst h;simp
 ·rename_i h;rw[if_neg (λe=>h e.symm)]
section
variable {c:Ctx} {E:Env} {H:X9} {w w':World} {P:Program}
def T5.mono{E':Env}{k k':Nat}{A:Arr}(h:T5 E w k A)(l:∀t x,Rd E w t x->Rd E' w' t x)(B:E'.β k'=E.β k)(e:E'.κ k'=E.κ k)(Z:E'.z k'=E.z k)(W:E.κ k≠0->w'.heap[E.β k]? =w.heap[E.β k]?):T5 E' w' k' A:=by
 obtain⟨q,f,g,d,o,cs,ty,C,n,v⟩:=h;refine⟨by rw[Z];exact q,by rw[e];exact f,g,d,o,cs,ty,λh=>by rw[e] at h;rw[B,W h];exact C h,by rw[e,Z];exact n,λi j t hi J=>?_⟩
 obtain⟨u,U,r⟩:=v i j t hi J;exact⟨u,U,l t u r⟩
def T5.closedN{E':Env}{k k':Nat}{A:Arr}(h:T5 E w k A)(I:A.cl=true)(F:∀b,E.N b->E'.N b)(q:∀b,E.N b->w'.heap[b]? =w.heap[b]?)(B:E'.β k'=E.β k)(f:E'.κ k'=E.κ k)(Z:(E'.z k').1=A.sz)(d:∀cs n,Siz cs n (E.z k).2->Siz cs n (E'.z k').2)(W:E.κ k≠0->w'.heap[E.β k]? =w.heap[E.β k]?):T5 E' w' k' A:=by
 obtain⟨L,l,o,e,g,cs,ty,C,v,x⟩:=h;refine⟨Z,by rw[f];exact l,o,e,g,cs,ty,λh=>by rw[f] at h;rw[B,W h];exact C h,by rw[f];exact d _ _ v,λi j t hi J=>?_⟩
 obtain⟨u,U,r⟩:=x i j t hi J;exact⟨u,U,A7 (E:=E) (E':=E') F (r.mono (E:=E) (E':=E) (Env.le.refl E) q) (g I i t hi (y4 J))⟩
def T5.closed{E':Env}{k k':Nat}{A:Arr}(h:T5 E w k A)(e:A.cl=true)(f:∀b,E.N b->E'.N b)(d:∀b,E.N b->w'.heap[b]? =w.heap[b]?)(B:E'.β k'=E.β k)(g:E'.κ k'=E.κ k)(Z:E'.z k'=E.z k)(W:E.κ k≠0->w'.heap[E.β k]? =w.heap[E.β k]?):T5 E' w' k' A:=
 h.closedN e f d B g (by rw[Z];exact h.1) (λ_ _ h=>by rw[Z];exact h) W
def FamOk.mono{E':Env}{k v:Nat}{ty:TypeId}{sz n:Nat}{row:Nat->List T}(h:FamOk E w k v ty sz n row)(e:E.L k)(hs:Stp E w E' w')(hw:∀b,A3 E k (.fam v ty sz n row) b->w'.heap[b]? =w.heap[b]?):FamOk E' w' k v ty sz n row:=by
 have h2:=h.l2;refine⟨hs.le.L2 k v h2,h.arr.mono (λt x=>hs.rd) (hs.le.β k e) (hs.le.κ k e) (hs.le.z k e) (λr=>hw _ (.inl ⟨r,rfl⟩)),h.fam,λi j oty osz on orow hi hj=>?_,λi j I J oty osz on orow O o g orow' hi l hj f hc d q=>?_⟩
 ·obtain⟨h3,h4⟩:=h.own i j oty osz on orow hi hj;refine⟨h3.closed rfl hs.le.N hs.same (hs.le.b2 k v i j h2) (hs.le.c2 k v i j h2) rfl (λhc=>hw _ (.inr ⟨v,ty,sz,n,row,i,j,oty,osz,on,orow,rfl,hi,hj,hc,rfl⟩)),?_⟩
  rw[hs.le.b2 k v i j h2,hs.le.c2 k v i j h2,hs.le.κ k e,hs.le.β k e];exact h4
 ·rw[hs.le.c2 k v _ _ h2] at hc d;rw[hs.le.b2 k v _ _ h2,hs.le.b2 k v _ _ h2] at q;exact h.inj i j I J oty osz on orow O o g orow' hi l hj f hc d q
def zZ.mono{E':Env}{k:Nat}{ob:Ob}(h:zZ E w k ob)(e:E.L k)(d:Stp E w E' w')(W:∀b,A3 E k ob b->w'.heap[b]? =w.heap[b]?):zZ E' w' k ob:=by
 cases ob with
 |mp o get=>
  obtain⟨f,j,C,i,g⟩:=h;exact⟨by rw[d.le.κ k e];exact f,j,C,by rw[d.le.β k e,W _ (.inl ⟨f,rfl⟩)];exact i,g⟩
 |mp2 get=>
  obtain⟨f,j,C,i,g⟩:=h;exact⟨by rw[d.le.κ k e];exact f,j,C,by rw[d.le.β k e,W _ (.inl ⟨f,rfl⟩)];exact i,g⟩
 |fam=>exact FamOk.mono h e d W
 |arr=>exact T5.mono h (λt x=>d.rd) (d.le.β k e) (d.le.κ k e) (d.le.z k e) (λf=>W _ (.inl ⟨f,rfl⟩))
 |bys=>exact T5.mono h (λt x=>d.rd) (d.le.β k e) (d.le.κ k e) (d.le.z k e) (λf=>W _ (.inl ⟨f,rfl⟩))
def A3.back{E':Env}{k:Nat}{ob:Ob}{b:Nat}(h:A3 E' k ob b)(l:zZ E w k ob)(g:E.L k)(e:E.le E'):A3 E k ob b:=by
 rcases h with⟨f,rfl⟩|⟨v,ty,sz,n,row,i,j,O,z,on,o,rfl,hi,J,C,rfl⟩
 ·rw[e.κ k g] at f;exact .inl ⟨f,e.β k g⟩
 ·have d:=FamOk.l2 l;rw[e.c2 k v i j d] at C;exact .inr ⟨v,ty,sz,n,row,i,j,O,z,on,o,rfl,hi,J,C,e.b2 k v i j d⟩
def T5.ob{k:Nat}{ob:Ob}(h:T5 E w k ob.toArr)(hi:ob.isArr=true):zZ E w k ob:=by
 cases ob<;>first|exact h|cases hi
def Inv.pushO(h:Inv c E H w)(O:w'.os=w.os)(M:w'.tape=w.tape)(hp:w'.output=w.output)(Z:w.heap.size<=w'.heap.size)(C:∀b,b<w.heap.size->w'.heap[b]? =w.heap[b]?)
  (ob:Ob) (b κ:Nat) (F:∀v ty sz n row,ob≠ .fam v ty sz n row) (l:κ≠0->w.heap.size<=b) (W:Step E w (E.push H.length b κ ob.toArr.sz) w'->zZ (E.push H.length b κ ob.toArr.sz) w' H.length ob):
  Inv c (E.push H.length b κ ob.toArr.sz) (H++[some ob]) w'/\Step E w (E.push H.length b κ ob.toArr.sz) w':=by
 have g:¬E.L H.length:=λN=>by have:=h.heap.lt _ N;omega
 have r:E.le (E.push H.length b κ ob.toArr.sz):=Env.push_le g;have d:Step E w (E.push H.length b κ ob.toArr.sz) w':=⟨r,λb l=>C b (h.nlt b l),λi hi=>hi.elim .inl λe=>.inr λj U=>e▸h.heap.lt j U⟩
 have I:(E.push H.length b κ ob.toArr.sz).β H.length=b:=if_pos rfl;have z:(E.push H.length b κ ob.toArr.sz).κ H.length=κ:=if_pos rfl;have hold:∀k ob' x,Y4 H k=some ob'->A3 (E.push H.length b κ ob.toArr.sz) k ob' x->A3 E k ob' x/\x<w.heap.size:=λk ob' x hk hx=>by
  obtain⟨u,A,J⟩:=h.heap.live k ob' hk;have:=hx.back A u r;exact⟨this,h.heap.blt hk this⟩
 have B:∀x,A3 (E.push H.length b κ ob.toArr.sz) H.length ob x->w.heap.size<=x:=λx hx=>by
  rcases hx with⟨q,rfl⟩|q
  ·rw[z] at q;rw[I];exact l q
  ·exact(q.not F).elim
 have key:∀k ob',Y4 (H++[some ob]) k=some ob'->Y4 H k=some ob'∨(k=H.length/\ob'=ob):=λk ob' hk=>by
  rw[k6] at hk;split at hk
  ·exact .inl hk
  ·split at hk
   ·rename_i R;simp only[X0] at hk;exact .inr ⟨R,hk.symm⟩
   ·cases hk
 refine⟨⟨⟨λk ob' hk=>?_,λk k' o o' x hk hk' hx f=>?_,λk hk=>?_,λk v hk=>.inl (h.heap.l2 k v hk),λk ob' v hk t=>?_⟩,λb l=>by have:=h.nlt b l;omega,h.nnew,λk ob' x hk hx=>?_,h.fr.heap O M hp Z (λb q V=>C b b0E),h.keep.step d⟩,d⟩
 ·rcases key k ob' hk with hk|⟨rfl,rfl⟩
  ·obtain⟨u,A,J⟩:=h.heap.live k ob' hk;exact⟨.inl u,A.mono u d (λx hx=>C x (h.heap.blt hk hx)),λx hx=>J x (hold k ob' x hk hx).1⟩
  ·exact⟨.inr rfl,W d,λx hx Q=>by have:=h.nlt x Q;have:=B x hx;omega⟩
 ·rcases key k o hk with hk|⟨rfl,rfl⟩
  ·obtain⟨a1,a2⟩:=hold k o x hk hx;rcases key k' o' hk' with hk'|⟨rfl,rfl⟩
   ·exact h.heap.inj k k' o o' x hk hk' a1 (hold k' o' x hk' f).1
   ·have:=B x f;omega
  ·rcases key k' o' hk' with hk'|⟨rfl,rfl⟩
   ·obtain⟨a1,a2⟩:=hold k' o' x hk' f;have:=B x hx;omega
   ·rfl
 ·rcases hk with hk|hk
  ·have:=h.heap.lt k hk;simp;omega
  ·simp;omega
 ·rcases key k ob' hk with hk|⟨rfl,rfl⟩
  ·exact h.heap.cur k ob' v hk t
  ·exact absurd (h.heap.l2 _ v t) g
 ·rcases key k ob' hk with hk|⟨rfl,rfl⟩
  ·exact h.bnew k ob' x hk (hold k ob' x hk hx).1
  ·have:=h.fr.size;have:=B x hx;exact .inl Z9
def Inv.push(h:Inv c E H w)(O:w'.os=w.os)(r:w'.tape=w.tape)(hp:w'.output=w.output)(Z:w.heap.size<=w'.heap.size)(W:∀b,b<w.heap.size->w'.heap[b]? =w.heap[b]?)
  (ob:Ob) (b κ:Nat) (cs:Array Value) (ty:TypeId) (B:κ≠0->w.heap.size<=b) (g:κ≠0->w'.heap[b]? =some (.cells cs ty (0,0))) (o:cs.size=κ*ob.toArr.sz) (N:ob.toArr.n<=κ)
  (C:∀i,i<ob.toArr.n->(ob.toArr.row i).length=ob.toArr.sz) (x:∀i t,i<ob.toArr.n->t ∈ ob.toArr.row i->H7 t=true) (L:ob.toArr.cl=true->∀i t,i<ob.toArr.n->t ∈ ob.toArr.row i->W5 t=true)
  (R:∀i j t,i<ob.toArr.n->(ob.toArr.row i)[j]? =some t->∃u,cs[i*ob.toArr.sz+j]? =some u/\Rd E w t u) (A:ob.isArr=true:=by rfl):
  Inv c (E.push H.length b κ ob.toArr.sz) (H++[some ob]) w'/\Step E w (E.push H.length b κ ob.toArr.sz) w':=by
 have l:(E.push H.length b κ ob.toArr.sz).β H.length=b:=if_pos rfl;have d:(E.push H.length b κ ob.toArr.sz).κ H.length=κ:=if_pos rfl;have f:(E.push H.length b κ ob.toArr.sz).z H.length=(ob.toArr.sz,[]):=if_pos rfl;refine h.pushO O r hp Z W ob b κ (by rintro v ty sz n row rfl;cases A) B λe=>T5.ob ⟨by rw[f],by rw[d];exact N,C,x,L,cs,ty,by rw[l,d];exact g,
     by rw[d,f];exact a9m (Nat.le_of_eq o.symm),λi j t hi J=>?_⟩ A
 obtain⟨u,U,q⟩:=R i j t hi J;exact⟨u,U,e.rd q⟩
def Inv.to(h:Inv c E H w){E':Env}{H':X9}(O:w'.os=w.os)(t:w'.tape=w.tape)(hp:w'.output=w.output)(z:w.heap.size<=w'.heap.size)(hstep:Stp E w E' w')(k:Nat)(Gv:Nat->Prop)
  (hN':∀b,E'.N b->E.N b) (hold:∀i o,Y4 H' i=some o->i≠k->Y4 H i=some o/\¬Gv i)
  (hnew:∀o,Y4 H' k=some o->E'.L k/\zZ E' w' k o/\∀b,A3 E' k o b->w.heap.size<=b∨∃m o',Gv m/\Y4 H m=some o'/\A3 E m o' b)
  (hw:∀b,b<w.heap.size->(∀m o,Gv m->Y4 H m=some o->¬A3 E m o b)->w'.heap[b]? =w.heap[b]?)
  (lt:∀i,E'.L i->i<H'.length) (l2:∀i v,E'.L2 i v->E'.L i) (cur:∀o i v,Y4 H' i=some o->E'.L2 i v->∃v0 ty sz n row,o= .fam v0 ty sz n row/\v<=v0):
  Inv c E' H' w':=by
 have hlive:=h.heap.live;have ob:∀i o b,Y4 H' i=some o->i≠k->A3 E' i o b->Y4 H i=some o/\¬Gv i/\A3 E i o b:=λi o b hi e hb=>by
  obtain⟨h1,h2⟩:=hold i o hi e;obtain⟨e1,e2,_⟩:=hlive i o h1;exact⟨h1,h2,hb.back e2 e1 hstep.le⟩
 refine⟨⟨λi o hi=>?_,λi i' o o' b hi hi' hb hb'=>?_,lt,l2,λi o v hi hv=>cur o i v hi hv⟩,λb hb=>by have:=h.nlt b (hN' b hb);omega,λb hb=>h.nnew b (hN' b hb),λi o b hi hb=>?_,
  h.fr.heap O t hp z (λb h1 h2=>hw b b0E (λm o hm hmo hb=>?_)),h.keep.step hstep⟩
 ·by_cases hik:i=k
  ·subst hik;obtain⟨n1,n2,n3⟩:=hnew o hi;refine⟨n1,n2,λb hb hN=>?_⟩
   rcases n3 b hb with h3|⟨m,o',hm,hmo,hmb⟩
   ·have:=h.nlt b (hN' b hN);omega
   ·exact(hlive m o' hmo).2.2 b hmb (hN' b hN)
  ·obtain⟨h1,h2⟩:=hold i o hi hik;obtain⟨e1,e2,e3⟩:=hlive i o h1;refine⟨hstep.le.L i e1,e2.mono e1 hstep (λb hb=>hw b (e2.blt hb) λm o' hm hmo hmb=>?_),λb hb hN=>e3 b (ob i o b hi hik hb).2.2 (hN' b hN)⟩
   have:=h.heap.inj i m o o' b h1 hmo hb hmb;exact h2 (this▸hm)
 ·by_cases hik:i=k
  ·by_cases hik':i'=k
   ·rw[hik,hik']
   ·subst hik;obtain⟨q1,q2,q3⟩:=ob i' o' b hi' hik' hb';rcases(hnew o hi).2.2 b hb with h3|⟨m,o2,hm,hmo,hmb⟩
    ·have:=h.heap.blt q1 q3;omega
    ·have:=h.heap.inj i' m o' o2 b q1 hmo q3 hmb;exact absurd (this▸hm) q2
  ·obtain⟨q1,q2,q3⟩:=ob i o b hi hik hb;by_cases hik':i'=k
   ·subst hik';rcases(hnew o' hi').2.2 b hb' with h3|⟨m,o2,hm,hmo,hmb⟩
    ·have:=h.heap.blt q1 q3;omega
    ·have:=h.heap.inj i m o o2 b q1 hmo q3 hmb;exact absurd (this▸hm) q2
   ·obtain⟨f,g,d⟩:=ob i' o' b hi' hik' hb';exact h.heap.inj i i' o o' b q1 f q3 d
 ·by_cases hik:i=k
  ·subst hik;rcases(hnew o hi).2.2 b hb with h3|⟨m,o2,hm,hmo,hmb⟩
   ·have:=h.fr.size;exact .inl Z9
   ·exact h.bnew m o2 b hmo hmb
  ·obtain⟨q1,q2,q3⟩:=ob i o b hi hik hb;exact h.bnew i o b q1 q3
 ·rcases h.bnew m o b hmo hb with h3|h3
  ·omega
  ·exact h2 h3
def B4(w:World)(o:Obj):(w.alloc o).os=w.os/\(w.alloc o).tape=w.tape/\(w.alloc o).output=w.output/\(∀b,b<w.heap.size->(w.alloc o).heap[b]? =w.heap[b]?)/\(w.alloc o).heap[w.heap.size]? =some o:=
 ⟨rfl,rfl,rfl,λ_ h=>heap_alloc_old w o h,heap_alloc_new w o⟩
def a88(h:Inv c E H w){t:TypeId}{y:T}{H':X9}(he:uL P H t=some (y,H')):
  ∃r w' E',(Instr.makeMap t none).run P w= .ok r w'/\Rd E' w' y r/\Inv c E' H' w'/\Step E w E' w':=by
 have M:∀o,∃r w' E',(Instr.makeMap t none).run P w= .ok r w'/\Rd E' w' (.mpr H.length) r/\Inv c E' (H++[some (.mp o λ_=>0)]) w'/\Step E w E' w':=by
  intro o;obtain⟨e,f,g,A,i⟩:=B4 w (.map #[] 0);have:=h.pushO (w':=w.alloc (.map #[] 0)) e f g W7 A (.mp o λ_=>0) w.heap.size 1 (by rintro v ty sz n row he;cases he) (λ_=>U9 _) (λ_=>⟨by rw[show(E.push H.length w.heap.size 1 (Ob.mp o λ_=>0).toArr.sz).κ H.length=1 from if_pos rfl];simp, #[],0,by rw[show(E.push H.length w.heap.size 1 (Ob.mp o λ_=>0).toArr.sz).β H.length=w.heap.size from if_pos rfl];exact i,W7,λn=>rfl⟩)
  refine⟨_,_,_,rfl,?_,this.1,this.2⟩
  have R:=Rd.mpr (E:=E.push H.length w.heap.size 1 (Ob.mp o λ_=>0).toArr.sz) (w:=w.alloc (.map #[] 0)) H.length (.inr rfl)
  rw[show(E.push H.length w.heap.size 1 (Ob.mp o λ_=>0).toArr.sz).β H.length=w.heap.size from if_pos rfl] at R
  exact R
 have d:∃r w' E',(Instr.makeMap t none).run P w= .ok r w'/\Rd E' w' (.mpr H.length) r/\Inv c E' (H++[some (.mp2 λ_ _=>false)]) w'/\Step E w E' w':=by
  obtain⟨e,f,g,A,i⟩:=B4 w (.map #[] 0);have:=h.pushO (w':=w.alloc (.map #[] 0)) e f g W7 A (.mp2 λ_ _=>false) w.heap.size 1 (by rintro v ty sz n row he;cases he) (λ_=>U9 _) (λ_=>⟨by rw[show(E.push H.length w.heap.size 1 (Ob.mp2 λ_ _=>false).toArr.sz).κ H.length=1 from if_pos rfl];simp, #[],0,by rw[show(E.push H.length w.heap.size 1 (Ob.mp2 λ_ _=>false).toArr.sz).β H.length=w.heap.size from if_pos rfl];exact i,W7,λa b j=>by(cases j),W7⟩)
  refine⟨_,_,_,rfl,?_,this.1,this.2⟩
  have R:=Rd.mpr (E:=E.push H.length w.heap.size 1 (Ob.mp2 λ_ _=>false).toArr.sz) (w:=w.alloc (.map #[] 0)) H.length (.inr rfl)
  rw[show(E.push H.length w.heap.size 1 (Ob.mp2 λ_ _=>false).toArr.sz).β H.length=w.heap.size from if_pos rfl] at R
  exact R
 unfold uL at he;split at he
 ·simp only[X0,U4] at he;obtain⟨rfl,rfl⟩:=he;exact M true
 ·simp only[X0,U4] at he;obtain⟨rfl,rfl⟩:=he;exact M false
 ·split at he
  ·simp only[X0,U4] at he;obtain⟨rfl,rfl⟩:=he;exact d
  ·cases he
def b47(h:Inv c E H w){t:TypeId}{cs:List T}{y:T}{H':X9}{side:Option Prop}(d:a0f P H t cs=some (y,H',side)){vs:Array Value}(hv:tC E w cs vs):
  ∃E',Inv c E' H' (w.alloc (.cells vs t))/\Step E w E' (w.alloc (.cells vs t))/\Rd E' (w.alloc (.cells vs t)) y (.pointer (some ⟨w.heap.size,0,none⟩)):=by
 unfold a0f at d;split at d
 ·rename_i e;simp only[X0,U4] at d;obtain⟨rfl,rfl,rfl⟩:=d;obtain⟨g,l,n,A,o⟩:=B4 w (.cells vs t);have:=h.push g l n W7 A (.arr (cs.all W5) 1000000 cs.length 1 λ_=>cs) w.heap.size 1 vs t (λ_=>U9 _) (λ_=>o) (by simp only[Ob.toArr,Nat.one_mul];exact hv.1.symm) (U9 1) (λ_ _=>rfl) (λi t _ ht=>b9.1 e t ht)
   (λhcl i t hi ht=>b9.1 hcl t ht) (λi j t hi hj=>by
    obtain rfl:i=0:=by simp only[Ob.toArr] at hi;omega
    have f:j<cs.length:=(u6.1 hj).1
    have J:vs[j]? =some (vs[j]'(by have:=hv.1;omega)):=tB _
    exact⟨_,by rw[Nat.zero_mul,D4];exact J,hv.2 _ _ _ hj J⟩)
  refine⟨_,this.1,this.2,?_⟩
  have r:=Rd.ref (E:=E.push H.length w.heap.size 1 cs.length) (w:=w.alloc (.cells vs t)) H.length 0 0 (.inr rfl);have B:(E.push H.length w.heap.size 1 cs.length).β H.length=w.heap.size:=if_pos rfl;rw[B,Nat.zero_mul,D4] at r;exact r
 ·cases d
def c9n(h:Inv c E H w){t:TypeId}{r:Nat}{z:List T}{vs:Array Value}(hr:r<H.length)(l:¬E.L r)(hone:z.all H7=true)(hv:tC E w z vs):
  ∃E',Inv c E' (H.set r (some (.arr (z.all W5) 1000000 z.length 1 λ_=>z))) (w.alloc (.cells vs t))/\Stp E w E' (w.alloc (.cells vs t))/\Rd E' (w.alloc (.cells vs t)) (.ref r 0 0) (.pointer (some ⟨w.heap.size,0,none⟩))/\∀k,E'.L k->E.L k∨k=r:=by
 obtain⟨B,C,q,A,a5⟩:=B4 w (.cells vs t);let E':=E.push r w.heap.size 1 z.length
 have d:Stp E w E' (w.alloc (.cells vs t)):=⟨Env.push_le l,λb hb=>A b (h.nlt b hb)⟩
 have hb:E'.β r=w.heap.size:=if_pos rfl;have hκ:E'.κ r=1:=if_pos rfl;have hz:E'.z r=(z.length,[]):=if_pos rfl;refine⟨E',h.to B C q W7 d r (λ_=>False) (λ_ h=>h) (λi o hi f=>?_) (λo hi=>?_) (λb hb _=>A b hb) (λi hi=>?_) (λi v hv=>.inl (h.heap.l2 i v hv)) (λo i v hi hv=>?_),d,?_,λ_ h=>h⟩
 ·rw[U2 hr,if_neg f] at hi;exact⟨hi,λh=>h⟩
 ·rw[U2 hr,if_pos rfl] at hi;simp only[X0] at hi;subst hi;refine⟨.inr rfl,T5.ob ⟨by rw[hz];rfl,by rw[hκ];exact U9 1,λ_ _=>rfl,λi t _ ht=>b9.1 hone t ht,λhcl i t hi ht=>b9.1 hcl t ht,vs,t,by rw[hb];exact λ_=>a5,by rw[hκ,hz];simp only[Ob.toArr,Nat.one_mul];exact a9m (Nat.le_of_eq hv.1),λi j u hi hj=>?_⟩ rfl,λb hb'=>?_⟩
  ·obtain rfl:i=0:=by simp only[Ob.toArr] at hi;omega
   have x:j<z.length:=(u6.1 hj).1
   have J:vs[j]? =some (vs[j]'(by have:=hv.1;omega)):=tB _
   exact⟨_,by rw[Nat.zero_mul,D4];exact J,d.rd (hv.2 _ _ _ hj J)⟩
  ·rcases hb' with⟨_,rfl⟩|hb'
   ·rw[hb];exact .inl (U9 _)
   ·exact(hb'.not (by rintro v ty sz n row g;cases g)).elim
 ·rw[zW];rcases hi with hi|rfl
  ·exact h.heap.lt i hi
  ·exact hr
 ·rw[U2 hr] at hi;split at hi
  ·rename_i g;subst g;exact absurd (h.heap.l2 _ v hv) l
  ·exact h.heap.cur i o v hi hv
 ·have e:=Rd.ref (E:=E') (w:=w.alloc (.cells vs t)) r 0 0 (.inr rfl);rw[hb,Nat.zero_mul,D4] at e;exact e
end
end Go.SS
