/- A part of the proof. -/
import Derived.Test.YtghgljelnhfihaaGreatSS1
namespace Go.SS
open Go.RowKit

structure Env where
 N:Nat->Prop
 L:Nat->Prop
 β:Nat->Nat
 κ:Nat->Nat
 z:Nat->Nat×List Value
 L2:Nat->Nat->Prop
 b2:Nat->Nat->Nat->Nat->Nat
 c2:Nat->Nat->Nat->Nat->Nat

inductive Rd(E:Env)(w:World):T->Value->Prop
 |int (k:IntKind) (n:Int):Rd E w (.int k n) (.int k n)
 |bool (b:Bool):Rd E w (.bool b) (.bool b)
 |str (l:List UInt8):Rd E w (.str l) (.string ⟨l.toArray⟩)
 |v (x:Value):Rd E w (.v x) x
 |slNil (sz:Nat) (row:Nat->List T):Rd E w (.sl sz 0 row) (.slice none 0 0)
 |sl (sz n:Nat) (row:Nat->List T) (b off cap:Nat) (u:Nat->Nat->Value) (hN:E.N b) (hc:n<=cap)
   (hl:∀i,i<n->(row i).length=sz) (h1:∀i t,i<n->t ∈ row i->J7 t=true/\W5 t=true)
   (hr:∀i j t,i<n->(row i)[j]? =some t->w.cell? ⟨b,off+i*sz+j,none⟩=some (u i j))
   (ht:∀i j t,i<n->(row i)[j]? =some t->Rd E w t (u i j)):Rd E w (.sl sz n row) (.slice (some ⟨b,off,none⟩) n cap)
 |bysNil:Rd E w (.bys []) (.slice none 0 0)
 |slEmp (sz:Nat) (row:Nat->List T) (a:Addr):Rd E w (.sl sz 0 row) (.slice (some a) 0 0)
 |bysEmp (a:Addr):Rd E w (.bys []) (.slice (some a) 0 0)
 |bys (l:List UInt8) (b off cap:Nat) (hN:E.N b) (hc:l.length<=cap)
   (hr:∀i x,l[i]? =some x->w.cell? ⟨b,off+i,none⟩=some (.int .u8 (x.toNat:Int))):Rd E w (.bys l) (.slice (some ⟨b,off,none⟩) l.length cap)
 |bref (cells:List T) (b off:Nat) (u:Nat->Value) (hN:E.N b) (h1:∀t,t ∈ cells->W5 t=true)
   (hr:∀j t,cells[j]? =some t->w.cell? ⟨b,off+j,none⟩=some (u j))
   (ht:∀j t,cells[j]? =some t->Rd E w t (u j)):Rd E w (.bref cells) (.pointer (some ⟨b,off,none⟩))
 |ref (k i j:Nat) (hL:E.L k):Rd E w (.ref k i j) (.pointer (some ⟨E.β k,i*(E.z k).1+j,none⟩))
 |osl (k off n o:Nat) (a:Option Addr) (hL:E.L k) (hn:off+n<=E.κ k) (ho:off<E.κ k∨off=0->o=off*(E.z k).1) (ha:E.κ k≠0->a=some ⟨E.β k,o,none⟩):Rd E w (.osl k off n) (.slice a n (E.κ k-off))
 |posl (k v i j n:Nat) (a:Option Addr) (hL:E.L2 k v) (hn:n<=E.c2 k v i j) (ha:E.c2 k v i j≠0->a=some ⟨E.b2 k v i j,0,none⟩):Rd E w (.posl k v i j n) (.slice a n (E.c2 k v i j))
 |pref (k v i j z a b:Nat) (hL:E.L2 k v):Rd E w (.pref k v i j z a b) (.pointer (some ⟨E.b2 k v i j,a*z+b,none⟩))
 |agg (cs:List T) (vs:Array Value) (hl:cs.length=vs.size) (ht:∀(i:Nat) (t:T) (x:Value),cs[i]? =some t->vs[i]? =some x->Rd E w t x):Rd E w (.agg cs) (.agg vs)
 |tup (cs:List T) (vs:Array Value) (hl:cs.length=vs.size) (ht:∀(i:Nat) (t:T) (x:Value),cs[i]? =some t->vs[i]? =some x->Rd E w t x):Rd E w (.tup cs) (.tuple vs)
 |fn (f:Fn) (cs:List T) (vs:Array Value) (hl:cs.length=vs.size) (ht:∀(i:Nat) (t:T) (x:Value),cs[i]? =some t->vs[i]? =some x->Rd E w t x):Rd E w (.fn f cs) (.func f #[] vs)
 |mpr (k:Nat) (hL:E.L k):Rd E w (.mpr k) (.map (some (E.β k)))
 |emp (a:Option Addr):Rd E w .emp (.slice a 0 0)
 |und (x:Value):Rd E w .und x

structure Env.le(E E':Env):Prop where
 N:∀b,E.N b->E'.N b
 L:∀k,E.L k->E'.L k
 β:∀k,E.L k->E'.β k=E.β k
 κ:∀k,E.L k->E'.κ k=E.κ k
 z:∀k,E.L k->E'.z k=E.z k
 L2:∀k v,E.L2 k v->E'.L2 k v
 b2:∀k v i j,E.L2 k v->E'.b2 k v i j=E.b2 k v i j
 c2:∀k v i j,E.L2 k v->E'.c2 k v i j=E.c2 k v i j

theorem Env.le.refl(E:Env):E.le E:=⟨λ_ h=>h,λ_ h=>h,λ_ _=>rfl,λ_ _=>rfl,λ_ _=>rfl,λ_ _ h=>h,λ_ _ _ _ _=>rfl,λ_ _ _ _ _=>rfl⟩
theorem Env.le.trans{A B C:Env}(h:A.le B)(k:B.le C):A.le C:=
 ⟨λb x=>k.N b (h.N b x),λb x=>k.L b (h.L b x),λb x=>(k.β b (h.L b x)).trans (h.β b x),λb x=>(k.κ b (h.L b x)).trans (h.κ b x),λb x=>(k.z b (h.L b x)).trans (h.z b x),
  λb v x=>k.L2 b v (h.L2 b v x),λb v i j x=>(k.b2 b v i j (h.L2 b v x)).trans (h.b2 b v i j x),λb v i j x=>(k.c2 b v i j (h.L2 b v x)).trans (h.c2 b v i j x)⟩

section
variable {E E':Env} {w w':World} {P:Program}

theorem Rd.mono(hE:E.le E')(hw:∀b,E.N b->w'.heap[b]? =w.heap[b]?){t:T}{x:Value}(h:Rd E w t x):Rd E' w' t x:=by
 induction h with
 |int k n=>exact .int k n
 |bool b=>exact .bool b
 |str l=>exact .str l
 |v x=>exact .v x
 |slNil sz row=>exact .slNil sz row
 |sl sz n row b off cap u hN hc hl h1 hr _ ih=>
  exact .sl sz n row b off cap u (hE.N b hN) hc hl h1 (λi j t hi hj=>by rw[World.cell?_of_block (w:=w) (hw b hN)];exact hr i j t hi hj) ih
 |bysNil=>exact .bysNil
 |slEmp sz row a=>exact .slEmp sz row a
 |bysEmp a=>exact .bysEmp a
 |bys l b off cap hN hc hr=>exact .bys l b off cap (hE.N b hN) hc λi x hx=>by rw[World.cell?_of_block (w:=w) (hw b hN)];exact hr i x hx
 |bref cells b off u hN h1 hr _ ih=>exact .bref cells b off u (hE.N b hN) h1 (λj t hj=>by rw[World.cell?_of_block (w:=w) (hw b hN)];exact hr j t hj) ih
 |ref k i j hL=>rw[←hE.β k hL,←hE.z k hL];exact .ref k i j (hE.L k hL)
 |osl k off n o a hL hn ho ha=>rw[←hE.κ k hL];exact .osl k off n o a (hE.L k hL) (by rw[hE.κ k hL];exact hn) (by rw[hE.κ k hL,hE.z k hL];exact ho) (by rw[hE.κ k hL,hE.β k hL];exact ha)
 |posl k v i j n a hL hn ha=>rw[←hE.c2 k v i j hL];exact .posl k v i j n a (hE.L2 k v hL) (by rw[hE.c2 k v i j hL];exact hn) (by rw[hE.c2 k v i j hL,hE.b2 k v i j hL];exact ha)
 |pref k v i j z a b hL=>rw[←hE.b2 k v i j hL];exact .pref k v i j z a b (hE.L2 k v hL)
 |agg cs vs hl _ ih=>exact .agg cs vs hl ih
 |tup cs vs hl _ ih=>exact .tup cs vs hl ih
 |fn f cs vs hl _ ih=>exact .fn f cs vs hl ih
 |mpr k hL=>rw[←hE.β k hL];exact .mpr k (hE.L k hL)
 |emp a=>exact .emp a
 |und x=>exact .und x

def eE(cs:Array Value)(n:Nat)(tl:List Value):Prop:=n+tl.length<=cs.size/\∀j u,tl[j]? =some u->cs[n+j]? =some u
theorem a37{cs:Array Value}{n:Nat}(h:n<=cs.size):eE cs n []:=⟨h,λj u hu=>(by cases hu)⟩
theorem eE.le{cs:Array Value}{n:Nat}{t:List Value}(h:eE cs n t):n<=cs.size:=Nat.le_trans (Nat.le_add_right _ _) h.1
theorem eE.any{cs:Array Value}{n:Nat}{t:List Value}(h:eE cs n t):eE cs n []:=a37 h.le
theorem eE.keep{cs cs':Array Value}{n:Nat}{t:List Value}(h:eE cs n t)(hs:cs'.size=cs.size)(hk:∀q,n<=q->cs'[q]? =cs[q]?):eE cs' n t:=
 ⟨by rw[hs];exact h.1,λj u hu=>by rw[hk _ (Nat.le_add_right _ _)];exact h.2 j u hu⟩

def S9(E:Env)(w:World)(k:Nat)(A:Arr):Prop:=
 (E.z k).1=A.sz/\A.n<=E.κ k/\(∀i,i<A.n->(A.row i).length=A.sz)/\(∀i t,i<A.n->t ∈ A.row i->J7 t=true)/\(A.cl=true->∀i t,i<A.n->t ∈ A.row i->W5 t=true)/\
   ∃cs ty,(E.κ k≠0->w.heap[E.β k]? =some (.cells cs ty (0,0)))/\eE cs (E.κ k*A.sz) (E.z k).2/\
    ∀i j t,i<A.n->(A.row i)[j]? =some t->∃u,cs[i*A.sz+j]? =some u/\Rd E w t u

def cZ(bo:Bool)(n:Int):Value:=match bo with
 |true=>.bool (decide (n≠0))
 |false=>.int .i64 n

def lk(n:Int):List MapEntry->Option Value
 | []=>none
 |e::r=>match e.key with
  | .int .i64 m=>if n=m then some e.val else lk n r
  |_=>lk n r

def b9m(bo:Bool)(get:Int->Int)(es:List MapEntry):Prop:=
 (∀e ∈ es,∃m,e.key= .int .i64 m)/\∀n,match lk n es with
  |some v=>v=cZ bo (get n)
  |none=>get n=0

def a7i(E:Env)(w:World)(k:Nat)(bo:Bool)(get:Int->Int):Prop:=
 E.κ k≠0/\∃es clock,w.heap[E.β k]? =some (.map es clock)/\b9m bo get es.toList

def x8(a b:Int):Value:=.agg #[.int .i64 a,.int .i64 b]

def bX(E:Env)(w:World)(k:Nat)(get:Int->Int->Bool):Prop:=
 E.κ k≠0/\∃es clock,w.heap[E.β k]? =some (.map es clock)/\(∀e ∈ es.toList,∃a b,W7 .i64 a/\W7 .i64 b/\e.key=x8 a b/\e.val= .bool (get a b))/\
  (∀a b,get a b=true->∃e ∈ es.toList,e.key=x8 a b)/\(es.toList.map (·.key)).Nodup

def Env.sub(E:Env)(k v i j z:Nat):Env:={E with β:=λ_=>E.b2 k v i j,κ:=λ_=>E.c2 k v i j,z:=λ_=>(z,[])}

def b1e(t:T):Bool:=a51 t||closedOne t

structure FamOk(E:Env)(w:World)(k v:Nat)(ty:TypeId)(sz n:Nat)(row:Nat->List T):Prop where
 l2:E.L2 k v
 arr:S9 E w k ⟨false,ty,sz,n,yB k v row⟩
 fam:∀i t,i<n->t ∈ row i->b1e t=true
 own:∀i j oty osz on orow,i<n->(row i)[j]? =some (.own oty osz on orow)->S9 (E.sub k v i j osz) w 0 ⟨true,oty,osz,on,orow⟩/\(E.c2 k v i j≠0->E.κ k≠0->E.b2 k v i j≠E.β k)
 inj:∀i j i' j' oty osz on orow oty' osz' on' orow',i<n->i'<n->(row i)[j]? =some (.own oty osz on orow)->(row i')[j']? =some (.own oty' osz' on' orow')->
  E.c2 k v i j≠0->E.c2 k v i' j'≠0->E.b2 k v i j=E.b2 k v i' j'->i=i'/\j=j'

def m6(E:Env)(w:World)(k:Nat)(ob:Ob):Prop:=
 match ob with
 | .mp bo get=>a7i E w k bo get
 | .mp2 get=>bX E w k get
 | .fam v ty sz n row=>FamOk E w k v ty sz n row
 |ob=>S9 E w k ob.toArr

def a5u(E:Env)(k:Nat)(ob:Ob)(b:Nat):Prop:=
 ∃v ty sz n row i j oty osz on orow,ob= .fam v ty sz n row/\i<n/\(row i)[j]? =some (.own oty osz on orow)/\E.c2 k v i j≠0/\b=E.b2 k v i j

def E6(E:Env)(k:Nat)(ob:Ob)(b:Nat):Prop:=(E.κ k≠0/\b=E.β k)∨a5u E k ob b

structure HeapOk(E:Env)(w:World)(H:Y1):Prop where
 live:∀k ob,Z0 H k=some ob->E.L k/\m6 E w k ob/\∀b,E6 E k ob b->¬E.N b
 inj:∀k k' ob ob' b,Z0 H k=some ob->Z0 H k'=some ob'->E6 E k ob b->E6 E k' ob' b->k=k'
 lt:∀k,E.L k->k<H.length
 l2:∀k v,E.L2 k v->E.L k
 cur:∀k ob v,Z0 H k=some ob->E.L2 k v->∃v0 ty sz n row,ob= .fam v0 ty sz n row/\v<=v0

theorem a5u.not{E:Env}{k:Nat}{ob:Ob}{b:Nat}(h:a5u E k ob b)(hn:∀v ty sz n row,ob≠ .fam v ty sz n row):False:=by
 obtain⟨v,ty,sz,n,row,_,_,_,_,_,_,he,_⟩:=h;exact hn v ty sz n row he

theorem E6.arr{E:Env}{k:Nat}{ob:Ob}{b:Nat}(h:E6 E k ob b)(hi:ob.isArr=true):E.κ k≠0/\b=E.β k:=by
 rcases h with h|h
 ·exact h
 ·exact(h.not (by rintro v ty sz n row rfl;cases hi)).elim

theorem C3{α:Type}{xs:Array α}{i:Nat}{x:α}(h:xs[i]? =some x):i<xs.size:=(j_p.1 h).1

theorem m6.blt{E:Env}{w:World}{k:Nat}{ob:Ob}{b:Nat}(h:m6 E w k ob)(hb:E6 E k ob b):b<w.heap.size:=by
 rcases hb with⟨hκ,rfl⟩|⟨v,ty,sz,n,row,i,j,oty,osz,on,orow,rfl,hi,hj,hc,rfl⟩
 ·cases ob with
  |mp bo get=>obtain⟨_,es,clock,h1,_⟩:=h;exact C3 h1
  |mp2 get=>obtain⟨_,es,clock,h1,_⟩:=h;exact C3 h1
  |fam v ty sz n row=>obtain⟨_,_,_,_,_,cs,ty,h1,_⟩:=h.arr;exact C3 (h1 hκ)
  |arr cl ty sz n row=>obtain⟨_,_,_,_,_,cs,ty,h1,_⟩:=h;exact C3 (h1 hκ)
  |bys ty l=>obtain⟨_,_,_,_,_,cs,ty,h1,_⟩:=h;exact C3 (h1 hκ)
 ·obtain⟨⟨_,_,_,_,_,cs,ty,h1,_⟩,_⟩:=h.own i j oty osz on orow hi hj;exact C3 (h1 hc)

theorem HeapOk.blt{E:Env}{w:World}{H:Y1}(h:HeapOk E w H){k:Nat}{ob:Ob}{b:Nat}(hk:Z0 H k=some ob)(hb:E6 E k ob b):b<w.heap.size:=(h.live k ob hk).2.1.blt hb

theorem a2U(c:Value):Rd E w (cW c) c:=by
 cases c<;>first|exact .int _ _|exact .bool _|exact .v _|skip
 case string s=>exact .str s.data.toList

def Sl(E:Env)(w:World)(a:Act)(s:V5)(i:Nat):Prop:=Rd E w (j7 s i) (a.tmps.getD i undef)

def I0(E:Env)(w:World)(a:Act)(s:V5)(x:Operand):Prop:=Rd E w (M7 s x) (a.eval x)

theorem aY{a:Act}{s:V5}{x:Operand}(h:∀t,x= .tmp t->Sl E w a s t):I0 E w a s x:=by
 cases x with
 |tmp t=>exact h t rfl
 |const c=>exact a2U c
 |func f=>exact .v _
 |global g=>exact .v _

theorem z9{b:Bool}{x:Value}(h:Rd E w (.bool b) x):x= .bool b:=by cases h;rfl
theorem K5{k:IntKind}{n:Int}{x:Value}(h:Rd E w (.int k n) x):x= .int k n:=by cases h;rfl
theorem xN{l:List UInt8}{x:Value}(h:Rd E w (.str l) x):x= .string ⟨l.toArray⟩:=by cases h;rfl
theorem wC{y x:Value}(h:Rd E w (.v y) x):x=y:=by cases h;rfl

theorem mH{a:Act}{s:V5}{c x y:Operand}{t:T}(h:a0k s c x y=some t)(hc:I0 E w a s c)
  (hx:∀b,M7 s c= .bool b->b=true->I0 E w a s x) (hy:∀b,M7 s c= .bool b->b=false->I0 E w a s y):
  ∃b,a.eval c= .bool b/\Rd E w t (if b then a.eval x else a.eval y):=by
 unfold a0k at h;unfold I0 at hc;split at h
 ·rename_i cb hcb;rw[hcb] at hc;refine⟨cb,z9 hc,?_⟩
  split at h
  ·split at h
   ·rename_i yb hyb;simp only[W8] at h;subst h;cases cb with
    |true=>simp only[Bool.true_or,if_true];exact .bool true
    |false=>
     have:=hy false hcb rfl;unfold I0 at this;rw[hyb] at this;simp only[Bool.false_or,Bool.false_eq_true,if_false];exact this
   ·cases h
  ·split at h
   ·rename_i xb hxb;simp only[W8] at h;subst h;cases cb with
    |false=>simp only[Bool.false_and,Bool.false_eq_true,if_false];exact .bool false
    |true=>
     have:=hx true hcb rfl;unfold I0 at this;rw[hxb] at this;simp only[Bool.true_and,if_true];exact this
   ·cases h
  ·cases h
 ·cases h

end
end Go.SS
/- A calculus of symbolic states: the operations that leave memory alone do what is said of them. -/
namespace Go.SS
open Go.RowKit
section
variable {E:Env} {w:World} {P:Program}

theorem lS{k:IntKind}{n:Int}(h:W7 k n):k.wrap n=n:=by
 obtain⟨h1,h2⟩:=h;unfold IntKind.wrap;cases k<;>simp only[IntKind.min,IntKind.max,IntKind.signed,IntKind.bits,Bool.true_and,Bool.false_and,if_true,if_false,Bool.false_eq_true,ge_iff_le,k4] at* <;>(try split)<;>omega

theorem tJ(t:TypeId)(h:(P.underlying t).isSome=true):(isAgg t).run P w= .ok (a4m P t) w:=by
 obtain⟨d,hd⟩:=Option.isSome_iff_exists.1 h;unfold isAgg a4m;rw[hd];simp only[H4,run_underlying hd,I1];cases d<;>rfl

theorem F3(t:TypeId)(h:(P.info? t).isSome=true):(sizeOf t).run P w= .ok (P.cellsOf t) w:=by
 obtain⟨d,hd⟩:=Option.isSome_iff_exists.1 h;unfold sizeOf Program.cellsOf typeInfo;simp[hd]

theorem zJ{t:TypeId}(h:(P.underlying t).isSome=true):(P.info? t).isSome=true:=by
 unfold Program.underlying at h;cases hi:P.info? t with
 |none=>rw[hi] at h;cases h
 |some i=>rfl


theorem mL{t:TypeId}{cs:List T}{vs:Array Value}{off:Nat}{x:T}(hx:yH P t cs off=some x)
  (hl:cs.length=vs.size) (ht:∀(i:Nat) (t:T) (x:Value),cs[i]? =some t->vs[i]? =some x->Rd E w t x):
  ∃v,(part t vs off).run P w= .ok v w/\Rd E w x v:=by
 unfold yH at hx;unfold part;split at hx
 ·rename_i hu hag;simp only[H4,tJ t hu,I1];split at hx
  ·rename_i hb;simp only[W8] at hx;subst hx;have hb':=v6 hb;simp only[hag,if_true,H4,F3 t (zJ hu),I1,D5];refine⟨_,rfl,.agg _ _ (by simp;omega) λi y z hy hz=> ?_⟩
   rw[List.getElem?_take] at hy
   rw[Array.getElem?_extract] at hz
   split at hy
   ·rw[List.getElem?_drop] at hy
    split at hz
    ·exact ht (off+i) y z hy hz
    ·cases hz
   ·cases hy
  ·cases hx
 ·rename_i hu hag;simp only[H4,tJ t hu,I1];have hlt:off<cs.length:=by
   rcases Nat.lt_or_ge off cs.length with h|h
   ·exact h
   ·rw[List.getElem?_eq_none h] at hx;cases hx
  have hv:vs[off]? =some (vs[off]'(by omega)):=rL _
  simp only[hag,Bool.false_eq_true,if_false,hv,D5];exact⟨_,rfl,ht off _ _ hx hv⟩
 ·cases hx

theorem b70{op:BinOp}{a b:Int}{r:Bool}(h:a6U op a b=some r):Op.intCmp op a b=pure (.bool r):=by
 unfold a6U at h;split at h<;>simp only[W8,reduceCtorEq] at h<;>subst h<;>rfl

theorem b9F{op:BinOp}{k k':IntKind}{a b:Int}{ty:TypeId}{t:T}{side:Option Prop}(h:b20 op k a b=some (t,side))(hk:jZ op k k'=true)(hs:side.getD True):
  ∃v,(binOp op ty (.int k a) (.int k' b)).run P w= .ok v w/\Rd E w t v:=by
 have hkk:op≠ .shl->op≠ .shr->k=k':=by
  intro h1 h2;unfold jZ at hk;split at hk
  ·exact absurd rfl h1
  ·exact absurd rfl h2
  ·exact C7 hk
 unfold b20 at h;split at h
 case h_1|h_2|h_3=>
  obtain rfl:=hkk (by simp) (by simp)
  simp only[W8,T5] at h;obtain⟨rfl,rfl⟩:=h;simp only[Option.getD_some] at hs;simp only[binOp_add,binOp_sub,binOp_mul,Op.intArith,D5,lS hs];exact⟨_,rfl,.int _ _⟩
 case h_4=>
  obtain rfl:=hkk (by simp) (by simp)
  simp only[W8,T5] at h;obtain⟨rfl,rfl⟩:=h;obtain⟨h1,h2⟩:=hs;simp only[binOp_quo,Op.intDiv];rw[if_neg h1];simp only[D5,lS h2];exact⟨_,rfl,.int _ _⟩
 case h_5=>
  obtain rfl:=hkk (by simp) (by simp)
  simp only[W8,T5] at h;obtain⟨rfl,rfl⟩:=h;simp only[binOp_rem,Op.intDiv];rw[if_neg (show b≠0 from hs)]
  exact⟨_,rfl,.int _ _⟩
 case h_6|h_7|h_8|h_9=>
  obtain rfl:=hkk (by simp) (by simp)
  simp only[W8,T5] at h;obtain⟨rfl,rfl⟩:=h;simp only[binOp_and,binOp_or,binOp_xor,binOp_andNot,intBits_and,intBits_or,intBits_xor,intBits_andNot];exact⟨_,rfl,.int _ _⟩
 case h_10|h_11=>
  simp only[W8,T5] at h;obtain⟨rfl,rfl⟩:=h;have hs:0<=b:=hs;simp only[binOp,Op.shift];rw[if_neg (by omega)]
  exact⟨_,rfl,.int _ _⟩
 case h_12 hadd hsub hmul hquo hrem hand hor hxor handn hshl hshr=>
  obtain rfl:=hkk hshl hshr;cases hc:a6U op a b with
  |none=>rw[hc] at h;cases h
  |some r=>
   rw[hc] at h;simp only[j8,W8,T5] at h;obtain⟨rfl,rfl⟩:=h;have he:=b70 hc;have:binOp op ty (.int k a) (.int k b)=Op.intCmp op a b:=by
    cases op<;>first|rfl|simp_all [binOp]
   rw[this,he];exact⟨_,rfl,.bool _⟩

end
end Go.SS
/- A calculus of symbolic states: the operations that leave memory alone do what is said of them, 2. -/
namespace Go.SS
open Go.RowKit
section
variable {E:Env} {w:World} {P:Program}

theorem rW(l:List UInt8):(ByteArray.mk l.toArray).toList=l:=by rw[ByteArray.toList_eq]

theorem b96{op:BinOp}{a b:List UInt8}{ty:TypeId}{t:T}{side:Option Prop}(h:b1h op a b=some (t,side))(hs:side.getD True):
  ∃v,(binOp op ty (.string ⟨a.toArray⟩) (.string ⟨b.toArray⟩)).run P w= .ok v w/\Rd E w t v:=by
 unfold b1h at h;split at h<;>simp only[W8,T5,reduceCtorEq] at h<;>obtain⟨rfl,rfl⟩:=h
 ·have hs:a.length+b.length<9223372036854775808:=hs;have he:(⟨a.toArray⟩++⟨b.toArray⟩:ByteArray)=⟨(a++b).toArray⟩:=by
   apply ByteArray.ext
   simp
  simp only[binOp,Op.stringOp];rw[if_neg (by simp only[ByteArray.size,List.size_toArray,IntKind.max_i64];omega),he]
  exact⟨_,rfl,.str _⟩
 all_goals
  simp only[binOp,Op.stringOp,rW];exact⟨_,rfl,.bool _⟩

theorem b6u{d:Nat}{xs ys:List T}{us vs:Array Value}{rec:TypeId->T->T->Option Bool}
  (hrec:∀t x y r u v,rec t x y=some r->Rd E w x u->Rd E w y v->(Op.equalIn d t u v).run P w= .ok r w)
  (hxl:xs.length=us.size) (hyl:ys.length=vs.size) (hx:∀(i:Nat) (t:T) (x:Value),xs[i]? =some t->us[i]? =some x->Rd E w t x)
  (hy:∀(i:Nat) (t:T) (x:Value),ys[i]? =some t->vs[i]? =some x->Rd E w t x):
  ∀(fs:List Field) (r:Bool),b0Q P rec xs ys fs=some r->(Op.eqFields d us vs fs).run P w= .ok r w:=by
 intro fs;induction fs with
 |nil=>
  intro r h;simp only[b0Q,W8] at h;subst h;rfl
 |cons f fs ih=>
  intro r h;simp only[b0Q] at h;split at h
  ·rename_i a b hd ha hb;split at h
   ·rename_i p q hp hq;simp only[W8] at h;subst h;have hne:f.name≠ "_" :=l7 hd;obtain⟨u,hu,hru⟩:=mL (P:=P) ha hxl hx;obtain⟨v,hv,hrv⟩:=mL (P:=P) hb hyl hy;have he:=hrec _ _ _ _ _ _ hp hru hrv;simp only[Op.eqFields];rw[if_pos hne];simp only[H4,hu,hv,he,I1];cases p with
    |true=>simpa using ih q hq
    |false=>simp
   ·cases h
  ·cases h

theorem b1R:∀(d D:Nat) (t:TypeId) (x y:T) (r:Bool) (u v:Value),d<=D->eqT P d t x y=some r->Rd E w x u->Rd E w y v->(Op.equalIn D t u v).run P w= .ok r w:=by
 intro d;induction d with
 |zero=>intro D t x y r u v _ h;simp[eqT] at h
 |succ d ih=>
  intro D t x y r u v hD h hx hy;obtain⟨D,rfl⟩:∃D',D=D'+1:=⟨D-1,by omega⟩
  unfold eqT at h;split at h
  ·rename_i k0 k a k' b hu;split at h
   ·rename_i hk;obtain rfl:=C7 hk;simp only[W8] at h;subst h;rw[K5 hx,K5 hy];exact run_equalIn_int w D t k k0 a b hu
   ·cases h
  ·rename_i a b hu;simp only[W8] at h;subst h;rw[z9 hx,z9 hy];exact run_equalIn_bool' w D t a b hu
  ·rename_i a b hu;simp only[W8] at h;subst h;rw[xN hx,xN hy];have:=run_equalIn_string (P:=P) w D t ⟨a.toArray⟩ ⟨b.toArray⟩ hu
   rwa [rW,rW] at this
  ·rename_i fs xs ys hu;split at h
   ·rename_i hst;cases hx with
    |agg _ us hxl hxt=>
     cases hy with
     |agg _ vs hyl hyt=>
      have hf:P.fieldsOf t=fs:=by unfold Program.fieldsOf;rw[hu]
      rw[run_equalIn_struct w D t us vs (by rw[hf];exact hu) hst,hf]
      exact b6u (λt x y r u v h1 h2 h3=>ih D t x y r u v (by omega) h1 h2 h3) hxl hyl hxt hyt _ _ h
   ·cases h
  ·cases h

theorem a3H{op:BinOp}{ty:TypeId}{ox oy:Operand}{b:Bool}{t:T}{side:Option Prop}{u v:Value}{a:Option Addr}(h:a2C P op ty b=some (t,side))(hb:a.isNone=b)(hu:u= .pointer a)(hv:v= .pointer none):
  ∃r,(do eqGuard op ty ox oy u v;binOp op ty u v:Sem Value).run P w= .ok r w/\Rd E w t r:=by
 subst hu;subst hv;unfold a2C at h;split at h
 ·rename_i e hu;split at h
  ·rename_i he;have hu:P.underlying ty=some (.pointer (P.pointee ty)):=by rw[hu,C7 he]
   simp only[W8,T5] at h;obtain⟨rfl,rfl⟩:=h;simp only[eqGuard_at_pointer,H4,D5,I1,run_eql_pointer_nil w ty a hu,hb];exact⟨_,rfl,.bool _⟩
  ·cases h
 ·rename_i e hu;split at h
  ·rename_i he;have hu:P.underlying ty=some (.pointer (P.pointee ty)):=by rw[hu,C7 he]
   simp only[W8,T5] at h;obtain⟨rfl,rfl⟩:=h;simp only[eqGuard_at_pointer,H4,D5,I1,run_neq_pointer_nil w ty a hu,hb];exact⟨_,rfl,.bool _⟩
  ·cases h
 ·cases h

theorem b8d{op:BinOp}{ty:TypeId}{x y:T}{ox oy:Operand}{t:T}{side:Option Prop}{u v:Value}(h:b0m P op ty x y=some (t,side))(hs:side.getD True)
  (hx:Rd E w x u) (hy:Rd E w y v):
  ∃r,(do eqGuard op ty ox oy u v;binOp op ty u v:Sem Value).run P w= .ok r w/\Rd E w t r:=by
 unfold b0m at h;split at h
 ·rename_i k a k' b;split at h
  ·rename_i hk;rw[K5 hx,K5 hy];simp only[eqGuard_at_int,H4,D5,I1];exact b9F h hk hs
  ·cases h
 ·rename_i a b;rw[xN hx,xN hy];simp only[eqGuard_at_string,H4,D5,I1];exact b96 h hs
 ·rename_i a b;rw[z9 hx,z9 hy];simp only[eqGuard_at_bool,H4,D5,I1];split at h
  ·rename_i hu;simp only[W8,T5] at h;obtain⟨rfl,rfl⟩:=h;refine⟨.bool (a==b),?_,.bool _⟩
   simp only[binOp];simp[Op.equal,Op.maxDepth,run_equalIn_bool' w 9999 ty a b hu]
  ·rename_i hu;simp only[W8,T5] at h;obtain⟨rfl,rfl⟩:=h;refine⟨.bool (!(a==b)),?_,.bool _⟩
   simp only[binOp];simp[Op.equal,Op.maxDepth,run_equalIn_bool' w 9999 ty a b hu]
  ·cases h
 ·rename_i xs ys;unfold c1s at h;have hgu:∃us,u= .agg us:=by cases hx with|agg _ us _ _=>exact⟨us,rfl⟩
  have hgv:∃us,v= .agg us:=by cases hy with|agg _ us _ _=>exact⟨us,rfl⟩
  obtain⟨us,rfl⟩:=hgu;obtain⟨vs,rfl⟩:=hgv;split at h
  ·rename_i hg;cases he:eqT P 20 ty (.agg xs) (.agg ys) with
   |none=>rw[he] at h;cases h
   |some r=>
    rw[he] at h;simp only[j8,W8,T5] at h;obtain⟨rfl,rfl⟩:=h;have hr:=b1R (P:=P) (E:=E) (w:=w) 20 10000 ty _ _ r _ _ (by omega) he hx hy
    simp only[H4,run_eqGuard_agg w _ ty ox oy us vs hg,I1,run_eql_struct,hr];exact⟨_,rfl,.bool _⟩
  ·rename_i hg;cases he:eqT P 20 ty (.agg xs) (.agg ys) with
   |none=>rw[he] at h;cases h
   |some r=>
    rw[he] at h;simp only[j8,W8,T5] at h;obtain⟨rfl,rfl⟩:=h;have hr:=b1R (P:=P) (E:=E) (w:=w) 20 10000 ty _ _ r _ _ (by omega) he hx hy
    simp only[H4,run_eqGuard_agg w _ ty ox oy us vs hg,I1,run_neq_struct,hr];exact⟨_,rfl,.bool _⟩
  ·cases h
 ·cases hx with
  |ref k i j hL=>exact a3H h (a:=some _) rfl rfl (wC hy)
 ·cases hx with
  |pref k v i j z a b hL=>exact a3H h (a:=some _) rfl rfl (wC hy)
 ·exact a3H h (a:=none) rfl (wC hx) (wC hy)
 ·rw[wC hx,wC hy];split at h
  ·rename_i hu;simp only[W8,T5] at h;obtain⟨rfl,rfl⟩:=h;simp only[eqGuard_at_slice,binOp];simp[run_equal_slice_nil w ty _ none 0 0 hu];exact .bool _
  ·rename_i hu;simp only[W8,T5] at h;obtain⟨rfl,rfl⟩:=h;simp only[eqGuard_at_slice,binOp];simp[run_equal_slice_nil w ty _ none 0 0 hu];exact .bool _
  ·cases h
 ·cases h
end
end Go.SS
