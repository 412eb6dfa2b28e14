/- A part of the proof. -/
import Derived.Test.YtfmngblmdghccaaGreatX1
import Derived.Test.YtfmngblmdghccaaGreatK20
namespace Go.Proofs.YtfmngblmdghccaaGreat
open Go.SS

def setCs(row:Nat->List T)(i:Nat):List (Nat×T)->Nat->List T
 | []=>row
 |(j,t)::r=>setCs (setRow row i j [t]) i r
theorem setRow_ne{row:Nat->List T}{i j k:Nat}{cs:List T}(h:j+cs.length<=(row k).length)(hk:k≠i):setRow row i j cs k=row k:=by
 rw[setRow_eq h,nb_f hk]
theorem setRow_one{row:Nat->List T}{i j:Nat}{t:T}(h:j<(row i).length):setRow row i j [t] i=(row i).set j t:=by
 rw[setRow_eq (by simp;omega),nb_t rfl]
 rw[List.set_eq_take_append_cons_drop,if_pos h];simp
theorem setCs_ne{i k:Nat}(hk:k≠i):∀{l:List (Nat×T)} {row:Nat->List T},(∀p ∈ l,p.1<(row k).length)->setCs row i l k=row k
 | [],row,_=>rfl
 |(j,t)::r,row,h=>by
  have h1:setRow row i j [t] k=row k:=setRow_ne (by have:=h (j,t) (by simp);simp only[List.length_singleton];omega) hk
  show setCs (setRow row i j [t]) i r k=row k;rw[setCs_ne hk (fun p hp=>by rw[h1];exact h p (by simp[hp])),h1]
theorem setCs_at{i:Nat}:∀{l:List (Nat×T)} {row:Nat->List T},(∀p ∈ l,p.1<(row i).length)->setCs row i l i=l.foldl (fun c p=>c.set p.1 p.2) (row i)
 | [],row,_=>rfl
 |(j,t)::r,row,h=>by
  have h1:setRow row i j [t] i=(row i).set j t:=setRow_one (h (j,t) (by simp))
  show setCs (setRow row i j [t]) i r i=r.foldl (fun c p=>c.set p.1 p.2) ((row i).set j t)
  rw[setCs_at (fun p hp=>by rw[h1,List.length_set];exact h p (by simp[hp])),h1]
theorem upR_setCs{new old:Nat->List T}{m:Nat}(hn:∀j,(new j).length=m)(ho:∀j,(old j).length=m)(x:Nat)(l:List (Nat×T))(hl:∀p ∈ l,p.1<m)(hc:l.foldl (fun c p=>c.set p.1 p.2) (old x)=new x)(j:Nat):setCs (upR new old x) (0+(x:Int).toNat) l j=upR new old (x+1) j:=by
 have hw:∀j,(upR new old x j).length=m:=fun j=>by unfold upR;split<;>simp only[hn,ho]
 have hx:0+(x:Int).toNat=x:=by omega
 rw[hx];refine upR_step (f:=setCs (upR new old x) x l) (fun i hi=> ?_) ?_ j
 ·exact setCs_ne hi fun p hp=>by rw[hw];exact hl p hp
 ·rw[setCs_at fun p hp=>by rw[hw];exact hl p hp,show upR new old x x=old x by unfold upR;rw[if_neg (Nat.lt_irrefl x)],hc]
end Go.Proofs.YtfmngblmdghccaaGreat

namespace Go.Proofs.YtfmngblmdghccaaGreat
open Go.SS

def Frm.tm(f:Frm)(b:Nat):List T:=[.int .i64 f.no,.int .i64 f.pg.lsn,.osl b 0 f.pg.sl.length,.bool f.dirty,.int .i64 f.first]
end Go.Proofs.YtfmngblmdghccaaGreat

namespace Go.Proofs.YtfmngblmdghccaaGreat
set_option maxRecDepth 100000
open Go.SS Go.RowKit

theorem rem_big{left:Int}{n:Nat}(h:¬rem left n<0):(n:Int)<=left:=by
 by_cases hq:(n:Int)<=left
 ·exact hq
 ·rw[rem_lt (by omega)] at h
  omega
def LmV(v:Val):Prop:=Lim v.t.length
def r_szVal:Rl:=⟨Val×Int,fun x=>[.agg x.1.ts,.int .i64 x.2],fun x=>.int .i64 (rem x.2 x.1.t.length),fun x=>Left x.2/\LmV x.1⟩
def k_szVal:Con:=.rel r_szVal
noncomputable def b_szVal:Code:=Tryz.f62.body.getD .skip
theorem call_szVal:Callable Tryz.prog 62:=⟨_,Tryz.func62,by kernel_rfl,by kernel_rfl⟩
theorem v_szVal(v:Val)(left:Int)(h:
  Rng .i64 (left- (v.t.length:Int))/\(decide (left- (v.t.length:Int)<(0:Int))=true->(-1:Int)=rem left v.t.length)/\(decide (left- (v.t.length:Int)<(0:Int))=false->left- (v.t.length:Int)=rem left v.t.length)):
  PureFn Tryz.prog 62 [.agg v.ts,.int .i64 left] (.int .i64 (rem left v.t.length)):=
 vcR (code:=b_szVal) gN Tryz.func62 (by kernel_rfl) (by kernel_rfl) noAnn h (by kernel_rfl)
theorem szVal_ok:ConOk Tryz.prog 62 k_szVal:=by
 rintro⟨r,left⟩ ⟨⟨h0,h1⟩,hb⟩;have hb:r.t.length<=9223372036854775807:=hb;simp only at h0 h1;refine v_szVal r left ?_
 simp only[rng_i64,decide_eq_true_eq,decide_eq_false_iff_not];exact⟨by omega,fun h=>(rem_lt (by omega)).symm,fun h=>by rw[rem_ge (by omega)]⟩
def k_toVal:Con:=.rel ⟨Val,fun r=>[.agg r.ts],fun r=>.agg r.ts,fun _=>True⟩
noncomputable def b_toVal:Code:=Tryz.f64.body.getD .skip
theorem call_toVal:Callable Tryz.prog 64:=⟨_,Tryz.func64,by kernel_rfl,by kernel_rfl⟩
theorem v_toVal(r:Val)(h:
  r.k=r.k/\r.n=r.n/\r.t=r.t/\True):
  PureFn Tryz.prog 64 [.agg r.ts] (.agg r.ts):=
 vcR (code:=b_toVal) gN Tryz.func64 (by kernel_rfl) (by kernel_rfl) noAnn h (by kernel_rfl)
theorem toVal_ok:ConOk Tryz.prog 64 k_toVal:=fun r _=>v_toVal r ⟨rfl,rfl,rfl,trivial⟩
def k_eqVal:Con:=.rel ⟨Val,fun r=>[.agg r.ts,.agg r.ts],fun _=>.bool true,fun _=>True⟩
noncomputable def b_eqVal:Code:=Tryz.f66.body.getD .skip
theorem call_eqVal:Callable Tryz.prog 66:=⟨_,Tryz.func66,by kernel_rfl,by kernel_rfl⟩
theorem v_eqVal(r:Val)(h:
  ((r.k !=r.k)=true->false=true)/\((r.k !=r.k)=false->((r.n !=r.n)=true->false=true)/\((r.n !=r.n)=false->((!r.t==r.t)=true->false=true)/\((!r.t==r.t)=false->true=true)))):
  PureFn Tryz.prog 66 [.agg r.ts,.agg r.ts] (.bool true):=
 vcR (code:=b_eqVal) gN Tryz.func66 (by kernel_rfl) (by kernel_rfl) noAnn h (by kernel_rfl)
theorem eqVal_ok:ConOk Tryz.prog 66 k_eqVal:=by
 intro r _;refine v_eqVal r ?_
 simp
def bulkRw(r:Rw):Nat:=r.n.t.length+r.name.t.length
def LmRw(r:Rw):Prop:=LmV r.n/\LmV r.name
def k_szRw:Con:=.rel ⟨Rw×Int,fun x=>[.agg x.1.ts,.int .i64 x.2],fun x=>.int .i64 (rem x.2 (bulkRw x.1)),fun x=>Left x.2/\LmRw x.1⟩
noncomputable def b_szRw:Code:=Tryz.f32.body.getD .skip
theorem call_szRw:Callable Tryz.prog 32:=⟨_,Tryz.func32,by kernel_rfl,by kernel_rfl⟩
theorem v_szRw(r:Rw)(left:Int)(h:
  ∃(x:r_szVal.ι),(((r.n.k=x.fst.k/\r.n.n=x.fst.n/\r.n.t=x.fst.t/\True)/\left=x.snd/\True)/\Left x.snd/\LmV x.fst)/\(decide (rem x.snd x.fst.t.length<(0:Int))=true->(-1:Int)=rem left (bulkRw r))/\
  (decide (rem x.snd x.fst.t.length<(0:Int))=false->∃(x_1:r_szVal.ι),(((r.name.k=x_1.fst.k/\r.name.n=x_1.fst.n/\r.name.t=x_1.fst.t/\True)/\rem x.snd x.fst.t.length=x_1.snd/\True)/\Left x_1.snd/\LmV x_1.fst)
  /\(decide (rem x_1.snd x_1.fst.t.length<(0:Int))=true->(-1:Int)=rem left (bulkRw r))/\(decide (rem x_1.snd x_1.fst.t.length<(0:Int))=false->rem x_1.snd x_1.fst.t.length=rem left (bulkRw r)))):
  PureFn Tryz.prog 32 [.agg r.ts,.int .i64 left] (.int .i64 (rem left (bulkRw r))):=
 vcR (code:=b_szRw) (gC szVal_ok call_szVal gN) Tryz.func32 (by kernel_rfl) (by kernel_rfl) noAnn h (by kernel_rfl)
theorem szRw_ok:ConOk Tryz.prog 32 k_szRw:=by
 rintro⟨r,left⟩ ⟨hl,h1,h2⟩;simp only at hl h1 h2;have e:bulkRw r=r.n.t.length+r.name.t.length:=rfl;refine v_szRw r left ⟨(r.n,left),⟨⟨⟨rfl,rfl,rfl,trivial⟩,rfl,trivial⟩,hl,h1⟩,fun h=>(rem_neg (of_decide_eq_true h) (by(try dsimp only);omega)).symm,fun h=> ?_⟩
 obtain⟨q1,l1⟩:=rem_add (b:=r.name.t.length) (of_decide_eq_false h) hl rfl;refine⟨(r.name,rem left r.n.t.length),⟨⟨⟨rfl,rfl,rfl,trivial⟩,rfl,trivial⟩,l1,h2⟩,fun g=> ?_,fun g=> ?_⟩
 ·simp only at g;rw[q1] at g;exact(rem_neg (of_decide_eq_true g) (by(try dsimp only);omega)).symm
 ·exact q1
def k_toRw:Con:=.rel ⟨Rw,fun r=>[.agg r.ts],fun r=>.agg r.ts,fun _=>True⟩
noncomputable def b_toRw:Code:=Tryz.f34.body.getD .skip
theorem call_toRw:Callable Tryz.prog 34:=⟨_,Tryz.func34,by kernel_rfl,by kernel_rfl⟩
theorem v_toRw(r:Rw)(h:
  ∃(x:Val),(((r.n.k=x.k/\r.n.n=x.n/\r.n.t=x.t/\True)/\True)/\True)/\∃(x_1:Val),(((r.name.k=x_1.k/\r.name.n=x_1.n/\r.name.t=x_1.t/\True)/\True)/\True)/\r.id=r.id/\x.k=r.n.k/\x.n=r.n.n/\x.t=
  r.n.t/\x_1.k=r.name.k/\x_1.n=r.name.n/\x_1.t=r.name.t/\True):
  PureFn Tryz.prog 34 [.agg r.ts] (.agg r.ts):=
 vcR (code:=b_toRw) (gC toVal_ok call_toVal gN) Tryz.func34 (by kernel_rfl) (by kernel_rfl) noAnn h (by kernel_rfl)
theorem toRw_ok:ConOk Tryz.prog 34 k_toRw:=fun(r:Rw) _=>v_toRw r ⟨r.n,⟨⟨⟨rfl,rfl,rfl,trivial⟩,trivial⟩,trivial⟩,r.name,⟨⟨⟨rfl,rfl,rfl,trivial⟩,trivial⟩,trivial⟩,rfl,rfl,rfl,rfl,rfl,rfl,rfl,trivial⟩
def k_eqRw:Con:=.rel ⟨Rw,fun r=>[.agg r.ts,.agg r.ts],fun _=>.bool true,fun _=>True⟩
noncomputable def b_eqRw:Code:=Tryz.f36.body.getD .skip
theorem call_eqRw:Callable Tryz.prog 36:=⟨_,Tryz.func36,by kernel_rfl,by kernel_rfl⟩
theorem v_eqRw(r:Rw)(h:
  ((r.id !=r.id)=true->false=true)/\((r.id !=r.id)=false->∃(x:Val),(((r.n.k=x.k/\r.n.n=x.n/\r.n.t=x.t/\True)/\(r.n.k=x.k/\r.n.n=x.n/\r.n.t=x.t/\True)/\True)/\True)/\(false=true->false=true)
  /\(false=false->∃(x:Val),(((r.name.k=x.k/\r.name.n=x.n/\r.name.t=x.t/\True)/\(r.name.k=x.k/\r.name.n=x.n/\r.name.t=x.t/\True)/\True)/\True)/\(false=true->false=true)/\(false=false->true=
  true)))):
  PureFn Tryz.prog 36 [.agg r.ts,.agg r.ts] (.bool true):=
 vcR (code:=b_eqRw) (gC eqVal_ok call_eqVal gN) Tryz.func36 (by kernel_rfl) (by kernel_rfl) noAnn h (by kernel_rfl)
theorem eqRw_ok:ConOk Tryz.prog 36 k_eqRw:=fun(r:Rw) _=>v_eqRw r ⟨fun h=>by simp at h,fun _=>⟨r.n,⟨⟨⟨rfl,rfl,rfl,trivial⟩,⟨rfl,rfl,rfl,trivial⟩,trivial⟩,trivial⟩,fun h=>h,fun _=>⟨r.name,⟨⟨⟨rfl,rfl,rfl,trivial⟩,⟨rfl,rfl,rfl,trivial⟩,trivial⟩,trivial⟩,fun h=>h,fun _=>rfl⟩⟩⟩
def bulkNd(n:Nd):Nat:=n.v.t.length
def LmNd(n:Nd):Prop:=LmV n.v
def k_szNd:Con:=.rel ⟨Nd×Int,fun x=>[.agg x.1.ts,.int .i64 x.2],fun x=>.int .i64 (rem x.2 (bulkNd x.1)),fun x=>Left x.2/\LmNd x.1⟩
noncomputable def b_szNd:Code:=Tryz.f87.body.getD .skip
theorem call_szNd:Callable Tryz.prog 87:=⟨_,Tryz.func87,by kernel_rfl,by kernel_rfl⟩
theorem v_szNd(c:Nd)(left:Int)(h:
  ∃(x:r_szVal.ι),(((c.v.k=x.fst.k/\c.v.n=x.fst.n/\c.v.t=x.fst.t/\True)/\left=x.snd/\True)/\Left x.snd/\LmV x.fst)/\(decide (rem x.snd x.fst.t.length<(0:Int))=true->(-1:Int)=rem left (bulkNd c))/\
  (decide (rem x.snd x.fst.t.length<(0:Int))=false->rem x.snd x.fst.t.length=rem left (bulkNd c))):
  PureFn Tryz.prog 87 [.agg c.ts,.int .i64 left] (.int .i64 (rem left (bulkNd c))):=
 vcR (code:=b_szNd) (gC szVal_ok call_szVal gN) Tryz.func87 (by kernel_rfl) (by kernel_rfl) noAnn h (by kernel_rfl)
theorem szNd_ok:ConOk Tryz.prog 87 k_szNd:=by
 rintro⟨c,left⟩ ⟨hl,h1⟩;exact v_szNd c left ⟨(c.v,left),⟨⟨⟨rfl,rfl,rfl,trivial⟩,rfl,trivial⟩,hl,h1⟩,fun h=>(rem_neg (of_decide_eq_true h) (Nat.le_refl _)).symm,fun _=>rfl⟩
def k_toNd:Con:=.rel ⟨Nd,fun r=>[.agg r.ts],fun r=>.agg r.ts,fun _=>True⟩
noncomputable def b_toNd:Code:=Tryz.f88.body.getD .skip
theorem call_toNd:Callable Tryz.prog 88:=⟨_,Tryz.func88,by kernel_rfl,by kernel_rfl⟩
theorem v_toNd(c:Nd)(h:
  ∃(x:Val),(((c.v.k=x.k/\c.v.n=x.n/\c.v.t=x.t/\True)/\True)/\True)/\c.op=c.op/\c.a=c.a/\c.b=c.b/\c.c=c.c/\x.k=c.v.k/\x.n=c.v.n/\x.t=c.v.t/\True):
  PureFn Tryz.prog 88 [.agg c.ts] (.agg c.ts):=
 vcR (code:=b_toNd) (gC toVal_ok call_toVal gN) Tryz.func88 (by kernel_rfl) (by kernel_rfl) noAnn h (by kernel_rfl)
theorem toNd_ok:ConOk Tryz.prog 88 k_toNd:=fun(c:Nd) _=>v_toNd c ⟨c.v,⟨⟨⟨rfl,rfl,rfl,trivial⟩,trivial⟩,trivial⟩,rfl,rfl,rfl,rfl,rfl,rfl,rfl,trivial⟩
def k_eqNd:Con:=.rel ⟨Nd,fun r=>[.agg r.ts,.agg r.ts],fun _=>.bool true,fun _=>True⟩
noncomputable def b_eqNd:Code:=Tryz.f89.body.getD .skip
theorem call_eqNd:Callable Tryz.prog 89:=⟨_,Tryz.func89,by kernel_rfl,by kernel_rfl⟩
theorem v_eqNd(c:Nd)(h:
  ((c.op !=c.op)=true->false=true)/\((c.op !=c.op)=false->((c.a !=c.a)=true->false=true)/\((c.a !=c.a)=false->((c.b !=c.b)=true->false=true)/\((c.b !=c.b)=false->((c.c !=c.c)=true->false=true)
  /\((c.c !=c.c)=false->∃(x:Val),(((c.v.k=x.k/\c.v.n=x.n/\c.v.t=x.t/\True)/\(c.v.k=x.k/\c.v.n=x.n/\c.v.t=x.t/\True)/\True)/\True)/\(false=true->false=true)/\(false=false->true=true)))))):
  PureFn Tryz.prog 89 [.agg c.ts,.agg c.ts] (.bool true):=
 vcR (code:=b_eqNd) (gC eqVal_ok call_eqVal gN) Tryz.func89 (by kernel_rfl) (by kernel_rfl) noAnn h (by kernel_rfl)
theorem eqNd_ok:ConOk Tryz.prog 89 k_eqNd:=fun(c:Nd) _=>v_eqNd c ⟨fun h=>by simp at h,fun _=>⟨fun h=>by simp at h,fun _=>⟨fun h=>by simp at h,fun _=>⟨fun h=>by simp at h,fun _=>⟨c.v,⟨⟨⟨rfl,rfl,rfl,trivial⟩,⟨rfl,rfl,rfl,trivial⟩,trivial⟩,trivial⟩,fun h=>h,fun _=>rfl⟩⟩⟩⟩⟩
def ndA(L:List Nd):Option Ob:=some (.arr true 83 7 L.length (ndRow L))
theorem plain_nd(L:List Nd):PlainOb (.arr true 83 7 L.length (ndRow L)):=fun i _ t ht=>by
 have ht:t ∈ (L.getD i default).ts:=ht;unfold Nd.ts at ht;simp only[List.mem_cons,List.not_mem_nil,or_false] at ht;rcases ht with rfl|rfl|rfl|rfl|rfl|rfl|rfl<;>rfl
def k_szRwS:Con:=.rel ⟨List Rw×Int,fun x=>[rwS x.1,.int .i64 x.2],fun x=>.int .i64 (rem x.2 (bulkL bulkRw x.1)),fun x=>Left x.2/\Lim x.1.length/\∀i,i<x.1.length->LmRw (x.1.getD i default)⟩
def A_szRwS(L:List Rw)(left:Int):Nat->Ann
 |0=>.one {i:Nat//i<=L.length/\(bulkTo bulkRw L L.length i:Int)<=left} (fun x=>⟨[(0,rwS L),(1,.int .i64 (left-bulkTo bulkRw L L.length x.1)),(5,.int .i64 x.1)],[]⟩) (fun x=>L.length-x.1) [] [] (fun _=>noAnn)
 |_=>.none
noncomputable def b_szRwS:Code:=Tryz.f10.body.getD .skip
theorem call_szRwS:Callable Tryz.prog 10:=⟨_,Tryz.func10,by kernel_rfl,by kernel_rfl⟩
theorem v_szRwS(L:List Rw)(left:Int)(h:
  Rng .i64 (left- (L.length:Int))/\(decide (left- (L.length:Int)<(0:Int))=true->(-1:Int)=rem left (bulkL bulkRw L))/\(decide (left- (L.length:Int)<(0:Int))=false->(∃(x:
  {i:Nat//i<=L.length/\(↑(bulkTo bulkRw L L.length i):Int)<=left}),((EqL rwRow L L)/\left- (L.length:Int)=left- (↑(bulkTo bulkRw L L.length x.val):Int)/\(0:Int)=(x.val:Int)/\True)/\True)/\∀(x:
  {i:Nat//i<=L.length/\(↑(bulkTo bulkRw L L.length i):Int)<=left}),(decide ((x.val:Int)<(L.length:Int))=true->InB (x.val:Int) L.length/\∃(x_1:(Rw×Int)),((((L.getD (x.val:Int).toNat default).id=x_1.fst.id/\
  (L.getD (x.val:Int).toNat default).n.k=x_1.fst.n.k/\(L.getD (x.val:Int).toNat default).n.n=x_1.fst.n.n/\(L.getD (x.val:Int).toNat default).n.t=x_1.fst.n.t/\(L.getD (x.val:Int).toNat default).name.k=x_1.fst.name.k/\
  (L.getD (x.val:Int).toNat default).name.n=x_1.fst.name.n/\(L.getD (x.val:Int).toNat default).name.t=x_1.fst.name.t/\True)/\left- (↑(bulkTo bulkRw L L.length x.val):Int)=x_1.snd/\True)/\Left x_1.snd/\LmRw x_1.fst)/\
  (decide (rem x_1.snd (bulkRw x_1.fst)<(0:Int))=true->(-1:Int)=rem left (bulkL bulkRw L))/\(decide (rem x_1.snd (bulkRw x_1.fst)<(0:Int))=false->Rng .i64 ((x.val:Int)+(1:Int))/\∃(y:
  {i:Nat//i<=L.length/\(↑(bulkTo bulkRw L L.length i):Int)<=left}),(((EqL rwRow L L)/\rem x_1.snd (bulkRw x_1.fst)=left- (↑(bulkTo bulkRw L L.length y.val):Int)/\(x.val:Int)+(1:Int)=(y.val:Int)/\True)/\
  True)/\Lt (L.length-y.val) (L.length-x.val)))/\(decide ((x.val:Int)<(L.length:Int))=false->left- (↑(bulkTo bulkRw L L.length x.val):Int)=rem left (bulkL bulkRw L)))):
  PureFn Tryz.prog 10 [rwS L,.int .i64 left] (.int .i64 (rem left (bulkL bulkRw L))):=
 vcR (code:=b_szRwS) (gC szRw_ok call_szRw gN) Tryz.func10 (by kernel_rfl) (by kernel_rfl) (A_szRwS L left) h (by kernel_rfl)
theorem szRwS_ok:ConOk Tryz.prog 10 k_szRwS:=by
 rintro⟨L,left⟩ ⟨⟨h0,h1⟩,hn,hb⟩;have hn:L.length<=9223372036854775807:=hn;simp only at h0 h1 hb;have hm:∀i,i<=L.length->bulkTo bulkRw L L.length i<=bulkL bulkRw L:=fun i hi=>bulkTo_mono _ _ _ hi
 have hz:bulkTo bulkRw L L.length 0=L.length:=rfl;refine v_szRwS L left ?_
 simp only[rng_i64,decide_eq_true_eq,decide_eq_false_iff_not];refine⟨by omega,fun h=>(rem_lt (by have:=hm 0 (Nat.zero_le _);omega)).symm,fun h=>⟨⟨⟨0,Nat.zero_le _,by omega⟩,⟨⟨(by trivial),rowsR _ _⟩,by simp only[hz],rfl,trivial⟩,trivial⟩,fun x=>⟨fun hc=> ?_,fun hc=> ?_⟩⟩⟩
 ·have hlt:x.val<L.length:=by omega
  have hx:=x.2;have hs:=bulkTo_succ bulkRw L L.length default hlt;have hle:=hm (x.val+1) hlt;have hbr:=hb _ hlt;refine⟨inB_nat hlt,(L.getD x.val default,left- (bulkTo bulkRw L L.length x.val:Int)),⟨⟨⟨rfl,rfl,rfl,rfl,rfl,rfl,rfl,trivial⟩,rfl,trivial⟩,⟨by simp only;omega,by simp only;omega⟩,hbr⟩,fun hr=> ?_,fun hr=>⟨by omega,⟨x.val+1,hlt,?_⟩,⟨⟨⟨(by trivial),rowsR _ _⟩,?_,by simp only;omega,trivial⟩,trivial⟩,Cnt.ext_lt hlt⟩⟩
  ·simp only at hr;by_cases hq:(bulkRw (L.getD x.val default):Int)<=left- (bulkTo bulkRw L L.length x.val:Int)
   ·rw[rem_ge hq] at hr;omega
   ·exact(rem_lt (by omega)).symm
  ·simp only at hr;by_cases hq:(bulkRw (L.getD x.val default):Int)<=left- (bulkTo bulkRw L L.length x.val:Int)
   ·omega
   ·rw[rem_lt (by omega)] at hr
    omega
  ·simp only at hr ⊢;by_cases hq:(bulkRw (L.getD x.val default):Int)<=left- (bulkTo bulkRw L L.length x.val:Int)
   ·rw[rem_ge hq];omega
   ·rw[rem_lt (by omega)] at hr
    omega
 ·have hx:=x.2;have he:x.val=L.length:=by omega
  rw[he] at hx ⊢;exact(rem_ge hx.2).symm
def k_moRwS:Con:=.rmk ⟨List Rw,fun L=>[rwS L],fun _=>[],fun L=>.osl 0 0 L.length,fun L=>[rwsA L],fun L=>L.length<=1048576⟩
def A_moRwS(L:List Rw):Nat->Ann
 |0=>.one {i:Nat//i<=L.length} (fun x=>⟨[(0,rwS L),(3,.osl 0 0 L.length),(4,.int .i64 x.1)],[some (.arr true 28 7 L.length (upT (rwRow L) [.int .i64 0,.int .i64 0,.int .i64 0,.str [],.int .i64 0,.int .i64 0,.str []] x.1))]⟩) (fun x=>L.length-x.1) [.arr 0] [.arr 0] (fun _=>noAnn)
 |_=>.none
noncomputable def b_moRwS:Code:=Tryz.f12.body.getD .skip
theorem call_moRwS:Callable Tryz.prog 12:=⟨_,Tryz.func12,by kernel_rfl,by kernel_rfl⟩
theorem v_moRwS(L:List Rw)(h:
  (Nn (L.length:Int)/\LeI (L.length:Int) (L.length:Int)/\sizeB 72 (L.length:Int).toNat 140737488355328/\Lt (L.length:Int).toNat 9223372036854775808)/\(∃(x:{i:Nat//i<=L.length}),((EqL rwRow L L)/\(0=0/\
  (L.length:Int).toNat=L.length)/\(0:Int)=(x.val:Int)/\True)/\((L.length:Int).toNat=L.length/\RowsEq (L.length:Int).toNat (fun(x:Nat)=>[T.int .i64 (0:Int),T.int .i64 (0:Int),T.int .i64 (0:Int),T.str [],
  T.int .i64 (0:Int),T.int .i64 (0:Int),T.str []]) (upT (rwRow L) [T.int .i64 (0:Int),T.int .i64 (0:Int),T.int .i64 (0:Int),T.str [],T.int .i64 (0:Int),T.int .i64 (0:Int),T.str []] x.val))/\True)/\∀(x:
  {i:Nat//i<=L.length}),(decide ((x.val:Int)<(L.length:Int))=true->InB (x.val:Int) L.length/\∃(x_1:Rw),((((L.getD (x.val:Int).toNat default).id=x_1.id/\(L.getD (x.val:Int).toNat default).n.k=x_1.n.k/\(L.getD
  (x.val:Int).toNat default).n.n=x_1.n.n/\(L.getD (x.val:Int).toNat default).n.t=x_1.n.t/\(L.getD (x.val:Int).toNat default).name.k=x_1.name.k/\(L.getD (x.val:Int).toNat default).name.n=x_1.name.n/\(L.getD
  (x.val:Int).toNat default).name.t=x_1.name.t/\True)/\True)/\True)/\InB (x.val:Int) L.length/\Lt (0+(x.val:Int).toNat) L.length/\Rng .i64 ((x.val:Int)+(1:Int))/\∃(y:{i:Nat//i<=L.length}),(((EqL rwRow L L)
  /\(0=0/\L.length=L.length)/\(x.val:Int)+(1:Int)=(y.val:Int)/\True)/\(L.length=L.length/\RowsEq L.length (setRow (upT (rwRow L) [T.int .i64 (0:Int),T.int .i64 (0:Int),T.int .i64 (0:Int),T.str [],T.int
  .i64 (0:Int),T.int .i64 (0:Int),T.str []] x.val) (0+(x.val:Int).toNat) 0 [T.int .i64 x_1.id,T.int .i64 x_1.n.k,T.int .i64 x_1.n.n,T.str x_1.n.t,T.int .i64 x_1.name.k,T.int .i64 x_1.name.n,T.str x_1.name.t]) (upT
  (rwRow L) [T.int .i64 (0:Int),T.int .i64 (0:Int),T.int .i64 (0:Int),T.str [],T.int .i64 (0:Int),T.int .i64 (0:Int),T.str []] y.val))/\True)/\Lt (L.length-y.val) (L.length-x.val))/\(decide ((x.val:Int)<
  (L.length:Int))=false->((0=0/\L.length=L.length)/\True)/\(L.length=L.length/\RowsEq L.length (upT (rwRow L) [T.int .i64 (0:Int),T.int .i64 (0:Int),T.int .i64 (0:Int),T.str [],T.int .i64 (0:Int),T.int .i64
  (0:Int),T.str []] x.val) (rwRow L))/\True)):
  EffFn Tryz.prog 12 [rwS L] [] (.osl 0 0 L.length) [rwsA L]:=
 vcG (code:=b_moRwS) (gC toRw_ok call_toRw gN) Tryz.func12 (by kernel_rfl) (by kernel_rfl) (A_moRwS L) [[.arr 0]] h (by kernel_rfl)
theorem moRwS_ok:ConOk Tryz.prog 12 k_moRwS:=by
 intro(L:List Rw) (hL:L.length<=1048576);refine⟨v_moRwS L ⟨⟨by unfold Nn;omega,by unfold LeI;omega,by unfold sizeB;omega,by unfold Lt;omega⟩,⟨⟨0,Nat.zero_le _⟩,⟨⟨(by trivial),rowsR _ _⟩,⟨(by trivial),by omega⟩,rfl,trivial⟩,⟨by omega,upT_zero⟩,trivial⟩,fun x=>⟨fun hc=> ?_,fun hc=> ?_⟩⟩,rfl,plain_cons (plain_rows L) plain_nil⟩
 ·have hlt:=lt_of_dec hc;refine⟨inB_nat hlt,L.getD x.val default,⟨⟨⟨rfl,rfl,rfl,rfl,rfl,rfl,rfl,trivial⟩,trivial⟩,trivial⟩,inB_nat hlt,by unfold Lt;omega,add_rng hlt (by omega),⟨x.val+1,hlt⟩,⟨⟨⟨(by trivial),rowsR _ _⟩,⟨(by trivial),(by trivial)⟩,by simp only;omega,trivial⟩,⟨(by trivial),fun j hj=> ?_⟩,trivial⟩,Cnt.ext_lt hlt⟩
  exact upT_rows (m:=7) (fun _=>rfl) rfl x.val rfl j
 ·have hx:x.val=L.length:=by have:=x.2;have:=le_of_not hc;omega
  rw[hx];exact⟨⟨⟨rfl,rfl⟩,trivial⟩,⟨rfl,fun i hi=>upT_end (n:=L.length) i (by omega)⟩,trivial⟩
def k_eqRwS:Con:=.rel ⟨List Rw,fun L=>[rwS L,rwS L],fun _=>.bool true,fun L=>L.length<=1048576⟩
def A_eqRwS(L:List Rw):Nat->Ann
 |0=>.one {i:Nat//i<=L.length} (fun x=>⟨[(0,rwS L),(1,rwS L),(5,.int .i64 x.1)],[]⟩) (fun x=>L.length-x.1) [] [] (fun _=>noAnn)
 |_=>.none
noncomputable def b_eqRwS:Code:=Tryz.f14.body.getD .skip
theorem call_eqRwS:Callable Tryz.prog 14:=⟨_,Tryz.func14,by kernel_rfl,by kernel_rfl⟩
theorem v_eqRwS(L:List Rw)(h:
  (((L.length:Int) !=(L.length:Int))=true->false=true)/\(((L.length:Int) !=(L.length:Int))=false->(∃(x:{i:Nat//i<=L.length}),((EqL rwRow L L)/\(EqL rwRow L L)/\(0:Int)=(x.val:Int)/\True)/\True)/\∀(x:
  {i:Nat//i<=L.length}),(decide ((x.val:Int)<(L.length:Int))=true->InB (x.val:Int) L.length/\InB (x.val:Int) L.length/\∃(x_1:Rw),((((L.getD (x.val:Int).toNat default).id=x_1.id/\(L.getD (x.val:Int).toNat
  default).n.k=x_1.n.k/\(L.getD (x.val:Int).toNat default).n.n=x_1.n.n/\(L.getD (x.val:Int).toNat default).n.t=x_1.n.t/\(L.getD (x.val:Int).toNat default).name.k=x_1.name.k/\(L.getD (x.val:Int).toNat default).name.n=
  x_1.name.n/\(L.getD (x.val:Int).toNat default).name.t=x_1.name.t/\True)/\((L.getD (x.val:Int).toNat default).id=x_1.id/\(L.getD (x.val:Int).toNat default).n.k=x_1.n.k/\(L.getD (x.val:Int).toNat default).n.n=x_1.n.n/\
  (L.getD (x.val:Int).toNat default).n.t=x_1.n.t/\(L.getD (x.val:Int).toNat default).name.k=x_1.name.k/\(L.getD (x.val:Int).toNat default).name.n=x_1.name.n/\(L.getD (x.val:Int).toNat default).name.t=x_1.name.t/\True)/\
  True)/\True)/\(false=true->false=true)/\(false=false->Rng .i64 ((x.val:Int)+(1:Int))/\∃(y:{i:Nat//i<=L.length}),(((EqL rwRow L L)/\(EqL rwRow L L)/\(x.val:Int)+(1:Int)=(y.val:Int)/\True)/\True)
  /\Lt (L.length-y.val) (L.length-x.val)))/\(decide ((x.val:Int)<(L.length:Int))=false->true=true))):
  PureFn Tryz.prog 14 [rwS L,rwS L] (.bool true):=
 vcR (code:=b_eqRwS) (gC eqRw_ok call_eqRw gN) Tryz.func14 (by kernel_rfl) (by kernel_rfl) (A_eqRwS L) h (by kernel_rfl)
theorem eqRwS_ok:ConOk Tryz.prog 14 k_eqRwS:=by
 intro(L:List Rw) (hL:L.length<=1048576);refine v_eqRwS L ⟨fun h=>by simp at h,fun _=>⟨⟨⟨0,Nat.zero_le _⟩,⟨⟨(by trivial),rowsR _ _⟩,⟨(by trivial),rowsR _ _⟩,rfl,trivial⟩,trivial⟩,fun x=>⟨fun hc=> ?_,fun _=>rfl⟩⟩⟩
 have hlt:=lt_of_dec hc;exact⟨inB_nat hlt,inB_nat hlt,L.getD x.val default,⟨⟨⟨rfl,rfl,rfl,rfl,rfl,rfl,rfl,trivial⟩,⟨rfl,rfl,rfl,rfl,rfl,rfl,rfl,trivial⟩,trivial⟩,trivial⟩,fun h=>h,fun _=>⟨add_rng hlt (by omega),⟨x.val+1,hlt⟩,⟨⟨⟨(by trivial),rowsR _ _⟩,⟨(by trivial),rowsR _ _⟩,by simp only;omega,trivial⟩,trivial⟩,Cnt.ext_lt hlt⟩⟩
def mkRw1(k:Nat):Rw:=⟨(k:Int),⟨(k:Int)+1,(k:Int)+1+1,mkT (k+3)⟩,⟨(k:Int)+1+1+1+1,(k:Int)+1+1+1+1+1,mkT (k+6)⟩⟩
def mkRwL(n k:Nat):List Rw:=(List.range n).map fun i=>mkRw1 (k+7*i)
def k_markRwS:Con:=.reff ⟨List Rw×Nat,fun x=>[.osl 0 0 x.1.length,.int .i64 x.2],fun x=>[rwsA x.1],fun x=>.int .i64 (x.2+7*x.1.length:Nat),fun x=>[rwsA (mkRwL x.1.length x.2)],fun x=>KBn x.1.length x.2 7⟩
def A_markRwS(L:List Rw)(k:Nat):Nat->Ann
 |0=>.one {i:Nat//i<=L.length} (fun x=>⟨[(0,.osl 0 0 L.length),(1,.int .i64 (k+7*x.1:Nat)),(5,.int .i64 x.1)],[some (.arr true 28 7 L.length (upR (rwRow (mkRwL L.length k)) (rwRow L) x.1))]⟩) (fun x=>L.length-x.1) [.arr 0] [.arr 0] (fun _=>noAnn)
 |_=>.none
noncomputable def b_markRwS:Code:=Tryz.f17.body.getD .skip
theorem call_markRwS:Callable Tryz.prog 17:=⟨_,Tryz.func17,by kernel_rfl,by kernel_rfl⟩
theorem v_markRwS(L:List Rw)(k:Nat)(h:
  (∃(x:{i:Nat//i<=L.length}),((0=0/\L.length=L.length)/\(k:Int)=(↑(k+7*x.val):Int)/\(0:Int)=(x.val:Int)/\True)/\(L.length=L.length/\RowsEq L.length (rwRow L) (upR (rwRow (mkRwL L.length k)) (rwRow
  L) x.val))/\True)/\∀(x:{i:Nat//i<=L.length}),(decide ((x.val:Int)<(L.length:Int))=true->InB (x.val:Int) L.length/\Lt (0+(x.val:Int).toNat) L.length/\Rng .i64 ((↑(k+7*x.val):Int)+(1:Int))/\InB
  (x.val:Int) L.length/\Lt (0+(x.val:Int).toNat) L.length/\Rng .i64 ((↑(k+7*x.val):Int)+(1:Int)+(1:Int))/\InB (x.val:Int) L.length/\Lt (0+(x.val:Int).toNat) L.length/\Rng .i64 ((↑(k+7*x.val):Int)+(1:
  Int)+(1:Int)+(1:Int))/\∃(x_1:Nat),(((↑(k+7*x.val):Int)+(1:Int)+(1:Int)+(1:Int)=(x_1:Int)/\True)/\KB x_1)/\InB (x.val:Int) L.length/\Lt (0+(x.val:Int).toNat) L.length/\Rng .i64 ((↑(k+7*
  x.val):Int)+(1:Int)+(1:Int)+(1:Int)+(1:Int))/\InB (x.val:Int) L.length/\Lt (0+(x.val:Int).toNat) L.length/\Rng .i64 ((↑(k+7*x.val):Int)+(1:Int)+(1:Int)+(1:Int)+(1:Int)+(1:Int))/\
  InB (x.val:Int) L.length/\Lt (0+(x.val:Int).toNat) L.length/\Rng .i64 ((↑(k+7*x.val):Int)+(1:Int)+(1:Int)+(1:Int)+(1:Int)+(1:Int)+(1:Int))/\∃(x_2:Nat),(((↑(k+7*x.val):Int)+(1:Int)+
  (1:Int)+(1:Int)+(1:Int)+(1:Int)+(1:Int)=(x_2:Int)/\True)/\KB x_2)/\InB (x.val:Int) L.length/\Lt (0+(x.val:Int).toNat) L.length/\Rng .i64 ((↑(k+7*x.val):Int)+(1:Int)+(1:Int)+(1:Int)+(1
  :Int)+(1:Int)+(1:Int)+(1:Int))/\Rng .i64 ((x.val:Int)+(1:Int))/\∃(y:{i:Nat//i<=L.length}),(((0=0/\L.length=L.length)/\(↑(k+7*x.val):Int)+(1:Int)+(1:Int)+(1:Int)+(1:Int)+
  (1:Int)+(1:Int)+(1:Int)=(↑(k+7*y.val):Int)/\(x.val:Int)+(1:Int)=(y.val:Int)/\True)/\(L.length=L.length/\RowsEq L.length (setRow (setRow (setRow (setRow (setRow (setRow (setRow (upR (rwRow (mkRwL
  L.length k)) (rwRow L) x.val) (0+(x.val:Int).toNat) 0 [T.int .i64 (↑(k+7*x.val):Int)]) (0+(x.val:Int).toNat) 1 [T.int .i64 ((↑(k+7*x.val):Int)+(1:Int))]) (0+(x.val:Int).toNat) 2 [T.int .i64 ((↑(k+7*x.val)
  :Int)+(1:Int)+(1:Int))]) (0+(x.val:Int).toNat) 3 [T.str (mkT x_1)]) (0+(x.val:Int).toNat) 4 [T.int .i64 ((↑(k+7*x.val):Int)+(1:Int)+(1:Int)+(1:Int)+(1:Int))]) (0+(x.val:Int).toNat) 5 [T.int
  .i64 ((↑(k+7*x.val):Int)+(1:Int)+(1:Int)+(1:Int)+(1:Int)+(1:Int))]) (0+(x.val:Int).toNat) 6 [T.str (mkT x_2)]) (upR (rwRow (mkRwL L.length k)) (rwRow L) y.val))/\True)/\Lt (L.length-y.val) (L.length
  -x.val))/\(decide ((x.val:Int)<(L.length:Int))=false->((↑(k+7*x.val):Int)=(↑(k+7*L.length):Int)/\True)/\(L.length=(mkRwL L.length k).length/\RowsEq L.length (upR (rwRow (mkRwL L.length k)) (rwRow L)
  x.val) (rwRow (mkRwL L.length k)))/\True)):
  EffFn Tryz.prog 17 [.osl 0 0 L.length,.int .i64 k] [rwsA L] (.int .i64 (k+7*L.length:Nat)) [rwsA (mkRwL L.length k)]:=
 vcG (code:=b_markRwS) (gC markText_ok call_markText gN) Tryz.func17 (by kernel_rfl) (by kernel_rfl) (A_markRwS L k) [[.arr 0]] h (by kernel_rfl)
theorem markRwS_ok:ConOk Tryz.prog 17 k_markRwS:=by
 rintro⟨L,k⟩ ⟨h1,h2,h3⟩;dsimp only at h1 h2 h3;refine v_markRwS L k ⟨⟨⟨0,Nat.zero_le _⟩,⟨⟨rfl,rfl⟩,rfl,rfl,trivial⟩,⟨rfl,upR_zero⟩,trivial⟩,fun x=>⟨fun hc=> ?_,fun hc=> ?_⟩⟩
 ·have hlt:=lt_of_dec hc;have ib:=inB_nat hlt;have lt:Lt (0+(x.val:Int).toNat) L.length:=by unfold Lt;omega
  refine⟨ib,lt,i64_rng (by omega),ib,lt,i64_rng (by omega),ib,lt,i64_rng (by omega),k+7*x.val+3,⟨⟨by omega,trivial⟩,by omega,by omega⟩,ib,lt,i64_rng (by omega),ib,lt,i64_rng (by omega),ib,lt,i64_rng (by omega),k+7*x.val+6,⟨⟨by omega,trivial⟩,by omega,by omega⟩,ib,lt,i64_rng (by omega),i64_rng (by omega),⟨x.val+1,hlt⟩,⟨⟨⟨rfl,rfl⟩,by dsimp only;omega,by dsimp only;omega,trivial⟩,⟨rfl,fun j _=> ?_⟩,trivial⟩,Cnt.ext_lt hlt⟩
  exact upR_setCs (m:=7) (fun _=>rfl) (fun _=>rfl) x.val [(0,.int .i64 (((k+7*x.val:Nat):Int))),(1,.int .i64 (((k+7*x.val:Nat):Int)+1)),(2,.int .i64 (((k+7*x.val:Nat):Int)+1+1)),(3,.str (mkT (k+7*x.val+3))),(4,.int .i64 (((k+7*x.val:Nat):Int)+1+1+1+1)),(5,.int .i64 (((k+7*x.val:Nat):Int)+1+1+1+1+1)),(6,.str (mkT (k+7*x.val+6)))] (by simp) (by unfold rwRow mkRwL;rw[mk_at _ hlt];rfl) j
 ·have hx:x.val=L.length:=by have:=x.2;have:=le_of_not hc;omega
  rw[hx];exact⟨⟨rfl,trivial⟩,⟨(mk_len _ _).symm,upR_end⟩,trivial⟩
def k_heldRwS:Con:=.rel ⟨Nat×Nat,fun x=>[rwS (mkRwL x.1 x.2),.int .i64 x.2],fun x=>.int .i64 (x.2+7*x.1:Nat),fun x=>KBn x.1 x.2 7⟩
def A_heldRwS(n k:Nat):Nat->Ann
 |0=>.one {i:Nat//i<=n} (fun x=>⟨[(0,rwS (mkRwL n k)),(1,.int .i64 (k+7*x.1:Nat)),(5,.int .i64 x.1)],[]⟩) (fun x=>n-x.1) [] [] (fun _=>noAnn)
 |_=>.none
noncomputable def b_heldRwS:Code:=Tryz.f20.body.getD .skip
theorem call_heldRwS:Callable Tryz.prog 20:=⟨_,Tryz.func20,by kernel_rfl,by kernel_rfl⟩
theorem v_heldRwS(n k:Nat)(h:
  (∃(x:{i:Nat//i<=n}),((EqL rwRow (mkRwL n k) (mkRwL n k))/\(k:Int)=(↑(k+7*x.val):Int)/\(0:Int)=(x.val:Int)/\True)/\True)/\∀(x:{i:Nat//i<=n}),(decide ((x.val:Int)<(↑(mkRwL n k).length:Int))
  =true->InB (x.val:Int) (mkRwL n k).length/\((((mkRwL n k).getD (x.val:Int).toNat default).id !=(↑(k+7*x.val):Int))=true->(-1:Int)=(↑(k+7*n):Int))/\((((mkRwL n k).getD (x.val:Int).toNat default).id !=(↑(k+
  7*x.val):Int))=false->Rng .i64 ((↑(k+7*x.val):Int)+(1:Int))/\InB (x.val:Int) (mkRwL n k).length/\((((mkRwL n k).getD (x.val:Int).toNat default).n.k !=(↑(k+7*x.val):Int)+(1:Int))=true->(-1:Int)=
  (↑(k+7*n):Int))/\((((mkRwL n k).getD (x.val:Int).toNat default).n.k !=(↑(k+7*x.val):Int)+(1:Int))=false->Rng .i64 ((↑(k+7*x.val):Int)+(1:Int)+(1:Int))/\InB (x.val:Int) (mkRwL n k).length/\
  ((((mkRwL n k).getD (x.val:Int).toNat default).n.n !=(↑(k+7*x.val):Int)+(1:Int)+(1:Int))=true->(-1:Int)=(↑(k+7*n):Int))/\((((mkRwL n k).getD (x.val:Int).toNat default).n.n !=(↑(k+7*x.val):Int)+
  (1:Int)+(1:Int))=false->Rng .i64 ((↑(k+7*x.val):Int)+(1:Int)+(1:Int)+(1:Int))/\InB (x.val:Int) (mkRwL n k).length/\∃(x_1:Nat),(((↑(k+7*x.val):Int)+(1:Int)+(1:Int)+(1:Int)=
  (x_1:Int)/\True)/\KB x_1)/\((!((mkRwL n k).getD (x.val:Int).toNat default).n.t==mkT x_1)=true->(-1:Int)=(↑(k+7*n):Int))/\((!((mkRwL n k).getD (x.val:Int).toNat default).n.t==mkT x_1)=false->Rng .i64 ((↑(k+
  7*x.val):Int)+(1:Int)+(1:Int)+(1:Int)+(1:Int))/\InB (x.val:Int) (mkRwL n k).length/\((((mkRwL n k).getD (x.val:Int).toNat default).name.k !=(↑(k+7*x.val):Int)+(1:Int)+(1:Int)+(1:Int)+(1:
  Int))=true->(-1:Int)=(↑(k+7*n):Int))/\((((mkRwL n k).getD (x.val:Int).toNat default).name.k !=(↑(k+7*x.val):Int)+(1:Int)+(1:Int)+(1:Int)+(1:Int))=false->Rng .i64 ((↑(k+7*x.val):Int)+
  (1:Int)+(1:Int)+(1:Int)+(1:Int)+(1:Int))/\InB (x.val:Int) (mkRwL n k).length/\((((mkRwL n k).getD (x.val:Int).toNat default).name.n !=(↑(k+7*x.val):Int)+(1:Int)+(1:Int)+(1:Int)+(1:Int)+
  (1:Int))=true->(-1:Int)=(↑(k+7*n):Int))/\((((mkRwL n k).getD (x.val:Int).toNat default).name.n !=(↑(k+7*x.val):Int)+(1:Int)+(1:Int)+(1:Int)+(1:Int)+(1:Int))=false->Rng .i64 ((↑(k+7*
  x.val):Int)+(1:Int)+(1:Int)+(1:Int)+(1:Int)+(1:Int)+(1:Int))/\InB (x.val:Int) (mkRwL n k).length/\∃(x_2:Nat),(((↑(k+7*x.val):Int)+(1:Int)+(1:Int)+(1:Int)+(1:Int)+(1:Int)+
  (1:Int)=(x_2:Int)/\True)/\KB x_2)/\((!((mkRwL n k).getD (x.val:Int).toNat default).name.t==mkT x_2)=true->(-1:Int)=(↑(k+7*n):Int))/\((!((mkRwL n k).getD (x.val:Int).toNat default).name.t==mkT x_2)=false
  ->Rng .i64 ((↑(k+7*x.val):Int)+(1:Int)+(1:Int)+(1:Int)+(1:Int)+(1:Int)+(1:Int)+(1:Int))/\Rng .i64 ((x.val:Int)+(1:Int))/\∃(y:{i:Nat//i<=n}),(((EqL rwRow (mkRwL n k) (mkRwL n k))/\
  (↑(k+7*x.val):Int)+(1:Int)+(1:Int)+(1:Int)+(1:Int)+(1:Int)+(1:Int)+(1:Int)=(↑(k+7*y.val):Int)/\(x.val:Int)+(1:Int)=(y.val:Int)/\True)/\True)/\Lt (n-y.val) (n-x.val)))))))))/\
  (decide ((x.val:Int)<(↑(mkRwL n k).length:Int))=false->(↑(k+7*x.val):Int)=(↑(k+7*n):Int))):
  PureFn Tryz.prog 20 [rwS (mkRwL n k),.int .i64 k] (.int .i64 (k+7*n:Nat)):=
 vcR (code:=b_heldRwS) (gC markText_ok call_markText gN) Tryz.func20 (by kernel_rfl) (by kernel_rfl) (A_heldRwS n k) h (by kernel_rfl)
theorem heldRwS_ok:ConOk Tryz.prog 20 k_heldRwS:=by
 rintro⟨n,k⟩ ⟨h1,h2,h3⟩;dsimp only at h1 h2 h3;have hn:(mkRwL n k).length=n:=mk_len _ _;refine v_heldRwS n k ⟨⟨⟨0,Nat.zero_le _⟩,⟨⟨rfl,rowsR _ _⟩,rfl,rfl,trivial⟩,trivial⟩,fun x=>⟨fun hc=> ?_,fun hc=> ?_⟩⟩
 ·have hlt:=lt_of_dec hc;have hlt':x.val<n:=by omega
  have e:(mkRwL n k).getD (x.val:Int).toNat default=mkRw1 (k+7*x.val):=by rw[Int.toNat_natCast];exact mk_at _ hlt' _
  rw[e];have ib:=inB_nat hlt;unfold mkRw1;exact⟨ib,fun h=>by simp at h,fun _=>⟨i64_rng (by omega),ib,fun h=>by simp at h,fun _=>⟨i64_rng (by omega),ib,fun h=>by simp at h,fun _=>⟨i64_rng (by omega),ib,k+7*x.val+3,⟨⟨by omega,trivial⟩,by omega,by omega⟩,fun h=>by simp at h,fun _=>⟨i64_rng (by omega),ib,fun h=>by simp at h,fun _=>⟨i64_rng (by omega),ib,fun h=>by simp at h,fun _=>⟨i64_rng (by omega),ib,k+7*x.val+6,⟨⟨by omega,trivial⟩,by omega,by omega⟩,fun h=>by simp at h,fun _=>⟨i64_rng (by omega),i64_rng (by omega),⟨x.val+1,hlt'⟩,⟨⟨⟨rfl,rowsR _ _⟩,by dsimp only;omega,by dsimp only;omega,trivial⟩,trivial⟩,Cnt.ext_lt hlt'⟩⟩⟩⟩⟩⟩⟩⟩
 ·have hx:x.val=n:=by have:=x.2;have:=le_of_not hc;omega
  rw[hx]
def k_szNdS:Con:=.rel ⟨List Nd×Int,fun x=>[ndS x.1,.int .i64 x.2],fun x=>.int .i64 (rem x.2 (bulkL bulkNd x.1)),fun x=>Left x.2/\Lim x.1.length/\∀i,i<x.1.length->LmNd (x.1.getD i default)⟩
def A_szNdS(L:List Nd)(left:Int):Nat->Ann
 |0=>.one {i:Nat//i<=L.length/\(bulkTo bulkNd L L.length i:Int)<=left} (fun x=>⟨[(0,ndS L),(1,.int .i64 (left-bulkTo bulkNd L L.length x.1)),(5,.int .i64 x.1)],[]⟩) (fun x=>L.length-x.1) [] [] (fun _=>noAnn)
 |_=>.none
noncomputable def b_szNdS:Code:=Tryz.f63.body.getD .skip
theorem call_szNdS:Callable Tryz.prog 63:=⟨_,Tryz.func63,by kernel_rfl,by kernel_rfl⟩
theorem v_szNdS(L:List Nd)(left:Int)(h:
  Rng .i64 (left- (L.length:Int))/\(decide (left- (L.length:Int)<(0:Int))=true->(-1:Int)=rem left (bulkL bulkNd L))/\(decide (left- (L.length:Int)<(0:Int))=false->(∃(x:
  {i:Nat//i<=L.length/\(↑(bulkTo bulkNd L L.length i):Int)<=left}),((EqL ndRow L L)/\left- (L.length:Int)=left- (↑(bulkTo bulkNd L L.length x.val):Int)/\(0:Int)=(x.val:Int)/\True)/\True)/\∀(x:
  {i:Nat//i<=L.length/\(↑(bulkTo bulkNd L L.length i):Int)<=left}),(decide ((x.val:Int)<(L.length:Int))=true->InB (x.val:Int) L.length/\∃(x_1:(Nd×Int)),((((L.getD (x.val:Int).toNat default).op=x_1.fst.op/\
  (L.getD (x.val:Int).toNat default).a=x_1.fst.a/\(L.getD (x.val:Int).toNat default).b=x_1.fst.b/\(L.getD (x.val:Int).toNat default).c=x_1.fst.c/\(L.getD (x.val:Int).toNat default).v.k=x_1.fst.v.k/\(L.getD
  (x.val:Int).toNat default).v.n=x_1.fst.v.n/\(L.getD (x.val:Int).toNat default).v.t=x_1.fst.v.t/\True)/\left- (↑(bulkTo bulkNd L L.length x.val):Int)=x_1.snd/\True)/\Left x_1.snd/\LmNd x_1.fst)/\(decide (rem x_1.snd
  (bulkNd x_1.fst)<(0:Int))=true->(-1:Int)=rem left (bulkL bulkNd L))/\(decide (rem x_1.snd (bulkNd x_1.fst)<(0:Int))=false->Rng .i64 ((x.val:Int)+(1:Int))/\∃(y:
  {i:Nat//i<=L.length/\(↑(bulkTo bulkNd L L.length i):Int)<=left}),(((EqL ndRow L L)/\rem x_1.snd (bulkNd x_1.fst)=left- (↑(bulkTo bulkNd L L.length y.val):Int)/\(x.val:Int)+(1:Int)=(y.val:Int)/\True)/\
  True)/\Lt (L.length-y.val) (L.length-x.val)))/\(decide ((x.val:Int)<(L.length:Int))=false->left- (↑(bulkTo bulkNd L L.length x.val):Int)=rem left (bulkL bulkNd L)))):
  PureFn Tryz.prog 63 [ndS L,.int .i64 left] (.int .i64 (rem left (bulkL bulkNd L))):=
 vcR (code:=b_szNdS) (gC szNd_ok call_szNd gN) Tryz.func63 (by kernel_rfl) (by kernel_rfl) (A_szNdS L left) h (by kernel_rfl)
theorem szNdS_ok:ConOk Tryz.prog 63 k_szNdS:=by
 rintro⟨L,left⟩ ⟨⟨h0,h1⟩,hn,hb⟩;have hn:L.length<=9223372036854775807:=hn;simp only at h0 h1 hb;have hm:∀i,i<=L.length->bulkTo bulkNd L L.length i<=bulkL bulkNd L:=fun i hi=>bulkTo_mono _ _ _ hi
 have hz:bulkTo bulkNd L L.length 0=L.length:=rfl;refine v_szNdS L left ?_
 simp only[rng_i64,decide_eq_true_eq,decide_eq_false_iff_not];refine⟨by omega,fun h=>(rem_lt (by have:=hm 0 (Nat.zero_le _);omega)).symm,fun h=>⟨⟨⟨0,Nat.zero_le _,by omega⟩,⟨⟨(by trivial),rowsR _ _⟩,by simp only[hz],rfl,trivial⟩,trivial⟩,fun x=>⟨fun hc=> ?_,fun hc=> ?_⟩⟩⟩
 ·have hlt:x.val<L.length:=by omega
  have hx:=x.2;have hs:=bulkTo_succ bulkNd L L.length default hlt;have hle:=hm (x.val+1) hlt;have hbr:=hb _ hlt;refine⟨inB_nat hlt,(L.getD x.val default,left- (bulkTo bulkNd L L.length x.val:Int)),⟨⟨⟨rfl,rfl,rfl,rfl,rfl,rfl,rfl,trivial⟩,rfl,trivial⟩,⟨by simp only;omega,by simp only;omega⟩,hbr⟩,fun hr=> ?_,fun hr=>⟨by omega,⟨x.val+1,hlt,?_⟩,⟨⟨⟨(by trivial),rowsR _ _⟩,?_,by simp only;omega,trivial⟩,trivial⟩,Cnt.ext_lt hlt⟩⟩
  ·simp only at hr;by_cases hq:(bulkNd (L.getD x.val default):Int)<=left- (bulkTo bulkNd L L.length x.val:Int)
   ·rw[rem_ge hq] at hr;omega
   ·exact(rem_lt (by omega)).symm
  ·simp only at hr;by_cases hq:(bulkNd (L.getD x.val default):Int)<=left- (bulkTo bulkNd L L.length x.val:Int)
   ·omega
   ·rw[rem_lt (by omega)] at hr
    omega
  ·simp only at hr ⊢;by_cases hq:(bulkNd (L.getD x.val default):Int)<=left- (bulkTo bulkNd L L.length x.val:Int)
   ·rw[rem_ge hq];omega
   ·rw[rem_lt (by omega)] at hr
    omega
 ·have hx:=x.2;have he:x.val=L.length:=by omega
  rw[he] at hx ⊢;exact(rem_ge hx.2).symm
def k_moNdS:Con:=.rmk ⟨List Nd,fun L=>[ndS L],fun _=>[],fun L=>.osl 0 0 L.length,fun L=>[ndA L],fun L=>L.length<=1048576⟩
def A_moNdS(L:List Nd):Nat->Ann
 |0=>.one {i:Nat//i<=L.length} (fun x=>⟨[(0,ndS L),(3,.osl 0 0 L.length),(4,.int .i64 x.1)],[some (.arr true 83 7 L.length (upT (ndRow L) [.int .i64 0,.int .i64 0,.int .i64 0,.int .i64 0,.int .i64 0,.int .i64 0,.str []] x.1))]⟩) (fun x=>L.length-x.1) [.arr 0] [.arr 0] (fun _=>noAnn)
 |_=>.none
noncomputable def b_moNdS:Code:=Tryz.f65.body.getD .skip
theorem call_moNdS:Callable Tryz.prog 65:=⟨_,Tryz.func65,by kernel_rfl,by kernel_rfl⟩
theorem v_moNdS(L:List Nd)(h:
  (Nn (L.length:Int)/\LeI (L.length:Int) (L.length:Int)/\sizeB 64 (L.length:Int).toNat 140737488355328/\Lt (L.length:Int).toNat 9223372036854775808)/\(∃(x:{i:Nat//i<=L.length}),((EqL ndRow L L)/\(0=0/\
  (L.length:Int).toNat=L.length)/\(0:Int)=(x.val:Int)/\True)/\((L.length:Int).toNat=L.length/\RowsEq (L.length:Int).toNat (fun(x:Nat)=>[T.int .i64 (0:Int),T.int .i64 (0:Int),T.int .i64 (0:Int),T.int .i64 (0
  :Int),T.int .i64 (0:Int),T.int .i64 (0:Int),T.str []]) (upT (ndRow L) [T.int .i64 (0:Int),T.int .i64 (0:Int),T.int .i64 (0:Int),T.int .i64 (0:Int),T.int .i64 (0:Int),T.int .i64 (0:Int),T.str []] x.val))/\
  True)/\∀(x:{i:Nat//i<=L.length}),(decide ((x.val:Int)<(L.length:Int))=true->InB (x.val:Int) L.length/\∃(x_1:Nd),((((L.getD (x.val:Int).toNat default).op=x_1.op/\(L.getD (x.val:Int).toNat default).a=x_1.a
  /\(L.getD (x.val:Int).toNat default).b=x_1.b/\(L.getD (x.val:Int).toNat default).c=x_1.c/\(L.getD (x.val:Int).toNat default).v.k=x_1.v.k/\(L.getD (x.val:Int).toNat default).v.n=x_1.v.n/\(L.getD (x.val:Int).toNat
  default).v.t=x_1.v.t/\True)/\True)/\True)/\InB (x.val:Int) L.length/\Lt (0+(x.val:Int).toNat) L.length/\Rng .i64 ((x.val:Int)+(1:Int))/\∃(y:{i:Nat//i<=L.length}),(((EqL ndRow L L)/\(0=0/\L.length=
  L.length)/\(x.val:Int)+(1:Int)=(y.val:Int)/\True)/\(L.length=L.length/\RowsEq L.length (setRow (upT (ndRow L) [T.int .i64 (0:Int),T.int .i64 (0:Int),T.int .i64 (0:Int),T.int .i64 (0:Int),T.int .i64 (0:
  Int),T.int .i64 (0:Int),T.str []] x.val) (0+(x.val:Int).toNat) 0 [T.int .i64 x_1.op,T.int .i64 x_1.a,T.int .i64 x_1.b,T.int .i64 x_1.c,T.int .i64 x_1.v.k,T.int .i64 x_1.v.n,T.str x_1.v.t]) (upT (ndRow L) [T.int .i64 (0
  :Int),T.int .i64 (0:Int),T.int .i64 (0:Int),T.int .i64 (0:Int),T.int .i64 (0:Int),T.int .i64 (0:Int),T.str []] y.val))/\True)/\Lt (L.length-y.val) (L.length-x.val))/\(decide ((x.val:Int)<(L.length:Int))=
  false->((0=0/\L.length=L.length)/\True)/\(L.length=L.length/\RowsEq L.length (upT (ndRow L) [T.int .i64 (0:Int),T.int .i64 (0:Int),T.int .i64 (0:Int),T.int .i64 (0:Int),T.int .i64 (0:Int),T.int .i64 (0:
  Int),T.str []] x.val) (ndRow L))/\True)):
  EffFn Tryz.prog 65 [ndS L] [] (.osl 0 0 L.length) [ndA L]:=
 vcG (code:=b_moNdS) (gC toNd_ok call_toNd gN) Tryz.func65 (by kernel_rfl) (by kernel_rfl) (A_moNdS L) [[.arr 0]] h (by kernel_rfl)
theorem moNdS_ok:ConOk Tryz.prog 65 k_moNdS:=by
 intro(L:List Nd) (hL:L.length<=1048576);refine⟨v_moNdS L ⟨⟨by unfold Nn;omega,by unfold LeI;omega,by unfold sizeB;omega,by unfold Lt;omega⟩,⟨⟨0,Nat.zero_le _⟩,⟨⟨(by trivial),rowsR _ _⟩,⟨(by trivial),by omega⟩,rfl,trivial⟩,⟨by omega,upT_zero⟩,trivial⟩,fun x=>⟨fun hc=> ?_,fun hc=> ?_⟩⟩,rfl,plain_cons (plain_nd L) plain_nil⟩
 ·have hlt:=lt_of_dec hc;refine⟨inB_nat hlt,L.getD x.val default,⟨⟨⟨rfl,rfl,rfl,rfl,rfl,rfl,rfl,trivial⟩,trivial⟩,trivial⟩,inB_nat hlt,by unfold Lt;omega,add_rng hlt (by omega),⟨x.val+1,hlt⟩,⟨⟨⟨(by trivial),rowsR _ _⟩,⟨(by trivial),(by trivial)⟩,by simp only;omega,trivial⟩,⟨(by trivial),fun j hj=> ?_⟩,trivial⟩,Cnt.ext_lt hlt⟩
  exact upT_rows (m:=7) (fun _=>rfl) rfl x.val rfl j
 ·have hx:x.val=L.length:=by have:=x.2;have:=le_of_not hc;omega
  rw[hx];exact⟨⟨⟨rfl,rfl⟩,trivial⟩,⟨rfl,fun i hi=>upT_end (n:=L.length) i (by omega)⟩,trivial⟩
def k_eqNdS:Con:=.rel ⟨List Nd,fun L=>[ndS L,ndS L],fun _=>.bool true,fun L=>L.length<=1048576⟩
def A_eqNdS(L:List Nd):Nat->Ann
 |0=>.one {i:Nat//i<=L.length} (fun x=>⟨[(0,ndS L),(1,ndS L),(5,.int .i64 x.1)],[]⟩) (fun x=>L.length-x.1) [] [] (fun _=>noAnn)
 |_=>.none
noncomputable def b_eqNdS:Code:=Tryz.f67.body.getD .skip
theorem call_eqNdS:Callable Tryz.prog 67:=⟨_,Tryz.func67,by kernel_rfl,by kernel_rfl⟩
theorem v_eqNdS(L:List Nd)(h:
  (((L.length:Int) !=(L.length:Int))=true->false=true)/\(((L.length:Int) !=(L.length:Int))=false->(∃(x:{i:Nat//i<=L.length}),((EqL ndRow L L)/\(EqL ndRow L L)/\(0:Int)=(x.val:Int)/\True)/\True)/\∀(x:
  {i:Nat//i<=L.length}),(decide ((x.val:Int)<(L.length:Int))=true->InB (x.val:Int) L.length/\InB (x.val:Int) L.length/\∃(x_1:Nd),((((L.getD (x.val:Int).toNat default).op=x_1.op/\(L.getD (x.val:Int).toNat
  default).a=x_1.a/\(L.getD (x.val:Int).toNat default).b=x_1.b/\(L.getD (x.val:Int).toNat default).c=x_1.c/\(L.getD (x.val:Int).toNat default).v.k=x_1.v.k/\(L.getD (x.val:Int).toNat default).v.n=x_1.v.n/\(L.getD
  (x.val:Int).toNat default).v.t=x_1.v.t/\True)/\((L.getD (x.val:Int).toNat default).op=x_1.op/\(L.getD (x.val:Int).toNat default).a=x_1.a/\(L.getD (x.val:Int).toNat default).b=x_1.b/\(L.getD (x.val:Int).toNat
  default).c=x_1.c/\(L.getD (x.val:Int).toNat default).v.k=x_1.v.k/\(L.getD (x.val:Int).toNat default).v.n=x_1.v.n/\(L.getD (x.val:Int).toNat default).v.t=x_1.v.t/\True)/\True)/\True)/\(false=true->false=true)/\
  (false=false->Rng .i64 ((x.val:Int)+(1:Int))/\∃(y:{i:Nat//i<=L.length}),(((EqL ndRow L L)/\(EqL ndRow L L)/\(x.val:Int)+(1:Int)=(y.val:Int)/\True)/\True)/\Lt (L.length-y.val) (L.length-x.val)))/\
  (decide ((x.val:Int)<(L.length:Int))=false->true=true))):
  PureFn Tryz.prog 67 [ndS L,ndS L] (.bool true):=
 vcR (code:=b_eqNdS) (gC eqNd_ok call_eqNd gN) Tryz.func67 (by kernel_rfl) (by kernel_rfl) (A_eqNdS L) h (by kernel_rfl)
theorem eqNdS_ok:ConOk Tryz.prog 67 k_eqNdS:=by
 intro(L:List Nd) (hL:L.length<=1048576);refine v_eqNdS L ⟨fun h=>by simp at h,fun _=>⟨⟨⟨0,Nat.zero_le _⟩,⟨⟨(by trivial),rowsR _ _⟩,⟨(by trivial),rowsR _ _⟩,rfl,trivial⟩,trivial⟩,fun x=>⟨fun hc=> ?_,fun _=>rfl⟩⟩⟩
 have hlt:=lt_of_dec hc;exact⟨inB_nat hlt,inB_nat hlt,L.getD x.val default,⟨⟨⟨rfl,rfl,rfl,rfl,rfl,rfl,rfl,trivial⟩,⟨rfl,rfl,rfl,rfl,rfl,rfl,rfl,trivial⟩,trivial⟩,trivial⟩,fun h=>h,fun _=>⟨add_rng hlt (by omega),⟨x.val+1,hlt⟩,⟨⟨⟨(by trivial),rowsR _ _⟩,⟨(by trivial),rowsR _ _⟩,by simp only;omega,trivial⟩,trivial⟩,Cnt.ext_lt hlt⟩⟩
def mkNd1(k:Nat):Nd:=⟨(k:Int),(k:Int)+1,(k:Int)+1+1,(k:Int)+1+1+1,⟨(k:Int)+1+1+1+1,(k:Int)+1+1+1+1+1,mkT (k+6)⟩⟩
def mkNdL(n k:Nat):List Nd:=(List.range n).map fun i=>mkNd1 (k+7*i)
def k_markNdS:Con:=.reff ⟨List Nd×Nat,fun x=>[.osl 0 0 x.1.length,.int .i64 x.2],fun x=>[ndA x.1],fun x=>.int .i64 (x.2+7*x.1.length:Nat),fun x=>[ndA (mkNdL x.1.length x.2)],fun x=>KBn x.1.length x.2 7⟩
def A_markNdS(L:List Nd)(k:Nat):Nat->Ann
 |0=>.one {i:Nat//i<=L.length} (fun x=>⟨[(0,.osl 0 0 L.length),(1,.int .i64 (k+7*x.1:Nat)),(5,.int .i64 x.1)],[some (.arr true 83 7 L.length (upR (ndRow (mkNdL L.length k)) (ndRow L) x.1))]⟩) (fun x=>L.length-x.1) [.arr 0] [.arr 0] (fun _=>noAnn)
 |_=>.none
noncomputable def b_markNdS:Code:=Tryz.f68.body.getD .skip
theorem call_markNdS:Callable Tryz.prog 68:=⟨_,Tryz.func68,by kernel_rfl,by kernel_rfl⟩
theorem v_markNdS(L:List Nd)(k:Nat)(h:
  (∃(x:{i:Nat//i<=L.length}),((0=0/\L.length=L.length)/\(k:Int)=(↑(k+7*x.val):Int)/\(0:Int)=(x.val:Int)/\True)/\(L.length=L.length/\RowsEq L.length (ndRow L) (upR (ndRow (mkNdL L.length k)) (ndRow
  L) x.val))/\True)/\∀(x:{i:Nat//i<=L.length}),(decide ((x.val:Int)<(L.length:Int))=true->InB (x.val:Int) L.length/\Lt (0+(x.val:Int).toNat) L.length/\Rng .i64 ((↑(k+7*x.val):Int)+(1:Int))/\InB
  (x.val:Int) L.length/\Lt (0+(x.val:Int).toNat) L.length/\Rng .i64 ((↑(k+7*x.val):Int)+(1:Int)+(1:Int))/\InB (x.val:Int) L.length/\Lt (0+(x.val:Int).toNat) L.length/\Rng .i64 ((↑(k+7*x.val):Int)+(1:
  Int)+(1:Int)+(1:Int))/\InB (x.val:Int) L.length/\Lt (0+(x.val:Int).toNat) L.length/\Rng .i64 ((↑(k+7*x.val):Int)+(1:Int)+(1:Int)+(1:Int)+(1:Int))/\InB (x.val:Int) L.length/\Lt (0+
  (x.val:Int).toNat) L.length/\Rng .i64 ((↑(k+7*x.val):Int)+(1:Int)+(1:Int)+(1:Int)+(1:Int)+(1:Int))/\InB (x.val:Int) L.length/\Lt (0+(x.val:Int).toNat) L.length/\Rng .i64 ((↑(k+7*x.val):Int)+
  (1:Int)+(1:Int)+(1:Int)+(1:Int)+(1:Int)+(1:Int))/\∃(x_1:Nat),(((↑(k+7*x.val):Int)+(1:Int)+(1:Int)+(1:Int)+(1:Int)+(1:Int)+(1:Int)=(x_1:Int)/\True)/\KB x_1)/\InB
  (x.val:Int) L.length/\Lt (0+(x.val:Int).toNat) L.length/\Rng .i64 ((↑(k+7*x.val):Int)+(1:Int)+(1:Int)+(1:Int)+(1:Int)+(1:Int)+(1:Int)+(1:Int))/\Rng .i64 ((x.val:Int)+(1:Int))/\∃(y:
  {i:Nat//i<=L.length}),(((0=0/\L.length=L.length)/\(↑(k+7*x.val):Int)+(1:Int)+(1:Int)+(1:Int)+(1:Int)+(1:Int)+(1:Int)+(1:Int)=(↑(k+7*y.val):Int)/\(x.val:Int)+(1:Int)=
  (y.val:Int)/\True)/\(L.length=L.length/\RowsEq L.length (setRow (setRow (setRow (setRow (setRow (setRow (setRow (upR (ndRow (mkNdL L.length k)) (ndRow L) x.val) (0+(x.val:Int).toNat) 0 [T.int .i64 (↑(k+7*x.val):Int)])
  (0+(x.val:Int).toNat) 1 [T.int .i64 ((↑(k+7*x.val):Int)+(1:Int))]) (0+(x.val:Int).toNat) 2 [T.int .i64 ((↑(k+7*x.val):Int)+(1:Int)+(1:Int))]) (0+(x.val:Int).toNat) 3 [T.int .i64 ((↑(k+7*x.val):
  Int)+(1:Int)+(1:Int)+(1:Int))]) (0+(x.val:Int).toNat) 4 [T.int .i64 ((↑(k+7*x.val):Int)+(1:Int)+(1:Int)+(1:Int)+(1:Int))]) (0+(x.val:Int).toNat) 5 [T.int .i64 ((↑(k+7*x.val):Int)+(1:
  Int)+(1:Int)+(1:Int)+(1:Int)+(1:Int))]) (0+(x.val:Int).toNat) 6 [T.str (mkT x_1)]) (upR (ndRow (mkNdL L.length k)) (ndRow L) y.val))/\True)/\Lt (L.length-y.val) (L.length-x.val))/\(decide ((x.val:Int)<
  (L.length:Int))=false->((↑(k+7*x.val):Int)=(↑(k+7*L.length):Int)/\True)/\(L.length=(mkNdL L.length k).length/\RowsEq L.length (upR (ndRow (mkNdL L.length k)) (ndRow L) x.val) (ndRow (mkNdL L.length k)))/\
  True)):
  EffFn Tryz.prog 68 [.osl 0 0 L.length,.int .i64 k] [ndA L] (.int .i64 (k+7*L.length:Nat)) [ndA (mkNdL L.length k)]:=
 vcG (code:=b_markNdS) (gC markText_ok call_markText gN) Tryz.func68 (by kernel_rfl) (by kernel_rfl) (A_markNdS L k) [[.arr 0]] h (by kernel_rfl)
theorem markNdS_ok:ConOk Tryz.prog 68 k_markNdS:=by
 rintro⟨L,k⟩ ⟨h1,h2,h3⟩;dsimp only at h1 h2 h3;refine v_markNdS L k ⟨⟨⟨0,Nat.zero_le _⟩,⟨⟨rfl,rfl⟩,rfl,rfl,trivial⟩,⟨rfl,upR_zero⟩,trivial⟩,fun x=>⟨fun hc=> ?_,fun hc=> ?_⟩⟩
 ·have hlt:=lt_of_dec hc;have ib:=inB_nat hlt;have lt:Lt (0+(x.val:Int).toNat) L.length:=by unfold Lt;omega
  refine⟨ib,lt,i64_rng (by omega),ib,lt,i64_rng (by omega),ib,lt,i64_rng (by omega),ib,lt,i64_rng (by omega),ib,lt,i64_rng (by omega),ib,lt,i64_rng (by omega),k+7*x.val+6,⟨⟨by omega,trivial⟩,by omega,by omega⟩,ib,lt,i64_rng (by omega),i64_rng (by omega),⟨x.val+1,hlt⟩,⟨⟨⟨rfl,rfl⟩,by dsimp only;omega,by dsimp only;omega,trivial⟩,⟨rfl,fun j _=> ?_⟩,trivial⟩,Cnt.ext_lt hlt⟩
  exact upR_setCs (m:=7) (fun _=>rfl) (fun _=>rfl) x.val [(0,.int .i64 (((k+7*x.val:Nat):Int))),(1,.int .i64 (((k+7*x.val:Nat):Int)+1)),(2,.int .i64 (((k+7*x.val:Nat):Int)+1+1)),(3,.int .i64 (((k+7*x.val:Nat):Int)+1+1+1)),(4,.int .i64 (((k+7*x.val:Nat):Int)+1+1+1+1)),(5,.int .i64 (((k+7*x.val:Nat):Int)+1+1+1+1+1)),(6,.str (mkT (k+7*x.val+6)))] (by simp) (by unfold ndRow mkNdL;rw[mk_at _ hlt];rfl) j
 ·have hx:x.val=L.length:=by have:=x.2;have:=le_of_not hc;omega
  rw[hx];exact⟨⟨rfl,trivial⟩,⟨(mk_len _ _).symm,upR_end⟩,trivial⟩
end Go.Proofs.YtfmngblmdghccaaGreat

