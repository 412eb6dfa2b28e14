/- A part of the proof. -/
import Derived.Test.YtokaojbaacnngaaGreatE6
namespace Go.Proofs.YtokaojbaacnngaaGreat
set_option maxRecDepth 100000
open Go.SS

structure Frm where
 no:Int
 pg:Pg
 dirty:Bool
 first:Int
 deriving Inhabited
def Frm.ts(f:Frm):List T:=[.int .i64 f.no,.int .i64 f.pg.lsn,L3 f.pg.sl,.bool f.dirty,.int .i64 f.first]
structure Sto where
 d:Dsk
 ep:Int
 log:List Rec
 sure:Int
 fr:List Frm
 hand:Int
 deriving Inhabited
def V6(L:List Frm)(i:Nat):List T:=(L.getD i default).ts
def w5(L:List Frm):T:=.sl 5 L.length (V6 L)
def Sto.ts(s:Sto):List T:=[L3 s.d.sec,M4 s.d.cache,.bool s.d.armed,r7 s.d.keep,.int .i64 s.ep,F3 s.log,.int .i64 s.sure,w5 s.fr,.int .i64 s.hand]
abbrev xM(a b:Sto):Prop:=(a.d.sec.length=b.d.sec.length/\Z8 a.d.sec.length (Z6 a.d.sec) (Z6 b.d.sec))/\(a.d.cache.length=b.d.cache.length/\Z8 a.d.cache.length (Z3 a.d.cache) (Z3 b.d.cache))/\a.d.armed=b.d.armed/\(a.d.keep.length=b.d.keep.length/\Z8 a.d.keep.length (Y8 a.d.keep) (Y8 b.d.keep))/\a.ep=b.ep/\(a.log.length=b.log.length/\Z8 a.log.length (Y5 a.log) (Y5 b.log))/\a.sure=b.sure/\(a.fr.length=b.fr.length/\Z8 a.fr.length (V6 a.fr) (V6 b.fr))/\a.hand=b.hand/\True
theorem wS(s:Sto):xM s s:=⟨⟨rfl,Z9 _ _⟩,⟨rfl,Z9 _ _⟩,rfl,⟨rfl,Z9 _ _⟩,rfl,⟨rfl,Z9 _ _⟩,rfl,⟨rfl,Z9 _ _⟩,rfl,trivial⟩
def mO(s:Sto):Option Ob:=some (.arr true 1000000 9 1 fun _=>s.ts)
noncomputable def v9(d:Dsk)(no:Nat):Pg×Bool:=if O7 d (1+no)=[] then(⟨0,[[],[],[],[]]⟩,true) else H7 no (O7 d (1+no))
noncomputable def K0(d:Dsk)(no:Nat):Pg×Bool:=if O7 d (1+no)=[] then(⟨0,[[],[],[],[]]⟩,true) else(D6 no (O7 d (1+no)),(H7 no (O7 d (1+no))).2)
theorem b9h(d:Dsk)(no:Nat):(K0 d no).2=(v9 d no).2/\((v9 d no).2=true->K0 d no=v9 d no):=by
 unfold K0 v9;by_cases h:O7 d (1+no)=[]
 ·rw[if_pos h,if_pos h];exact⟨rfl,fun _=>rfl⟩
 ·rw[if_neg h,if_neg h];refine⟨rfl,fun h2=> ?_⟩
  unfold D6;rw[if_pos h2]
def a0d(x:Dsk×Nat):Prop:=G7 x.1/\1+x.2<x.1.sec.length
theorem oH{d:Dsk}(h:G7 d){at_:Nat}(ha:at_<d.sec.length):(O7 d at_).length<=160:=by
 obtain⟨_,_,_,_,_,h1,h2⟩:=h;have key:∀n,n<=d.cache.length->∀l,A0 d.cache at_ n=some l->l.length<=160:=by
  intro n;induction n with
  |zero=>intro _ l hl;cases hl
  |succ n ih=>
   intro hn l hl;unfold A0 at hl;split at hl
   ·simp only[X6] at hl;subst hl;have:=h2 n (by omega)
    unfold S8 at this;simp only[vG,tV] at this;omega
   ·exact ih (by omega) l hl
 unfold O7;cases hl:A0 d.cache at_ d.cache.length with
 |none=>exact h1 at_ ha
 |some l=>exact key _ (V5 _) l hl
noncomputable def nB:Rl:=⟨Sto×Nat,fun x=>[.bref x.1.ts,.int .i64 x.2],fun x=>.tup [.agg (K0 x.1.d x.2).1.ts,.bool (K0 x.1.d x.2).2],fun x=>a0d (x.1.d,x.2)⟩
noncomputable def a4W:Con:=.rel nB
noncomputable def a4h:Code:=Tryz.f153.body.getD .skip
theorem iJ:Z7 Tryz.prog 153:=⟨_,Tryz.func153,by kernel_rfl,by kernel_rfl⟩
theorem a5B(s:Sto)(no:Nat)(h:
  X8 .i64 ((1:Int)+(no:Int))/\∃(x:qQ.ι),(((zR s.d x.fst)/\(1:Int)+(no:Int)=(x.snd:Int)/\True)/\AtB x)/\((O7 x.fst x.snd==[])=true->∃(x:wB.ι),(True/\True)/\((0:Int)=(K0 s.d
  no).fst.lsn/\(4=(K0 s.d no).fst.sl.length/\Z8 4 (Z6 [[],[],[],[]]) (Z6 (K0 s.d no).fst.sl))/\True)/\true=(K0 s.d no).snd/\True)/\((O7 x.fst x.snd==[])=false->Lt (O7 x.fst x.snd).length
  140737488355329/\∃(x_1:mZ.ι),(((no:Int)=x_1.fst/\O7 x.fst x.snd=x_1.snd/\True)/\RdB x_1.snd)/\((D6 x_1.fst x_1.snd).lsn=(K0 s.d no).fst.lsn/\(Y4 Z6 (D6 x_1.fst x_1.snd).sl (K0 s.d
  no).fst.sl)/\True)/\(D0 x_1.fst x_1.snd==(0:Int))=(K0 s.d no).snd/\True)):
  Z2 Tryz.prog 153 [.bref s.ts,.int .i64 no] (.tup [.agg (K0 s.d no).1.ts,.bool (K0 s.d no).2]):=
 T4 (code:=a4h) (gC a23 nI (gC a0Y gX (gC a3Z iF gN))) Tryz.func153 (by kernel_rfl) (by kernel_rfl) Z0 h (by kernel_rfl)
noncomputable def gW:Rl:=⟨Dsk×Nat,fun x=>[.agg x.1.ts,.int .i64 x.2],fun x=>.tup [.agg (v9 x.1 x.2).1.ts,.bool (v9 x.1 x.2).2],a0d⟩
noncomputable def b1J:Con:=.rel gW
noncomputable def b3P:Code:=Tryz.f140.body.getD .skip
theorem eK:Z7 Tryz.prog 140:=⟨_,Tryz.func140,by kernel_rfl,by kernel_rfl⟩
theorem b1M(d:Dsk)(no:Nat)(h:
  X8 .i64 ((1:Int)+(no:Int))/\∃(x:qQ.ι),(((zR d x.fst)/\(1:Int)+(no:Int)=(x.snd:Int)/\True)/\AtB x)/\((O7 x.fst x.snd==[])=true->∃(x:wB.ι),(True/\True)/\((0:Int)=(v9 d no).fst.lsn/\
  (4=(v9 d no).fst.sl.length/\Z8 4 (Z6 [[],[],[],[]]) (Z6 (v9 d no).fst.sl))/\True)/\true=(v9 d no).snd/\True)/\((O7 x.fst x.snd==[])=false->∃(x_1:fZ.ι),(((no:Int)=x_1.fst/\O7
  x.fst x.snd=x_1.snd/\True)/\RdB x_1.snd)/\((H7 x_1.fst x_1.snd).fst.lsn=(v9 d no).fst.lsn/\(Y4 Z6 (H7 x_1.fst x_1.snd).fst.sl (v9 d no).fst.sl)/\True)/\(H7 x_1.fst x_1.snd).snd=(v9 d no).snd/\True)):
  Z2 Tryz.prog 140 [.agg d.ts,.int .i64 no] (.tup [.agg (v9 d no).1.ts,.bool (v9 d no).2]):=
 T4 (code:=b3P) (gC mR sA (gC a06 iW (gC a6k eF gN))) Tryz.func140 (by kernel_rfl) (by kernel_rfl) Z0 h (by kernel_rfl)
def tG(L:List Frm)(no:Int)(i:Nat):Bool:=(L.getD i default).no==no
def frAt(L:List Frm)(no:Int):Int:=Q4 L.length (tG L no)
def noF(no:Int):T:=.fn (.func 261) [.bref [.int .i64 no]]
def nX:Rl:=⟨Frm×Int,fun x=>[.agg x.1.ts,.bref [.int .i64 x.2]],fun x=>.bool (x.1.no==x.2),fun _=>True⟩
def a6m:Con:=.rel nX
noncomputable def a5n:Code:=Tryz.f261.body.getD .skip
theorem gZ:Z7 Tryz.prog 261:=⟨_,Tryz.func261,by kernel_rfl,by kernel_rfl⟩
theorem a66(f:Frm)(no:Int)(h:
  (f.no==no)=(f.no==no)):
  Z2 Tryz.prog 261 [.agg f.ts,.bref [.int .i64 no]] (.bool (f.no==no)):=
 T4 (code:=a5n) gN Tryz.func261 (by kernel_rfl) (by kernel_rfl) Z0 h (by kernel_rfl)
theorem a1s:Z1 Tryz.prog 261 a6m:=fun x _=>a66 x.1 x.2 rfl
def a0K:Rl:=⟨List Frm×Int,fun x=>[w5 x.1,noF x.2],fun x=>.int .i64 (frAt x.1 x.2),fun x=>K6 x.1.length⟩
def b9b:Con:=.rel a0K
def b6W(L:List Frm)(no:Int):Nat->Ann
 |0=>.one (V9 L.length (tG L no)) (fun x=>⟨[(0,w5 L),(1,noF no),(7,.int .i64 L.length),(8,.int .i64 x.1)],[]⟩) (fun x=>L.length-x.1) [] [] (fun _=>Z0)
 |_=>.none
noncomputable def c0m:Code:=Tryz.f260.body.getD .skip
theorem a1o:Z7 Tryz.prog 260:=⟨_,Tryz.func260,by kernel_rfl,by kernel_rfl⟩
theorem b6n(L:List Frm)(no:Int)(h:
  (∃(x:V9 L.length (tG L no)),((Y4 V6 L L)/\(Fn.func 261=Fn.func 261/\O0 (fun(x:Nat)=>none) (T.bref [T.int .i64 no]) (T.bref [T.int .i64 no])/\True)/\(L.length:Int)=(L.length:Int)/\(0:Int)=(x.val:Int)
  /\True)/\True)/\∀(x:V9 L.length (tG L no)),(decide ((x.val:Int)<(L.length:Int))=true->X0 (x.val:Int) L.length/\∃(x_1:nX.ι),((((L.getD (x.val:Int).toNat default).no=x_1.fst.no/\(L.getD
  (x.val:Int).toNat default).pg.lsn=x_1.fst.pg.lsn/\(Y4 Z6 (L.getD (x.val:Int).toNat default).pg.sl x_1.fst.pg.sl)/\(L.getD (x.val:Int).toNat default).dirty=x_1.fst.dirty/\(L.getD (x.val:Int).toNat default).first=
  x_1.fst.first/\True)/\(no=x_1.snd/\True)/\True)/\True)/\((x_1.fst.no==x_1.snd)=true->(x.val:Int)=frAt L no)/\((x_1.fst.no==x_1.snd)=false->X8 .i64 ((x.val:Int)+(1:Int))/\∃(y:V9 L.length (tG L no)),
  (((Y4 V6 L L)/\(Fn.func 261=Fn.func 261/\O0 (fun(x:Nat)=>none) (T.bref [T.int .i64 no]) (T.bref [T.int .i64 no])/\True)/\(L.length:Int)=(L.length:Int)/\(x.val:Int)+(1:Int)=(y.val:Int)/\True)/\True)/\Lt
  (L.length-y.val) (L.length-x.val)))/\(decide ((x.val:Int)<(L.length:Int))=false->(-1:Int)=frAt L no)):
  Z2 Tryz.prog 260 [w5 L,noF no] (.int .i64 (frAt L no)):=
 T4 (code:=c0m) (gC a1s gZ gN) Tryz.func260 (by kernel_rfl) (by kernel_rfl) (b6W L no) h (by kernel_rfl)
theorem b2i:Z1 Tryz.prog 260 b9b:=by
 rintro⟨L,no⟩ (hL:L.length<1000000000000);refine b6n L no ⟨⟨E5,⟨⟨rfl,Z9 _ _⟩,⟨rfl,T8 _,trivial⟩,rfl,rfl,trivial⟩,trivial⟩,fun x=>⟨fun hc=> ?_,fun hc=> ?_⟩⟩
 ·have hlt:=Y9 hc;refine⟨Y7 hlt,(L.getD x.val default,no),⟨⟨⟨rfl,rfl,⟨rfl,Z9 _ _⟩,rfl,rfl,trivial⟩,⟨rfl,trivial⟩,trivial⟩,trivial⟩,fun hp=>(M1 hlt hp x.2.2).symm,fun hp=>⟨W4 hlt (by omega),x.succ hlt hp,⟨⟨⟨rfl,Z9 _ _⟩,⟨rfl,T8 _,trivial⟩,rfl,by simp only[V9.succ];omega,trivial⟩,trivial⟩,V9.ext_lt hlt⟩⟩
 ·have hge:=Y3 hc;exact(J4 fun j hj=>x.2.2 j (xF hj hge)).symm
def eW:Rl:=⟨Sto×Int,fun x=>[.bref x.1.ts,.int .i64 x.2],fun x=>.int .i64 (frAt x.1.fr x.2),fun x=>K6 x.1.fr.length⟩
def b24:Con:=.rel eW
noncomputable def b0p:Code:=Tryz.f215.body.getD .skip
theorem eV:Z7 Tryz.prog 215:=⟨_,Tryz.func215,by kernel_rfl,by kernel_rfl⟩
theorem b0g(s:Sto)(no:Int)(h:
  ∃(x:a0K.ι),(((Y4 V6 s.fr x.fst)/\(Fn.func 261=Fn.func 261/\(no=x.snd/\True)/\True)/\True)/\K6 x.fst.length)/\frAt x.fst x.snd=frAt s.fr no):
  Z2 Tryz.prog 215 [.bref s.ts,.int .i64 no] (.int .i64 (frAt s.fr no)):=
 T4 (code:=b0p) (gC b2i a1o gN) Tryz.func215 (by kernel_rfl) (by kernel_rfl) Z0 h (by kernel_rfl)
def xU:Rl:=⟨Sto×Int,fun x=>[.agg x.1.ts,.int .i64 x.2],fun x=>.int .i64 (frAt x.1.fr x.2),fun x=>K6 x.1.fr.length⟩
def a4n:Con:=.rel xU
def a69(s:Sto)(no:Int):Nat->Ann
 |0=>.one (V9 s.fr.length (tG s.fr no)) (fun x=>⟨[(1,.int .i64 no),(2,.ref 0 0 0),(5,.int .i64 x.1)],[mO s]⟩) (fun x=>s.fr.length-x.1) [.box 0] [.box 0] (fun _=>Z0)
 |_=>.none
noncomputable def a8B:Code:=Tryz.f125.body.getD .skip
theorem vI:Z7 Tryz.prog 125:=⟨_,Tryz.func125,by kernel_rfl,by kernel_rfl⟩
theorem a5R(s:Sto)(no:Int)(h:
  (∃(x:V9 s.fr.length (tG s.fr no)),(no=no/\(0=0/\0=0)/\(0:Int)=(x.val:Int)/\True)/\(1=1/\1=1/\xM s s)/\True)/\∀(x:V9 s.fr.length (tG s.fr no)),(decide ((x.val:Int)<(s.fr.length:Int))=true->
  X0 (x.val:Int) s.fr.length/\(((s.fr.getD (x.val:Int).toNat default).no==no)=true->(x.val:Int)=frAt s.fr no)/\(((s.fr.getD (x.val:Int).toNat default).no==no)=false->X8 .i64 ((x.val:Int)+(1:Int))/\∃(y:V9
  s.fr.length (tG s.fr no)),((no=no/\(0=0/\0=0)/\(x.val:Int)+(1:Int)=(y.val:Int)/\True)/\(1=1/\1=1/\xM s s)/\True)/\Lt (s.fr.length-y.val) (s.fr.length-x.val)))/\(decide ((x.val:Int)<
  (s.fr.length:Int))=false->(-1:Int)=frAt s.fr no)):
  Z2 Tryz.prog 125 [.agg s.ts,.int .i64 no] (.int .i64 (frAt s.fr no)):=
 T4 (code:=a8B) gN Tryz.func125 (by kernel_rfl) (by kernel_rfl) (a69 s no) h (by kernel_rfl)
theorem a7O:Z1 Tryz.prog 215 b24:=by
 rintro⟨s,no⟩ hL;exact b0g s no ⟨(s.fr,no),⟨⟨⟨rfl,Z9 _ _⟩,⟨rfl,⟨rfl,trivial⟩,trivial⟩,trivial⟩,hL⟩,rfl⟩
theorem pP:Z1 Tryz.prog 125 a4n:=by
 rintro⟨s,no⟩ (hL:s.fr.length<1000000000000);refine a5R s no ⟨⟨E5,⟨rfl,⟨rfl,rfl⟩,rfl,trivial⟩,⟨rfl,rfl,wS _⟩,trivial⟩,fun x=>⟨fun hc=> ?_,fun hc=> ?_⟩⟩
 ·have hlt:=Y9 hc;exact⟨Y7 hlt,fun hp=>(M1 hlt hp x.2.2).symm,fun hp=>⟨W4 hlt (by omega),x.succ hlt hp,⟨⟨rfl,⟨rfl,rfl⟩,by simp only[V9.succ];omega,trivial⟩,⟨rfl,rfl,wS _⟩,trivial⟩,V9.ext_lt hlt⟩⟩
 ·have hge:=Y3 hc;exact(J4 fun j hj=>x.2.2 j (xF hj hge)).symm
theorem b1b(no:Int)(t:List UInt8):(D0 no t==(0:Int))=(H7 no t).2:=by
 unfold D0;cases hu:T6 t
 ·have:(H7 no t).2=false:=by unfold H7;rw[hu];rfl
  rw[this];rfl
 ·cases h:(H7 no t).2<;>rfl
theorem a2U:Z1 Tryz.prog 153 a4W:=by
 rintro⟨s,no⟩ ⟨hd,hn⟩;simp only at hd hn;have hle:=oH hd hn;obtain⟨q1,q2,q3,_⟩:=hd;refine a5B s no ⟨Z5 (by omega),(s.d,1+no),⟨⟨(xL _),by simp only;omega,trivial⟩,hn,by simp only;omega⟩,fun h=>⟨(),⟨trivial,trivial⟩,?_⟩,fun h=>⟨by unfold Lt;simp only;omega,((no:Int),O7 s.d (1+no)),⟨⟨rfl,rfl,trivial⟩,by show(O7 s.d (1+no)).length<=1000;omega⟩,?_⟩⟩
 ·have h:O7 s.d (1+no)=[]:=by simpa using h
  have e:K0 s.d no=(⟨0,[[],[],[],[]]⟩,true):=by unfold K0;rw[if_pos h]
  rw[e];exact⟨⟨rfl,⟨rfl,Z9 _ _⟩,trivial⟩,rfl,trivial⟩
 ·have h:O7 s.d (1+no)≠[]:=by simpa using h
  have e:K0 s.d no=(D6 no (O7 s.d (1+no)),(H7 no (O7 s.d (1+no))).2):=by unfold K0;rw[if_neg h]
  rw[e];exact⟨⟨rfl,⟨rfl,Z9 _ _⟩,trivial⟩,b1b _ _,trivial⟩
theorem a6e:Z1 Tryz.prog 140 b1J:=by
 rintro⟨d,no⟩ ⟨hd,hn⟩;simp only at hd hn;have hle:=oH hd hn;obtain⟨q1,q2,q3,_⟩:=hd;refine b1M d no ⟨Z5 (by omega),(d,1+no),⟨⟨(xL _),by simp only;omega,trivial⟩,hn,by simp only;omega⟩,fun h=>⟨(),⟨trivial,trivial⟩,?_⟩,fun h=>⟨((no:Int),O7 d (1+no)),⟨⟨rfl,rfl,trivial⟩,by show(O7 d (1+no)).length<=1000;omega⟩,?_⟩⟩
 ·have h:O7 d (1+no)=[]:=by simpa using h
  have e:v9 d no=(⟨0,[[],[],[],[]]⟩,true):=by unfold v9;rw[if_pos h]
  rw[e];exact⟨⟨rfl,⟨rfl,Z9 _ _⟩,trivial⟩,rfl,trivial⟩
 ·have h:O7 d (1+no)≠[]:=by simpa using h
  have e:v9 d no=H7 no (O7 d (1+no)):=by unfold v9;rw[if_neg h]
  rw[e];exact⟨⟨rfl,⟨rfl,Z9 _ _⟩,trivial⟩,rfl,trivial⟩
noncomputable def t8(s:Sto)(i:Nat):Bool:=
 !W8 (s.fr.getD i default).no 0 7||frAt s.fr (s.fr.getD i default).no !=(i:Int)|| !A8 (s.fr.getD i default).pg||decide ((s.fr.getD i default).pg.lsn>(s.log.length:Int))|| !W8 (s.fr.getD i default).first 0 s.log.length||
  decide ((s.fr.getD i default).first>0) !=(s.fr.getD i default).dirty
noncomputable def u4(s:Sto):Bool:= !anyI s.fr.length (t8 s)&&decide ((s.fr.length:Int)<=3)
def FrB(L:List Frm):Prop:=K6 L.length/\∀i,i<L.length->PgB (L.getD i default).pg
def c7s(s:Sto):Prop:=FrB s.fr/\K6 s.log.length
noncomputable def oB:Rl:=⟨Sto,fun s=>[.bref s.ts],fun s=>.bool (u4 s),c7s⟩
noncomputable def a6d:Con:=.rel oB
noncomputable def a8t(s:Sto):Nat->Ann
 |0=>.one (V9 s.fr.length (t8 s)) (fun x=>⟨[(0,.bref s.ts),(8,w5 s.fr),(9,.int .i64 s.fr.length),(10,.int .i64 x.1)],[]⟩) (fun x=>s.fr.length-x.1) [] [] (fun _=>Z0)
 |_=>.none
noncomputable def a7p:Code:=Tryz.f154.body.getD .skip
theorem iK:Z7 Tryz.prog 154:=⟨_,Tryz.func154,by kernel_rfl,by kernel_rfl⟩
theorem a4H(s:Sto)(h:
  (∃(x:V9 s.fr.length (t8 s)),(O0 (fun(x:Nat)=>none) (T.bref s.ts) (T.bref s.ts)/\(Y4 V6 s.fr s.fr)/\(s.fr.length:Int)=(s.fr.length:Int)/\(0:Int)=(x.val:Int)/\True)/\True)/\∀(x:V9 s.fr.length
  (t8 s)),(decide ((x.val:Int)<(s.fr.length:Int))=true->X0 (x.val:Int) s.fr.length/\A9 (8:Int)/\∃(x_1:eW.ι),((!(decide ((0:Int)<=(s.fr.getD (x.val:Int).toNat default).no)&&decide ((s.fr.getD
  (x.val:Int).toNat default).no<(8:Int))))=false->((xM s x_1.fst)/\(s.fr.getD (x.val:Int).toNat default).no=x_1.snd/\True)/\K6 x_1.fst.fr.length)/\∃(x_2:yZ.ι),((!(decide ((0:Int)<=(s.fr.getD
  (x.val:Int).toNat default).no)&&decide ((s.fr.getD (x.val:Int).toNat default).no<(8:Int)))||frAt x_1.fst.fr x_1.snd !=(x.val:Int))=false->(((s.fr.getD (x.val:Int).toNat default).pg.lsn=x_2.lsn/\(Y4 Z6
  (s.fr.getD (x.val:Int).toNat default).pg.sl x_2.sl)/\True)/\True)/\PgB x_2)/\((!(decide ((0:Int)<=(s.fr.getD (x.val:Int).toNat default).no)&&decide ((s.fr.getD (x.val:Int).toNat default).no<(8:Int)))||frAt
  x_1.fst.fr x_1.snd !=(x.val:Int)|| !A8 x_2||decide ((s.fr.getD (x.val:Int).toNat default).pg.lsn>(s.log.length:Int))|| !W8 (s.fr.getD (x.val:Int).toNat default).first (0:Int) (s.log.length:Int)|| !decide ((s.fr.getD
  (x.val:Int).toNat default).first>(0:Int))==(s.fr.getD (x.val:Int).toNat default).dirty)=true->false=u4 s)/\((!(decide ((0:Int)<=(s.fr.getD (x.val:Int).toNat default).no)&&decide ((s.fr.getD (x.val:Int).toNat
  default).no<(8:Int)))||frAt x_1.fst.fr x_1.snd !=(x.val:Int)|| !A8 x_2||decide ((s.fr.getD (x.val:Int).toNat default).pg.lsn>(s.log.length:Int))|| !W8 (s.fr.getD (x.val:Int).toNat default).first (0:Int)
  (s.log.length:Int)|| !decide ((s.fr.getD (x.val:Int).toNat default).first>(0:Int))==(s.fr.getD (x.val:Int).toNat default).dirty)=false->X8 .i64 ((x.val:Int)+(1:Int))/\∃(y:V9 s.fr.length (t8 s)),((O0 (fun
  (x:Nat)=>none) (T.bref s.ts) (T.bref s.ts)/\(Y4 V6 s.fr s.fr)/\(s.fr.length:Int)=(s.fr.length:Int)/\(x.val:Int)+(1:Int)=(y.val:Int)/\True)/\True)/\Lt (s.fr.length-y.val) (s.fr.length-x.val)))/\(decide
  ((x.val:Int)<(s.fr.length:Int))=false->decide ((s.fr.length:Int)<=(3:Int))=u4 s)):
  Z2 Tryz.prog 154 [.bref s.ts] (.bool (u4 s)):=
 T4 (code:=a7p) (gC yJ s3 (gC a7O eV (gC mJ sX (gC P2 R8 gN)))) Tryz.func154 (by kernel_rfl) (by kernel_rfl) (a8t s) h (by kernel_rfl)
theorem c7f(n:Int):(decide (0<=n)&&decide (n<8))=W8 n 0 7:=by
 unfold W8;rw[show decide (n<8)=decide (n<=7) from decide_eq_decide.2 (by omega)]
theorem a3q:Z1 Tryz.prog 154 a6d:=by
 rintro(s:Sto) ⟨⟨h1,h2⟩,h3⟩;have h1:s.fr.length<1000000000000:=h1;have h3:s.log.length<1000000000000:=h3;refine a4H s ⟨⟨E5,⟨T8 _,⟨rfl,Z9 _ _⟩,rfl,rfl,trivial⟩,trivial⟩,fun x=>⟨fun hc=> ?_,fun hc=> ?_⟩⟩
 ·have hlt:=Y9 hc;rw[c7f,v4];have e:(!W8 (s.fr.getD x.val default).no 0 7||frAt s.fr (s.fr.getD x.val default).no !=(x.val:Int)|| !A8 (s.fr.getD x.val default).pg||decide ((s.fr.getD x.val default).pg.lsn>(s.log.length:Int))||
    !W8 (s.fr.getD x.val default).first 0 s.log.length|| !decide ((s.fr.getD x.val default).first>0)==(s.fr.getD x.val default).dirty)=t8 s x.val:=rfl
  refine⟨Y7 hlt,⟨by omega,by omega⟩,(s,(s.fr.getD x.val default).no),fun _=>⟨⟨(wS _),rfl,trivial⟩,h1⟩,(s.fr.getD x.val default).pg,fun _=>⟨⟨⟨rfl,⟨rfl,Z9 _ _⟩,trivial⟩,trivial⟩,h2 _ hlt⟩,fun hb=> ?_,fun hb=>⟨W4 hlt (by omega),x.succ hlt (e.symm.trans hb),⟨⟨T8 _,⟨rfl,Z9 _ _⟩,rfl,by simp only[V9.succ];omega,trivial⟩,trivial⟩,V9.ext_lt hlt⟩⟩
  have:anyI s.fr.length (t8 s)=true:=Q0.2 ⟨x.val,hlt,e.symm.trans hb⟩;unfold u4;rw[this];rfl
 ·have hge:=Y3 hc;have:anyI s.fr.length (t8 s)=false:=M5.2 fun i hi=>x.2.2 i (xF hi hge)
  unfold u4;rw[this];simp
def wW(L:List Rec)(i:Nat):Int:=if i=0 then 1 else(L.getD (i-1) default).e
def vD(s:Sto)(i:Nat):Bool:= !W8 (s.log.getD i default).e (wW s.log i) s.ep
noncomputable def g9(s:Sto)(no:Nat):Bool:= !(v9 s.d no).2||decide ((v9 s.d no).1.lsn>s.sure)
noncomputable def tU(s:Sto):Bool:= !C6 s.d||((s.d.sec.length:Nat):Int) !=69|| !W8 s.ep 1 60||decide ((s.log.length:Int)>60)
noncomputable def N4(s:Sto):Bool:= !(tU s|| !s9 s.log|| !W8 s.sure 0 s.log.length)&& !anyI s.log.length (vD s)&& !anyI 8 (g9 s)&&u4 s&&W8 s.hand 0 2
def b9e(s:Sto):Prop:=c30 s.d/\c1W s.log/\FrB s.fr/\∀r ∈ s.log,K6 r.a.length
noncomputable def wC:Rl:=⟨Sto,fun s=>[.agg s.ts],fun s=>.bool (N4 s),b9e⟩
noncomputable def a4e:Con:=.rel wC
noncomputable def a74:Con:=.rel wC
noncomputable def a45(s:Sto):Nat->Ann
 |0=>.onef [1,3,48,49,50] (V9 s.log.length (vD s)) (fun x=>⟨[(1,.bref s.ts),(3,.int .i64 (wW s.log x.1)),(48,F3 s.log),(49,.int .i64 s.log.length),(50,.int .i64 x.1)],[]⟩) (fun x=>s.log.length-x.1) [] (fun _=>fun
  |1=>.one (V9 8 (g9 s)) (fun x=>⟨[(1,.bref s.ts),(64,.int .i64 x.1)],[]⟩) (fun x=>8-x.1) [] [] (fun _=>Z0)
  |_=>.none)
 |_=>.none
noncomputable def a5W:Code:=Tryz.f87.body.getD .skip
theorem iZ:Z7 Tryz.prog 87:=⟨_,Tryz.func87,by kernel_rfl,by kernel_rfl⟩
theorem a4M(s:Sto)(h:
  ∃(x:sD.ι),(((zR s.d x)/\True)/\c30 x)/\∃(x_1:tJ.ι),((!C6 x||(s.d.sec.length:Int) !=(69:Int)|| !W8 s.ep (1:Int) (60:Int)||decide ((s.log.length:Int)>(60:Int)))=false->
  ((s.log.length=List.length x_1/\Z8 s.log.length (Y5 s.log) (Y5 x_1))/\True)/\c1W x_1)/\((!C6 x||(s.d.sec.length:Int) !=(69:Int)|| !W8 s.ep (1:Int) (60:Int)||decide ((s.log.length:Int)>(60:
  Int))|| !s9 x_1|| !W8 s.sure (0:Int) (s.log.length:Int))=true->false=N4 s)/\((!C6 x||(s.d.sec.length:Int) !=(69:Int)|| !W8 s.ep (1:Int) (60:Int)||decide ((s.log.length:Int)>(60:Int))|| !s9
  x_1|| !W8 s.sure (0:Int) (s.log.length:Int))=false->(∃(x:V9 s.log.length (vD s)),(O0 (fun(x:Nat)=>none) (T.bref s.ts) (T.bref s.ts)/\(1:Int)=wW s.log x.val/\(Y4 Y5 s.log s.log)/\
  (s.log.length:Int)=(s.log.length:Int)/\(0:Int)=(x.val:Int)/\True)/\True)/\∀(x:V9 s.log.length (vD s)),(decide ((x.val:Int)<(s.log.length:Int))=true->X0 (x.val:Int) s.log.length/\((!W8 (s.log.getD
  (x.val:Int).toNat default).e (wW s.log x.val) s.ep)=true->false=N4 s)/\((!W8 (s.log.getD (x.val:Int).toNat default).e (wW s.log x.val) s.ep)=false->X8 .i64 ((x.val:Int)+(1:Int))/\∃(y:V9 s.log.length
  (vD s)),((O0 (fun(x:Nat)=>none) (T.bref s.ts) (T.bref s.ts)/\(s.log.getD (x.val:Int).toNat default).e=wW s.log y.val/\(Y4 Y5 s.log s.log)/\(s.log.length:Int)=(s.log.length:Int)/\(x.val:Int)+(1:Int)=
  (y.val:Int)/\True)/\True)/\Lt (s.log.length-y.val) (s.log.length-x.val)))/\(decide ((x.val:Int)<(s.log.length:Int))=false->(∃(x:V9 8 (g9 s)),(O0 (fun(x:Nat)=>none) (T.bref s.ts) (T.bref s.ts)/\(0:Int)
  =(x.val:Int)/\True)/\True)/\∀(x:V9 8 (g9 s)),(decide ((x.val:Int)<(8:Int))=true->∃(x_2:nB.ι),(((xM s x_2.fst)/\(x.val:Int)=(x_2.snd:Int)/\True)/\a0d (x_2.fst.d,x_2.snd))/\((!(K0
  x_2.fst.d x_2.snd).snd||decide ((K0 x_2.fst.d x_2.snd).fst.lsn>s.sure))=true->false=N4 s)/\((!(K0 x_2.fst.d x_2.snd).snd||decide ((K0 x_2.fst.d x_2.snd).fst.lsn>s.sure))=false->X8 .i64 ((x.val:Int)+
  (1:Int))/\∃(y:V9 8 (g9 s)),((O0 (fun(x:Nat)=>none) (T.bref s.ts) (T.bref s.ts)/\(x.val:Int)+(1:Int)=(y.val:Int)/\True)/\True)/\Lt (8-y.val) (8-x.val)))/\(decide ((x.val:Int)<(8:Int))=false->∃
  (x:oB.ι),(((xM s x)/\True)/\c7s x)/\(u4 x=true->A9 (3:Int))/\(u4 x&&(decide ((0:Int)<=s.hand)&&decide (s.hand<(3:Int))))=N4 s)))):
  Z2 Tryz.prog 87 [.agg s.ts] (.bool (N4 s)):=
 T4 (code:=a5W) (gC a5C dV (gC P2 R8 (gC iH pC (gC a2U iJ (gC a3q iK (gC yJ s3 gN)))))) Tryz.func87 (by kernel_rfl) (by kernel_rfl) (a45 s) h (by kernel_rfl)
noncomputable def yC(s:Sto)(i:Nat):Bool:= !S3 (s.log.getD i default)||(s.log.getD i default).l !=(i:Int)+1||decide ((s.log.getD i default).e>s.ep)||(decide ((i:Int)>0)&&decide ((s.log.getD (i-1) default).e>(s.log.getD i default).e))
noncomputable def i4(s:Sto)(i:Nat):Bool:=
 !W8 (s.fr.getD i default).no 0 7|| !A8 (s.fr.getD i default).pg||decide ((s.fr.getD i default).pg.lsn>(s.log.length:Int))|| !W8 (s.fr.getD i default).first 0 s.log.length||
  (s.fr.getD i default).dirty !=decide ((s.fr.getD i default).first>0)||frAt s.fr (s.fr.getD i default).no !=(i:Int)
noncomputable def a7C(s:Sto):Nat->Ann
 |0=>.one (V9 s.log.length (yC s)) (fun x=>⟨[(1,.ref 0 0 0),(3,.int .i64 x.1)],[mO s]⟩) (fun x=>s.log.length-x.1) [.box 0] [.box 0] (fun _=>fun
  |1=>.one (V9 s.fr.length (i4 s)) (fun x=>⟨[(1,.ref 0 0 0),(5,.int .i64 x.1)],[mO s]⟩) (fun x=>s.fr.length-x.1) [.box 0] [.box 0] (fun _=>fun
   |2=>.one (V9 8 (g9 s)) (fun x=>⟨[(1,.ref 0 0 0),(7,.int .i64 x.1)],[mO s]⟩) (fun x=>8-x.1) [.box 0] [.box 0] (fun _=>Z0)
   |_=>.none)
  |_=>.none)
 |_=>.none
noncomputable def a6o:Code:=Tryz.f72.body.getD .skip
theorem iD:Z7 Tryz.prog 72:=⟨_,Tryz.func72,by kernel_rfl,by kernel_rfl⟩
theorem a4Z(s:Sto)(h:
  ∃(x:sD.ι),(((zR s.d x)/\True)/\c30 x)/\((!C6 x||(s.d.sec.length:Int) !=(69:Int)|| !W8 s.ep (1:Int) (60:Int)||decide ((s.log.length:Int)>(60:Int))|| !W8 s.sure (0:Int) (s.log.length:Int)||
  decide ((s.fr.length:Int)>(3:Int))|| !W8 s.hand (0:Int) (2:Int))=true->false=N4 s)/\((!C6 x||(s.d.sec.length:Int) !=(69:Int)|| !W8 s.ep (1:Int) (60:Int)||decide ((s.log.length:Int)>(60:Int))
  || !W8 s.sure (0:Int) (s.log.length:Int)||decide ((s.fr.length:Int)>(3:Int))|| !W8 s.hand (0:Int) (2:Int))=false->(∃(x:V9 s.log.length (yC s)),((0=0/\0=0)/\(0:Int)=(x.val:Int)/\True)/\(1=1
  /\1=1/\xM s s)/\True)/\∀(x:V9 s.log.length (yC s)),(decide ((x.val:Int)<(s.log.length:Int))=true->X0 (x.val:Int) s.log.length/\K6 (s.log.getD (x.val:Int).toNat default).a.length/\((!S3 (Rec.mk
  (s.log.getD (x.val:Int).toNat default).e (s.log.getD (x.val:Int).toNat default).l (s.log.getD (x.val:Int).toNat default).t (s.log.getD (x.val:Int).toNat default).k (s.log.getD (x.val:Int).toNat default).p (s.log.getD
  (x.val:Int).toNat default).n (s.log.getD (x.val:Int).toNat default).g (s.log.getD (x.val:Int).toNat default).s (s.log.getD (x.val:Int).toNat default).b (s.log.getD (x.val:Int).toNat default).a))=false->X8 .i64 ((x.val:Int)+
  (1:Int)))/\((!S3 (Rec.mk (s.log.getD (x.val:Int).toNat default).e (s.log.getD (x.val:Int).toNat default).l (s.log.getD (x.val:Int).toNat default).t (s.log.getD (x.val:Int).toNat default).k (s.log.getD (x.val:Int).toNat
  default).p (s.log.getD (x.val:Int).toNat default).n (s.log.getD (x.val:Int).toNat default).g (s.log.getD (x.val:Int).toNat default).s (s.log.getD (x.val:Int).toNat default).b (s.log.getD (x.val:Int).toNat default).a)||
  (s.log.getD (x.val:Int).toNat default).l !=(x.val:Int)+(1:Int)||decide ((s.log.getD (x.val:Int).toNat default).e>s.ep))=false->decide ((x.val:Int)>(0:Int))=true->X8 .i64 ((x.val:Int)- (1:Int)))/\((!S3
  (Rec.mk (s.log.getD (x.val:Int).toNat default).e (s.log.getD (x.val:Int).toNat default).l (s.log.getD (x.val:Int).toNat default).t (s.log.getD (x.val:Int).toNat default).k (s.log.getD (x.val:Int).toNat default).p (s.log.getD
  (x.val:Int).toNat default).n (s.log.getD (x.val:Int).toNat default).g (s.log.getD (x.val:Int).toNat default).s (s.log.getD (x.val:Int).toNat default).b (s.log.getD (x.val:Int).toNat default).a)||(s.log.getD (x.val:Int).toNat
  default).l !=(x.val:Int)+(1:Int)||decide ((s.log.getD (x.val:Int).toNat default).e>s.ep))=false->decide ((x.val:Int)>(0:Int))=true->X0 ((x.val:Int)- (1:Int)) s.log.length)/\((!S3 (Rec.mk (s.log.getD
  (x.val:Int).toNat default).e (s.log.getD (x.val:Int).toNat default).l (s.log.getD (x.val:Int).toNat default).t (s.log.getD (x.val:Int).toNat default).k (s.log.getD (x.val:Int).toNat default).p (s.log.getD (x.val:Int).toNat
  default).n (s.log.getD (x.val:Int).toNat default).g (s.log.getD (x.val:Int).toNat default).s (s.log.getD (x.val:Int).toNat default).b (s.log.getD (x.val:Int).toNat default).a)||(s.log.getD (x.val:Int).toNat default).l !=
  (x.val:Int)+(1:Int)||decide ((s.log.getD (x.val:Int).toNat default).e>s.ep)||decide ((x.val:Int)>(0:Int))&&decide ((s.log.getD ((x.val:Int)- (1:Int)).toNat default).e>(s.log.getD (x.val:Int).toNat default).e))
  =true->false=N4 s)/\((!S3 (Rec.mk (s.log.getD (x.val:Int).toNat default).e (s.log.getD (x.val:Int).toNat default).l (s.log.getD (x.val:Int).toNat default).t (s.log.getD (x.val:Int).toNat default).k (s.log.getD
  (x.val:Int).toNat default).p (s.log.getD (x.val:Int).toNat default).n (s.log.getD (x.val:Int).toNat default).g (s.log.getD (x.val:Int).toNat default).s (s.log.getD (x.val:Int).toNat default).b (s.log.getD (x.val:Int).toNat
  default).a)||(s.log.getD (x.val:Int).toNat default).l !=(x.val:Int)+(1:Int)||decide ((s.log.getD (x.val:Int).toNat default).e>s.ep)||decide ((x.val:Int)>(0:Int))&&decide ((s.log.getD ((x.val:Int)- (1:
  Int)).toNat default).e>(s.log.getD (x.val:Int).toNat default).e))=false->X8 .i64 ((x.val:Int)+(1:Int))/\∃(y:V9 s.log.length (yC s)),(((0=0/\0=0)/\(x.val:Int)+(1:Int)=(y.val:Int)/\True)/\(1=1/\1
  =1/\xM s s)/\True)/\Lt (s.log.length-y.val) (s.log.length-x.val)))/\(decide ((x.val:Int)<(s.log.length:Int))=false->(∃(x:V9 s.fr.length (i4 s)),((0=0/\0=0)/\(0:Int)=(x.val:Int)/\True)/\(1=1/\
  1=1/\xM s s)/\True)/\∀(x:V9 s.fr.length (i4 s)),(decide ((x.val:Int)<(s.fr.length:Int))=true->X0 (x.val:Int) s.fr.length/\∃(x_1:yZ.ι),((!W8 (s.fr.getD (x.val:Int).toNat default).no (0:Int) (7:
  Int))=false->(((s.fr.getD (x.val:Int).toNat default).pg.lsn=x_1.lsn/\(Y4 Z6 (s.fr.getD (x.val:Int).toNat default).pg.sl x_1.sl)/\True)/\True)/\PgB x_1)/\∃(x_2:xU.ι),((!W8 (s.fr.getD (x.val:Int).toNat
  default).no (0:Int) (7:Int)|| !A8 x_1||decide ((s.fr.getD (x.val:Int).toNat default).pg.lsn>(s.log.length:Int))|| !W8 (s.fr.getD (x.val:Int).toNat default).first (0:Int) (s.log.length:Int)|| !(s.fr.getD
  (x.val:Int).toNat default).dirty==decide ((s.fr.getD (x.val:Int).toNat default).first>(0:Int)))=false->((xM s x_2.fst)/\(s.fr.getD (x.val:Int).toNat default).no=x_2.snd/\True)/\K6 x_2.fst.fr.length)/\((!W8
  (s.fr.getD (x.val:Int).toNat default).no (0:Int) (7:Int)|| !A8 x_1||decide ((s.fr.getD (x.val:Int).toNat default).pg.lsn>(s.log.length:Int))|| !W8 (s.fr.getD (x.val:Int).toNat default).first (0:Int)
  (s.log.length:Int)|| !(s.fr.getD (x.val:Int).toNat default).dirty==decide ((s.fr.getD (x.val:Int).toNat default).first>(0:Int))||frAt x_2.fst.fr x_2.snd !=(x.val:Int))=true->false=N4 s)/\((!W8 (s.fr.getD
  (x.val:Int).toNat default).no (0:Int) (7:Int)|| !A8 x_1||decide ((s.fr.getD (x.val:Int).toNat default).pg.lsn>(s.log.length:Int))|| !W8 (s.fr.getD (x.val:Int).toNat default).first (0:Int) (s.log.length:Int)||
  !(s.fr.getD (x.val:Int).toNat default).dirty==decide ((s.fr.getD (x.val:Int).toNat default).first>(0:Int))||frAt x_2.fst.fr x_2.snd !=(x.val:Int))=false->X8 .i64 ((x.val:Int)+(1:Int))/\∃(y:V9 s.fr.length
  (i4 s)),(((0=0/\0=0)/\(x.val:Int)+(1:Int)=(y.val:Int)/\True)/\(1=1/\1=1/\xM s s)/\True)/\Lt (s.fr.length-y.val) (s.fr.length-x.val)))/\(decide ((x.val:Int)<(s.fr.length:Int))=false->(∃(x:
  V9 8 (g9 s)),((0=0/\0=0)/\(0:Int)=(x.val:Int)/\True)/\(1=1/\1=1/\xM s s)/\True)/\∀(x:V9 8 (g9 s)),(decide ((x.val:Int)<(8:Int))=true->∃(x_1:gW.ι),(((zR s.d x_1.fst)/\
  (x.val:Int)=(x_1.snd:Int)/\True)/\a0d x_1)/\((!(v9 x_1.fst x_1.snd).snd||decide ((v9 x_1.fst x_1.snd).fst.lsn>s.sure))=true->false=N4 s)/\((!(v9 x_1.fst x_1.snd).snd||decide ((v9 x_1.fst
  x_1.snd).fst.lsn>s.sure))=false->X8 .i64 ((x.val:Int)+(1:Int))/\∃(y:V9 8 (g9 s)),(((0=0/\0=0)/\(x.val:Int)+(1:Int)=(y.val:Int)/\True)/\(1=1/\1=1/\xM s s)/\True)/\Lt (8-y.val) (8-
  x.val)))/\(decide ((x.val:Int)<(8:Int))=false->true=N4 s))))):
  Z2 Tryz.prog 72 [.agg s.ts] (.bool (N4 s)):=
 T4 (code:=a6o) (gC a6Z aP (gC v7 F7 (gC sY wY (gC mC sR (gC pP vI (gC a6e eK gN)))))) Tryz.func72 (by kernel_rfl) (by kernel_rfl) (a7C s) h (by kernel_rfl)
theorem I2(s:Sto):N4 s=true↔(tU s=false/\s9 s.log=true/\W8 s.sure 0 s.log.length=true)/\(∀i,i<s.log.length->vD s i=false)/\(∀i,i<8->g9 s i=false)/\u4 s=true/\W8 s.hand 0 2=true:=by
 unfold N4;simp only[K5,sB,vG,tE,M5];exact⟨fun h=>⟨⟨h.1.1.1.1.1.1,h.1.1.1.1.1.2,h.1.1.1.1.2⟩,h.1.1.1.2,h.1.1.2,h.1.2,h.2⟩,fun h=>⟨⟨⟨⟨⟨⟨h.1.1,h.1.2.1⟩,h.1.2.2⟩,h.2.1⟩,h.2.2.1⟩,h.2.2.2.1⟩,h.2.2.2.2⟩⟩
theorem tW{s:Sto}(h:¬N4 s=true):false=N4 s:=(Bool.eq_false_iff.2 h).symm
theorem zK(s:Sto):tU s=false↔G7 s.d/\s.d.sec.length=69/\1<=s.ep/\s.ep<=60/\s.log.length<=60:=by
 unfold tU;simp only[vG,tE,rO,bne_eq_false_iff_eq,W8,K5,t9,tV];constructor
 ·rintro⟨⟨⟨h1,h2⟩,h3,h4⟩,h5⟩;exact⟨h1,by omega,h3,h4,by omega⟩
 ·rintro⟨h1,h2,h3,h4,h5⟩;exact⟨⟨⟨h1,by omega⟩,h3,h4⟩,by omega⟩
theorem a80(s:Sto)(no:Nat):(!(K0 s.d no).2||decide ((K0 s.d no).1.lsn>s.sure))=g9 s no:=by
 unfold g9;obtain⟨h1,h2⟩:=b9h s.d no;cases h:(v9 s.d no).2
 ·rw[h1,h];rfl
 ·rw[h2 h,h]
theorem c6J(n:Int):(decide (0<=n)&&decide (n<3))=W8 n 0 2:=by
 unfold W8;rw[show decide (n<3)=decide (n<=2) from decide_eq_decide.2 (by omega)]
theorem a97(L:List Rec)(i:Nat):wW L (i+1)=(L.getD i default).e:=by unfold wW;rw[if_neg (by omega)];rfl
theorem a2t:Z1 Tryz.prog 87 a4e:=by
 rintro(s:Sto) ⟨hd,hl,hf,hm⟩;have e0:(!C6 s.d||(s.d.sec.length:Int) !=69|| !W8 s.ep 1 60||decide ((s.log.length:Int)>60)|| !s9 s.log|| !W8 s.sure 0 s.log.length)=(tU s|| !s9 s.log|| !W8 s.sure 0 s.log.length):=rfl;refine a4M s ⟨s.d,⟨⟨(xL _),trivial⟩,hd⟩,s.log,fun _=>⟨⟨⟨rfl,Z9 _ _⟩,trivial⟩,hl⟩,fun hb=>tW ?_,fun hb=> ?_⟩
 ·rw[I2];rintro⟨⟨h1,h2,h3⟩,_⟩;rw[e0,h1,h2,h3] at hb;cases hb
 rw[e0] at hb;simp only[vG,tE] at hb;obtain⟨⟨b1,b2⟩,b3⟩:=hb;obtain⟨c1,c2,c3,c4,c5⟩:=(zK s).1 b1;refine⟨⟨E5,⟨T8 _,rfl,⟨rfl,Z9 _ _⟩,rfl,rfl,trivial⟩,trivial⟩,fun x=>⟨fun hc=> ?_,fun hc=>⟨⟨E5,⟨T8 _,rfl,trivial⟩,trivial⟩,fun y=>⟨fun hy=> ?_,fun hy=> ?_⟩⟩⟩⟩
 ·have hlt:=Y9 hc;refine⟨Y7 hlt,fun hb=>tW ?_,fun hb=>⟨W4 hlt (by omega),x.succ hlt hb,⟨⟨T8 _,(a97 _ _).symm,⟨rfl,Z9 _ _⟩,rfl,by simp only[V9.succ];omega,trivial⟩,trivial⟩,V9.ext_lt hlt⟩⟩
  rw[I2];rintro⟨_,h1,_⟩;have:=h1 x.val hlt;unfold vD at this;rw[v4,this] at hb;cases hb
 ·have hlt:y.val<8:=by have:=D8 hy;omega
  refine⟨(s,y.val),⟨⟨(wS _),rfl,trivial⟩,c1,by simp only;omega⟩,fun hb=>tW ?_,fun hb=>⟨Z5 (by omega),y.succ hlt ((a80 s y.val).symm.trans hb),⟨⟨T8 _,by simp only[V9.succ];omega,trivial⟩,trivial⟩,V9.ext_lt hlt⟩⟩
  rw[I2];rintro⟨_,_,h1,_⟩;have:=h1 y.val hlt;rw[←a80] at this;have hb:(!(K0 s.d y.val).2||decide ((K0 s.d y.val).1.lsn>s.sure))=true:=hb;rw[this] at hb;cases hb
 ·have g1:=Y3 hc;have g2:8<=y.val:=by have:=yQ hy;omega
  refine⟨s,⟨⟨(wS _),trivial⟩,hf,hl.1⟩,fun _=>⟨by omega,by omega⟩,?_⟩
  rw[c6J,Bool.eq_iff_iff,I2];simp only[K5];exact⟨fun h=>⟨⟨b1,b2,b3⟩,fun i hi=>x.2.2 i (xF hi g1),fun i hi=>y.2.2 i (xF hi g2),h⟩,fun h=>h.2.2.2⟩
theorem b8A(s:Sto)(i:Nat):i4 s i=t8 s i:=by
 unfold i4 t8;generalize W8 (s.fr.getD i default).no 0 7=a;generalize A8 (s.fr.getD i default).pg=b;generalize decide ((s.fr.getD i default).pg.lsn>(s.log.length:Int))=c;generalize W8 (s.fr.getD i default).first 0 s.log.length=d
 generalize (s.fr.getD i default).dirty=e;generalize decide ((s.fr.getD i default).first>0)=f
 generalize (frAt s.fr (s.fr.getD i default).no !=(i:Int))=g;cases a<;>cases b<;>cases c<;>cases d<;>cases e<;>cases f<;>cases g<;>rfl
theorem b89(s:Sto):(∀i,i<s.log.length->yC s i=false)↔s9 s.log=true/\∀i,i<s.log.length->vD s i=false:=by
 rw[rP];have key:∀i,yC s i=false↔(S3 (s.log.getD i default)=true/\(s.log.getD i default).l=(i:Int)+1)/\(s.log.getD i default).e<=s.ep/\(0<i->(s.log.getD (i-1) default).e<=(s.log.getD i default).e):=by
  intro i;unfold yC;simp only[vG,tE,bne_eq_false_iff_eq,tV,Bool.and_eq_false_iff];constructor
  ·rintro⟨⟨⟨h1,h2⟩,h3⟩,h4⟩;exact⟨⟨h1,h2⟩,by omega,fun hi=>by rcases h4 with h4|h4<;>omega⟩
  ·rintro⟨⟨h1,h2⟩,h3,h4⟩;refine⟨⟨⟨h1,h2⟩,by omega⟩,?_⟩
   by_cases hi:0<i
   ·exact .inr (by have:=h4 hi;omega)
   ·exact .inl (by omega)
 have key2:∀i,vD s i=false↔wW s.log i<=(s.log.getD i default).e/\(s.log.getD i default).e<=s.ep:=by
  intro i;unfold vD W8;simp only[tE,K5,t9]
 simp only[key,key2];constructor
 ·intro h;refine⟨fun i hi=>(h i hi).1,fun i hi=>⟨?_,(h i hi).2.1⟩⟩
  by_cases h0:i=0
  ·subst h0;have:=((P8 _).1 (h 0 hi).1.1).1;exact this
  ·unfold wW;rw[if_neg h0];exact(h i hi).2.2 (by omega)
 ·rintro⟨h1,h2⟩ i hi;refine⟨h1 i hi,(h2 i hi).2,fun h0=> ?_⟩
  have:=(h2 i hi).1;unfold wW at this;rw[if_neg (by omega)] at this
  exact this
theorem a04:Z1 Tryz.prog 72 a74:=by
 rintro(s:Sto) ⟨hd,hl,hf,hm⟩;have hfr:s.fr.length<1000000000000:=hf.1;have e0:(!C6 s.d||(s.d.sec.length:Int) !=69|| !W8 s.ep 1 60||decide ((s.log.length:Int)>60)|| !W8 s.sure 0 s.log.length||decide ((s.fr.length:Int)>3)|| !W8 s.hand 0 2)=(tU s|| !W8 s.sure 0 s.log.length||decide ((s.fr.length:Int)>3)|| !W8 s.hand 0 2):=rfl;have sp:N4 s=true↔(tU s|| !W8 s.sure 0 s.log.length||decide ((s.fr.length:Int)>3)|| !W8 s.hand 0 2)=false/\(∀i,i<s.log.length->yC s i=false)/\(∀i,i<s.fr.length->i4 s i=false)/\∀i,i<8->g9 s i=false:=by
  rw[I2,b89];simp only[vG,tE,b8A,tV];unfold u4;simp only[K5,sB,M5,t9];constructor
  ·rintro⟨⟨h1,h2,h3⟩,h4,h5,⟨h6,h7⟩,h8⟩;exact⟨⟨⟨⟨h1,h3⟩,by omega⟩,h8⟩,⟨h2,h4⟩,h6,h5⟩
  ·rintro⟨⟨⟨⟨h1,h3⟩,h7⟩,h8⟩,⟨h2,h4⟩,h6,h5⟩;exact⟨⟨h1,h2,h3⟩,h4,h5,⟨h6,by omega⟩,h8⟩
 refine a4Z s ⟨s.d,⟨⟨(xL _),trivial⟩,hd⟩,fun hb=>tW ?_,fun hb=> ?_⟩
 ·rw[sp,←e0];rintro⟨h1,_⟩;have hb:(!C6 s.d||(s.d.sec.length:Int) !=69|| !W8 s.ep 1 60||decide ((s.log.length:Int)>60)|| !W8 s.sure 0 s.log.length||decide ((s.fr.length:Int)>3)|| !W8 s.hand 0 2)=true:=hb;rw[h1] at hb;cases hb
 rw[e0] at hb;have hb':=hb;simp only[vG,tE,tV] at hb';obtain⟨c1,c2,c3,c4,c5⟩:=(zK s).1 hb'.1.1.1;refine⟨⟨E5,⟨⟨rfl,rfl⟩,rfl,trivial⟩,⟨rfl,rfl,wS _⟩,trivial⟩,fun x=>⟨fun hc=> ?_,fun hc=>⟨⟨E5,⟨⟨rfl,rfl⟩,rfl,trivial⟩,⟨rfl,rfl,wS _⟩,trivial⟩,fun y=>⟨fun hy=> ?_,fun hy=>⟨⟨E5,⟨⟨rfl,rfl⟩,rfl,trivial⟩,⟨rfl,rfl,wS _⟩,trivial⟩,fun z=>⟨fun hz=> ?_,fun hz=> ?_⟩⟩⟩⟩⟩⟩
 ·have hlt:=Y9 hc;refine⟨Y7 hlt,hm _ (nM hlt),fun _=>W4 hlt (by omega),fun _ _=>Z5 (by omega),fun _ h0=>⟨by have:=D8 h0;omega,by omega⟩,fun hq=>tW ?_,fun hq=>⟨W4 hlt (by omega),x.succ hlt ?_,⟨⟨⟨rfl,rfl⟩,by simp only[V9.succ];omega,trivial⟩,⟨rfl,rfl,wS _⟩,trivial⟩,V9.ext_lt hlt⟩⟩
  ·rw[sp];rintro⟨_,h1,_⟩;have:=h1 x.val hlt;unfold yC at this;rw[v4,show((x.val:Int)-1).toNat=x.val-1 by omega] at hq
   have hq:=hq.symm.trans this;cases hq
  ·rw[v4,show((x.val:Int)-1).toNat=x.val-1 by omega] at hq
   exact hq
 ·have hlt:=Y9 hy;refine⟨Y7 hlt,(s.fr.getD y.val default).pg,fun _=>⟨⟨⟨rfl,⟨rfl,Z9 _ _⟩,trivial⟩,trivial⟩,hf.2 _ hlt⟩,(s,(s.fr.getD y.val default).no),fun _=>⟨⟨(wS _),rfl,trivial⟩,hf.1⟩,fun hq=>tW ?_,fun hq=>⟨W4 hlt (by omega),y.succ hlt hq,⟨⟨⟨rfl,rfl⟩,by simp only[V9.succ];omega,trivial⟩,⟨rfl,rfl,wS _⟩,trivial⟩,V9.ext_lt hlt⟩⟩
  rw[sp];rintro⟨_,_,h1,_⟩;have:=h1 y.val hlt;have hq:i4 s y.val=true:=hq;rw[this] at hq;cases hq
 ·have hlt:z.val<8:=by have:=D8 hz;omega
  refine⟨(s.d,z.val),⟨⟨(xL _),rfl,trivial⟩,c1,by simp only;omega⟩,fun hq=>tW ?_,fun hq=>⟨Z5 (by omega),z.succ hlt hq,⟨⟨⟨rfl,rfl⟩,by simp only[V9.succ];omega,trivial⟩,⟨rfl,rfl,wS _⟩,trivial⟩,V9.ext_lt hlt⟩⟩
  rw[sp];rintro⟨_,_,_,h1⟩;have:=h1 z.val hlt;have hq:g9 s z.val=true:=hq;rw[this] at hq;cases hq
 ·have g1:=Y3 hc;have g2:=Y3 hy;have g3:8<=z.val:=by have:=yQ hz;omega
  exact(sp.2 ⟨hb,fun i hi=>x.2.2 i (xF hi g1),fun i hi=>y.2.2 i (xF hi g2),fun i hi=>z.2.2 i (xF hi g3)⟩).symm
end Go.Proofs.YtokaojbaacnngaaGreat

namespace Go.Proofs.YtokaojbaacnngaaGreat
set_option maxRecDepth 100000
open Go.SS

def i9(n:Int):UInt8:=P4 (IntKind.u8.wrap n)
def U7(L:List (List UInt8)):Nat->List UInt8
 |0=>[i9 L.length]
 |i+1=>U7 L i++[i9 (L.getD i []).length]++L.getD i []
def O9(L:List (List UInt8)):List UInt8:=U7 L L.length
def zY(L:List (List UInt8)):Prop:=L.length<=1000/\∀i,i<L.length->(L.getD i []).length<=1000
def wQ:Rl:=⟨List (List UInt8),fun L=>[L3 L],fun L=>.bys (O9 L),zY⟩
def a0C:Con:=.rel wQ
def a2m(L:List (List UInt8)):Nat->Ann
 |0=>.one {i:Nat//i<=L.length} (fun x=>⟨[(0,L3 L),(3,.osl 0 0 (U7 L x.1).length),(4,.int .i64 x.1)],[some (.bys 5 (U7 L x.1))]⟩) (fun x=>L.length-x.1) [.arr 0] [.arr 3] (fun _=>Z0)
 |_=>.none
noncomputable def a2h:Code:=Tryz.f234.body.getD .skip
theorem a3Y(L:List (List UInt8))(h:
  X8 IntKind.u8 (IntKind.u8.wrap (L.length:Int))/\(∃(x:{i:Nat//i<=L.length}),((Y4 Z6 L L)/\(0=0/\1=(U7 L x.val).length)/\(0:Int)=(x.val:Int)/\True)/\List.map P4 [IntKind.u8.wrap (L.length:Int)]=
  U7 L x.val/\True)/\∀(x:{i:Nat//i<=L.length}),(decide ((x.val:Int)<(L.length:Int))=true->X0 (x.val:Int) L.length/\X8 IntKind.u8 (IntKind.u8.wrap (↑(L.getD (x.val:Int).toNat []).length:Int))/\(Le 1 1/\Le
  (U7 L x.val).length (U7 L x.val).length/\V7 (U7 L x.val).length 1 1)/\X0 (x.val:Int) L.length/\(Le ((U7 L x.val).length+1) (List.take (U7 L x.val).length (U7 L x.val)++List.take 1 (List.drop 0 (List.map
  P4 [IntKind.u8.wrap (↑(L.getD (x.val:Int).toNat []).length:Int)]))).length/\V7 ((U7 L x.val).length+1) (L.getD (x.val:Int).toNat []).length 1)/\X8 .i64 ((x.val:Int)+(1:Int))/\∃(y:{i:Nat//i<=L.length}),
  (((Y4 Z6 L L)/\(0=0/\(U7 L x.val).length+1+(L.getD (x.val:Int).toNat []).length=(U7 L y.val).length)/\(x.val:Int)+(1:Int)=(y.val:Int)/\True)/\List.take ((U7 L x.val).length+1) (List.take (U7 L
  x.val).length (U7 L x.val)++List.take 1 (List.drop 0 (List.map P4 [IntKind.u8.wrap (↑(L.getD (x.val:Int).toNat []).length:Int)])))++L.getD (x.val:Int).toNat []=U7 L y.val/\True)/\Lt (L.length-y.val) (L.length-
  x.val))/\(decide ((x.val:Int)<(L.length:Int))=false->Le (0+(U7 L x.val).length) (U7 L x.val).length/\List.take (U7 L x.val).length (List.drop 0 (U7 L x.val))=O9 L)):
  Z2 Tryz.prog 234 [L3 L] (.bys (O9 L)):=
 T4 (code:=a2h) gN Tryz.func234 (by kernel_rfl) (by kernel_rfl) (a2m L) h (by kernel_rfl)
noncomputable def a3F:Code:=Tryz.f233.body.getD .skip
theorem mM:Z7 Tryz.prog 233:=⟨_,Tryz.func233,by kernel_rfl,by kernel_rfl⟩
theorem a0M(l:List UInt8)(h:
  ∃(x:(wJ IntKind.i64).ι),(Le (0+l.length) l.length/\(List.take l.length (List.drop 0 l)=x/\True)/\G9 x)/\∃(x_1:a1C.ι),(((↑(xK x):Int)=(x_1.fst:Int)/\((4:Int)=match x_1.snd with|true=>(4:Int)|false=>(2:Int))/\True)/\True)/\(Le l.length l.length/\V7 l.length (match x_1.snd with|true=>xQ x_1.fst|false=>by2 x_1.fst).length 1)/\Le (0+(l.length+(match x_1.snd with|true=>xQ x_1.fst|false=>by2 x_1.fst).length)) (List.take l.length l++match x_1.snd with|true=>xQ x_1.fst|false=>by2 x_1.fst).length/\List.take (l.length+(match x_1.snd with|true=>xQ x_1.fst|false=>by2 x_1.fst).length) (List.drop 0 (List.take l.length l++match x_1.snd with|true=>xQ x_1.fst|false=>by2 x_1.fst))=l++xQ (xK l)/\True/\True):
  V3 Tryz.prog 233 [.osl 0 0 l.length] [some (.bys 5 l)] (.bys (l++xQ (xK l))) [none]:=
 vcE (code:=a3F) (gC pT vK (gC aA lN gN)) Tryz.func233 (by kernel_rfl) (by kernel_rfl) Z0 (bs:=[false]) h (by kernel_rfl)
def zE(n:Nat)(l:List UInt8):Prop:=n=l.length/\l.length<=1000000
def d9:List T->Y6->Option (T×Y6×Option Prop)
 | [.osl k off n],[some (.bys ty l)]=>match k,off,ty with
  |0,0,5=>some (.bys (l++xQ (xK l)),[none],some (zE n l))
  |_,_,_=>none
 |_,_=>none
def a1y:Con:=.eff d9
theorem eJ:Z1 Tryz.prog 233 a1y:=by
 intro args H res H' p h hp;unfold d9 at h;split at h
 case h_2=>cases h
 rename_i k off n ty l;split at h
 ·skip
  simp only[X6,V1] at h;obtain⟨rfl,rfl,rfl⟩:=h;obtain⟨rfl,hl⟩:zE n l:=hp;have e4:(xQ (xK l)).length=4:=rfl;refine a0M l ⟨l,⟨by unfold Le;omega,⟨by rw[List.drop_zero,nQ],trivial⟩,by unfold G9;omega⟩,(xK l,true),⟨⟨rfl,rfl,trivial⟩,trivial⟩,⟨V5 _,?_,?_⟩,?_,?_,trivial,trivial⟩
  ·simp only[e4];omega
  ·simp only[e4];omega
  ·unfold Le;rw[nQ,s7,yO];exact V5 _
  ·rw[nQ,List.drop_zero];exact List.take_of_length_le (by rw[s7];exact V5 _)
 ·cases h
theorem sK(L:List (List UInt8))(h:∀i,i<L.length->(L.getD i []).length<=1000):∀i,i<=L.length->(U7 L i).length<=1+1001*i
 |0,_=>by simp[U7]
 |i+1,hi=>by
  have h1:=sK L h i (by omega)
  have h2:=h i (by omega)
  simp only[U7,s7,List.length_cons,List.length_nil];omega
theorem dO:Z1 Tryz.prog 234 a0C:=by
 rintro(L:List (List UInt8)) ⟨hL,hs⟩;refine a3Y L ⟨T3 _,⟨⟨0,T0 _⟩,⟨⟨rfl,Z9 _ _⟩,⟨rfl,rfl⟩,rfl,trivial⟩,rfl,trivial⟩,fun x=>⟨fun hc=> ?_,fun hc=> ?_⟩⟩
 ·have hlt:=Y9 hc;have h1:=sK L hs x.val (by omega)
  have h2:=hs x.val hlt;rw[v4];have e:List.take (U7 L x.val).length (U7 L x.val)++List.take 1 (List.drop 0 (List.map P4 [IntKind.u8.wrap ((L.getD x.val []).length:Int)]))=U7 L x.val++[i9 (L.getD x.val []).length]:=by
   rw[nQ];rfl
  rw[e];have e2:(U7 L x.val++[i9 (L.getD x.val []).length]).length=(U7 L x.val).length+1:=by simp
  refine⟨Y7 hlt,T3 _,⟨V5 _,V5 _,by omega,by omega⟩,Y7 hlt,⟨by unfold Le;omega,by omega,by omega⟩,W4 hlt (by omega),⟨x.val+1,hlt⟩,⟨⟨⟨rfl,Z9 _ _⟩,⟨rfl,?_⟩,by simp only;omega,trivial⟩,?_,trivial⟩,V9.ext_lt hlt⟩
  ·simp only[U7,s7,List.length_cons,List.length_nil]
  ·rw[←e2,nQ];rfl
 ·have hx:x.val=L.length:=by have:=x.2;have:=Y3 hc;omega
  rw[hx];exact⟨by unfold Le;omega,by rw[List.drop_zero,nQ];rfl⟩
end Go.Proofs.YtokaojbaacnngaaGreat

