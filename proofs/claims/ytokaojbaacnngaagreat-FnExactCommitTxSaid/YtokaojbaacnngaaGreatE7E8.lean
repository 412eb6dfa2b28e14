/- A part of the proof. -/
import Derived.Test.YtokaojbaacnngaaGreatE6
namespace Go.Proofs.YtokaojbaacnngaaGreat
set_option maxRecDepth 100000
open Go.SS

structure Frm where
 no:Int
 pg:Pg
 dirty:Bool
 first:Int
 deriving Inhabited
def Frm.ts(f:Frm):List T:=[.int .i64 f.no,.int .i64 f.pg.lsn,L6 f.pg.sl,.bool f.dirty,.int .i64 f.first]
structure Sto where
 d:Dsk
 ep:Int
 log:List Rec
 sure:Int
 fr:List Frm
 hand:Int
 deriving Inhabited
def V3(L:List Frm)(i:Nat):List T:=(L.getD i default).ts
def y9(L:List Frm):T:=.sl 5 L.length (V3 L)
def Sto.ts(s:Sto):List T:=[L6 s.d.sec,M0 s.d.cache,.bool s.d.armed,w4 s.d.keep,.int .i64 s.ep,G3 s.log,.int .i64 s.sure,y9 s.fr,.int .i64 s.hand]
abbrev EqS(a b:Sto):Prop:=(a.d.sec.length=b.d.sec.length/\Z7 a.d.sec.length (Z6 a.d.sec) (Z6 b.d.sec))/\(a.d.cache.length=b.d.cache.length/\Z7 a.d.cache.length (Z3 a.d.cache) (Z3 b.d.cache))/\a.d.armed=b.d.armed/\(a.d.keep.length=b.d.keep.length/\Z7 a.d.keep.length (Y7 a.d.keep) (Y7 b.d.keep))/\a.ep=b.ep/\(a.log.length=b.log.length/\Z7 a.log.length (Y4 a.log) (Y4 b.log))/\a.sure=b.sure/\(a.fr.length=b.fr.length/\Z7 a.fr.length (V3 a.fr) (V3 b.fr))/\a.hand=b.hand/\True
theorem eqS(s:Sto):EqS s s:=⟨⟨rfl,Z9 _ _⟩,⟨rfl,Z9 _ _⟩,rfl,⟨rfl,Z9 _ _⟩,rfl,⟨rfl,Z9 _ _⟩,rfl,⟨rfl,Z9 _ _⟩,rfl,trivial⟩
def a5m(s:Sto):Option Ob:=some (.arr true 1000000 9 1 fun _=>s.ts)
noncomputable def z8(d:Dsk)(no:Nat):Pg×Bool:=if O8 d (1+no)=[] then(⟨0,[[],[],[],[]]⟩,true) else J0 no (O8 d (1+no))
noncomputable def K6(d:Dsk)(no:Nat):Pg×Bool:=if O8 d (1+no)=[] then(⟨0,[[],[],[],[]]⟩,true) else(F5 no (O8 d (1+no)),(J0 no (O8 d (1+no))).2)
theorem c86(d:Dsk)(no:Nat):(K6 d no).2=(z8 d no).2/\((z8 d no).2=true->K6 d no=z8 d no):=by
 unfold K6 z8;by_cases h:O8 d (1+no)=[]
 ·rw[if_pos h,if_pos h];exact⟨rfl,fun _=>rfl⟩
 ·rw[if_neg h,if_neg h];refine⟨rfl,fun h2=> ?_⟩
  unfold F5;rw[if_pos h2]
def a81(x:Dsk×Nat):Prop:=C7 x.1/\1+x.2<x.1.sec.length
theorem a3Y{d:Dsk}(h:C7 d){at_:Nat}(ha:at_<d.sec.length):(O8 d at_).length<=160:=by
 obtain⟨_,_,_,_,_,h1,h2⟩:=h;have key:∀n,n<=d.cache.length->∀l,B8 d.cache at_ n=some l->l.length<=160:=by
  intro n;induction n with
  |zero=>intro _ l hl;cases hl
  |succ n ih=>
   intro hn l hl;unfold B8 at hl;split at hl
   ·simp only[Option.some.injEq] at hl;subst hl;have:=h2 n (by omega)
    unfold S9 at this;simp only[Bool.or_eq_false_iff,decide_eq_false_iff_not] at this;omega
   ·exact ih (by omega) l hl
 unfold O8;cases hl:B8 d.cache at_ d.cache.length with
 |none=>exact h1 at_ ha
 |some l=>exact key _ (Nat.le_refl _) l hl
noncomputable def a4v:Rl:=⟨Sto×Nat,fun x=>[.bref x.1.ts,.int .i64 x.2],fun x=>.tup [.agg (K6 x.1.d x.2).1.ts,.bool (K6 x.1.d x.2).2],fun x=>a81 (x.1.d,x.2)⟩
noncomputable def b3f:Con:=.rel a4v
noncomputable def b7l:Code:=Tryz.f153.body.getD .skip
theorem a6l:Z8 Tryz.prog 153:=⟨_,Tryz.func153,by kernel_rfl,by kernel_rfl⟩
theorem b6U(s:Sto)(no:Nat)(h:
  X6 .i64 ((1:Int)+(no:Int))/\∃(x:a2Q.ι),(((EqD s.d x.fst)/\(1:Int)+(no:Int)=(x.snd:Int)/\True)/\AtB x)/\((O8 x.fst x.snd==[])=true->∃(x:a1d.ι),(True/\True)/\((0:Int)=(K6 s.d
  no).fst.lsn/\(4=(K6 s.d no).fst.sl.length/\Z7 4 (Z6 [[],[],[],[]]) (Z6 (K6 s.d no).fst.sl))/\True)/\true=(K6 s.d no).snd/\True)/\((O8 x.fst x.snd==[])=false->Lt (O8 x.fst x.snd).length
  140737488355329/\∃(x_1:a5f.ι),(((no:Int)=x_1.fst/\O8 x.fst x.snd=x_1.snd/\True)/\RdB x_1.snd)/\((F5 x_1.fst x_1.snd).lsn=(K6 s.d no).fst.lsn/\(Y3 Z6 (F5 x_1.fst x_1.snd).sl (K6 s.d
  no).fst.sl)/\True)/\(F1 x_1.fst x_1.snd==(0:Int))=(K6 s.d no).snd/\True)):
  Z1 Tryz.prog 153 [.bref s.ts,.int .i64 no] (.tup [.agg (K6 s.d no).1.ts,.bool (K6 s.d no).2]):=
 T7 (code:=b7l) (gC b0I a4k (gC a9N a5T (gC b2T a6e gN))) Tryz.func153 (by kernel_rfl) (by kernel_rfl) Z0 h (by kernel_rfl)
noncomputable def a6w:Rl:=⟨Dsk×Nat,fun x=>[.agg x.1.ts,.int .i64 x.2],fun x=>.tup [.agg (z8 x.1 x.2).1.ts,.bool (z8 x.1 x.2).2],a81⟩
noncomputable def b9Y:Con:=.rel a6w
noncomputable def b9g:Code:=Tryz.f140.body.getD .skip
theorem a83:Z8 Tryz.prog 140:=⟨_,Tryz.func140,by kernel_rfl,by kernel_rfl⟩
theorem b82(d:Dsk)(no:Nat)(h:
  X6 .i64 ((1:Int)+(no:Int))/\∃(x:a2Q.ι),(((EqD d x.fst)/\(1:Int)+(no:Int)=(x.snd:Int)/\True)/\AtB x)/\((O8 x.fst x.snd==[])=true->∃(x:a1d.ι),(True/\True)/\((0:Int)=(z8 d no).fst.lsn/\
  (4=(z8 d no).fst.sl.length/\Z7 4 (Z6 [[],[],[],[]]) (Z6 (z8 d no).fst.sl))/\True)/\true=(z8 d no).snd/\True)/\((O8 x.fst x.snd==[])=false->∃(x_1:a6T.ι),(((no:Int)=x_1.fst/\O8
  x.fst x.snd=x_1.snd/\True)/\RdB x_1.snd)/\((J0 x_1.fst x_1.snd).fst.lsn=(z8 d no).fst.lsn/\(Y3 Z6 (J0 x_1.fst x_1.snd).fst.sl (z8 d no).fst.sl)/\True)/\(J0 x_1.fst x_1.snd).snd=(z8 d no).snd/\True)):
  Z1 Tryz.prog 140 [.agg d.ts,.int .i64 no] (.tup [.agg (z8 d no).1.ts,.bool (z8 d no).2]):=
 T7 (code:=b9g) (gC a4D a17 (gC b1z a58 (gC b65 a8e gN))) Tryz.func140 (by kernel_rfl) (by kernel_rfl) Z0 h (by kernel_rfl)
def a8V(L:List Frm)(no:Int)(i:Nat):Bool:=(L.getD i default).no==no
def frAt(L:List Frm)(no:Int):Int:=T4 L.length (a8V L no)
def noF(no:Int):T:=.fn (.func 261) [.bref [.int .i64 no]]
def a4H:Rl:=⟨Frm×Int,fun x=>[.agg x.1.ts,.bref [.int .i64 x.2]],fun x=>.bool (x.1.no==x.2),fun _=>True⟩
def b4t:Con:=.rel a4H
noncomputable def b6t:Code:=Tryz.f261.body.getD .skip
theorem a5O:Z8 Tryz.prog 261:=⟨_,Tryz.func261,by kernel_rfl,by kernel_rfl⟩
theorem b6u(f:Frm)(no:Int)(h:
  (f.no==no)=(f.no==no)):
  Z1 Tryz.prog 261 [.agg f.ts,.bref [.int .i64 no]] (.bool (f.no==no)):=
 T7 (code:=b6t) gN Tryz.func261 (by kernel_rfl) (by kernel_rfl) Z0 h (by kernel_rfl)
theorem b1a:Z2 Tryz.prog 261 b4t:=fun x _=>b6u x.1 x.2 rfl
def a9Q:Rl:=⟨List Frm×Int,fun x=>[y9 x.1,noF x.2],fun x=>.int .i64 (frAt x.1 x.2),fun x=>N8 x.1.length⟩
def c3K:Con:=.rel a9Q
def c3N(L:List Frm)(no:Int):Nat->Ann
 |0=>.one (W5 L.length (a8V L no)) (fun x=>⟨[(0,y9 L),(1,noF no),(7,.int .i64 L.length),(8,.int .i64 x.1)],[]⟩) (fun x=>L.length-x.1) [] [] (fun _=>Z0)
 |_=>.none
noncomputable def c7U:Code:=Tryz.f260.body.getD .skip
theorem b2m:Z8 Tryz.prog 260:=⟨_,Tryz.func260,by kernel_rfl,by kernel_rfl⟩
theorem c9g(L:List Frm)(no:Int)(h:
  (∃(x:W5 L.length (a8V L no)),((Y3 V3 L L)/\(Fn.func 261=Fn.func 261/\O3 (fun(x:Nat)=>none) (T.bref [T.int .i64 no]) (T.bref [T.int .i64 no])/\True)/\(L.length:Int)=(L.length:Int)/\(0:Int)=(x.val:Int)
  /\True)/\True)/\∀(x:W5 L.length (a8V L no)),(decide ((x.val:Int)<(L.length:Int))=true->W7 (x.val:Int) L.length/\∃(x_1:a4H.ι),((((L.getD (x.val:Int).toNat default).no=x_1.fst.no/\(L.getD
  (x.val:Int).toNat default).pg.lsn=x_1.fst.pg.lsn/\(Y3 Z6 (L.getD (x.val:Int).toNat default).pg.sl x_1.fst.pg.sl)/\(L.getD (x.val:Int).toNat default).dirty=x_1.fst.dirty/\(L.getD (x.val:Int).toNat default).first=
  x_1.fst.first/\True)/\(no=x_1.snd/\True)/\True)/\True)/\((x_1.fst.no==x_1.snd)=true->(x.val:Int)=frAt L no)/\((x_1.fst.no==x_1.snd)=false->X6 .i64 ((x.val:Int)+(1:Int))/\∃(y:W5 L.length (a8V L no)),
  (((Y3 V3 L L)/\(Fn.func 261=Fn.func 261/\O3 (fun(x:Nat)=>none) (T.bref [T.int .i64 no]) (T.bref [T.int .i64 no])/\True)/\(L.length:Int)=(L.length:Int)/\(x.val:Int)+(1:Int)=(y.val:Int)/\True)/\True)/\Lt
  (L.length-y.val) (L.length-x.val)))/\(decide ((x.val:Int)<(L.length:Int))=false->(-1:Int)=frAt L no)):
  Z1 Tryz.prog 260 [y9 L,noF no] (.int .i64 (frAt L no)):=
 T7 (code:=c7U) (gC b1a a5O gN) Tryz.func260 (by kernel_rfl) (by kernel_rfl) (c3N L no) h (by kernel_rfl)
theorem c2I:Z2 Tryz.prog 260 c3K:=by
 rintro⟨L,no⟩ (hL:L.length<1000000000000);refine c9g L no ⟨⟨I5,⟨⟨rfl,Z9 _ _⟩,⟨rfl,T6 _,trivial⟩,rfl,rfl,trivial⟩,trivial⟩,fun x=>⟨fun hc=> ?_,fun hc=> ?_⟩⟩
 ·have hlt:=Y6 hc;refine⟨Y8 hlt,(L.getD x.val default,no),⟨⟨⟨rfl,rfl,⟨rfl,Z9 _ _⟩,rfl,rfl,trivial⟩,⟨rfl,trivial⟩,trivial⟩,trivial⟩,fun hp=>(N9 hlt hp x.2.2).symm,fun hp=>⟨W8 hlt (by omega),x.succ hlt hp,⟨⟨⟨rfl,Z9 _ _⟩,⟨rfl,T6 _,trivial⟩,rfl,by simp only[W5.succ];omega,trivial⟩,trivial⟩,W5.ext_lt hlt⟩⟩
 ·have hge:=Y2 hc;exact(M1 fun j hj=>x.2.2 j (Nat.lt_of_lt_of_le hj hge)).symm
def a6M:Rl:=⟨Sto×Int,fun x=>[.bref x.1.ts,.int .i64 x.2],fun x=>.int .i64 (frAt x.1.fr x.2),fun x=>N8 x.1.fr.length⟩
def c1U:Con:=.rel a6M
noncomputable def b9C:Code:=Tryz.f215.body.getD .skip
theorem a70:Z8 Tryz.prog 215:=⟨_,Tryz.func215,by kernel_rfl,by kernel_rfl⟩
theorem c2B(s:Sto)(no:Int)(h:
  ∃(x:a9Q.ι),(((Y3 V3 s.fr x.fst)/\(Fn.func 261=Fn.func 261/\(no=x.snd/\True)/\True)/\True)/\N8 x.fst.length)/\frAt x.fst x.snd=frAt s.fr no):
  Z1 Tryz.prog 215 [.bref s.ts,.int .i64 no] (.int .i64 (frAt s.fr no)):=
 T7 (code:=b9C) (gC c2I b2m gN) Tryz.func215 (by kernel_rfl) (by kernel_rfl) Z0 h (by kernel_rfl)
def a4K:Rl:=⟨Sto×Int,fun x=>[.agg x.1.ts,.int .i64 x.2],fun x=>.int .i64 (frAt x.1.fr x.2),fun x=>N8 x.1.fr.length⟩
def b45:Con:=.rel a4K
def b5q(s:Sto)(no:Int):Nat->Ann
 |0=>.one (W5 s.fr.length (a8V s.fr no)) (fun x=>⟨[(1,.int .i64 no),(2,.ref 0 0 0),(5,.int .i64 x.1)],[a5m s]⟩) (fun x=>s.fr.length-x.1) [.box 0] [.box 0] (fun _=>Z0)
 |_=>.none
noncomputable def b4z:Code:=Tryz.f125.body.getD .skip
theorem a5M:Z8 Tryz.prog 125:=⟨_,Tryz.func125,by kernel_rfl,by kernel_rfl⟩
theorem b3u(s:Sto)(no:Int)(h:
  (∃(x:W5 s.fr.length (a8V s.fr no)),(no=no/\(0=0/\0=0)/\(0:Int)=(x.val:Int)/\True)/\(1=1/\1=1/\EqS s s)/\True)/\∀(x:W5 s.fr.length (a8V s.fr no)),(decide ((x.val:Int)<(s.fr.length:Int))=true->
  W7 (x.val:Int) s.fr.length/\(((s.fr.getD (x.val:Int).toNat default).no==no)=true->(x.val:Int)=frAt s.fr no)/\(((s.fr.getD (x.val:Int).toNat default).no==no)=false->X6 .i64 ((x.val:Int)+(1:Int))/\∃(y:W5
  s.fr.length (a8V s.fr no)),((no=no/\(0=0/\0=0)/\(x.val:Int)+(1:Int)=(y.val:Int)/\True)/\(1=1/\1=1/\EqS s s)/\True)/\Lt (s.fr.length-y.val) (s.fr.length-x.val)))/\(decide ((x.val:Int)<
  (s.fr.length:Int))=false->(-1:Int)=frAt s.fr no)):
  Z1 Tryz.prog 125 [.agg s.ts,.int .i64 no] (.int .i64 (frAt s.fr no)):=
 T7 (code:=b4z) gN Tryz.func125 (by kernel_rfl) (by kernel_rfl) (b5q s no) h (by kernel_rfl)
theorem b3n:Z2 Tryz.prog 215 c1U:=by
 rintro⟨s,no⟩ hL;exact c2B s no ⟨(s.fr,no),⟨⟨⟨rfl,Z9 _ _⟩,⟨rfl,⟨rfl,trivial⟩,trivial⟩,trivial⟩,hL⟩,rfl⟩
theorem a9T:Z2 Tryz.prog 125 b45:=by
 rintro⟨s,no⟩ (hL:s.fr.length<1000000000000);refine b3u s no ⟨⟨I5,⟨rfl,⟨rfl,rfl⟩,rfl,trivial⟩,⟨rfl,rfl,eqS _⟩,trivial⟩,fun x=>⟨fun hc=> ?_,fun hc=> ?_⟩⟩
 ·have hlt:=Y6 hc;exact⟨Y8 hlt,fun hp=>(N9 hlt hp x.2.2).symm,fun hp=>⟨W8 hlt (by omega),x.succ hlt hp,⟨⟨rfl,⟨rfl,rfl⟩,by simp only[W5.succ];omega,trivial⟩,⟨rfl,rfl,eqS _⟩,trivial⟩,W5.ext_lt hlt⟩⟩
 ·have hge:=Y2 hc;exact(M1 fun j hj=>x.2.2 j (Nat.lt_of_lt_of_le hj hge)).symm
theorem b9S(no:Int)(t:List UInt8):(F1 no t==(0:Int))=(J0 no t).2:=by
 unfold F1;cases hu:T8 t
 ·have:(J0 no t).2=false:=by unfold J0;rw[hu];rfl
  rw[this];rfl
 ·cases h:(J0 no t).2<;>rfl
theorem b18:Z2 Tryz.prog 153 b3f:=by
 rintro⟨s,no⟩ ⟨hd,hn⟩;simp only at hd hn;have hle:=a3Y hd hn;obtain⟨q1,q2,q3,_⟩:=hd;refine b6U s no ⟨Z5 (by omega),(s.d,1+no),⟨⟨(eqD _),by simp only;omega,trivial⟩,hn,by simp only;omega⟩,fun h=>⟨(),⟨trivial,trivial⟩,?_⟩,fun h=>⟨by unfold Lt;simp only;omega,((no:Int),O8 s.d (1+no)),⟨⟨rfl,rfl,trivial⟩,by show(O8 s.d (1+no)).length<=1000;omega⟩,?_⟩⟩
 ·have h:O8 s.d (1+no)=[]:=by simpa using h
  have e:K6 s.d no=(⟨0,[[],[],[],[]]⟩,true):=by unfold K6;rw[if_pos h]
  rw[e];exact⟨⟨rfl,⟨rfl,Z9 _ _⟩,trivial⟩,rfl,trivial⟩
 ·have h:O8 s.d (1+no)≠[]:=by simpa using h
  have e:K6 s.d no=(F5 no (O8 s.d (1+no)),(J0 no (O8 s.d (1+no))).2):=by unfold K6;rw[if_neg h]
  rw[e];exact⟨⟨rfl,⟨rfl,Z9 _ _⟩,trivial⟩,b9S _ _,trivial⟩
theorem b6X:Z2 Tryz.prog 140 b9Y:=by
 rintro⟨d,no⟩ ⟨hd,hn⟩;simp only at hd hn;have hle:=a3Y hd hn;obtain⟨q1,q2,q3,_⟩:=hd;refine b82 d no ⟨Z5 (by omega),(d,1+no),⟨⟨(eqD _),by simp only;omega,trivial⟩,hn,by simp only;omega⟩,fun h=>⟨(),⟨trivial,trivial⟩,?_⟩,fun h=>⟨((no:Int),O8 d (1+no)),⟨⟨rfl,rfl,trivial⟩,by show(O8 d (1+no)).length<=1000;omega⟩,?_⟩⟩
 ·have h:O8 d (1+no)=[]:=by simpa using h
  have e:z8 d no=(⟨0,[[],[],[],[]]⟩,true):=by unfold z8;rw[if_pos h]
  rw[e];exact⟨⟨rfl,⟨rfl,Z9 _ _⟩,trivial⟩,rfl,trivial⟩
 ·have h:O8 d (1+no)≠[]:=by simpa using h
  have e:z8 d no=J0 no (O8 d (1+no)):=by unfold z8;rw[if_neg h]
  rw[e];exact⟨⟨rfl,⟨rfl,Z9 _ _⟩,trivial⟩,rfl,trivial⟩
noncomputable def j6(s:Sto)(i:Nat):Bool:=
 !W9 (s.fr.getD i default).no 0 7||frAt s.fr (s.fr.getD i default).no !=(i:Int)|| !C8 (s.fr.getD i default).pg||decide ((s.fr.getD i default).pg.lsn>(s.log.length:Int))|| !W9 (s.fr.getD i default).first 0 s.log.length||
  decide ((s.fr.getD i default).first>0) !=(s.fr.getD i default).dirty
noncomputable def o4(s:Sto):Bool:= !anyI s.fr.length (j6 s)&&decide ((s.fr.length:Int)<=3)
def FrB(L:List Frm):Prop:=N8 L.length/\∀i,i<L.length->PgB (L.getD i default).pg
def d7b(s:Sto):Prop:=FrB s.fr/\N8 s.log.length
noncomputable def a47:Rl:=⟨Sto,fun s=>[.bref s.ts],fun s=>.bool (o4 s),d7b⟩
noncomputable def b5B:Con:=.rel a47
noncomputable def b6K(s:Sto):Nat->Ann
 |0=>.one (W5 s.fr.length (j6 s)) (fun x=>⟨[(0,.bref s.ts),(8,y9 s.fr),(9,.int .i64 s.fr.length),(10,.int .i64 x.1)],[]⟩) (fun x=>s.fr.length-x.1) [] [] (fun _=>Z0)
 |_=>.none
noncomputable def b42:Code:=Tryz.f154.body.getD .skip
theorem a5I:Z8 Tryz.prog 154:=⟨_,Tryz.func154,by kernel_rfl,by kernel_rfl⟩
theorem b4C(s:Sto)(h:
  (∃(x:W5 s.fr.length (j6 s)),(O3 (fun(x:Nat)=>none) (T.bref s.ts) (T.bref s.ts)/\(Y3 V3 s.fr s.fr)/\(s.fr.length:Int)=(s.fr.length:Int)/\(0:Int)=(x.val:Int)/\True)/\True)/\∀(x:W5 s.fr.length
  (j6 s)),(decide ((x.val:Int)<(s.fr.length:Int))=true->W7 (x.val:Int) s.fr.length/\A5 (8:Int)/\∃(x_1:a6M.ι),((!(decide ((0:Int)<=(s.fr.getD (x.val:Int).toNat default).no)&&decide ((s.fr.getD
  (x.val:Int).toNat default).no<(8:Int))))=false->((EqS s x_1.fst)/\(s.fr.getD (x.val:Int).toNat default).no=x_1.snd/\True)/\N8 x_1.fst.fr.length)/\∃(x_2:i4.ι),((!(decide ((0:Int)<=(s.fr.getD
  (x.val:Int).toNat default).no)&&decide ((s.fr.getD (x.val:Int).toNat default).no<(8:Int)))||frAt x_1.fst.fr x_1.snd !=(x.val:Int))=false->(((s.fr.getD (x.val:Int).toNat default).pg.lsn=x_2.lsn/\(Y3 Z6
  (s.fr.getD (x.val:Int).toNat default).pg.sl x_2.sl)/\True)/\True)/\PgB x_2)/\((!(decide ((0:Int)<=(s.fr.getD (x.val:Int).toNat default).no)&&decide ((s.fr.getD (x.val:Int).toNat default).no<(8:Int)))||frAt
  x_1.fst.fr x_1.snd !=(x.val:Int)|| !C8 x_2||decide ((s.fr.getD (x.val:Int).toNat default).pg.lsn>(s.log.length:Int))|| !W9 (s.fr.getD (x.val:Int).toNat default).first (0:Int) (s.log.length:Int)|| !decide ((s.fr.getD
  (x.val:Int).toNat default).first>(0:Int))==(s.fr.getD (x.val:Int).toNat default).dirty)=true->false=o4 s)/\((!(decide ((0:Int)<=(s.fr.getD (x.val:Int).toNat default).no)&&decide ((s.fr.getD (x.val:Int).toNat
  default).no<(8:Int)))||frAt x_1.fst.fr x_1.snd !=(x.val:Int)|| !C8 x_2||decide ((s.fr.getD (x.val:Int).toNat default).pg.lsn>(s.log.length:Int))|| !W9 (s.fr.getD (x.val:Int).toNat default).first (0:Int)
  (s.log.length:Int)|| !decide ((s.fr.getD (x.val:Int).toNat default).first>(0:Int))==(s.fr.getD (x.val:Int).toNat default).dirty)=false->X6 .i64 ((x.val:Int)+(1:Int))/\∃(y:W5 s.fr.length (j6 s)),((O3 (fun
  (x:Nat)=>none) (T.bref s.ts) (T.bref s.ts)/\(Y3 V3 s.fr s.fr)/\(s.fr.length:Int)=(s.fr.length:Int)/\(x.val:Int)+(1:Int)=(y.val:Int)/\True)/\True)/\Lt (s.fr.length-y.val) (s.fr.length-x.val)))/\(decide
  ((x.val:Int)<(s.fr.length:Int))=false->decide ((s.fr.length:Int)<=(3:Int))=o4 s)):
  Z1 Tryz.prog 154 [.bref s.ts] (.bool (o4 s)):=
 T7 (code:=b42) (gC a0y w7 (gC b3n a70 (gC a38 a2e (gC P4 S0 gN)))) Tryz.func154 (by kernel_rfl) (by kernel_rfl) (b6K s) h (by kernel_rfl)
theorem d4i(n:Int):(decide (0<=n)&&decide (n<8))=W9 n 0 7:=by
 unfold W9;rw[show decide (n<8)=decide (n<=7) from decide_eq_decide.2 (by omega)]
theorem b1f:Z2 Tryz.prog 154 b5B:=by
 rintro(s:Sto) ⟨⟨h1,h2⟩,h3⟩;have h1:s.fr.length<1000000000000:=h1;have h3:s.log.length<1000000000000:=h3;refine b4C s ⟨⟨I5,⟨T6 _,⟨rfl,Z9 _ _⟩,rfl,rfl,trivial⟩,trivial⟩,fun x=>⟨fun hc=> ?_,fun hc=> ?_⟩⟩
 ·have hlt:=Y6 hc;rw[d4i,Int.toNat_natCast];have e:(!W9 (s.fr.getD x.val default).no 0 7||frAt s.fr (s.fr.getD x.val default).no !=(x.val:Int)|| !C8 (s.fr.getD x.val default).pg||decide ((s.fr.getD x.val default).pg.lsn>(s.log.length:Int))||
    !W9 (s.fr.getD x.val default).first 0 s.log.length|| !decide ((s.fr.getD x.val default).first>0)==(s.fr.getD x.val default).dirty)=j6 s x.val:=rfl
  refine⟨Y8 hlt,⟨by omega,by omega⟩,(s,(s.fr.getD x.val default).no),fun _=>⟨⟨(eqS _),rfl,trivial⟩,h1⟩,(s.fr.getD x.val default).pg,fun _=>⟨⟨⟨rfl,⟨rfl,Z9 _ _⟩,trivial⟩,trivial⟩,h2 _ hlt⟩,fun hb=> ?_,fun hb=>⟨W8 hlt (by omega),x.succ hlt (e.symm.trans hb),⟨⟨T6 _,⟨rfl,Z9 _ _⟩,rfl,by simp only[W5.succ];omega,trivial⟩,trivial⟩,W5.ext_lt hlt⟩⟩
  have:anyI s.fr.length (j6 s)=true:=Q1.2 ⟨x.val,hlt,e.symm.trans hb⟩;unfold o4;rw[this];rfl
 ·have hge:=Y2 hc;have:anyI s.fr.length (j6 s)=false:=L5.2 fun i hi=>x.2.2 i (Nat.lt_of_lt_of_le hi hge)
  unfold o4;rw[this];simp
def a0O(L:List Rec)(i:Nat):Int:=if i=0 then 1 else(L.getD (i-1) default).e
def a1t(s:Sto)(i:Nat):Bool:= !W9 (s.log.getD i default).e (a0O s.log i) s.ep
noncomputable def l9(s:Sto)(no:Nat):Bool:= !(z8 s.d no).2||decide ((z8 s.d no).1.lsn>s.sure)
noncomputable def a1I(s:Sto):Bool:= !E8 s.d||((s.d.sec.length:Nat):Int) !=69|| !W9 s.ep 1 60||decide ((s.log.length:Int)>60)
noncomputable def M9(s:Sto):Bool:= !(a1I s|| !w9 s.log|| !W9 s.sure 0 s.log.length)&& !anyI s.log.length (a1t s)&& !anyI 8 (l9 s)&&o4 s&&W9 s.hand 0 2
def c3D(s:Sto):Prop:=d1X s.d/\d2z s.log/\FrB s.fr/\∀r ∈ s.log,N8 r.a.length
noncomputable def a1b:Rl:=⟨Sto,fun s=>[.agg s.ts],fun s=>.bool (M9 s),c3D⟩
noncomputable def b5C:Con:=.rel a1b
noncomputable def b6s:Con:=.rel a1b
noncomputable def b3K(s:Sto):Nat->Ann
 |0=>.onef [1,3,48,49,50] (W5 s.log.length (a1t s)) (fun x=>⟨[(1,.bref s.ts),(3,.int .i64 (a0O s.log x.1)),(48,G3 s.log),(49,.int .i64 s.log.length),(50,.int .i64 x.1)],[]⟩) (fun x=>s.log.length-x.1) [] (fun _=>fun
  |1=>.one (W5 8 (l9 s)) (fun x=>⟨[(1,.bref s.ts),(64,.int .i64 x.1)],[]⟩) (fun x=>8-x.1) [] [] (fun _=>Z0)
  |_=>.none)
 |_=>.none
noncomputable def b3V:Code:=Tryz.f87.body.getD .skip
theorem a5V:Z8 Tryz.prog 87:=⟨_,Tryz.func87,by kernel_rfl,by kernel_rfl⟩
theorem b5F(s:Sto)(h:
  ∃(x:a2k.ι),(((EqD s.d x)/\True)/\d1X x)/\∃(x_1:a1Z.ι),((!E8 x||(s.d.sec.length:Int) !=(69:Int)|| !W9 s.ep (1:Int) (60:Int)||decide ((s.log.length:Int)>(60:Int)))=false->
  ((s.log.length=List.length x_1/\Z7 s.log.length (Y4 s.log) (Y4 x_1))/\True)/\d2z x_1)/\((!E8 x||(s.d.sec.length:Int) !=(69:Int)|| !W9 s.ep (1:Int) (60:Int)||decide ((s.log.length:Int)>(60:
  Int))|| !w9 x_1|| !W9 s.sure (0:Int) (s.log.length:Int))=true->false=M9 s)/\((!E8 x||(s.d.sec.length:Int) !=(69:Int)|| !W9 s.ep (1:Int) (60:Int)||decide ((s.log.length:Int)>(60:Int))|| !w9
  x_1|| !W9 s.sure (0:Int) (s.log.length:Int))=false->(∃(x:W5 s.log.length (a1t s)),(O3 (fun(x:Nat)=>none) (T.bref s.ts) (T.bref s.ts)/\(1:Int)=a0O s.log x.val/\(Y3 Y4 s.log s.log)/\
  (s.log.length:Int)=(s.log.length:Int)/\(0:Int)=(x.val:Int)/\True)/\True)/\∀(x:W5 s.log.length (a1t s)),(decide ((x.val:Int)<(s.log.length:Int))=true->W7 (x.val:Int) s.log.length/\((!W9 (s.log.getD
  (x.val:Int).toNat default).e (a0O s.log x.val) s.ep)=true->false=M9 s)/\((!W9 (s.log.getD (x.val:Int).toNat default).e (a0O s.log x.val) s.ep)=false->X6 .i64 ((x.val:Int)+(1:Int))/\∃(y:W5 s.log.length
  (a1t s)),((O3 (fun(x:Nat)=>none) (T.bref s.ts) (T.bref s.ts)/\(s.log.getD (x.val:Int).toNat default).e=a0O s.log y.val/\(Y3 Y4 s.log s.log)/\(s.log.length:Int)=(s.log.length:Int)/\(x.val:Int)+(1:Int)=
  (y.val:Int)/\True)/\True)/\Lt (s.log.length-y.val) (s.log.length-x.val)))/\(decide ((x.val:Int)<(s.log.length:Int))=false->(∃(x:W5 8 (l9 s)),(O3 (fun(x:Nat)=>none) (T.bref s.ts) (T.bref s.ts)/\(0:Int)
  =(x.val:Int)/\True)/\True)/\∀(x:W5 8 (l9 s)),(decide ((x.val:Int)<(8:Int))=true->∃(x_2:a4v.ι),(((EqS s x_2.fst)/\(x.val:Int)=(x_2.snd:Int)/\True)/\a81 (x_2.fst.d,x_2.snd))/\((!(K6
  x_2.fst.d x_2.snd).snd||decide ((K6 x_2.fst.d x_2.snd).fst.lsn>s.sure))=true->false=M9 s)/\((!(K6 x_2.fst.d x_2.snd).snd||decide ((K6 x_2.fst.d x_2.snd).fst.lsn>s.sure))=false->X6 .i64 ((x.val:Int)+
  (1:Int))/\∃(y:W5 8 (l9 s)),((O3 (fun(x:Nat)=>none) (T.bref s.ts) (T.bref s.ts)/\(x.val:Int)+(1:Int)=(y.val:Int)/\True)/\True)/\Lt (8-y.val) (8-x.val)))/\(decide ((x.val:Int)<(8:Int))=false->∃
  (x:a47.ι),(((EqS s x)/\True)/\d7b x)/\(o4 x=true->A5 (3:Int))/\(o4 x&&(decide ((0:Int)<=s.hand)&&decide (s.hand<(3:Int))))=M9 s)))):
  Z1 Tryz.prog 87 [.agg s.ts] (.bool (M9 s)):=
 T7 (code:=b3V) (gC b6w a7y (gC P4 S0 (gC a51 a3E (gC b18 a6l (gC b1f a5I (gC a0y w7 gN)))))) Tryz.func87 (by kernel_rfl) (by kernel_rfl) (b3K s) h (by kernel_rfl)
noncomputable def a0n(s:Sto)(i:Nat):Bool:= !S2 (s.log.getD i default)||(s.log.getD i default).l !=(i:Int)+1||decide ((s.log.getD i default).e>s.ep)||(decide ((i:Int)>0)&&decide ((s.log.getD (i-1) default).e>(s.log.getD i default).e))
noncomputable def k5(s:Sto)(i:Nat):Bool:=
 !W9 (s.fr.getD i default).no 0 7|| !C8 (s.fr.getD i default).pg||decide ((s.fr.getD i default).pg.lsn>(s.log.length:Int))|| !W9 (s.fr.getD i default).first 0 s.log.length||
  (s.fr.getD i default).dirty !=decide ((s.fr.getD i default).first>0)||frAt s.fr (s.fr.getD i default).no !=(i:Int)
noncomputable def b4j(s:Sto):Nat->Ann
 |0=>.one (W5 s.log.length (a0n s)) (fun x=>⟨[(1,.ref 0 0 0),(3,.int .i64 x.1)],[a5m s]⟩) (fun x=>s.log.length-x.1) [.box 0] [.box 0] (fun _=>fun
  |1=>.one (W5 s.fr.length (k5 s)) (fun x=>⟨[(1,.ref 0 0 0),(5,.int .i64 x.1)],[a5m s]⟩) (fun x=>s.fr.length-x.1) [.box 0] [.box 0] (fun _=>fun
   |2=>.one (W5 8 (l9 s)) (fun x=>⟨[(1,.ref 0 0 0),(7,.int .i64 x.1)],[a5m s]⟩) (fun x=>8-x.1) [.box 0] [.box 0] (fun _=>Z0)
   |_=>.none)
  |_=>.none)
 |_=>.none
noncomputable def b5Y:Code:=Tryz.f72.body.getD .skip
theorem a5Y:Z8 Tryz.prog 72:=⟨_,Tryz.func72,by kernel_rfl,by kernel_rfl⟩
theorem b4H(s:Sto)(h:
  ∃(x:a2k.ι),(((EqD s.d x)/\True)/\d1X x)/\((!E8 x||(s.d.sec.length:Int) !=(69:Int)|| !W9 s.ep (1:Int) (60:Int)||decide ((s.log.length:Int)>(60:Int))|| !W9 s.sure (0:Int) (s.log.length:Int)||
  decide ((s.fr.length:Int)>(3:Int))|| !W9 s.hand (0:Int) (2:Int))=true->false=M9 s)/\((!E8 x||(s.d.sec.length:Int) !=(69:Int)|| !W9 s.ep (1:Int) (60:Int)||decide ((s.log.length:Int)>(60:Int))
  || !W9 s.sure (0:Int) (s.log.length:Int)||decide ((s.fr.length:Int)>(3:Int))|| !W9 s.hand (0:Int) (2:Int))=false->(∃(x:W5 s.log.length (a0n s)),((0=0/\0=0)/\(0:Int)=(x.val:Int)/\True)/\(1=1
  /\1=1/\EqS s s)/\True)/\∀(x:W5 s.log.length (a0n s)),(decide ((x.val:Int)<(s.log.length:Int))=true->W7 (x.val:Int) s.log.length/\N8 (s.log.getD (x.val:Int).toNat default).a.length/\((!S2 (Rec.mk
  (s.log.getD (x.val:Int).toNat default).e (s.log.getD (x.val:Int).toNat default).l (s.log.getD (x.val:Int).toNat default).t (s.log.getD (x.val:Int).toNat default).k (s.log.getD (x.val:Int).toNat default).p (s.log.getD
  (x.val:Int).toNat default).n (s.log.getD (x.val:Int).toNat default).g (s.log.getD (x.val:Int).toNat default).s (s.log.getD (x.val:Int).toNat default).b (s.log.getD (x.val:Int).toNat default).a))=false->X6 .i64 ((x.val:Int)+
  (1:Int)))/\((!S2 (Rec.mk (s.log.getD (x.val:Int).toNat default).e (s.log.getD (x.val:Int).toNat default).l (s.log.getD (x.val:Int).toNat default).t (s.log.getD (x.val:Int).toNat default).k (s.log.getD (x.val:Int).toNat
  default).p (s.log.getD (x.val:Int).toNat default).n (s.log.getD (x.val:Int).toNat default).g (s.log.getD (x.val:Int).toNat default).s (s.log.getD (x.val:Int).toNat default).b (s.log.getD (x.val:Int).toNat default).a)||
  (s.log.getD (x.val:Int).toNat default).l !=(x.val:Int)+(1:Int)||decide ((s.log.getD (x.val:Int).toNat default).e>s.ep))=false->decide ((x.val:Int)>(0:Int))=true->X6 .i64 ((x.val:Int)- (1:Int)))/\((!S2
  (Rec.mk (s.log.getD (x.val:Int).toNat default).e (s.log.getD (x.val:Int).toNat default).l (s.log.getD (x.val:Int).toNat default).t (s.log.getD (x.val:Int).toNat default).k (s.log.getD (x.val:Int).toNat default).p (s.log.getD
  (x.val:Int).toNat default).n (s.log.getD (x.val:Int).toNat default).g (s.log.getD (x.val:Int).toNat default).s (s.log.getD (x.val:Int).toNat default).b (s.log.getD (x.val:Int).toNat default).a)||(s.log.getD (x.val:Int).toNat
  default).l !=(x.val:Int)+(1:Int)||decide ((s.log.getD (x.val:Int).toNat default).e>s.ep))=false->decide ((x.val:Int)>(0:Int))=true->W7 ((x.val:Int)- (1:Int)) s.log.length)/\((!S2 (Rec.mk (s.log.getD
  (x.val:Int).toNat default).e (s.log.getD (x.val:Int).toNat default).l (s.log.getD (x.val:Int).toNat default).t (s.log.getD (x.val:Int).toNat default).k (s.log.getD (x.val:Int).toNat default).p (s.log.getD (x.val:Int).toNat
  default).n (s.log.getD (x.val:Int).toNat default).g (s.log.getD (x.val:Int).toNat default).s (s.log.getD (x.val:Int).toNat default).b (s.log.getD (x.val:Int).toNat default).a)||(s.log.getD (x.val:Int).toNat default).l !=
  (x.val:Int)+(1:Int)||decide ((s.log.getD (x.val:Int).toNat default).e>s.ep)||decide ((x.val:Int)>(0:Int))&&decide ((s.log.getD ((x.val:Int)- (1:Int)).toNat default).e>(s.log.getD (x.val:Int).toNat default).e))
  =true->false=M9 s)/\((!S2 (Rec.mk (s.log.getD (x.val:Int).toNat default).e (s.log.getD (x.val:Int).toNat default).l (s.log.getD (x.val:Int).toNat default).t (s.log.getD (x.val:Int).toNat default).k (s.log.getD
  (x.val:Int).toNat default).p (s.log.getD (x.val:Int).toNat default).n (s.log.getD (x.val:Int).toNat default).g (s.log.getD (x.val:Int).toNat default).s (s.log.getD (x.val:Int).toNat default).b (s.log.getD (x.val:Int).toNat
  default).a)||(s.log.getD (x.val:Int).toNat default).l !=(x.val:Int)+(1:Int)||decide ((s.log.getD (x.val:Int).toNat default).e>s.ep)||decide ((x.val:Int)>(0:Int))&&decide ((s.log.getD ((x.val:Int)- (1:
  Int)).toNat default).e>(s.log.getD (x.val:Int).toNat default).e))=false->X6 .i64 ((x.val:Int)+(1:Int))/\∃(y:W5 s.log.length (a0n s)),(((0=0/\0=0)/\(x.val:Int)+(1:Int)=(y.val:Int)/\True)/\(1=1/\1
  =1/\EqS s s)/\True)/\Lt (s.log.length-y.val) (s.log.length-x.val)))/\(decide ((x.val:Int)<(s.log.length:Int))=false->(∃(x:W5 s.fr.length (k5 s)),((0=0/\0=0)/\(0:Int)=(x.val:Int)/\True)/\(1=1/\
  1=1/\EqS s s)/\True)/\∀(x:W5 s.fr.length (k5 s)),(decide ((x.val:Int)<(s.fr.length:Int))=true->W7 (x.val:Int) s.fr.length/\∃(x_1:i4.ι),((!W9 (s.fr.getD (x.val:Int).toNat default).no (0:Int) (7:
  Int))=false->(((s.fr.getD (x.val:Int).toNat default).pg.lsn=x_1.lsn/\(Y3 Z6 (s.fr.getD (x.val:Int).toNat default).pg.sl x_1.sl)/\True)/\True)/\PgB x_1)/\∃(x_2:a4K.ι),((!W9 (s.fr.getD (x.val:Int).toNat
  default).no (0:Int) (7:Int)|| !C8 x_1||decide ((s.fr.getD (x.val:Int).toNat default).pg.lsn>(s.log.length:Int))|| !W9 (s.fr.getD (x.val:Int).toNat default).first (0:Int) (s.log.length:Int)|| !(s.fr.getD
  (x.val:Int).toNat default).dirty==decide ((s.fr.getD (x.val:Int).toNat default).first>(0:Int)))=false->((EqS s x_2.fst)/\(s.fr.getD (x.val:Int).toNat default).no=x_2.snd/\True)/\N8 x_2.fst.fr.length)/\((!W9
  (s.fr.getD (x.val:Int).toNat default).no (0:Int) (7:Int)|| !C8 x_1||decide ((s.fr.getD (x.val:Int).toNat default).pg.lsn>(s.log.length:Int))|| !W9 (s.fr.getD (x.val:Int).toNat default).first (0:Int)
  (s.log.length:Int)|| !(s.fr.getD (x.val:Int).toNat default).dirty==decide ((s.fr.getD (x.val:Int).toNat default).first>(0:Int))||frAt x_2.fst.fr x_2.snd !=(x.val:Int))=true->false=M9 s)/\((!W9 (s.fr.getD
  (x.val:Int).toNat default).no (0:Int) (7:Int)|| !C8 x_1||decide ((s.fr.getD (x.val:Int).toNat default).pg.lsn>(s.log.length:Int))|| !W9 (s.fr.getD (x.val:Int).toNat default).first (0:Int) (s.log.length:Int)||
  !(s.fr.getD (x.val:Int).toNat default).dirty==decide ((s.fr.getD (x.val:Int).toNat default).first>(0:Int))||frAt x_2.fst.fr x_2.snd !=(x.val:Int))=false->X6 .i64 ((x.val:Int)+(1:Int))/\∃(y:W5 s.fr.length
  (k5 s)),(((0=0/\0=0)/\(x.val:Int)+(1:Int)=(y.val:Int)/\True)/\(1=1/\1=1/\EqS s s)/\True)/\Lt (s.fr.length-y.val) (s.fr.length-x.val)))/\(decide ((x.val:Int)<(s.fr.length:Int))=false->(∃(x:
  W5 8 (l9 s)),((0=0/\0=0)/\(0:Int)=(x.val:Int)/\True)/\(1=1/\1=1/\EqS s s)/\True)/\∀(x:W5 8 (l9 s)),(decide ((x.val:Int)<(8:Int))=true->∃(x_1:a6w.ι),(((EqD s.d x_1.fst)/\
  (x.val:Int)=(x_1.snd:Int)/\True)/\a81 x_1)/\((!(z8 x_1.fst x_1.snd).snd||decide ((z8 x_1.fst x_1.snd).fst.lsn>s.sure))=true->false=M9 s)/\((!(z8 x_1.fst x_1.snd).snd||decide ((z8 x_1.fst
  x_1.snd).fst.lsn>s.sure))=false->X6 .i64 ((x.val:Int)+(1:Int))/\∃(y:W5 8 (l9 s)),(((0=0/\0=0)/\(x.val:Int)+(1:Int)=(y.val:Int)/\True)/\(1=1/\1=1/\EqS s s)/\True)/\Lt (8-y.val) (8-
  x.val)))/\(decide ((x.val:Int)<(8:Int))=false->true=M9 s))))):
  Z1 Tryz.prog 72 [.agg s.ts] (.bool (M9 s)):=
 T7 (code:=b5Y) (gC b6c a87 (gC A7 I3 (gC a16 a0L (gC a4l a2o (gC a9T a5M (gC b6X a83 gN)))))) Tryz.func72 (by kernel_rfl) (by kernel_rfl) (b4j s) h (by kernel_rfl)
theorem G7(s:Sto):M9 s=true↔(a1I s=false/\w9 s.log=true/\W9 s.sure 0 s.log.length=true)/\(∀i,i<s.log.length->a1t s i=false)/\(∀i,i<8->l9 s i=false)/\o4 s=true/\W9 s.hand 0 2=true:=by
 unfold M9;simp only[Bool.and_eq_true,Bool.not_eq_true',Bool.or_eq_false_iff,Bool.not_eq_false',L5];exact⟨fun h=>⟨⟨h.1.1.1.1.1.1,h.1.1.1.1.1.2,h.1.1.1.1.2⟩,h.1.1.1.2,h.1.1.2,h.1.2,h.2⟩,fun h=>⟨⟨⟨⟨⟨⟨h.1.1,h.1.2.1⟩,h.1.2.2⟩,h.2.1⟩,h.2.2.1⟩,h.2.2.2.1⟩,h.2.2.2.2⟩⟩
theorem a1T{s:Sto}(h:¬M9 s=true):false=M9 s:=(Bool.eq_false_iff.2 h).symm
theorem d8(s:Sto):a1I s=false↔C7 s.d/\s.d.sec.length=69/\1<=s.ep/\s.ep<=60/\s.log.length<=60:=by
 unfold a1I;simp only[Bool.or_eq_false_iff,Bool.not_eq_false',a2T,bne_eq_false_iff_eq,W9,Bool.and_eq_true,decide_eq_true_eq,decide_eq_false_iff_not];constructor
 ·rintro⟨⟨⟨h1,h2⟩,h3,h4⟩,h5⟩;exact⟨h1,by omega,h3,h4,by omega⟩
 ·rintro⟨h1,h2,h3,h4,h5⟩;exact⟨⟨⟨h1,by omega⟩,h3,h4⟩,by omega⟩
theorem b7N(s:Sto)(no:Nat):(!(K6 s.d no).2||decide ((K6 s.d no).1.lsn>s.sure))=l9 s no:=by
 unfold l9;obtain⟨h1,h2⟩:=c86 s.d no;cases h:(z8 s.d no).2
 ·rw[h1,h];rfl
 ·rw[h2 h,h]
theorem d4x(n:Int):(decide (0<=n)&&decide (n<3))=W9 n 0 2:=by
 unfold W9;rw[show decide (n<3)=decide (n<=2) from decide_eq_decide.2 (by omega)]
theorem c2i(L:List Rec)(i:Nat):a0O L (i+1)=(L.getD i default).e:=by unfold a0O;rw[if_neg (by omega)];rfl
theorem b1F:Z2 Tryz.prog 87 b5C:=by
 rintro(s:Sto) ⟨hd,hl,hf,hm⟩;have e0:(!E8 s.d||(s.d.sec.length:Int) !=69|| !W9 s.ep 1 60||decide ((s.log.length:Int)>60)|| !w9 s.log|| !W9 s.sure 0 s.log.length)=(a1I s|| !w9 s.log|| !W9 s.sure 0 s.log.length):=rfl;refine b5F s ⟨s.d,⟨⟨(eqD _),trivial⟩,hd⟩,s.log,fun _=>⟨⟨⟨rfl,Z9 _ _⟩,trivial⟩,hl⟩,fun hb=>a1T ?_,fun hb=> ?_⟩
 ·rw[G7];rintro⟨⟨h1,h2,h3⟩,_⟩;rw[e0,h1,h2,h3] at hb;cases hb
 rw[e0] at hb;simp only[Bool.or_eq_false_iff,Bool.not_eq_false'] at hb;obtain⟨⟨b1,b2⟩,b3⟩:=hb;obtain⟨c1,c2,c3,c4,c5⟩:=(d8 s).1 b1;refine⟨⟨I5,⟨T6 _,rfl,⟨rfl,Z9 _ _⟩,rfl,rfl,trivial⟩,trivial⟩,fun x=>⟨fun hc=> ?_,fun hc=>⟨⟨I5,⟨T6 _,rfl,trivial⟩,trivial⟩,fun y=>⟨fun hy=> ?_,fun hy=> ?_⟩⟩⟩⟩
 ·have hlt:=Y6 hc;refine⟨Y8 hlt,fun hb=>a1T ?_,fun hb=>⟨W8 hlt (by omega),x.succ hlt hb,⟨⟨T6 _,(c2i _ _).symm,⟨rfl,Z9 _ _⟩,rfl,by simp only[W5.succ];omega,trivial⟩,trivial⟩,W5.ext_lt hlt⟩⟩
  rw[G7];rintro⟨_,h1,_⟩;have:=h1 x.val hlt;unfold a1t at this;rw[Int.toNat_natCast,this] at hb;cases hb
 ·have hlt:y.val<8:=by have:=of_decide_eq_true hy;omega
  refine⟨(s,y.val),⟨⟨(eqS _),rfl,trivial⟩,c1,by simp only;omega⟩,fun hb=>a1T ?_,fun hb=>⟨Z5 (by omega),y.succ hlt ((b7N s y.val).symm.trans hb),⟨⟨T6 _,by simp only[W5.succ];omega,trivial⟩,trivial⟩,W5.ext_lt hlt⟩⟩
  rw[G7];rintro⟨_,_,h1,_⟩;have:=h1 y.val hlt;rw[←b7N] at this;have hb:(!(K6 s.d y.val).2||decide ((K6 s.d y.val).1.lsn>s.sure))=true:=hb;rw[this] at hb;cases hb
 ·have g1:=Y2 hc;have g2:8<=y.val:=by have:=of_decide_eq_false hy;omega
  refine⟨s,⟨⟨(eqS _),trivial⟩,hf,hl.1⟩,fun _=>⟨by omega,by omega⟩,?_⟩
  rw[d4x,Bool.eq_iff_iff,G7];simp only[Bool.and_eq_true];exact⟨fun h=>⟨⟨b1,b2,b3⟩,fun i hi=>x.2.2 i (Nat.lt_of_lt_of_le hi g1),fun i hi=>y.2.2 i (Nat.lt_of_lt_of_le hi g2),h⟩,fun h=>h.2.2.2⟩
theorem c4P(s:Sto)(i:Nat):k5 s i=j6 s i:=by
 unfold k5 j6;generalize W9 (s.fr.getD i default).no 0 7=a;generalize C8 (s.fr.getD i default).pg=b;generalize decide ((s.fr.getD i default).pg.lsn>(s.log.length:Int))=c;generalize W9 (s.fr.getD i default).first 0 s.log.length=d
 generalize (s.fr.getD i default).dirty=e;generalize decide ((s.fr.getD i default).first>0)=f
 generalize (frAt s.fr (s.fr.getD i default).no !=(i:Int))=g;cases a<;>cases b<;>cases c<;>cases d<;>cases e<;>cases f<;>cases g<;>rfl
theorem c7G(s:Sto):(∀i,i<s.log.length->a0n s i=false)↔w9 s.log=true/\∀i,i<s.log.length->a1t s i=false:=by
 rw[a2S];have key:∀i,a0n s i=false↔(S2 (s.log.getD i default)=true/\(s.log.getD i default).l=(i:Int)+1)/\(s.log.getD i default).e<=s.ep/\(0<i->(s.log.getD (i-1) default).e<=(s.log.getD i default).e):=by
  intro i;unfold a0n;simp only[Bool.or_eq_false_iff,Bool.not_eq_false',bne_eq_false_iff_eq,decide_eq_false_iff_not,Bool.and_eq_false_iff];constructor
  ·rintro⟨⟨⟨h1,h2⟩,h3⟩,h4⟩;exact⟨⟨h1,h2⟩,by omega,fun hi=>by rcases h4 with h4|h4<;>omega⟩
  ·rintro⟨⟨h1,h2⟩,h3,h4⟩;refine⟨⟨⟨h1,h2⟩,by omega⟩,?_⟩
   by_cases hi:0<i
   ·exact .inr (by have:=h4 hi;omega)
   ·exact .inl (by omega)
 have key2:∀i,a1t s i=false↔a0O s.log i<=(s.log.getD i default).e/\(s.log.getD i default).e<=s.ep:=by
  intro i;unfold a1t W9;simp only[Bool.not_eq_false',Bool.and_eq_true,decide_eq_true_eq]
 simp only[key,key2];constructor
 ·intro h;refine⟨fun i hi=>(h i hi).1,fun i hi=>⟨?_,(h i hi).2.1⟩⟩
  by_cases h0:i=0
  ·subst h0;have:=((Q8 _).1 (h 0 hi).1.1).1;exact this
  ·unfold a0O;rw[if_neg h0];exact(h i hi).2.2 (by omega)
 ·rintro⟨h1,h2⟩ i hi;refine⟨h1 i hi,(h2 i hi).2,fun h0=> ?_⟩
  have:=(h2 i hi).1;unfold a0O at this;rw[if_neg (by omega)] at this
  exact this
theorem b1d:Z2 Tryz.prog 72 b6s:=by
 rintro(s:Sto) ⟨hd,hl,hf,hm⟩;have hfr:s.fr.length<1000000000000:=hf.1;have e0:(!E8 s.d||(s.d.sec.length:Int) !=69|| !W9 s.ep 1 60||decide ((s.log.length:Int)>60)|| !W9 s.sure 0 s.log.length||decide ((s.fr.length:Int)>3)|| !W9 s.hand 0 2)=(a1I s|| !W9 s.sure 0 s.log.length||decide ((s.fr.length:Int)>3)|| !W9 s.hand 0 2):=rfl;have sp:M9 s=true↔(a1I s|| !W9 s.sure 0 s.log.length||decide ((s.fr.length:Int)>3)|| !W9 s.hand 0 2)=false/\(∀i,i<s.log.length->a0n s i=false)/\(∀i,i<s.fr.length->k5 s i=false)/\∀i,i<8->l9 s i=false:=by
  rw[G7,c7G];simp only[Bool.or_eq_false_iff,Bool.not_eq_false',c4P,decide_eq_false_iff_not];unfold o4;simp only[Bool.and_eq_true,Bool.not_eq_true',L5,decide_eq_true_eq];constructor
  ·rintro⟨⟨h1,h2,h3⟩,h4,h5,⟨h6,h7⟩,h8⟩;exact⟨⟨⟨⟨h1,h3⟩,by omega⟩,h8⟩,⟨h2,h4⟩,h6,h5⟩
  ·rintro⟨⟨⟨⟨h1,h3⟩,h7⟩,h8⟩,⟨h2,h4⟩,h6,h5⟩;exact⟨⟨h1,h2,h3⟩,h4,h5,⟨h6,by omega⟩,h8⟩
 refine b4H s ⟨s.d,⟨⟨(eqD _),trivial⟩,hd⟩,fun hb=>a1T ?_,fun hb=> ?_⟩
 ·rw[sp,←e0];rintro⟨h1,_⟩;have hb:(!E8 s.d||(s.d.sec.length:Int) !=69|| !W9 s.ep 1 60||decide ((s.log.length:Int)>60)|| !W9 s.sure 0 s.log.length||decide ((s.fr.length:Int)>3)|| !W9 s.hand 0 2)=true:=hb;rw[h1] at hb;cases hb
 rw[e0] at hb;have hb':=hb;simp only[Bool.or_eq_false_iff,Bool.not_eq_false',decide_eq_false_iff_not] at hb';obtain⟨c1,c2,c3,c4,c5⟩:=(d8 s).1 hb'.1.1.1;refine⟨⟨I5,⟨⟨rfl,rfl⟩,rfl,trivial⟩,⟨rfl,rfl,eqS _⟩,trivial⟩,fun x=>⟨fun hc=> ?_,fun hc=>⟨⟨I5,⟨⟨rfl,rfl⟩,rfl,trivial⟩,⟨rfl,rfl,eqS _⟩,trivial⟩,fun y=>⟨fun hy=> ?_,fun hy=>⟨⟨I5,⟨⟨rfl,rfl⟩,rfl,trivial⟩,⟨rfl,rfl,eqS _⟩,trivial⟩,fun z=>⟨fun hz=> ?_,fun hz=> ?_⟩⟩⟩⟩⟩⟩
 ·have hlt:=Y6 hc;refine⟨Y8 hlt,hm _ (a48 hlt),fun _=>W8 hlt (by omega),fun _ _=>Z5 (by omega),fun _ h0=>⟨by have:=of_decide_eq_true h0;omega,by omega⟩,fun hq=>a1T ?_,fun hq=>⟨W8 hlt (by omega),x.succ hlt ?_,⟨⟨⟨rfl,rfl⟩,by simp only[W5.succ];omega,trivial⟩,⟨rfl,rfl,eqS _⟩,trivial⟩,W5.ext_lt hlt⟩⟩
  ·rw[sp];rintro⟨_,h1,_⟩;have:=h1 x.val hlt;unfold a0n at this;rw[Int.toNat_natCast,show((x.val:Int)-1).toNat=x.val-1 by omega] at hq
   have hq:=hq.symm.trans this;cases hq
  ·rw[Int.toNat_natCast,show((x.val:Int)-1).toNat=x.val-1 by omega] at hq
   exact hq
 ·have hlt:=Y6 hy;refine⟨Y8 hlt,(s.fr.getD y.val default).pg,fun _=>⟨⟨⟨rfl,⟨rfl,Z9 _ _⟩,trivial⟩,trivial⟩,hf.2 _ hlt⟩,(s,(s.fr.getD y.val default).no),fun _=>⟨⟨(eqS _),rfl,trivial⟩,hf.1⟩,fun hq=>a1T ?_,fun hq=>⟨W8 hlt (by omega),y.succ hlt hq,⟨⟨⟨rfl,rfl⟩,by simp only[W5.succ];omega,trivial⟩,⟨rfl,rfl,eqS _⟩,trivial⟩,W5.ext_lt hlt⟩⟩
  rw[sp];rintro⟨_,_,h1,_⟩;have:=h1 y.val hlt;have hq:k5 s y.val=true:=hq;rw[this] at hq;cases hq
 ·have hlt:z.val<8:=by have:=of_decide_eq_true hz;omega
  refine⟨(s.d,z.val),⟨⟨(eqD _),rfl,trivial⟩,c1,by simp only;omega⟩,fun hq=>a1T ?_,fun hq=>⟨Z5 (by omega),z.succ hlt hq,⟨⟨⟨rfl,rfl⟩,by simp only[W5.succ];omega,trivial⟩,⟨rfl,rfl,eqS _⟩,trivial⟩,W5.ext_lt hlt⟩⟩
  rw[sp];rintro⟨_,_,_,h1⟩;have:=h1 z.val hlt;have hq:l9 s z.val=true:=hq;rw[this] at hq;cases hq
 ·have g1:=Y2 hc;have g2:=Y2 hy;have g3:8<=z.val:=by have:=of_decide_eq_false hz;omega
  exact(sp.2 ⟨hb,fun i hi=>x.2.2 i (Nat.lt_of_lt_of_le hi g1),fun i hi=>y.2.2 i (Nat.lt_of_lt_of_le hi g2),fun i hi=>z.2.2 i (Nat.lt_of_lt_of_le hi g3)⟩).symm
end Go.Proofs.YtokaojbaacnngaaGreat

namespace Go.Proofs.YtokaojbaacnngaaGreat
set_option maxRecDepth 100000
open Go.SS

def u8b(n:Int):UInt8:=O4 (IntKind.u8.wrap n)
def U7(L:List (List UInt8)):Nat->List UInt8
 |0=>[u8b L.length]
 |i+1=>U7 L i++[u8b (L.getD i []).length]++L.getD i []
def P0(L:List (List UInt8)):List UInt8:=U7 L L.length
def m3(L:List (List UInt8)):Prop:=L.length<=1000/\∀i,i<L.length->(L.getD i []).length<=1000
def a0T:Rl:=⟨List (List UInt8),fun L=>[L6 L],fun L=>.bys (P0 L),m3⟩
def b2r:Con:=.rel a0T
def b0j(L:List (List UInt8)):Nat->Ann
 |0=>.one {i:Nat//i<=L.length} (fun x=>⟨[(0,L6 L),(3,.osl 0 0 (U7 L x.1).length),(4,.int .i64 x.1)],[some (.bys 5 (U7 L x.1))]⟩) (fun x=>L.length-x.1) [.arr 0] [.arr 3] (fun _=>Z0)
 |_=>.none
noncomputable def b0B:Code:=Tryz.f234.body.getD .skip
theorem b0e(L:List (List UInt8))(h:
  X6 IntKind.u8 (IntKind.u8.wrap (L.length:Int))/\(∃(x:{i:Nat//i<=L.length}),((Y3 Z6 L L)/\(0=0/\1=(U7 L x.val).length)/\(0:Int)=(x.val:Int)/\True)/\List.map O4 [IntKind.u8.wrap (L.length:Int)]=
  U7 L x.val/\True)/\∀(x:{i:Nat//i<=L.length}),(decide ((x.val:Int)<(L.length:Int))=true->W7 (x.val:Int) L.length/\X6 IntKind.u8 (IntKind.u8.wrap (↑(L.getD (x.val:Int).toNat []).length:Int))/\(Le 1 1/\Le
  (U7 L x.val).length (U7 L x.val).length/\V6 (U7 L x.val).length 1 1)/\W7 (x.val:Int) L.length/\(Le ((U7 L x.val).length+1) (List.take (U7 L x.val).length (U7 L x.val)++List.take 1 (List.drop 0 (List.map
  O4 [IntKind.u8.wrap (↑(L.getD (x.val:Int).toNat []).length:Int)]))).length/\V6 ((U7 L x.val).length+1) (L.getD (x.val:Int).toNat []).length 1)/\X6 .i64 ((x.val:Int)+(1:Int))/\∃(y:{i:Nat//i<=L.length}),
  (((Y3 Z6 L L)/\(0=0/\(U7 L x.val).length+1+(L.getD (x.val:Int).toNat []).length=(U7 L y.val).length)/\(x.val:Int)+(1:Int)=(y.val:Int)/\True)/\List.take ((U7 L x.val).length+1) (List.take (U7 L
  x.val).length (U7 L x.val)++List.take 1 (List.drop 0 (List.map O4 [IntKind.u8.wrap (↑(L.getD (x.val:Int).toNat []).length:Int)])))++L.getD (x.val:Int).toNat []=U7 L y.val/\True)/\Lt (L.length-y.val) (L.length-
  x.val))/\(decide ((x.val:Int)<(L.length:Int))=false->Le (0+(U7 L x.val).length) (U7 L x.val).length/\List.take (U7 L x.val).length (List.drop 0 (U7 L x.val))=P0 L)):
  Z1 Tryz.prog 234 [L6 L] (.bys (P0 L)):=
 T7 (code:=b0B) gN Tryz.func234 (by kernel_rfl) (by kernel_rfl) (b0j L) h (by kernel_rfl)
noncomputable def a9P:Code:=Tryz.f233.body.getD .skip
theorem a5k:Z8 Tryz.prog 233:=⟨_,Tryz.func233,by kernel_rfl,by kernel_rfl⟩
theorem b2U(l:List UInt8)(h:
  ∃(x:(a02 IntKind.i64).ι),(Le (0+l.length) l.length/\(List.take l.length (List.drop 0 l)=x/\True)/\I7 x)/\∃(x_1:b2x.ι),(((↑(crc x):Int)=(x_1.fst:Int)/\((4:Int)=match x_1.snd with|true=>(4:Int)|false=>(2:Int))/\True)/\True)/\(Le l.length l.length/\V6 l.length (match x_1.snd with|true=>by4 x_1.fst|false=>by2 x_1.fst).length 1)/\Le (0+(l.length+(match x_1.snd with|true=>by4 x_1.fst|false=>by2 x_1.fst).length)) (List.take l.length l++match x_1.snd with|true=>by4 x_1.fst|false=>by2 x_1.fst).length/\List.take (l.length+(match x_1.snd with|true=>by4 x_1.fst|false=>by2 x_1.fst).length) (List.drop 0 (List.take l.length l++match x_1.snd with|true=>by4 x_1.fst|false=>by2 x_1.fst))=l++by4 (crc l)/\True/\True):
  V7 Tryz.prog 233 [.osl 0 0 l.length] [some (.bys 5 l)] (.bys (l++by4 (crc l))) [none]:=
 vcE (code:=a9P) (gC a3d a1w (gC a7P a5l gN)) Tryz.func233 (by kernel_rfl) (by kernel_rfl) Z0 (bs:=[false]) h (by kernel_rfl)
def d7(n:Nat)(l:List UInt8):Prop:=n=l.length/\l.length<=1000000
def l5:List T->Y5->Option (T×Y5×Option Prop)
 | [.osl k off n],[some (.bys ty l)]=>match k,off,ty with
  |0,0,5=>some (.bys (l++by4 (crc l)),[none],some (d7 n l))
  |_,_,_=>none
 |_,_=>none
def b2u:Con:=.eff l5
theorem a7Y:Z2 Tryz.prog 233 b2u:=by
 intro args H res H' p h hp;unfold l5 at h;split at h
 case h_2=>cases h
 rename_i k off n ty l;split at h
 ·skip
  simp only[Option.some.injEq,Prod.mk.injEq] at h;obtain⟨rfl,rfl,rfl⟩:=h;obtain⟨rfl,hl⟩:d7 n l:=hp;have e4:(by4 (crc l)).length=4:=rfl;refine b2U l ⟨l,⟨by unfold Le;omega,⟨by rw[List.drop_zero,List.take_length],trivial⟩,by unfold I7;omega⟩,(crc l,true),⟨⟨rfl,rfl,trivial⟩,trivial⟩,⟨Nat.le_refl _,?_,?_⟩,?_,?_,trivial,trivial⟩
  ·simp only[e4];omega
  ·simp only[e4];omega
  ·unfold Le;rw[List.take_length,List.length_append,Nat.zero_add];exact Nat.le_refl _
  ·rw[List.take_length,List.drop_zero];exact List.take_of_length_le (by rw[List.length_append];exact Nat.le_refl _)
 ·cases h
theorem a2f(L:List (List UInt8))(h:∀i,i<L.length->(L.getD i []).length<=1000):∀i,i<=L.length->(U7 L i).length<=1+1001*i
 |0,_=>by simp[U7]
 |i+1,hi=>by
  have h1:=a2f L h i (by omega)
  have h2:=h i (by omega)
  simp only[U7,List.length_append,List.length_cons,List.length_nil];omega
theorem a7r:Z2 Tryz.prog 234 b2r:=by
 rintro(L:List (List UInt8)) ⟨hL,hs⟩;refine b0e L ⟨P5 _,⟨⟨0,Nat.zero_le _⟩,⟨⟨rfl,Z9 _ _⟩,⟨rfl,rfl⟩,rfl,trivial⟩,rfl,trivial⟩,fun x=>⟨fun hc=> ?_,fun hc=> ?_⟩⟩
 ·have hlt:=Y6 hc;have h1:=a2f L hs x.val (by omega)
  have h2:=hs x.val hlt;rw[Int.toNat_natCast];have e:List.take (U7 L x.val).length (U7 L x.val)++List.take 1 (List.drop 0 (List.map O4 [IntKind.u8.wrap ((L.getD x.val []).length:Int)]))=U7 L x.val++[u8b (L.getD x.val []).length]:=by
   rw[List.take_length];rfl
  rw[e];have e2:(U7 L x.val++[u8b (L.getD x.val []).length]).length=(U7 L x.val).length+1:=by simp
  refine⟨Y8 hlt,P5 _,⟨Nat.le_refl _,Nat.le_refl _,by omega,by omega⟩,Y8 hlt,⟨by unfold Le;omega,by omega,by omega⟩,W8 hlt (by omega),⟨x.val+1,hlt⟩,⟨⟨⟨rfl,Z9 _ _⟩,⟨rfl,?_⟩,by simp only;omega,trivial⟩,?_,trivial⟩,W5.ext_lt hlt⟩
  ·simp only[U7,List.length_append,List.length_cons,List.length_nil]
  ·rw[←e2,List.take_length];rfl
 ·have hx:x.val=L.length:=by have:=x.2;have:=Y2 hc;omega
  rw[hx];exact⟨by unfold Le;omega,by rw[List.drop_zero,List.take_length];rfl⟩
end Go.Proofs.YtokaojbaacnngaaGreat

