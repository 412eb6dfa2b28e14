/- A part of the proof. -/
import Derived.Test.YtokaojbaacnngaaGreatE6
namespace Go.Proofs.YtokaojbaacnngaaGreat
set_option maxRecDepth 100000
open Go.SS

structure Frm where
 no:Int
 pg:Pg
 dirty:Bool
 first:Int
 deriving Inhabited
def Frm.ts(f:Frm):List T:=[.int .i64 f.no,.int .i64 f.pg.lsn,B4 f.pg.sl,.bool f.dirty,.int .i64 f.first]
structure Sto where
 d:Dsk
 ep:Int
 log:List Rec
 sure:Int
 fr:List Frm
 hand:Int
 deriving Inhabited
def X1(L:List Frm)(i:Nat):List T:=(L.getD i default).ts
def wZ(L:List Frm):T:=.sl 5 L.length (X1 L)
def Sto.ts(s:Sto):List T:=[B4 s.d.sec,C2 s.d.cache,.bool s.d.armed,vQ s.d.keep,.int .i64 s.ep,l9 s.log,.int .i64 s.sure,wZ s.fr,.int .i64 s.hand]
abbrev yI(a b:Sto):Prop:=(a.d.sec.length=b.d.sec.length/\Z6 a.d.sec.length (Z5 a.d.sec) (Z5 b.d.sec))/\(a.d.cache.length=b.d.cache.length/\Z6 a.d.cache.length (Z3 a.d.cache) (Z3 b.d.cache))/\a.d.armed=b.d.armed/\(a.d.keep.length=b.d.keep.length/\Z6 a.d.keep.length (Y9 a.d.keep) (Y9 b.d.keep))/\a.ep=b.ep/\(a.log.length=b.log.length/\Z6 a.log.length (Y7 a.log) (Y7 b.log))/\a.sure=b.sure/\(a.fr.length=b.fr.length/\Z6 a.fr.length (X1 a.fr) (X1 b.fr))/\a.hand=b.hand/\True
theorem yH(s:Sto):yI s s:=⟨Z8,Z8,rfl,Z8,rfl,Z8,rfl,Z8,Z9⟩
def nC(s:Sto):Option Ob:=some (.arr true 1000000 9 1 λ_=>s.ts)
noncomputable def Q8(d:Dsk)(no:Nat):Pg×Bool:=if S5 d (1+no)=[] then(⟨0,[[],[],[],[]]⟩,true) else K0 no (S5 d (1+no))
noncomputable def T7(d:Dsk)(no:Nat):Pg×Bool:=if S5 d (1+no)=[] then(⟨0,[[],[],[],[]]⟩,true) else(Q9 no (S5 d (1+no)),(K0 no (S5 d (1+no))).2)
theorem mM(d:Dsk)(no:Nat):(T7 d no).2=(Q8 d no).2/\((Q8 d no).2=true->T7 d no=Q8 d no):=by
 unfold T7 Q8;by_cases h:S5 d (1+no)=[]
 ·rw[if_pos h,if_pos h];exact⟨rfl,λ_=>rfl⟩
 ·rw[if_neg h,if_neg h];refine⟨rfl,λh2=> ?_⟩
  unfold Q9;rw[if_pos h2]
def dR(x:Dsk×Nat):Prop:=B9 x.1/\1+x.2<x.1.sec.length
theorem qW{d:Dsk}(h:B9 d){at_:Nat}(ha:at_<d.sec.length):(S5 d at_).length<=160:=by
 obtain⟨_,_,_,_,_,h1,h2⟩:=h;have key:∀n,n<=d.cache.length->∀l,K4 d.cache at_ n=some l->l.length<=160:=by
  intro n;induction n with
  |zero=>intro _ l hl;cases hl
  |succ n ih=>
   intro hn l hl;unfold K4 at hl;split at hl
   ·simp only[W8] at hl;subst hl;have:=h2 n (by omega)
    unfold R2 at this;simp only[tU,tQ] at this;omega
   ·exact ih (by omega) l hl
 unfold S5;cases hl:K4 d.cache at_ d.cache.length with
 |none=>exact h1 at_ ha
 |some l=>exact key _ (V1 _) l hl
noncomputable def lC:Rl:=⟨Sto×Nat,λx=>[.bref x.1.ts,.int .i64 x.2],λx=>.tup [.agg (T7 x.1.d x.2).1.ts,.bool (T7 x.1.d x.2).2],λx=>dR (x.1.d,x.2)⟩
noncomputable def a2E:Con:=.rel lC
noncomputable def gJ:Rl:=⟨Dsk×Nat,λx=>[.agg x.1.ts,.int .i64 x.2],λx=>.tup [.agg (Q8 x.1 x.2).1.ts,.bool (Q8 x.1 x.2).2],dR⟩
noncomputable def a6W:Con:=.rel gJ
theorem iK(d:Dsk)(no:Nat)(h:
  X2 .i64 ((1:Int)+(no:Int))/\∃(x:tC.ι),(((g8 d x.1)/\(1:Int)+(no:Int)=(x.2:Int)/\True)/\AtB x)/\((S5 x.1 x.2==[])=true->∃(x:uP.ι),(True/\True)/\((0:Int)=(Q8 d no).1.lsn/\
  (4=(Q8 d no).1.sl.length/\Z6 4 (Z5 [[],[],[],[]]) (Z5 (Q8 d no).1.sl))/\True)/\true=(Q8 d no).2/\True)/\((S5 x.1 x.2==[])=false->∃(x_1:iC.ι),(((no:Int)=x_1.1/\S5
  x.1 x.2=x_1.2/\True)/\RdB x_1.2)/\((K0 x_1.1 x_1.2).1.lsn=(Q8 d no).1.lsn/\(Y6 Z5 (K0 x_1.1 x_1.2).1.sl (Q8 d no).1.sl)/\True)/\(K0 x_1.1 x_1.2).2=(Q8 d no).2/\True)):
  U3 Tryz.prog 140 [.agg d.ts,.int .i64 no] (.tup [.agg (Q8 d no).1.ts,.bool (Q8 d no).2]):=
 S3 (gC mR (gC a1v (gC a2o gN))) Tryz.func140 Z0 h
def oM(L:List Frm)(no:Int)(i:Nat):Bool:=(L.getD i default).no==no
def frAt(L:List Frm)(no:Int):Int:=R0 L.length (oM L no)
def noF(no:Int):T:=.fn (.func 261) [.bref [.int .i64 no]]
def kY:Rl:=⟨Frm×Int,λx=>[.agg x.1.ts,.bref [.int .i64 x.2]],λx=>.bool (x.1.no==x.2),λ_=>True⟩
def a4v:Con:=.rel kY
theorem a3j(f:Frm)(no:Int)(h:
  (f.no==no)=(f.no==no)):
  U3 Tryz.prog 261 [.agg f.ts,.bref [.int .i64 no]] (.bool (f.no==no)):=
 S3 gN Tryz.func261 Z0 h
theorem a1K:GK 261 a4v:=gk Tryz.func261<|λx _=>a3j x.1 x.2 rfl
def a1S:Rl:=⟨List Frm×Int,λx=>[wZ x.1,noF x.2],λx=>.int .i64 (frAt x.1 x.2),λx=>N3 x.1.length⟩
def b1w:Con:=.rel a1S
def b0n(L:List Frm)(no:Int):Nat->Ann
 |0=>.one (V3 L.length (oM L no)) (λx=>⟨[(0,wZ L),(1,noF no),(7,.int .i64 L.length),(8,.int .i64 x.1)],[]⟩) (λx=>L.length-x.1) [] [] (λ_=>Z0)
 |_=>.none
theorem a9M:GK 260 b1w:=gk Tryz.func260<|by
 rintro⟨L,no⟩ (hL:L.length<1000000000000);refine S3 (gC a1K gN) Tryz.func260 (b0n L no) (α:=(∃(x:V3 L.length (oM L no)),((Y6 X1 L L)/\(Fn.func 261=Fn.func 261/\M2 (λ(x:Nat)=>none) (T.bref [T.int .i64 no]) (T.bref [T.int .i64 no])/\True)/\(L.length:Int)=(L.length:Int)/\(0:Int)=(x.val:Int)/\True)/\True)/\∀(x:V3 L.length (oM L no)),(decide ((x.val:Int)<(L.length:Int))=true->W2 (x.val:Int) L.length/\∃(x_1:kY.ι),((((L.getD (x.val:Int).toNat default).no=x_1.1.no/\(L.getD (x.val:Int).toNat default).pg.lsn=x_1.1.pg.lsn/\(Y6 Z5 (L.getD (x.val:Int).toNat default).pg.sl x_1.1.pg.sl)/\(L.getD (x.val:Int).toNat default).dirty=x_1.1.dirty/\(L.getD (x.val:Int).toNat default).first=x_1.1.first/\True)/\(no=x_1.2/\True)/\True)/\True)/\((x_1.1.no==x_1.2)=true->(x.val:Int)=frAt L no)/\((x_1.1.no==x_1.2)=false->X2 .i64 ((x.val:Int)+(1:Int))/\∃(y:V3 L.length (oM L no)),(((Y6 X1 L L)/\(Fn.func 261=Fn.func 261/\M2 (λ(x:Nat)=>none) (T.bref [T.int .i64 no]) (T.bref [T.int .i64 no])/\True)/\(L.length:Int)=(L.length:Int)/\(x.val:Int)+(1:Int)=(y.val:Int)/\True)/\True)/\Lt (L.length-y.val) (L.length-x.val)))/\(decide ((x.val:Int)<(L.length:Int))=false->(-1:Int)=frAt L no)) ⟨⟨E8,⟨Z8,⟨rfl,S1 _,trivial⟩,rfl,Z9⟩,trivial⟩,λx=>⟨λhc=> ?_,λhc=> ?_⟩⟩
 ·have hlt:=Y1 hc;refine⟨Y3 hlt,(L.getD x.val default,no),⟨⟨⟨rfl,rfl,Z8,rfl,Z9⟩,Z9,trivial⟩,trivial⟩,λhp=>(L5 hlt hp x.2.2).symm,λhp=>⟨V5 hlt (by omega),x.succ hlt hp,⟨⟨Z8,⟨rfl,S1 _,trivial⟩,rfl,by simp only[V3.succ];omega,trivial⟩,trivial⟩,V3.ext_lt hlt⟩⟩
 ·have hge:=X9 hc;exact(J9 λj hj=>x.2.2 j (vR hj hge)).symm
def uK:Rl:=⟨Sto×Int,λx=>[.bref x.1.ts,.int .i64 x.2],λx=>.int .i64 (frAt x.1.fr x.2),λx=>N3 x.1.fr.length⟩
def a6P:Con:=.rel uK
def sL:Rl:=⟨Sto×Int,λx=>[.agg x.1.ts,.int .i64 x.2],λx=>.int .i64 (frAt x.1.fr x.2),λx=>N3 x.1.fr.length⟩
def a2i:Con:=.rel sL
def a4H(s:Sto)(no:Int):Nat->Ann
 |0=>.one (V3 s.fr.length (oM s.fr no)) (λx=>⟨[(1,.int .i64 no),(2,.ref 0 0 0),(5,.int .i64 x.1)],[nC s]⟩) (λx=>s.fr.length-x.1) [.box 0] [.box 0] (λ_=>Z0)
 |_=>.none
theorem sD:GK 215 a6P:=gk Tryz.func215<|by
 rintro⟨s,no⟩ hL;exact S3 (gC a9M gN) Tryz.func215 Z0 (α:=∃(x:a1S.ι),(((Y6 X1 s.fr x.1)/\(Fn.func 261=Fn.func 261/\(no=x.2/\True)/\True)/\True)/\N3 x.1.length)/\frAt x.1 x.2=frAt s.fr no) ⟨(s.fr,no),⟨⟨Z8,⟨rfl,Z9,trivial⟩,trivial⟩,hL⟩,rfl⟩
theorem pE:GK 125 a2i:=gk Tryz.func125<|by
 rintro⟨s,no⟩ (hL:s.fr.length<1000000000000);refine S3 gN Tryz.func125 (a4H s no) (α:=(∃(x:V3 s.fr.length (oM s.fr no)),(no=no/\(0=0/\0=0)/\(0:Int)=(x.val:Int)/\True)/\(1=1/\1=1/\yI s s)/\True)/\∀(x:V3 s.fr.length (oM s.fr no)),(decide ((x.val:Int)<(s.fr.length:Int))=true->W2 (x.val:Int) s.fr.length/\(((s.fr.getD (x.val:Int).toNat default).no==no)=true->(x.val:Int)=frAt s.fr no)/\(((s.fr.getD (x.val:Int).toNat default).no==no)=false->X2 .i64 ((x.val:Int)+(1:Int))/\∃(y:V3 s.fr.length (oM s.fr no)),((no=no/\(0=0/\0=0)/\(x.val:Int)+(1:Int)=(y.val:Int)/\True)/\(1=1/\1=1/\yI s s)/\True)/\Lt (s.fr.length-y.val) (s.fr.length-x.val)))/\(decide ((x.val:Int)<(s.fr.length:Int))=false->(-1:Int)=frAt s.fr no)) ⟨⟨E8,⟨rfl,Z7,Z9⟩,⟨rfl,rfl,yH _⟩,trivial⟩,λx=>⟨λhc=> ?_,λhc=> ?_⟩⟩
 ·have hlt:=Y1 hc;exact⟨Y3 hlt,λhp=>(L5 hlt hp x.2.2).symm,λhp=>⟨V5 hlt (by omega),x.succ hlt hp,⟨⟨rfl,Z7,by simp only[V3.succ];omega,trivial⟩,⟨rfl,rfl,yH _⟩,trivial⟩,V3.ext_lt hlt⟩⟩
 ·have hge:=X9 hc;exact(J9 λj hj=>x.2.2 j (vR hj hge)).symm
theorem gT(no:Int)(t:List UInt8):(M5 no t==(0:Int))=(K0 no t).2:=by
 unfold M5;cases hu:T0 t
 ·have:(K0 no t).2=false:=by unfold K0;rw[hu];rfl
  rw[this];rfl
 ·cases h:(K0 no t).2<;>rfl
theorem a0a:GK 153 a2E:=gk Tryz.func153<|by
 rintro⟨s,no⟩ ⟨hd,hn⟩;simp only at hd hn;have hle:=qW hd hn;obtain⟨q1,q2,q3,_⟩:=hd;refine S3 (gC lU (gC bE (gC aE gN))) Tryz.func153 Z0 (α:=X2 .i64 ((1:Int)+(no:Int))/\∃(x:tC.ι),(((g8 s.d x.1)/\(1:Int)+(no:Int)=(x.2:Int)/\True)/\AtB x)/\((S5 x.1 x.2==[])=true->∃(x:uP.ι),(True/\True)/\((0:Int)=(T7 s.d no).1.lsn/\(4=(T7 s.d no).1.sl.length/\Z6 4 (Z5 [[],[],[],[]]) (Z5 (T7 s.d no).1.sl))/\True)/\true=(T7 s.d no).2/\True)/\((S5 x.1 x.2==[])=false->Lt (S5 x.1 x.2).length 140737488355329/\∃(x_1:mE.ι),(((no:Int)=x_1.1/\S5 x.1 x.2=x_1.2/\True)/\RdB x_1.2)/\((Q9 x_1.1 x_1.2).lsn=(T7 s.d no).1.lsn/\(Y6 Z5 (Q9 x_1.1 x_1.2).sl (T7 s.d no).1.sl)/\True)/\(M5 x_1.1 x_1.2==(0:Int))=(T7 s.d no).2/\True)) ⟨Z4 (by omega),(s.d,1+no),⟨⟨(xF _),by simp only;omega,trivial⟩,hn,by simp only;omega⟩,λh=>⟨(),A8,?_⟩,λh=>⟨by unfold Lt;simp only;omega,((no:Int),S5 s.d (1+no)),⟨⟨rfl,rfl,trivial⟩,by show(S5 s.d (1+no)).length<=1000;omega⟩,?_⟩⟩
 ·have h:S5 s.d (1+no)=[]:=by simpa using h
  have e:T7 s.d no=(⟨0,[[],[],[],[]]⟩,true):=by unfold T7;rw[if_pos h]
  rw[e];exact⟨⟨rfl,X8⟩,Z9⟩
 ·have h:S5 s.d (1+no)≠[]:=by simpa using h
  have e:T7 s.d no=(Q9 no (S5 s.d (1+no)),(K0 no (S5 s.d (1+no))).2):=by unfold T7;rw[if_neg h]
  rw[e];exact⟨⟨rfl,X8⟩,gT _ _,trivial⟩
theorem a2f:GK 140 a6W:=gk Tryz.func140<|by
 rintro⟨d,no⟩ ⟨hd,hn⟩;simp only at hd hn;have hle:=qW hd hn;obtain⟨q1,q2,q3,_⟩:=hd;refine iK d no ⟨Z4 (by omega),(d,1+no),⟨⟨(xF _),by simp only;omega,trivial⟩,hn,by simp only;omega⟩,λh=>⟨(),A8,?_⟩,λh=>⟨((no:Int),S5 d (1+no)),⟨⟨rfl,Z9⟩,by show(S5 d (1+no)).length<=1000;omega⟩,?_⟩⟩
 ·have h:S5 d (1+no)=[]:=by simpa using h
  have e:Q8 d no=(⟨0,[[],[],[],[]]⟩,true):=by unfold Q8;rw[if_pos h]
  rw[e];exact⟨⟨rfl,X8⟩,Z9⟩
 ·have h:S5 d (1+no)≠[]:=by simpa using h
  have e:Q8 d no=K0 no (S5 d (1+no)):=by unfold Q8;rw[if_neg h]
  rw[e];exact⟨⟨rfl,X8⟩,Z9⟩
noncomputable def zY(s:Sto)(i:Nat):Bool:=
 !V6 (s.fr.getD i default).no 0 7||frAt s.fr (s.fr.getD i default).no !=(i:Int)|| !A7 (s.fr.getD i default).pg||decide ((s.fr.getD i default).pg.lsn>(s.log.length:Int))|| !V6 (s.fr.getD i default).first 0 s.log.length||
  decide ((s.fr.getD i default).first>0) !=(s.fr.getD i default).dirty
noncomputable def d8(s:Sto):Bool:= !anyI s.fr.length (zY s)&&decide ((s.fr.length:Int)<=3)
def FrB(L:List Frm):Prop:=N3 L.length/\∀i,i<L.length->PgB (L.getD i default).pg
def c0a(s:Sto):Prop:=FrB s.fr/\N3 s.log.length
noncomputable def nF:Rl:=⟨Sto,λs=>[.bref s.ts],λs=>.bool (d8 s),c0a⟩
noncomputable def a2z:Con:=.rel nF
noncomputable def a4Q(s:Sto):Nat->Ann
 |0=>.one (V3 s.fr.length (zY s)) (λx=>⟨[(0,.bref s.ts),(8,wZ s.fr),(9,.int .i64 s.fr.length),(10,.int .i64 x.1)],[]⟩) (λx=>s.fr.length-x.1) [] [] (λ_=>Z0)
 |_=>.none
theorem b9m(n:Int):(decide (0<=n)&&decide (n<8))=V6 n 0 7:=by
 unfold V6;rw[show decide (n<8)=decide (n<=7) from decide_eq_decide.2 (by omega)]
theorem a0N:GK 154 a2z:=gk Tryz.func154<|by
 rintro(s:Sto) ⟨⟨h1,h2⟩,h3⟩;have h1:s.fr.length<1000000000000:=h1;have h3:s.log.length<1000000000000:=h3;refine S3 (gC wM (gC sD (gC sF (gC N4 gN)))) Tryz.func154 (a4Q s) (α:=(∃(x:V3 s.fr.length (zY s)),(M2 (λ(x:Nat)=>none) (T.bref s.ts) (T.bref s.ts)/\(Y6 X1 s.fr s.fr)/\(s.fr.length:Int)=(s.fr.length:Int)/\(0:Int)=(x.val:Int)/\True)/\True)/\∀(x:V3 s.fr.length (zY s)),(decide ((x.val:Int)<(s.fr.length:Int))=true->W2 (x.val:Int) s.fr.length/\t8 (8:Int)/\∃(x_1:uK.ι),((!(decide ((0:Int)<=(s.fr.getD (x.val:Int).toNat default).no)&&decide ((s.fr.getD (x.val:Int).toNat default).no<(8:Int))))=false->((yI s x_1.1)/\(s.fr.getD (x.val:Int).toNat default).no=x_1.2/\True)/\N3 x_1.1.fr.length)/\∃(x_2:zQ.ι),((!(decide ((0:Int)<=(s.fr.getD (x.val:Int).toNat default).no)&&decide ((s.fr.getD (x.val:Int).toNat default).no<(8:Int)))||frAt x_1.1.fr x_1.2 !=(x.val:Int))=false->(((s.fr.getD (x.val:Int).toNat default).pg.lsn=x_2.lsn/\(Y6 Z5 (s.fr.getD (x.val:Int).toNat default).pg.sl x_2.sl)/\True)/\True)/\PgB x_2)/\((!(decide ((0:Int)<=(s.fr.getD (x.val:Int).toNat default).no)&&decide ((s.fr.getD (x.val:Int).toNat default).no<(8:Int)))||frAt x_1.1.fr x_1.2 !=(x.val:Int)|| !A7 x_2||decide ((s.fr.getD (x.val:Int).toNat default).pg.lsn>(s.log.length:Int))|| !V6 (s.fr.getD (x.val:Int).toNat default).first (0:Int) (s.log.length:Int)|| !decide ((s.fr.getD (x.val:Int).toNat default).first>(0:Int))==(s.fr.getD (x.val:Int).toNat default).dirty)=true->false=d8 s)/\((!(decide ((0:Int)<=(s.fr.getD (x.val:Int).toNat default).no)&&decide ((s.fr.getD (x.val:Int).toNat default).no<(8:Int)))||frAt x_1.1.fr x_1.2 !=(x.val:Int)|| !A7 x_2||decide ((s.fr.getD (x.val:Int).toNat default).pg.lsn>(s.log.length:Int))|| !V6 (s.fr.getD (x.val:Int).toNat default).first (0:Int) (s.log.length:Int)|| !decide ((s.fr.getD (x.val:Int).toNat default).first>(0:Int))==(s.fr.getD (x.val:Int).toNat default).dirty)=false->X2 .i64 ((x.val:Int)+(1:Int))/\∃(y:V3 s.fr.length (zY s)),((M2 (λ(x:Nat)=>none) (T.bref s.ts) (T.bref s.ts)/\(Y6 X1 s.fr s.fr)/\(s.fr.length:Int)=(s.fr.length:Int)/\(x.val:Int)+(1:Int)=(y.val:Int)/\True)/\True)/\Lt (s.fr.length-y.val) (s.fr.length-x.val)))/\(decide ((x.val:Int)<(s.fr.length:Int))=false->decide ((s.fr.length:Int)<=(3:Int))=d8 s)) ⟨⟨E8,⟨S1 _,Z8,rfl,Z9⟩,trivial⟩,λx=>⟨λhc=> ?_,λhc=> ?_⟩⟩
 ·have hlt:=Y1 hc;rw[b9m,z7];have e:(!V6 (s.fr.getD x.val default).no 0 7||frAt s.fr (s.fr.getD x.val default).no !=(x.val:Int)|| !A7 (s.fr.getD x.val default).pg||decide ((s.fr.getD x.val default).pg.lsn>(s.log.length:Int))||
    !V6 (s.fr.getD x.val default).first 0 s.log.length|| !decide ((s.fr.getD x.val default).first>0)==(s.fr.getD x.val default).dirty)=zY s x.val:=rfl
  refine⟨Y3 hlt,⟨by omega,by omega⟩,(s,(s.fr.getD x.val default).no),λ_=>⟨⟨(yH _),Z9⟩,h1⟩,(s.fr.getD x.val default).pg,λ_=>⟨⟨⟨rfl,X8⟩,trivial⟩,h2 _ hlt⟩,λhb=> ?_,λhb=>⟨V5 hlt (by omega),x.succ hlt (e.symm.trans hb),⟨⟨S1 _,Z8,rfl,by simp only[V3.succ];omega,trivial⟩,trivial⟩,V3.ext_lt hlt⟩⟩
  have:anyI s.fr.length (zY s)=true:=O1.2 ⟨x.val,hlt,e.symm.trans hb⟩;unfold d8;rw[this];rfl
 ·have hge:=X9 hc;have:anyI s.fr.length (zY s)=false:=K6.2 λi hi=>x.2.2 i (vR hi hge)
  unfold d8;rw[this];simp
def vN(L:List Rec)(i:Nat):Int:=if i=0 then 1 else(L.getD (i-1) default).e
def tM(s:Sto)(i:Nat):Bool:= !V6 (s.log.getD i default).e (vN s.log i) s.ep
noncomputable def l6(s:Sto)(no:Nat):Bool:= !(Q8 s.d no).2||decide ((Q8 s.d no).1.lsn>s.sure)
noncomputable def tD(s:Sto):Bool:= !w9 s.d||((s.d.sec.length:Nat):Int) !=69|| !V6 s.ep 1 60||decide ((s.log.length:Int)>60)
noncomputable def K7(s:Sto):Bool:= !(tD s|| !k9 s.log|| !V6 s.sure 0 s.log.length)&& !anyI s.log.length (tM s)&& !anyI 8 (l6 s)&&d8 s&&V6 s.hand 0 2
def b2B(s:Sto):Prop:=b5u s.d/\b6A s.log/\FrB s.fr/\∀r ∈ s.log,N3 r.a.length
noncomputable def uH:Rl:=⟨Sto,λs=>[.agg s.ts],λs=>.bool (K7 s),b2B⟩
noncomputable def a45:Con:=.rel uH
noncomputable def a3g:Con:=.rel uH
noncomputable def a2t(s:Sto):Nat->Ann
 |0=>.onef [1,3,48,49,50] (V3 s.log.length (tM s)) (λx=>⟨[(1,.bref s.ts),(3,.int .i64 (vN s.log x.1)),(48,l9 s.log),(49,.int .i64 s.log.length),(50,.int .i64 x.1)],[]⟩) (λx=>s.log.length-x.1) [] (λ_=>fun
  |1=>.one (V3 8 (l6 s)) (λx=>⟨[(1,.bref s.ts),(64,.int .i64 x.1)],[]⟩) (λx=>8-x.1) [] [] (λ_=>Z0)
  |_=>.none)
 |_=>.none
noncomputable def wK(s:Sto)(i:Nat):Bool:= !Q6 (s.log.getD i default)||(s.log.getD i default).l !=(i:Int)+1||decide ((s.log.getD i default).e>s.ep)||(decide ((i:Int)>0)&&decide ((s.log.getD (i-1) default).e>(s.log.getD i default).e))
noncomputable def yZ(s:Sto)(i:Nat):Bool:=
 !V6 (s.fr.getD i default).no 0 7|| !A7 (s.fr.getD i default).pg||decide ((s.fr.getD i default).pg.lsn>(s.log.length:Int))|| !V6 (s.fr.getD i default).first 0 s.log.length||
  (s.fr.getD i default).dirty !=decide ((s.fr.getD i default).first>0)||frAt s.fr (s.fr.getD i default).no !=(i:Int)
noncomputable def a34(s:Sto):Nat->Ann
 |0=>.one (V3 s.log.length (wK s)) (λx=>⟨[(1,.ref 0 0 0),(3,.int .i64 x.1)],[nC s]⟩) (λx=>s.log.length-x.1) [.box 0] [.box 0] (λ_=>fun
  |1=>.one (V3 s.fr.length (yZ s)) (λx=>⟨[(1,.ref 0 0 0),(5,.int .i64 x.1)],[nC s]⟩) (λx=>s.fr.length-x.1) [.box 0] [.box 0] (λ_=>fun
   |2=>.one (V3 8 (l6 s)) (λx=>⟨[(1,.ref 0 0 0),(7,.int .i64 x.1)],[nC s]⟩) (λx=>8-x.1) [.box 0] [.box 0] (λ_=>Z0)
   |_=>.none)
  |_=>.none)
 |_=>.none
theorem K1(s:Sto):K7 s=true↔(tD s=false/\k9 s.log=true/\V6 s.sure 0 s.log.length=true)/\(∀i,i<s.log.length->tM s i=false)/\(∀i,i<8->l6 s i=false)/\d8 s=true/\V6 s.hand 0 2=true:=by
 unfold K7;simp only[I3,vO,tU,xE,K6];exact⟨λh=>⟨⟨h.1.1.1.1.1.1,h.1.1.1.1.1.2,h.1.1.1.1.2⟩,h.1.1.1.2,h.1.1.2,h.1.2,h.2⟩,λh=>⟨⟨⟨⟨⟨⟨h.1.1,h.1.2.1⟩,h.1.2.2⟩,h.2.1⟩,h.2.2.1⟩,h.2.2.2.1⟩,h.2.2.2.2⟩⟩
theorem sR{s:Sto}(h:¬K7 s=true):false=K7 s:=(Bool.eq_false_iff.2 h).symm
theorem u9(s:Sto):tD s=false↔B9 s.d/\s.d.sec.length=69/\1<=s.ep/\s.ep<=60/\s.log.length<=60:=by
 unfold tD;simp only[tU,xE,qE,bne_eq_false_iff_eq,V6,I3,m5,tQ];constructor
 ·rintro⟨⟨⟨h1,h2⟩,h3,h4⟩,h5⟩;exact⟨h1,by omega,h3,h4,by omega⟩
 ·rintro⟨h1,h2,h3,h4,h5⟩;exact⟨⟨⟨h1,by omega⟩,h3,h4⟩,by omega⟩
theorem a6j(s:Sto)(no:Nat):(!(T7 s.d no).2||decide ((T7 s.d no).1.lsn>s.sure))=l6 s no:=by
 unfold l6;obtain⟨h1,h2⟩:=mM s.d no;cases h:(Q8 s.d no).2
 ·rw[h1,h];rfl
 ·rw[h2 h,h]
theorem b7Y(n:Int):(decide (0<=n)&&decide (n<3))=V6 n 0 2:=by
 unfold V6;rw[show decide (n<3)=decide (n<=2) from decide_eq_decide.2 (by omega)]
theorem a9N(L:List Rec)(i:Nat):vN L (i+1)=(L.getD i default).e:=by unfold vN;rw[if_neg (by omega)];rfl
theorem a1e:GK 87 a45:=gk Tryz.func87<|by
 rintro(s:Sto) ⟨hd,hl,hf,hm⟩;have e0:(!w9 s.d||(s.d.sec.length:Int) !=69|| !V6 s.ep 1 60||decide ((s.log.length:Int)>60)|| !k9 s.log|| !V6 s.sure 0 s.log.length)=(tD s|| !k9 s.log|| !V6 s.sure 0 s.log.length):=rfl;refine S3 (gC a4Z (gC N4 (gC jV (gC a0a (gC a0N (gC wM gN)))))) Tryz.func87 (a2t s) (α:=∃(x:rB.ι),(((g8 s.d x)/\True)/\b5u x)/\∃(x_1:qY.ι),((!w9 x||(s.d.sec.length:Int) !=(69:Int)|| !V6 s.ep (1:Int) (60:Int)||decide ((s.log.length:Int)>(60:Int)))=false->((s.log.length=List.length x_1/\Z6 s.log.length (Y7 s.log) (Y7 x_1))/\True)/\b6A x_1)/\((!w9 x||(s.d.sec.length:Int) !=(69:Int)|| !V6 s.ep (1:Int) (60:Int)||decide ((s.log.length:Int)>(60:Int))|| !k9 x_1|| !V6 s.sure (0:Int) (s.log.length:Int))=true->false=K7 s)/\((!w9 x||(s.d.sec.length:Int) !=(69:Int)|| !V6 s.ep (1:Int) (60:Int)||decide ((s.log.length:Int)>(60:Int))|| !k9 x_1|| !V6 s.sure (0:Int) (s.log.length:Int))=false->(∃(x:V3 s.log.length (tM s)),(M2 (λ(x:Nat)=>none) (T.bref s.ts) (T.bref s.ts)/\(1:Int)=vN s.log x.val/\(Y6 Y7 s.log s.log)/\(s.log.length:Int)=(s.log.length:Int)/\(0:Int)=(x.val:Int)/\True)/\True)/\∀(x:V3 s.log.length (tM s)),(decide ((x.val:Int)<(s.log.length:Int))=true->W2 (x.val:Int) s.log.length/\((!V6 (s.log.getD (x.val:Int).toNat default).e (vN s.log x.val) s.ep)=true->false=K7 s)/\((!V6 (s.log.getD (x.val:Int).toNat default).e (vN s.log x.val) s.ep)=false->X2 .i64 ((x.val:Int)+(1:Int))/\∃(y:V3 s.log.length (tM s)),((M2 (λ(x:Nat)=>none) (T.bref s.ts) (T.bref s.ts)/\(s.log.getD (x.val:Int).toNat default).e=vN s.log y.val/\(Y6 Y7 s.log s.log)/\(s.log.length:Int)=(s.log.length:Int)/\(x.val:Int)+(1:Int)=(y.val:Int)/\True)/\True)/\Lt (s.log.length-y.val) (s.log.length-x.val)))/\(decide ((x.val:Int)<(s.log.length:Int))=false->(∃(x:V3 8 (l6 s)),(M2 (λ(x:Nat)=>none) (T.bref s.ts) (T.bref s.ts)/\(0:Int)=(x.val:Int)/\True)/\True)/\∀(x:V3 8 (l6 s)),(decide ((x.val:Int)<(8:Int))=true->∃(x_2:lC.ι),(((yI s x_2.1)/\(x.val:Int)=(x_2.2:Int)/\True)/\dR (x_2.1.d,x_2.2))/\((!(T7 x_2.1.d x_2.2).2||decide ((T7 x_2.1.d x_2.2).1.lsn>s.sure))=true->false=K7 s)/\((!(T7 x_2.1.d x_2.2).2||decide ((T7 x_2.1.d x_2.2).1.lsn>s.sure))=false->X2 .i64 ((x.val:Int)+(1:Int))/\∃(y:V3 8 (l6 s)),((M2 (λ(x:Nat)=>none) (T.bref s.ts) (T.bref s.ts)/\(x.val:Int)+(1:Int)=(y.val:Int)/\True)/\True)/\Lt (8-y.val) (8-x.val)))/\(decide ((x.val:Int)<(8:Int))=false->∃(x:nF.ι),(((yI s x)/\True)/\c0a x)/\(d8 x=true->t8 (3:Int))/\(d8 x&&(decide ((0:Int)<=s.hand)&&decide (s.hand<(3:Int))))=K7 s)))) ⟨s.d,⟨⟨(xF _),trivial⟩,hd⟩,s.log,λ_=>⟨X8,hl⟩,λhb=>sR ?_,λhb=> ?_⟩
 ·rw[K1];rintro⟨⟨h1,h2,h3⟩,_⟩;rw[e0,h1,h2,h3] at hb;cases hb
 rw[e0] at hb;simp only[tU,xE] at hb;obtain⟨⟨b1,b2⟩,b3⟩:=hb;obtain⟨c1,c2,c3,c4,c5⟩:=(u9 s).1 b1;refine⟨⟨E8,⟨S1 _,rfl,Z8,rfl,Z9⟩,trivial⟩,λx=>⟨λhc=> ?_,λhc=>⟨⟨E8,⟨S1 _,Z9⟩,trivial⟩,λy=>⟨λhy=> ?_,λhy=> ?_⟩⟩⟩⟩
 ·have hlt:=Y1 hc;refine⟨Y3 hlt,λhb=>sR ?_,λhb=>⟨V5 hlt (by omega),x.succ hlt hb,⟨⟨S1 _,(a9N _ _).symm,Z8,rfl,by simp only[V3.succ];omega,trivial⟩,trivial⟩,V3.ext_lt hlt⟩⟩
  rw[K1];rintro⟨_,h1,_⟩;have:=h1 x.val hlt;unfold tM at this;rw[z7,this] at hb;cases hb
 ·have hlt:y.val<8:=by have:=E9 hy;omega
  refine⟨(s,y.val),⟨⟨(yH _),Z9⟩,c1,by simp only;omega⟩,λhb=>sR ?_,λhb=>⟨Z4 (by omega),y.succ hlt ((a6j s y.val).symm.trans hb),⟨⟨S1 _,by simp only[V3.succ];omega,trivial⟩,trivial⟩,V3.ext_lt hlt⟩⟩
  rw[K1];rintro⟨_,_,h1,_⟩;have:=h1 y.val hlt;rw[←a6j] at this;have hb:(!(T7 s.d y.val).2||decide ((T7 s.d y.val).1.lsn>s.sure))=true:=hb;rw[this] at hb;cases hb
 ·have g1:=X9 hc;have g2:8<=y.val:=by have:=yG hy;omega
  refine⟨s,⟨⟨(yH _),trivial⟩,hf,hl.1⟩,λ_=>⟨by omega,by omega⟩,?_⟩
  rw[b7Y,Bool.eq_iff_iff,K1];simp only[I3];exact⟨λh=>⟨⟨b1,b2,b3⟩,λi hi=>x.2.2 i (vR hi g1),λi hi=>y.2.2 i (vR hi g2),h⟩,λh=>h.2.2.2⟩
theorem b1K(s:Sto)(i:Nat):yZ s i=zY s i:=by
 unfold yZ zY;generalize V6 (s.fr.getD i default).no 0 7=a;generalize A7 (s.fr.getD i default).pg=b;generalize decide ((s.fr.getD i default).pg.lsn>(s.log.length:Int))=c;generalize V6 (s.fr.getD i default).first 0 s.log.length=d
 generalize (s.fr.getD i default).dirty=e;generalize decide ((s.fr.getD i default).first>0)=f
 generalize (frAt s.fr (s.fr.getD i default).no !=(i:Int))=g;cases a<;>cases b<;>cases c<;>cases d<;>cases e<;>cases f<;>cases g<;>rfl
theorem b0A(s:Sto):(∀i,i<s.log.length->wK s i=false)↔k9 s.log=true/\∀i,i<s.log.length->tM s i=false:=by
 rw[z9];have key:∀i,wK s i=false↔(Q6 (s.log.getD i default)=true/\(s.log.getD i default).l=(i:Int)+1)/\(s.log.getD i default).e<=s.ep/\(0<i->(s.log.getD (i-1) default).e<=(s.log.getD i default).e):=by
  intro i;unfold wK;simp only[tU,xE,bne_eq_false_iff_eq,tQ,Bool.and_eq_false_iff];constructor
  ·rintro⟨⟨⟨h1,h2⟩,h3⟩,h4⟩;exact⟨⟨h1,h2⟩,by omega,λhi=>by rcases h4 with h4|h4<;>omega⟩
  ·rintro⟨⟨h1,h2⟩,h3,h4⟩;refine⟨⟨⟨h1,h2⟩,by omega⟩,?_⟩
   by_cases hi:0<i
   ·exact .inr (by have:=h4 hi;omega)
   ·exact .inl (by omega)
 have key2:∀i,tM s i=false↔vN s.log i<=(s.log.getD i default).e/\(s.log.getD i default).e<=s.ep:=by
  intro i;unfold tM V6;simp only[xE,I3,m5]
 simp only[key,key2];constructor
 ·intro h;refine⟨λi hi=>(h i hi).1,λi hi=>⟨?_,(h i hi).2.1⟩⟩
  by_cases h0:i=0
  ·subst h0;have:=((Q1 _).1 (h 0 hi).1.1).1;exact this
  ·unfold vN;rw[if_neg h0];exact(h i hi).2.2 (by omega)
 ·rintro⟨h1,h2⟩ i hi;refine⟨h1 i hi,(h2 i hi).2,λh0=> ?_⟩
  have:=(h2 i hi).1;unfold vN at this;rw[if_neg (by omega)] at this
  exact this
theorem a1N:GK 72 a3g:=gk Tryz.func72<|by
 rintro(s:Sto) ⟨hd,hl,hf,hm⟩;have hfr:s.fr.length<1000000000000:=hf.1;have e0:(!w9 s.d||(s.d.sec.length:Int) !=69|| !V6 s.ep 1 60||decide ((s.log.length:Int)>60)|| !V6 s.sure 0 s.log.length||decide ((s.fr.length:Int)>3)|| !V6 s.hand 0 2)=(tD s|| !V6 s.sure 0 s.log.length||decide ((s.fr.length:Int)>3)|| !V6 s.hand 0 2):=rfl;have sp:K7 s=true↔(tD s|| !V6 s.sure 0 s.log.length||decide ((s.fr.length:Int)>3)|| !V6 s.hand 0 2)=false/\(∀i,i<s.log.length->wK s i=false)/\(∀i,i<s.fr.length->yZ s i=false)/\∀i,i<8->l6 s i=false:=by
  rw[K1,b0A];simp only[tU,xE,b1K,tQ];unfold d8;simp only[I3,vO,K6,m5];constructor
  ·rintro⟨⟨h1,h2,h3⟩,h4,h5,⟨h6,h7⟩,h8⟩;exact⟨⟨⟨⟨h1,h3⟩,by omega⟩,h8⟩,⟨h2,h4⟩,h6,h5⟩
  ·rintro⟨⟨⟨⟨h1,h3⟩,h7⟩,h8⟩,⟨h2,h4⟩,h6,h5⟩;exact⟨⟨h1,h2,h3⟩,h4,h5,⟨h6,by omega⟩,h8⟩
 refine S3 (gC a4K (gC o8 (gC rO (gC nD (gC pE (gC a2f gN)))))) Tryz.func72 (a34 s) (α:=∃(x:rB.ι),(((g8 s.d x)/\True)/\b5u x)/\((!w9 x||(s.d.sec.length:Int) !=(69:Int)|| !V6 s.ep (1:Int) (60:Int)||decide ((s.log.length:Int)>(60:Int))|| !V6 s.sure (0:Int) (s.log.length:Int)||decide ((s.fr.length:Int)>(3:Int))|| !V6 s.hand (0:Int) (2:Int))=true->false=K7 s)/\((!w9 x||(s.d.sec.length:Int) !=(69:Int)|| !V6 s.ep (1:Int) (60:Int)||decide ((s.log.length:Int)>(60:Int))|| !V6 s.sure (0:Int) (s.log.length:Int)||decide ((s.fr.length:Int)>(3:Int))|| !V6 s.hand (0:Int) (2:Int))=false->(∃(x:V3 s.log.length (wK s)),((0=0/\0=0)/\(0:Int)=(x.val:Int)/\True)/\(1=1/\1=1/\yI s s)/\True)/\∀(x:V3 s.log.length (wK s)),(decide ((x.val:Int)<(s.log.length:Int))=true->W2 (x.val:Int) s.log.length/\N3 (s.log.getD (x.val:Int).toNat default).a.length/\((!Q6 (Rec.mk (s.log.getD (x.val:Int).toNat default).e (s.log.getD (x.val:Int).toNat default).l (s.log.getD (x.val:Int).toNat default).t (s.log.getD (x.val:Int).toNat default).k (s.log.getD (x.val:Int).toNat default).p (s.log.getD (x.val:Int).toNat default).n (s.log.getD (x.val:Int).toNat default).g (s.log.getD (x.val:Int).toNat default).s (s.log.getD (x.val:Int).toNat default).b (s.log.getD (x.val:Int).toNat default).a))=false->X2 .i64 ((x.val:Int)+(1:Int)))/\((!Q6 (Rec.mk (s.log.getD (x.val:Int).toNat default).e (s.log.getD (x.val:Int).toNat default).l (s.log.getD (x.val:Int).toNat default).t (s.log.getD (x.val:Int).toNat default).k (s.log.getD (x.val:Int).toNat default).p (s.log.getD (x.val:Int).toNat default).n (s.log.getD (x.val:Int).toNat default).g (s.log.getD (x.val:Int).toNat default).s (s.log.getD (x.val:Int).toNat default).b (s.log.getD (x.val:Int).toNat default).a)||(s.log.getD (x.val:Int).toNat default).l !=(x.val:Int)+(1:Int)||decide ((s.log.getD (x.val:Int).toNat default).e>s.ep))=false->decide ((x.val:Int)>(0:Int))=true->X2 .i64 ((x.val:Int)- (1:Int)))/\((!Q6 (Rec.mk (s.log.getD (x.val:Int).toNat default).e (s.log.getD (x.val:Int).toNat default).l (s.log.getD (x.val:Int).toNat default).t (s.log.getD (x.val:Int).toNat default).k (s.log.getD (x.val:Int).toNat default).p (s.log.getD (x.val:Int).toNat default).n (s.log.getD (x.val:Int).toNat default).g (s.log.getD (x.val:Int).toNat default).s (s.log.getD (x.val:Int).toNat default).b (s.log.getD (x.val:Int).toNat default).a)||(s.log.getD (x.val:Int).toNat default).l !=(x.val:Int)+(1:Int)||decide ((s.log.getD (x.val:Int).toNat default).e>s.ep))=false->decide ((x.val:Int)>(0:Int))=true->W2 ((x.val:Int)- (1:Int)) s.log.length)/\((!Q6 (Rec.mk (s.log.getD (x.val:Int).toNat default).e (s.log.getD (x.val:Int).toNat default).l (s.log.getD (x.val:Int).toNat default).t (s.log.getD (x.val:Int).toNat default).k (s.log.getD (x.val:Int).toNat default).p (s.log.getD (x.val:Int).toNat default).n (s.log.getD (x.val:Int).toNat default).g (s.log.getD (x.val:Int).toNat default).s (s.log.getD (x.val:Int).toNat default).b (s.log.getD (x.val:Int).toNat default).a)||(s.log.getD (x.val:Int).toNat default).l !=(x.val:Int)+(1:Int)||decide ((s.log.getD (x.val:Int).toNat default).e>s.ep)||decide ((x.val:Int)>(0:Int))&&decide ((s.log.getD ((x.val:Int)- (1:Int)).toNat default).e>(s.log.getD (x.val:Int).toNat default).e))=true->false=K7 s)/\((!Q6 (Rec.mk (s.log.getD (x.val:Int).toNat default).e (s.log.getD (x.val:Int).toNat default).l (s.log.getD (x.val:Int).toNat default).t (s.log.getD (x.val:Int).toNat default).k (s.log.getD (x.val:Int).toNat default).p (s.log.getD (x.val:Int).toNat default).n (s.log.getD (x.val:Int).toNat default).g (s.log.getD (x.val:Int).toNat default).s (s.log.getD (x.val:Int).toNat default).b (s.log.getD (x.val:Int).toNat default).a)||(s.log.getD (x.val:Int).toNat default).l !=(x.val:Int)+(1:Int)||decide ((s.log.getD (x.val:Int).toNat default).e>s.ep)||decide ((x.val:Int)>(0:Int))&&decide ((s.log.getD ((x.val:Int)- (1:Int)).toNat default).e>(s.log.getD (x.val:Int).toNat default).e))=false->X2 .i64 ((x.val:Int)+(1:Int))/\∃(y:V3 s.log.length (wK s)),(((0=0/\0=0)/\(x.val:Int)+(1:Int)=(y.val:Int)/\True)/\(1=1/\1=1/\yI s s)/\True)/\Lt (s.log.length-y.val) (s.log.length-x.val)))/\(decide ((x.val:Int)<(s.log.length:Int))=false->(∃(x:V3 s.fr.length (yZ s)),((0=0/\0=0)/\(0:Int)=(x.val:Int)/\True)/\(1=1/\1=1/\yI s s)/\True)/\∀(x:V3 s.fr.length (yZ s)),(decide ((x.val:Int)<(s.fr.length:Int))=true->W2 (x.val:Int) s.fr.length/\∃(x_1:zQ.ι),((!V6 (s.fr.getD (x.val:Int).toNat default).no (0:Int) (7:Int))=false->(((s.fr.getD (x.val:Int).toNat default).pg.lsn=x_1.lsn/\(Y6 Z5 (s.fr.getD (x.val:Int).toNat default).pg.sl x_1.sl)/\True)/\True)/\PgB x_1)/\∃(x_2:sL.ι),((!V6 (s.fr.getD (x.val:Int).toNat default).no (0:Int) (7:Int)|| !A7 x_1||decide ((s.fr.getD (x.val:Int).toNat default).pg.lsn>(s.log.length:Int))|| !V6 (s.fr.getD (x.val:Int).toNat default).first (0:Int) (s.log.length:Int)|| !(s.fr.getD (x.val:Int).toNat default).dirty==decide ((s.fr.getD (x.val:Int).toNat default).first>(0:Int)))=false->((yI s x_2.1)/\(s.fr.getD (x.val:Int).toNat default).no=x_2.2/\True)/\N3 x_2.1.fr.length)/\((!V6 (s.fr.getD (x.val:Int).toNat default).no (0:Int) (7:Int)|| !A7 x_1||decide ((s.fr.getD (x.val:Int).toNat default).pg.lsn>(s.log.length:Int))|| !V6 (s.fr.getD (x.val:Int).toNat default).first (0:Int) (s.log.length:Int)|| !(s.fr.getD (x.val:Int).toNat default).dirty==decide ((s.fr.getD (x.val:Int).toNat default).first>(0:Int))||frAt x_2.1.fr x_2.2 !=(x.val:Int))=true->false=K7 s)/\((!V6 (s.fr.getD (x.val:Int).toNat default).no (0:Int) (7:Int)|| !A7 x_1||decide ((s.fr.getD (x.val:Int).toNat default).pg.lsn>(s.log.length:Int))|| !V6 (s.fr.getD (x.val:Int).toNat default).first (0:Int) (s.log.length:Int)|| !(s.fr.getD (x.val:Int).toNat default).dirty==decide ((s.fr.getD (x.val:Int).toNat default).first>(0:Int))||frAt x_2.1.fr x_2.2 !=(x.val:Int))=false->X2 .i64 ((x.val:Int)+(1:Int))/\∃(y:V3 s.fr.length (yZ s)),(((0=0/\0=0)/\(x.val:Int)+(1:Int)=(y.val:Int)/\True)/\(1=1/\1=1/\yI s s)/\True)/\Lt (s.fr.length-y.val) (s.fr.length-x.val)))/\(decide ((x.val:Int)<(s.fr.length:Int))=false->(∃(x:V3 8 (l6 s)),((0=0/\0=0)/\(0:Int)=(x.val:Int)/\True)/\(1=1/\1=1/\yI s s)/\True)/\∀(x:V3 8 (l6 s)),(decide ((x.val:Int)<(8:Int))=true->∃(x_1:gJ.ι),(((g8 s.d x_1.1)/\(x.val:Int)=(x_1.2:Int)/\True)/\dR x_1)/\((!(Q8 x_1.1 x_1.2).2||decide ((Q8 x_1.1 x_1.2).1.lsn>s.sure))=true->false=K7 s)/\((!(Q8 x_1.1 x_1.2).2||decide ((Q8 x_1.1 x_1.2).1.lsn>s.sure))=false->X2 .i64 ((x.val:Int)+(1:Int))/\∃(y:V3 8 (l6 s)),(((0=0/\0=0)/\(x.val:Int)+(1:Int)=(y.val:Int)/\True)/\(1=1/\1=1/\yI s s)/\True)/\Lt (8-y.val) (8-x.val)))/\(decide ((x.val:Int)<(8:Int))=false->true=K7 s))))) ⟨s.d,⟨⟨(xF _),trivial⟩,hd⟩,λhb=>sR ?_,λhb=> ?_⟩
 ·rw[sp,←e0];rintro⟨h1,_⟩;have hb:(!w9 s.d||(s.d.sec.length:Int) !=69|| !V6 s.ep 1 60||decide ((s.log.length:Int)>60)|| !V6 s.sure 0 s.log.length||decide ((s.fr.length:Int)>3)|| !V6 s.hand 0 2)=true:=hb;rw[h1] at hb;cases hb
 rw[e0] at hb;have hb':=hb;simp only[tU,xE,tQ] at hb';obtain⟨c1,c2,c3,c4,c5⟩:=(u9 s).1 hb'.1.1.1;refine⟨⟨E8,⟨Z7,Z9⟩,⟨rfl,rfl,yH _⟩,trivial⟩,λx=>⟨λhc=> ?_,λhc=>⟨⟨E8,⟨Z7,Z9⟩,⟨rfl,rfl,yH _⟩,trivial⟩,λy=>⟨λhy=> ?_,λhy=>⟨⟨E8,⟨Z7,Z9⟩,⟨rfl,rfl,yH _⟩,trivial⟩,λz=>⟨λhz=> ?_,λhz=> ?_⟩⟩⟩⟩⟩⟩
 ·have hlt:=Y1 hc;refine⟨Y3 hlt,hm _ (mK hlt),λ_=>V5 hlt (by omega),λ_ _=>Z4 (by omega),λ_ h0=>⟨by have:=E9 h0;omega,by omega⟩,λhq=>sR ?_,λhq=>⟨V5 hlt (by omega),x.succ hlt ?_,⟨⟨Z7,by simp only[V3.succ];omega,trivial⟩,⟨rfl,rfl,yH _⟩,trivial⟩,V3.ext_lt hlt⟩⟩
  ·rw[sp];rintro⟨_,h1,_⟩;have:=h1 x.val hlt;unfold wK at this;rw[z7,show((x.val:Int)-1).toNat=x.val-1 by omega] at hq
   have hq:=hq.symm.trans this;cases hq
  ·rw[z7,show((x.val:Int)-1).toNat=x.val-1 by omega] at hq
   exact hq
 ·have hlt:=Y1 hy;refine⟨Y3 hlt,(s.fr.getD y.val default).pg,λ_=>⟨⟨⟨rfl,X8⟩,trivial⟩,hf.2 _ hlt⟩,(s,(s.fr.getD y.val default).no),λ_=>⟨⟨(yH _),Z9⟩,hf.1⟩,λhq=>sR ?_,λhq=>⟨V5 hlt (by omega),y.succ hlt hq,⟨⟨Z7,by simp only[V3.succ];omega,trivial⟩,⟨rfl,rfl,yH _⟩,trivial⟩,V3.ext_lt hlt⟩⟩
  rw[sp];rintro⟨_,_,h1,_⟩;have:=h1 y.val hlt;have hq:yZ s y.val=true:=hq;rw[this] at hq;cases hq
 ·have hlt:z.val<8:=by have:=E9 hz;omega
  refine⟨(s.d,z.val),⟨⟨(xF _),Z9⟩,c1,by simp only;omega⟩,λhq=>sR ?_,λhq=>⟨Z4 (by omega),z.succ hlt hq,⟨⟨Z7,by simp only[V3.succ];omega,trivial⟩,⟨rfl,rfl,yH _⟩,trivial⟩,V3.ext_lt hlt⟩⟩
  rw[sp];rintro⟨_,_,_,h1⟩;have:=h1 z.val hlt;have hq:l6 s z.val=true:=hq;rw[this] at hq;cases hq
 ·have g1:=X9 hc;have g2:=X9 hy;have g3:8<=z.val:=by have:=yG hz;omega
  exact(sp.2 ⟨hb,λi hi=>x.2.2 i (vR hi g1),λi hi=>y.2.2 i (vR hi g2),λi hi=>z.2.2 i (vR hi g3)⟩).symm
end Go.Proofs.YtokaojbaacnngaaGreat

namespace Go.Proofs.YtokaojbaacnngaaGreat
set_option maxRecDepth 100000
open Go.SS

def j5(n:Int):UInt8:=P1 (IntKind.u8.wrap n)
def W5(L:List (List UInt8)):Nat->List UInt8
 |0=>[j5 L.length]
 |i+1=>W5 L i++[j5 (L.getD i []).length]++L.getD i []
def S9(L:List (List UInt8)):List UInt8:=W5 L L.length
def z5(L:List (List UInt8)):Prop:=L.length<=1000/\∀i,i<L.length->(L.getD i []).length<=1000
def yW:Rl:=⟨List (List UInt8),λL=>[B4 L],λL=>.bys (S9 L),z5⟩
def a0P:Con:=.rel yW
def bF(L:List (List UInt8)):Nat->Ann
 |0=>.one {i:Nat//i<=L.length} (λx=>⟨[(0,B4 L),(3,.osl 0 0 (W5 L x.1).length),(4,.int .i64 x.1)],[some (.bys 5 (W5 L x.1))]⟩) (λx=>L.length-x.1) [.arr 0] [.arr 3] (λ_=>Z0)
 |_=>.none
def zV(n:Nat)(l:List UInt8):Prop:=n=l.length/\l.length<=1000000
def yR:List T->Y0->Option (T×Y0×Option Prop)
 | [.osl k off n],[some (.bys ty l)]=>match k,off,ty with
  |0,0,5=>some (.bys (l++B7 (s5 l)),[none],some (zV n l))
  |_,_,_=>none
 |_,_=>none
def a1i:Con:=.eff yR
theorem rI:GK 233 a1i:=gk Tryz.func233<|by
 intro args H res H' p h hp;unfold yR at h;split at h
 case h_2=>cases h
 rename_i k off n ty l;split at h
 ·skip
  simp only[W8,U0] at h;obtain⟨rfl,rfl,rfl⟩:=h;obtain⟨rfl,hl⟩:zV n l:=hp;have e4:(B7 (s5 l)).length=4:=rfl;refine vcE (gC pJ (gC qP gN)) Tryz.func233 Z0 (bs:=[false]) (α:=∃(x:(wL IntKind.i64).ι),(Le (0+l.length) l.length/\(List.take l.length (List.drop 0 l)=x/\True)/\I2 x)/\∃(x_1:lW.ι),(((↑(s5 x):Int)=(x_1.1:Int)/\((4:Int)=match x_1.2 with|true=>(4:Int)|false=>(2:Int))/\True)/\True)/\(Le l.length l.length/\V7 l.length (match x_1.2 with|true=>B7 x_1.1|false=>zD x_1.1).length 1)/\Le (0+(l.length+(match x_1.2 with|true=>B7 x_1.1|false=>zD x_1.1).length)) (List.take l.length l++match x_1.2 with|true=>B7 x_1.1|false=>zD x_1.1).length/\List.take (l.length+(match x_1.2 with|true=>B7 x_1.1|false=>zD x_1.1).length) (List.drop 0 (List.take l.length l++match x_1.2 with|true=>B7 x_1.1|false=>zD x_1.1))=l++B7 (s5 l)/\True/\True) ⟨l,⟨by unfold Le;omega,⟨by rw[List.drop_zero,kC],trivial⟩,by unfold I2;omega⟩,(s5 l,true),⟨⟨rfl,rfl,trivial⟩,trivial⟩,⟨V1 _,?_,?_⟩,?_,?_,trivial,trivial⟩
  ·simp only[e4];omega
  ·simp only[e4];omega
  ·unfold Le;rw[kC,B8,E6];exact V1 _
  ·rw[kC,List.drop_zero];exact List.take_of_length_le (by rw[B8];exact V1 _)
 ·cases h
theorem yY(L:List (List UInt8))(h:∀i,i<L.length->(L.getD i []).length<=1000):∀i,i<=L.length->(W5 L i).length<=1+1001*i
 |0,_=>by simp[W5]
 |i+1,hi=>by
  have h1:=yY L h i (by omega)
  have h2:=h i (by omega)
  simp only[W5,B8,List.length_cons,List.length_nil];omega
theorem l01Fields_ok:GK 234 a0P:=gk Tryz.func234<|by
 rintro(L:List (List UInt8)) ⟨hL,hs⟩;refine S3 gN Tryz.func234 (bF L) (α:=X2 IntKind.u8 (IntKind.u8.wrap (L.length:Int))/\(∃(x:{i:Nat//i<=L.length}),((Y6 Z5 L L)/\(0=0/\1=(W5 L x.val).length)/\(0:Int)=(x.val:Int)/\True)/\List.map P1 [IntKind.u8.wrap (L.length:Int)]=W5 L x.val/\True)/\∀(x:{i:Nat//i<=L.length}),(decide ((x.val:Int)<(L.length:Int))=true->W2 (x.val:Int) L.length/\X2 IntKind.u8 (IntKind.u8.wrap (↑(L.getD (x.val:Int).toNat []).length:Int))/\(Le 1 1/\Le (W5 L x.val).length (W5 L x.val).length/\V7 (W5 L x.val).length 1 1)/\W2 (x.val:Int) L.length/\(Le ((W5 L x.val).length+1) (List.take (W5 L x.val).length (W5 L x.val)++List.take 1 (List.drop 0 (List.map P1 [IntKind.u8.wrap (↑(L.getD (x.val:Int).toNat []).length:Int)]))).length/\V7 ((W5 L x.val).length+1) (L.getD (x.val:Int).toNat []).length 1)/\X2 .i64 ((x.val:Int)+(1:Int))/\∃(y:{i:Nat//i<=L.length}),(((Y6 Z5 L L)/\(0=0/\(W5 L x.val).length+1+(L.getD (x.val:Int).toNat []).length=(W5 L y.val).length)/\(x.val:Int)+(1:Int)=(y.val:Int)/\True)/\List.take ((W5 L x.val).length+1) (List.take (W5 L x.val).length (W5 L x.val)++List.take 1 (List.drop 0 (List.map P1 [IntKind.u8.wrap (↑(L.getD (x.val:Int).toNat []).length:Int)])))++L.getD (x.val:Int).toNat []=W5 L y.val/\True)/\Lt (L.length-y.val) (L.length-x.val))/\(decide ((x.val:Int)<(L.length:Int))=false->Le (0+(W5 L x.val).length) (W5 L x.val).length/\List.take (W5 L x.val).length (List.drop 0 (W5 L x.val))=S9 L)) ⟨Q3 _,⟨⟨0,S2 _⟩,⟨Z8,Z7,Z9⟩,Z9⟩,λx=>⟨λhc=> ?_,λhc=> ?_⟩⟩
 ·have hlt:=Y1 hc;have h1:=yY L hs x.val (by omega)
  have h2:=hs x.val hlt;rw[z7];have e:List.take (W5 L x.val).length (W5 L x.val)++List.take 1 (List.drop 0 (List.map P1 [IntKind.u8.wrap ((L.getD x.val []).length:Int)]))=W5 L x.val++[j5 (L.getD x.val []).length]:=by
   rw[kC];rfl
  rw[e];have e2:(W5 L x.val++[j5 (L.getD x.val []).length]).length=(W5 L x.val).length+1:=by simp
  refine⟨Y3 hlt,Q3 _,⟨V1 _,V1 _,by omega,by omega⟩,Y3 hlt,⟨by unfold Le;omega,by omega,by omega⟩,V5 hlt (by omega),⟨x.val+1,hlt⟩,⟨⟨Z8,⟨rfl,?_⟩,by simp only;omega,trivial⟩,?_,trivial⟩,V3.ext_lt hlt⟩
  ·simp only[W5,B8,List.length_cons,List.length_nil]
  ·rw[←e2,kC];rfl
 ·have hx:x.val=L.length:=by have:=x.2;have:=X9 hc;omega
  rw[hx];exact⟨by unfold Le;omega,by rw[List.drop_zero,kC];rfl⟩
def vM(no:Int)(p:Pg):List UInt8:=([P1 112,j5 no]++zD p.lsn.toNat)++S9 p.sl
def S8(no:Int)(p:Pg):List UInt8:=vM no p++B7 (s5 (vM no p))
noncomputable def tF:Rl:=⟨Int×Pg,λx=>[.int .i64 x.1,.agg x.2.ts],λx=>.bys (S8 x.1 x.2),λx=>bL x.2⟩
noncomputable def a2a:Con:=.rel tF
theorem a0M:GK 279 a2a:=gk Tryz.func279<|by
 rintro⟨no,p⟩ ⟨h1,h2,h3,h4⟩;simp only at h1 h2 h3 h4;have hs:z5 p.sl:=⟨by omega,λi hi=>Nat.le_trans (h4 i hi) (by decide)⟩
 have hfl:=yY p.sl hs.2 p.sl.length (V1 _);have hfl:(S9 p.sl).length<=5000:=by unfold S9;omega
 have e2:(zD p.lsn.toNat).length=2:=rfl;have e0:List.take 2 (List.map P1 [(112:Int),IntKind.u8.wrap no])=[P1 112,j5 no]:=rfl;have e1:List.take (2+(zD p.lsn.toNat).length) ([P1 112,j5 no]++zD p.lsn.toNat)=[P1 112,j5 no]++zD p.lsn.toNat:=List.take_of_length_le (by simp;omega)
 have key:List.take (2+(zD p.lsn.toNat).length) (List.take 2 (List.map P1 [(112:Int),IntKind.u8.wrap no])++zD p.lsn.toNat)++S9 p.sl=vM no p:=by rw[e0,e1];rfl
 refine S3 (gC qP (gC l01Fields_ok (gC rI gN))) Tryz.func279 Z0 (α:=(X2 IntKind.u8 (112:Int)/\X2 IntKind.u8 (IntKind.u8.wrap no))/\∃(x:lW.ι),((p.lsn=(x.1:Int)/\((2:Int)=match x.2 with|true=>(4:Int)|false=>(2:Int))/\True)/\True)/\(Le 2 2/\V7 2 (match x.2 with|true=>B7 x.1|false=>zD x.1).length 1)/\∃(x_1:yW.ι),(((p.sl.length=List.length x_1/\Z6 p.sl.length (Z5 p.sl) (Z5 x_1))/\True)/\z5 x_1)/\(Le (2+(match x.2 with|true=>B7 x.1|false=>zD x.1).length) (List.take 2 (List.map P1 [(112:Int),IntKind.u8.wrap no])++match x.2 with|true=>B7 x.1|false=>zD x.1).length/\V7 (2+(match x.2 with|true=>B7 x.1|false=>zD x.1).length) (S9 x_1).length 1)/\zV (2+(match x.2 with|true=>B7 x.1|false=>zD x.1).length+(S9 x_1).length) (List.take (2+(match x.2 with|true=>B7 x.1|false=>zD x.1).length) (List.take 2 (List.map P1 [(112:Int),IntKind.u8.wrap no])++match x.2 with|true=>B7 x.1|false=>zD x.1)++S9 x_1)/\List.take (2+(match x.2 with|true=>B7 x.1|false=>zD x.1).length) (List.take 2 (List.map P1 [(112:Int),IntKind.u8.wrap no])++match x.2 with|true=>B7 x.1|false=>zD x.1)++S9 x_1++B7 (s5 (List.take (2+(match x.2 with|true=>B7 x.1|false=>zD x.1).length) (List.take 2 (List.map P1 [(112:Int),IntKind.u8.wrap no])++match x.2 with|true=>B7 x.1|false=>zD x.1)++S9 x_1))=S8 no p) ⟨⟨(fC _).2 (by omega),Q3 _⟩,(p.lsn.toNat,false),⟨⟨by simp only;omega,rfl,trivial⟩,trivial⟩,⟨V1 _,by simp only[e2];omega,by simp only[e2];omega⟩,p.sl,⟨⟨⟨rfl,Z2 _ _⟩,trivial⟩,hs⟩,⟨?_,by simp only[e2];omega,by simp only[e2];omega⟩,?_,?_⟩
 ·unfold Le;rw[e0,B8];exact V1 _
 ·show zV _ (List.take (2+(zD p.lsn.toNat).length) (List.take 2 (List.map P1 [(112:Int),IntKind.u8.wrap no])++zD p.lsn.toNat)++S9 p.sl);rw[key];have hl:(vM no p).length=2+(zD p.lsn.toNat).length+(S9 p.sl).length:=by unfold vM;simp;omega
  exact⟨hl.symm,by rw[hl,e2];omega⟩
 ·show List.take (2+(zD p.lsn.toNat).length) (List.take 2 (List.map P1 [(112:Int),IntKind.u8.wrap no])++zD p.lsn.toNat)++S9 p.sl++B7 (s5 (List.take (2+(zD p.lsn.toNat).length) (List.take 2 (List.map P1 [(112:Int),IntKind.u8.wrap no])++zD p.lsn.toNat)++S9 p.sl))=_;rw[key];rfl
end Go.Proofs.YtokaojbaacnngaaGreat

