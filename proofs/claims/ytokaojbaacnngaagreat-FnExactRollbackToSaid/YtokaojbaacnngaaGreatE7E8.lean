/- A part of the proof. -/
import Derived.Test.YtokaojbaacnngaaGreatE6
namespace Go.Proofs.YtokaojbaacnngaaGreat
set_option maxRecDepth 100000
open Go.SS

structure Frm where
 no:Int
 pg:Pg
 dirty:Bool
 first:Int
 deriving Inhabited
def Frm.ts(f:Frm):List T:=[.int .i64 f.no,.int .i64 f.pg.lsn,C0 f.pg.sl,.bool f.dirty,.int .i64 f.first]
structure Sto where
 d:Dsk
 ep:Int
 log:List Rec
 sure:Int
 fr:List Frm
 hand:Int
 deriving Inhabited
def X3(L:List Frm)(i:Nat):List T:=(L.getD i default).ts
def wL(L:List Frm):T:=.sl 5 L.length (X3 L)
def Sto.ts(s:Sto):List T:=[C0 s.d.sec,C8 s.d.cache,.bool s.d.armed,wE s.d.keep,.int .i64 s.ep,o5 s.log,.int .i64 s.sure,wL s.fr,.int .i64 s.hand]
abbrev yR(a b:Sto):Prop:=(a.d.sec.length=b.d.sec.length/\Z6 a.d.sec.length (Z5 a.d.sec) (Z5 b.d.sec))/\(a.d.cache.length=b.d.cache.length/\Z6 a.d.cache.length (Z3 a.d.cache) (Z3 b.d.cache))/\a.d.armed=b.d.armed/\(a.d.keep.length=b.d.keep.length/\Z6 a.d.keep.length (Y9 a.d.keep) (Y9 b.d.keep))/\a.ep=b.ep/\(a.log.length=b.log.length/\Z6 a.log.length (Y7 a.log) (Y7 b.log))/\a.sure=b.sure/\(a.fr.length=b.fr.length/\Z6 a.fr.length (X3 a.fr) (X3 b.fr))/\a.hand=b.hand/\True
theorem yP(s:Sto):yR s s:=⟨Z8,Z8,rfl,Z8,rfl,Z8,rfl,Z8,Z9⟩
def lG(s:Sto):Option Ob:=some (.arr true 1000000 9 1 λ_=>s.ts)
noncomputable def R3(d:Dsk)(no:Nat):Pg×Bool:=if S9 d (1+no)=[] then(⟨0,[[],[],[],[]]⟩,true) else K0 no (S9 d (1+no))
noncomputable def U1(d:Dsk)(no:Nat):Pg×Bool:=if S9 d (1+no)=[] then(⟨0,[[],[],[],[]]⟩,true) else(R5 no (S9 d (1+no)),(K0 no (S9 d (1+no))).2)
theorem lF(d:Dsk)(no:Nat):(U1 d no).2=(R3 d no).2/\((R3 d no).2=true->U1 d no=R3 d no):=by
 unfold U1 R3;by_cases h:S9 d (1+no)=[]
 ·rw[if_pos h,if_pos h];exact⟨rfl,λ_=>rfl⟩
 ·rw[if_neg h,if_neg h];refine⟨rfl,λh2=> ?_⟩
  unfold R5;rw[if_pos h2]
def gA(x:Dsk×Nat):Prop:=C5 x.1/\1+x.2<x.1.sec.length
theorem rL{d:Dsk}(h:C5 d){at_:Nat}(ha:at_<d.sec.length):(S9 d at_).length<=160:=by
 obtain⟨_,_,_,_,_,h1,h2⟩:=h;have key:∀n,n<=d.cache.length->∀l,K7 d.cache at_ n=some l->l.length<=160:=by
  intro n;induction n with
  |zero=>intro _ l hl;cases hl
  |succ n ih=>
   intro hn l hl;unfold K7 at hl;split at hl
   ·simp only[X1] at hl;subst hl;have:=h2 n (by omega)
    unfold R7 at this;simp only[uL,tW] at this;omega
   ·exact ih (by omega) l hl
 unfold S9;cases hl:K7 d.cache at_ d.cache.length with
 |none=>exact h1 at_ ha
 |some l=>exact key _ (V2 _) l hl
noncomputable def mW:Rl:=⟨Sto×Nat,λx=>[.bref x.1.ts,.int .i64 x.2],λx=>.tup [.agg (U1 x.1.d x.2).1.ts,.bool (U1 x.1.d x.2).2],λx=>gA (x.1.d,x.2)⟩
noncomputable def a1W:Con:=.rel mW
noncomputable def jE:Rl:=⟨Dsk×Nat,λx=>[.agg x.1.ts,.int .i64 x.2],λx=>.tup [.agg (R3 x.1 x.2).1.ts,.bool (R3 x.1 x.2).2],gA⟩
noncomputable def a7r:Con:=.rel jE
theorem jS(d:Dsk)(no:Nat)(h:
  X4 .i64 ((1:Int)+(no:Int))/\∃(x:tA.ι),(((k4 d x.1)/\(1:Int)+(no:Int)=(x.2:Int)/\True)/\AtB x)/\((S9 x.1 x.2==[])=true->∃(x:vD.ι),(True/\True)/\((0:Int)=(R3 d no).1.lsn/\
  (4=(R3 d no).1.sl.length/\Z6 4 (Z5 [[],[],[],[]]) (Z5 (R3 d no).1.sl))/\True)/\true=(R3 d no).2/\True)/\((S9 x.1 x.2==[])=false->∃(x_1:jB.ι),(((no:Int)=x_1.1/\S9
  x.1 x.2=x_1.2/\True)/\RdB x_1.2)/\((K0 x_1.1 x_1.2).1.lsn=(R3 d no).1.lsn/\(Y5 Z5 (K0 x_1.1 x_1.2).1.sl (R3 d no).1.sl)/\True)/\(K0 x_1.1 x_1.2).2=(R3 d no).2/\True)):
  U6 Tryz.prog 140 [.agg d.ts,.int .i64 no] (.tup [.agg (R3 d no).1.ts,.bool (R3 d no).2]):=
 S6 (gC lH (gC a0b (gC a2K gN))) Tryz.func140 Z0 h
def pH(L:List Frm)(no:Int)(i:Nat):Bool:=(L.getD i default).no==no
def frAt(L:List Frm)(no:Int):Int:=M3 L.length (pH L no)
def noF(no:Int):T:=.fn (.func 261) [.bref [.int .i64 no]]
def mA:Rl:=⟨Frm×Int,λx=>[.agg x.1.ts,.bref [.int .i64 x.2]],λx=>.bool (x.1.no==x.2),λ_=>True⟩
def a3h:Con:=.rel mA
theorem a4x(f:Frm)(no:Int)(h:
  (f.no==no)=(f.no==no)):
  U6 Tryz.prog 261 [.agg f.ts,.bref [.int .i64 no]] (.bool (f.no==no)):=
 S6 gN Tryz.func261 Z0 h
theorem a0J:GK 261 a3h:=gk Tryz.func261<|λx _=>a4x x.1 x.2 rfl
def a0y:Rl:=⟨List Frm×Int,λx=>[wL x.1,noF x.2],λx=>.int .i64 (frAt x.1 x.2),λx=>M7 x.1.length⟩
def a9J:Con:=.rel a0y
def b0Q(L:List Frm)(no:Int):Nat->Ann
 |0=>.one (V4 L.length (pH L no)) (λx=>⟨[(0,wL L),(1,noF no),(7,.int .i64 L.length),(8,.int .i64 x.1)],[]⟩) (λx=>L.length-x.1) [] [] (λ_=>Z0)
 |_=>.none
theorem a57:GK 260 a9J:=gk Tryz.func260<|by
 rintro⟨L,no⟩ (hL:L.length<1000000000000);refine S6 (gC a0J gN) Tryz.func260 (b0Q L no) (α:=(∃(x:V4 L.length (pH L no)),((Y5 X3 L L)/\(Fn.func 261=Fn.func 261/\M2 (λ(x:Nat)=>none) (T.bref [T.int .i64 no]) (T.bref [T.int .i64 no])/\True)/\(L.length:Int)=(L.length:Int)/\(0:Int)=(x.val:Int)/\True)/\True)/\∀(x:V4 L.length (pH L no)),(decide ((x.val:Int)<(L.length:Int))=true->W4 (x.val:Int) L.length/\∃(x_1:mA.ι),((((L.getD (x.val:Int).toNat default).no=x_1.1.no/\(L.getD (x.val:Int).toNat default).pg.lsn=x_1.1.pg.lsn/\(Y5 Z5 (L.getD (x.val:Int).toNat default).pg.sl x_1.1.pg.sl)/\(L.getD (x.val:Int).toNat default).dirty=x_1.1.dirty/\(L.getD (x.val:Int).toNat default).first=x_1.1.first/\True)/\(no=x_1.2/\True)/\True)/\True)/\((x_1.1.no==x_1.2)=true->(x.val:Int)=frAt L no)/\((x_1.1.no==x_1.2)=false->X4 .i64 ((x.val:Int)+(1:Int))/\∃(y:V4 L.length (pH L no)),(((Y5 X3 L L)/\(Fn.func 261=Fn.func 261/\M2 (λ(x:Nat)=>none) (T.bref [T.int .i64 no]) (T.bref [T.int .i64 no])/\True)/\(L.length:Int)=(L.length:Int)/\(x.val:Int)+(1:Int)=(y.val:Int)/\True)/\True)/\Lt (L.length-y.val) (L.length-x.val)))/\(decide ((x.val:Int)<(L.length:Int))=false->(-1:Int)=frAt L no)) ⟨⟨D5,⟨Z8,⟨rfl,R8 _,trivial⟩,rfl,Z9⟩,trivial⟩,λx=>⟨λhc=> ?_,λhc=> ?_⟩⟩
 ·have hlt:=Y1 hc;refine⟨Y2 hlt,(L.getD x.val default,no),⟨⟨⟨rfl,rfl,Z8,rfl,Z9⟩,Z9,trivial⟩,trivial⟩,λhp=>(H7 hlt hp x.2.2).symm,λhp=>⟨V7 hlt (by omega),x.succ hlt hp,⟨⟨Z8,⟨rfl,R8 _,trivial⟩,rfl,by simp only[V4.succ];omega,trivial⟩,trivial⟩,V4.ext_lt hlt⟩⟩
 ·have hge:=X9 hc;exact(F4 λj hj=>x.2.2 j (vV hj hge)).symm
def uX:Rl:=⟨Sto×Int,λx=>[.bref x.1.ts,.int .i64 x.2],λx=>.int .i64 (frAt x.1.fr x.2),λx=>M7 x.1.fr.length⟩
def a79:Con:=.rel uX
def sY:Rl:=⟨Sto×Int,λx=>[.agg x.1.ts,.int .i64 x.2],λx=>.int .i64 (frAt x.1.fr x.2),λx=>M7 x.1.fr.length⟩
def a4u:Con:=.rel sY
def a3P(s:Sto)(no:Int):Nat->Ann
 |0=>.one (V4 s.fr.length (pH s.fr no)) (λx=>⟨[(1,.int .i64 no),(2,.ref 0 0 0),(5,.int .i64 x.1)],[lG s]⟩) (λx=>s.fr.length-x.1) [.box 0] [.box 0] (λ_=>Z0)
 |_=>.none
theorem tL:GK 215 a79:=gk Tryz.func215<|by
 rintro⟨s,no⟩ hL;exact S6 (gC a57 gN) Tryz.func215 Z0 (α:=∃(x:a0y.ι),(((Y5 X3 s.fr x.1)/\(Fn.func 261=Fn.func 261/\(no=x.2/\True)/\True)/\True)/\M7 x.1.length)/\frAt x.1 x.2=frAt s.fr no) ⟨(s.fr,no),⟨⟨Z8,⟨rfl,Z9,trivial⟩,trivial⟩,hL⟩,rfl⟩
theorem pR:GK 125 a4u:=gk Tryz.func125<|by
 rintro⟨s,no⟩ (hL:s.fr.length<1000000000000);refine S6 gN Tryz.func125 (a3P s no) (α:=(∃(x:V4 s.fr.length (pH s.fr no)),(no=no/\(0=0/\0=0)/\(0:Int)=(x.val:Int)/\True)/\(1=1/\1=1/\yR s s)/\True)/\∀(x:V4 s.fr.length (pH s.fr no)),(decide ((x.val:Int)<(s.fr.length:Int))=true->W4 (x.val:Int) s.fr.length/\(((s.fr.getD (x.val:Int).toNat default).no==no)=true->(x.val:Int)=frAt s.fr no)/\(((s.fr.getD (x.val:Int).toNat default).no==no)=false->X4 .i64 ((x.val:Int)+(1:Int))/\∃(y:V4 s.fr.length (pH s.fr no)),((no=no/\(0=0/\0=0)/\(x.val:Int)+(1:Int)=(y.val:Int)/\True)/\(1=1/\1=1/\yR s s)/\True)/\Lt (s.fr.length-y.val) (s.fr.length-x.val)))/\(decide ((x.val:Int)<(s.fr.length:Int))=false->(-1:Int)=frAt s.fr no)) ⟨⟨D5,⟨rfl,Z7,Z9⟩,⟨rfl,rfl,yP _⟩,trivial⟩,λx=>⟨λhc=> ?_,λhc=> ?_⟩⟩
 ·have hlt:=Y1 hc;exact⟨Y2 hlt,λhp=>(H7 hlt hp x.2.2).symm,λhp=>⟨V7 hlt (by omega),x.succ hlt hp,⟨⟨rfl,Z7,by simp only[V4.succ];omega,trivial⟩,⟨rfl,rfl,yP _⟩,trivial⟩,V4.ext_lt hlt⟩⟩
 ·have hge:=X9 hc;exact(F4 λj hj=>x.2.2 j (vV hj hge)).symm
theorem iL(no:Int)(t:List UInt8):(N4 no t==(0:Int))=(K0 no t).2:=by
 unfold N4;cases hu:T4 t
 ·have:(K0 no t).2=false:=by unfold K0;rw[hu];rfl
  rw[this];rfl
 ·cases h:(K0 no t).2<;>rfl
theorem a0a:GK 153 a1W:=gk Tryz.func153<|by
 rintro⟨s,no⟩ ⟨hd,hn⟩;simp only at hd hn;have hle:=rL hd hn;obtain⟨q1,q2,q3,_⟩:=hd;refine S6 (gC mM (gC aL (gC a0Z gN))) Tryz.func153 Z0 (α:=X4 .i64 ((1:Int)+(no:Int))/\∃(x:tA.ι),(((k4 s.d x.1)/\(1:Int)+(no:Int)=(x.2:Int)/\True)/\AtB x)/\((S9 x.1 x.2==[])=true->∃(x:vD.ι),(True/\True)/\((0:Int)=(U1 s.d no).1.lsn/\(4=(U1 s.d no).1.sl.length/\Z6 4 (Z5 [[],[],[],[]]) (Z5 (U1 s.d no).1.sl))/\True)/\true=(U1 s.d no).2/\True)/\((S9 x.1 x.2==[])=false->Lt (S9 x.1 x.2).length 140737488355329/\∃(x_1:mD.ι),(((no:Int)=x_1.1/\S9 x.1 x.2=x_1.2/\True)/\RdB x_1.2)/\((R5 x_1.1 x_1.2).lsn=(U1 s.d no).1.lsn/\(Y5 Z5 (R5 x_1.1 x_1.2).sl (U1 s.d no).1.sl)/\True)/\(N4 x_1.1 x_1.2==(0:Int))=(U1 s.d no).2/\True)) ⟨Z4 (by omega),(s.d,1+no),⟨⟨(xN _),by simp only;omega,trivial⟩,hn,by simp only;omega⟩,λh=>⟨(),v5,?_⟩,λh=>⟨by unfold Lt;simp only;omega,((no:Int),S9 s.d (1+no)),⟨⟨rfl,rfl,trivial⟩,by show(S9 s.d (1+no)).length<=1000;omega⟩,?_⟩⟩
 ·have h:S9 s.d (1+no)=[]:=by simpa using h
  have e:U1 s.d no=(⟨0,[[],[],[],[]]⟩,true):=by unfold U1;rw[if_pos h]
  rw[e];exact⟨⟨rfl,X8⟩,Z9⟩
 ·have h:S9 s.d (1+no)≠[]:=by simpa using h
  have e:U1 s.d no=(R5 no (S9 s.d (1+no)),(K0 no (S9 s.d (1+no))).2):=by unfold U1;rw[if_neg h]
  rw[e];exact⟨⟨rfl,X8⟩,iL _ _,trivial⟩
theorem a4p:GK 140 a7r:=gk Tryz.func140<|by
 rintro⟨d,no⟩ ⟨hd,hn⟩;simp only at hd hn;have hle:=rL hd hn;obtain⟨q1,q2,q3,_⟩:=hd;refine jS d no ⟨Z4 (by omega),(d,1+no),⟨⟨(xN _),by simp only;omega,trivial⟩,hn,by simp only;omega⟩,λh=>⟨(),v5,?_⟩,λh=>⟨((no:Int),S9 d (1+no)),⟨⟨rfl,Z9⟩,by show(S9 d (1+no)).length<=1000;omega⟩,?_⟩⟩
 ·have h:S9 d (1+no)=[]:=by simpa using h
  have e:R3 d no=(⟨0,[[],[],[],[]]⟩,true):=by unfold R3;rw[if_pos h]
  rw[e];exact⟨⟨rfl,X8⟩,Z9⟩
 ·have h:S9 d (1+no)≠[]:=by simpa using h
  have e:R3 d no=K0 no (S9 d (1+no)):=by unfold R3;rw[if_neg h]
  rw[e];exact⟨⟨rfl,X8⟩,Z9⟩
noncomputable def b9(s:Sto)(i:Nat):Bool:=
 !W2 (s.fr.getD i default).no 0 7||frAt s.fr (s.fr.getD i default).no !=(i:Int)|| !B3 (s.fr.getD i default).pg||decide ((s.fr.getD i default).pg.lsn>(s.log.length:Int))|| !W2 (s.fr.getD i default).first 0 s.log.length||
  decide ((s.fr.getD i default).first>0) !=(s.fr.getD i default).dirty
noncomputable def i5(s:Sto):Bool:= !anyI s.fr.length (b9 s)&&decide ((s.fr.length:Int)<=3)
def FrB(L:List Frm):Prop:=M7 L.length/\∀i,i<L.length->PgB (L.getD i default).pg
def b9s(s:Sto):Prop:=FrB s.fr/\M7 s.log.length
noncomputable def nF:Rl:=⟨Sto,λs=>[.bref s.ts],λs=>.bool (i5 s),b9s⟩
noncomputable def a39:Con:=.rel nF
noncomputable def a4f(s:Sto):Nat->Ann
 |0=>.one (V4 s.fr.length (b9 s)) (λx=>⟨[(0,.bref s.ts),(8,wL s.fr),(9,.int .i64 s.fr.length),(10,.int .i64 x.1)],[]⟩) (λx=>s.fr.length-x.1) [] [] (λ_=>Z0)
 |_=>.none
theorem b8N(n:Int):(decide (0<=n)&&decide (n<8))=W2 n 0 7:=by
 unfold W2;rw[show decide (n<8)=decide (n<=7) from decide_eq_decide.2 (by omega)]
theorem cL:GK 154 a39:=gk Tryz.func154<|by
 rintro(s:Sto) ⟨⟨h1,h2⟩,h3⟩;have h1:s.fr.length<1000000000000:=h1;have h3:s.log.length<1000000000000:=h3;refine S6 (gC wM (gC tL (gC tS (gC O5 gN)))) Tryz.func154 (a4f s) (α:=(∃(x:V4 s.fr.length (b9 s)),(M2 (λ(x:Nat)=>none) (T.bref s.ts) (T.bref s.ts)/\(Y5 X3 s.fr s.fr)/\(s.fr.length:Int)=(s.fr.length:Int)/\(0:Int)=(x.val:Int)/\True)/\True)/\∀(x:V4 s.fr.length (b9 s)),(decide ((x.val:Int)<(s.fr.length:Int))=true->W4 (x.val:Int) s.fr.length/\s9 (8:Int)/\∃(x_1:uX.ι),((!(decide ((0:Int)<=(s.fr.getD (x.val:Int).toNat default).no)&&decide ((s.fr.getD (x.val:Int).toNat default).no<(8:Int))))=false->((yR s x_1.1)/\(s.fr.getD (x.val:Int).toNat default).no=x_1.2/\True)/\M7 x_1.1.fr.length)/\∃(x_2:i7.ι),((!(decide ((0:Int)<=(s.fr.getD (x.val:Int).toNat default).no)&&decide ((s.fr.getD (x.val:Int).toNat default).no<(8:Int)))||frAt x_1.1.fr x_1.2 !=(x.val:Int))=false->(((s.fr.getD (x.val:Int).toNat default).pg.lsn=x_2.lsn/\(Y5 Z5 (s.fr.getD (x.val:Int).toNat default).pg.sl x_2.sl)/\True)/\True)/\PgB x_2)/\((!(decide ((0:Int)<=(s.fr.getD (x.val:Int).toNat default).no)&&decide ((s.fr.getD (x.val:Int).toNat default).no<(8:Int)))||frAt x_1.1.fr x_1.2 !=(x.val:Int)|| !B3 x_2||decide ((s.fr.getD (x.val:Int).toNat default).pg.lsn>(s.log.length:Int))|| !W2 (s.fr.getD (x.val:Int).toNat default).first (0:Int) (s.log.length:Int)|| !decide ((s.fr.getD (x.val:Int).toNat default).first>(0:Int))==(s.fr.getD (x.val:Int).toNat default).dirty)=true->false=i5 s)/\((!(decide ((0:Int)<=(s.fr.getD (x.val:Int).toNat default).no)&&decide ((s.fr.getD (x.val:Int).toNat default).no<(8:Int)))||frAt x_1.1.fr x_1.2 !=(x.val:Int)|| !B3 x_2||decide ((s.fr.getD (x.val:Int).toNat default).pg.lsn>(s.log.length:Int))|| !W2 (s.fr.getD (x.val:Int).toNat default).first (0:Int) (s.log.length:Int)|| !decide ((s.fr.getD (x.val:Int).toNat default).first>(0:Int))==(s.fr.getD (x.val:Int).toNat default).dirty)=false->X4 .i64 ((x.val:Int)+(1:Int))/\∃(y:V4 s.fr.length (b9 s)),((M2 (λ(x:Nat)=>none) (T.bref s.ts) (T.bref s.ts)/\(Y5 X3 s.fr s.fr)/\(s.fr.length:Int)=(s.fr.length:Int)/\(x.val:Int)+(1:Int)=(y.val:Int)/\True)/\True)/\Lt (s.fr.length-y.val) (s.fr.length-x.val)))/\(decide ((x.val:Int)<(s.fr.length:Int))=false->decide ((s.fr.length:Int)<=(3:Int))=i5 s)) ⟨⟨D5,⟨R8 _,Z8,rfl,Z9⟩,trivial⟩,λx=>⟨λhc=> ?_,λhc=> ?_⟩⟩
 ·have hlt:=Y1 hc;rw[b8N,u9];have e:(!W2 (s.fr.getD x.val default).no 0 7||frAt s.fr (s.fr.getD x.val default).no !=(x.val:Int)|| !B3 (s.fr.getD x.val default).pg||decide ((s.fr.getD x.val default).pg.lsn>(s.log.length:Int))||
    !W2 (s.fr.getD x.val default).first 0 s.log.length|| !decide ((s.fr.getD x.val default).first>0)==(s.fr.getD x.val default).dirty)=b9 s x.val:=rfl
  refine⟨Y2 hlt,⟨by omega,by omega⟩,(s,(s.fr.getD x.val default).no),λ_=>⟨⟨(yP _),Z9⟩,h1⟩,(s.fr.getD x.val default).pg,λ_=>⟨⟨⟨rfl,X8⟩,trivial⟩,h2 _ hlt⟩,λhb=> ?_,λhb=>⟨V7 hlt (by omega),x.succ hlt (e.symm.trans hb),⟨⟨R8 _,Z8,rfl,by simp only[V4.succ];omega,trivial⟩,trivial⟩,V4.ext_lt hlt⟩⟩
  have:anyI s.fr.length (b9 s)=true:=O1.2 ⟨x.val,hlt,e.symm.trans hb⟩;unfold i5;rw[this];rfl
 ·have hge:=X9 hc;have:anyI s.fr.length (b9 s)=false:=K2.2 λi hi=>x.2.2 i (vV hi hge)
  unfold i5;rw[this];simp
def vS(L:List Rec)(i:Nat):Int:=if i=0 then 1 else(L.getD (i-1) default).e
def uH(s:Sto)(i:Nat):Bool:= !W2 (s.log.getD i default).e (vS s.log i) s.ep
noncomputable def m7(s:Sto)(no:Nat):Bool:= !(R3 s.d no).2||decide ((R3 s.d no).1.lsn>s.sure)
noncomputable def tF(s:Sto):Bool:= !y6 s.d||((s.d.sec.length:Nat):Int) !=69|| !W2 s.ep 1 60||decide ((s.log.length:Int)>60)
noncomputable def L3(s:Sto):Bool:= !(tF s|| !m6 s.log|| !W2 s.sure 0 s.log.length)&& !anyI s.log.length (uH s)&& !anyI 8 (m7 s)&&i5 s&&W2 s.hand 0 2
def a9H(s:Sto):Prop:=b5t s.d/\b3K s.log/\FrB s.fr/\∀r ∈ s.log,M7 r.a.length
noncomputable def vF:Rl:=⟨Sto,λs=>[.agg s.ts],λs=>.bool (L3 s),a9H⟩
noncomputable def a3S:Con:=.rel vF
noncomputable def a1Z:Con:=.rel vF
noncomputable def a2k(s:Sto):Nat->Ann
 |0=>.onef [1,3,48,49,50] (V4 s.log.length (uH s)) (λx=>⟨[(1,.bref s.ts),(3,.int .i64 (vS s.log x.1)),(48,o5 s.log),(49,.int .i64 s.log.length),(50,.int .i64 x.1)],[]⟩) (λx=>s.log.length-x.1) [] (λ_=>fun
  |1=>.one (V4 8 (m7 s)) (λx=>⟨[(1,.bref s.ts),(64,.int .i64 x.1)],[]⟩) (λx=>8-x.1) [] [] (λ_=>Z0)
  |_=>.none)
 |_=>.none
noncomputable def xL(s:Sto)(i:Nat):Bool:= !R2 (s.log.getD i default)||(s.log.getD i default).l !=(i:Int)+1||decide ((s.log.getD i default).e>s.ep)||(decide ((i:Int)>0)&&decide ((s.log.getD (i-1) default).e>(s.log.getD i default).e))
noncomputable def zJ(s:Sto)(i:Nat):Bool:=
 !W2 (s.fr.getD i default).no 0 7|| !B3 (s.fr.getD i default).pg||decide ((s.fr.getD i default).pg.lsn>(s.log.length:Int))|| !W2 (s.fr.getD i default).first 0 s.log.length||
  (s.fr.getD i default).dirty !=decide ((s.fr.getD i default).first>0)||frAt s.fr (s.fr.getD i default).no !=(i:Int)
noncomputable def a3k(s:Sto):Nat->Ann
 |0=>.one (V4 s.log.length (xL s)) (λx=>⟨[(1,.ref 0 0 0),(3,.int .i64 x.1)],[lG s]⟩) (λx=>s.log.length-x.1) [.box 0] [.box 0] (λ_=>fun
  |1=>.one (V4 s.fr.length (zJ s)) (λx=>⟨[(1,.ref 0 0 0),(5,.int .i64 x.1)],[lG s]⟩) (λx=>s.fr.length-x.1) [.box 0] [.box 0] (λ_=>fun
   |2=>.one (V4 8 (m7 s)) (λx=>⟨[(1,.ref 0 0 0),(7,.int .i64 x.1)],[lG s]⟩) (λx=>8-x.1) [.box 0] [.box 0] (λ_=>Z0)
   |_=>.none)
  |_=>.none)
 |_=>.none
theorem K6(s:Sto):L3 s=true↔(tF s=false/\m6 s.log=true/\W2 s.sure 0 s.log.length=true)/\(∀i,i<s.log.length->uH s i=false)/\(∀i,i<8->m7 s i=false)/\i5 s=true/\W2 s.hand 0 2=true:=by
 unfold L3;simp only[J6,wD,uL,xO,K2];exact⟨λh=>⟨⟨h.1.1.1.1.1.1,h.1.1.1.1.1.2,h.1.1.1.1.2⟩,h.1.1.1.2,h.1.1.2,h.1.2,h.2⟩,λh=>⟨⟨⟨⟨⟨⟨h.1.1,h.1.2.1⟩,h.1.2.2⟩,h.2.1⟩,h.2.2.1⟩,h.2.2.2.1⟩,h.2.2.2.2⟩⟩
theorem tT{s:Sto}(h:¬L3 s=true):false=L3 s:=(Bool.eq_false_iff.2 h).symm
theorem w6(s:Sto):tF s=false↔C5 s.d/\s.d.sec.length=69/\1<=s.ep/\s.ep<=60/\s.log.length<=60:=by
 unfold tF;simp only[uL,xO,rC,bne_eq_false_iff_eq,W2,J6,o9,tW];constructor
 ·rintro⟨⟨⟨h1,h2⟩,h3,h4⟩,h5⟩;exact⟨h1,by omega,h3,h4,by omega⟩
 ·rintro⟨h1,h2,h3,h4,h5⟩;exact⟨⟨⟨h1,by omega⟩,h3,h4⟩,by omega⟩
theorem a56(s:Sto)(no:Nat):(!(U1 s.d no).2||decide ((U1 s.d no).1.lsn>s.sure))=m7 s no:=by
 unfold m7;obtain⟨h1,h2⟩:=lF s.d no;cases h:(R3 s.d no).2
 ·rw[h1,h];rfl
 ·rw[h2 h,h]
theorem b7c(n:Int):(decide (0<=n)&&decide (n<3))=W2 n 0 2:=by
 unfold W2;rw[show decide (n<3)=decide (n<=2) from decide_eq_decide.2 (by omega)]
theorem a6g(L:List Rec)(i:Nat):vS L (i+1)=(L.getD i default).e:=by unfold vS;rw[if_neg (by omega)];rfl
theorem a0d:GK 87 a3S:=gk Tryz.func87<|by
 rintro(s:Sto) ⟨hd,hl,hf,hm⟩;have e0:(!y6 s.d||(s.d.sec.length:Int) !=69|| !W2 s.ep 1 60||decide ((s.log.length:Int)>60)|| !m6 s.log|| !W2 s.sure 0 s.log.length)=(tF s|| !m6 s.log|| !W2 s.sure 0 s.log.length):=rfl;refine S6 (gC a3X (gC O5 (gC kA (gC a0a (gC cL (gC wM gN)))))) Tryz.func87 (a2k s) (α:=∃(x:sF.ι),(((k4 s.d x)/\True)/\b5t x)/\∃(x_1:rZ.ι),((!y6 x||(s.d.sec.length:Int) !=(69:Int)|| !W2 s.ep (1:Int) (60:Int)||decide ((s.log.length:Int)>(60:Int)))=false->((s.log.length=List.length x_1/\Z6 s.log.length (Y7 s.log) (Y7 x_1))/\True)/\b3K x_1)/\((!y6 x||(s.d.sec.length:Int) !=(69:Int)|| !W2 s.ep (1:Int) (60:Int)||decide ((s.log.length:Int)>(60:Int))|| !m6 x_1|| !W2 s.sure (0:Int) (s.log.length:Int))=true->false=L3 s)/\((!y6 x||(s.d.sec.length:Int) !=(69:Int)|| !W2 s.ep (1:Int) (60:Int)||decide ((s.log.length:Int)>(60:Int))|| !m6 x_1|| !W2 s.sure (0:Int) (s.log.length:Int))=false->(∃(x:V4 s.log.length (uH s)),(M2 (λ(x:Nat)=>none) (T.bref s.ts) (T.bref s.ts)/\(1:Int)=vS s.log x.val/\(Y5 Y7 s.log s.log)/\(s.log.length:Int)=(s.log.length:Int)/\(0:Int)=(x.val:Int)/\True)/\True)/\∀(x:V4 s.log.length (uH s)),(decide ((x.val:Int)<(s.log.length:Int))=true->W4 (x.val:Int) s.log.length/\((!W2 (s.log.getD (x.val:Int).toNat default).e (vS s.log x.val) s.ep)=true->false=L3 s)/\((!W2 (s.log.getD (x.val:Int).toNat default).e (vS s.log x.val) s.ep)=false->X4 .i64 ((x.val:Int)+(1:Int))/\∃(y:V4 s.log.length (uH s)),((M2 (λ(x:Nat)=>none) (T.bref s.ts) (T.bref s.ts)/\(s.log.getD (x.val:Int).toNat default).e=vS s.log y.val/\(Y5 Y7 s.log s.log)/\(s.log.length:Int)=(s.log.length:Int)/\(x.val:Int)+(1:Int)=(y.val:Int)/\True)/\True)/\Lt (s.log.length-y.val) (s.log.length-x.val)))/\(decide ((x.val:Int)<(s.log.length:Int))=false->(∃(x:V4 8 (m7 s)),(M2 (λ(x:Nat)=>none) (T.bref s.ts) (T.bref s.ts)/\(0:Int)=(x.val:Int)/\True)/\True)/\∀(x:V4 8 (m7 s)),(decide ((x.val:Int)<(8:Int))=true->∃(x_2:mW.ι),(((yR s x_2.1)/\(x.val:Int)=(x_2.2:Int)/\True)/\gA (x_2.1.d,x_2.2))/\((!(U1 x_2.1.d x_2.2).2||decide ((U1 x_2.1.d x_2.2).1.lsn>s.sure))=true->false=L3 s)/\((!(U1 x_2.1.d x_2.2).2||decide ((U1 x_2.1.d x_2.2).1.lsn>s.sure))=false->X4 .i64 ((x.val:Int)+(1:Int))/\∃(y:V4 8 (m7 s)),((M2 (λ(x:Nat)=>none) (T.bref s.ts) (T.bref s.ts)/\(x.val:Int)+(1:Int)=(y.val:Int)/\True)/\True)/\Lt (8-y.val) (8-x.val)))/\(decide ((x.val:Int)<(8:Int))=false->∃(x:nF.ι),(((yR s x)/\True)/\b9s x)/\(i5 x=true->s9 (3:Int))/\(i5 x&&(decide ((0:Int)<=s.hand)&&decide (s.hand<(3:Int))))=L3 s)))) ⟨s.d,⟨⟨(xN _),trivial⟩,hd⟩,s.log,λ_=>⟨X8,hl⟩,λhb=>tT ?_,λhb=> ?_⟩
 ·rw[K6];rintro⟨⟨h1,h2,h3⟩,_⟩;rw[e0,h1,h2,h3] at hb;cases hb
 rw[e0] at hb;simp only[uL,xO] at hb;obtain⟨⟨b1,b2⟩,b3⟩:=hb;obtain⟨c1,c2,c3,c4,c5⟩:=(w6 s).1 b1;refine⟨⟨D5,⟨R8 _,rfl,Z8,rfl,Z9⟩,trivial⟩,λx=>⟨λhc=> ?_,λhc=>⟨⟨D5,⟨R8 _,Z9⟩,trivial⟩,λy=>⟨λhy=> ?_,λhy=> ?_⟩⟩⟩⟩
 ·have hlt:=Y1 hc;refine⟨Y2 hlt,λhb=>tT ?_,λhb=>⟨V7 hlt (by omega),x.succ hlt hb,⟨⟨R8 _,(a6g _ _).symm,Z8,rfl,by simp only[V4.succ];omega,trivial⟩,trivial⟩,V4.ext_lt hlt⟩⟩
  rw[K6];rintro⟨_,h1,_⟩;have:=h1 x.val hlt;unfold uH at this;rw[u9,this] at hb;cases hb
 ·have hlt:y.val<8:=by have:=F3 hy;omega
  refine⟨(s,y.val),⟨⟨(yP _),Z9⟩,c1,by simp only;omega⟩,λhb=>tT ?_,λhb=>⟨Z4 (by omega),y.succ hlt ((a56 s y.val).symm.trans hb),⟨⟨R8 _,by simp only[V4.succ];omega,trivial⟩,trivial⟩,V4.ext_lt hlt⟩⟩
  rw[K6];rintro⟨_,_,h1,_⟩;have:=h1 y.val hlt;rw[←a56] at this;have hb:(!(U1 s.d y.val).2||decide ((U1 s.d y.val).1.lsn>s.sure))=true:=hb;rw[this] at hb;cases hb
 ·have g1:=X9 hc;have g2:8<=y.val:=by have:=yQ hy;omega
  refine⟨s,⟨⟨(yP _),trivial⟩,hf,hl.1⟩,λ_=>⟨by omega,by omega⟩,?_⟩
  rw[b7c,Bool.eq_iff_iff,K6];simp only[J6];exact⟨λh=>⟨⟨b1,b2,b3⟩,λi hi=>x.2.2 i (vV hi g1),λi hi=>y.2.2 i (vV hi g2),h⟩,λh=>h.2.2.2⟩
theorem a9W(s:Sto)(i:Nat):zJ s i=b9 s i:=by
 unfold zJ b9;generalize W2 (s.fr.getD i default).no 0 7=a;generalize B3 (s.fr.getD i default).pg=b;generalize decide ((s.fr.getD i default).pg.lsn>(s.log.length:Int))=c;generalize W2 (s.fr.getD i default).first 0 s.log.length=d
 generalize (s.fr.getD i default).dirty=e;generalize decide ((s.fr.getD i default).first>0)=f
 generalize (frAt s.fr (s.fr.getD i default).no !=(i:Int))=g;cases a<;>cases b<;>cases c<;>cases d<;>cases e<;>cases f<;>cases g<;>rfl
theorem b2l(s:Sto):(∀i,i<s.log.length->xL s i=false)↔m6 s.log=true/\∀i,i<s.log.length->uH s i=false:=by
 rw[B2];have key:∀i,xL s i=false↔(R2 (s.log.getD i default)=true/\(s.log.getD i default).l=(i:Int)+1)/\(s.log.getD i default).e<=s.ep/\(0<i->(s.log.getD (i-1) default).e<=(s.log.getD i default).e):=by
  intro i;unfold xL;simp only[uL,xO,bne_eq_false_iff_eq,tW,Bool.and_eq_false_iff];constructor
  ·rintro⟨⟨⟨h1,h2⟩,h3⟩,h4⟩;exact⟨⟨h1,h2⟩,by omega,λhi=>by rcases h4 with h4|h4<;>omega⟩
  ·rintro⟨⟨h1,h2⟩,h3,h4⟩;refine⟨⟨⟨h1,h2⟩,by omega⟩,?_⟩
   by_cases hi:0<i
   ·exact .inr (by have:=h4 hi;omega)
   ·exact .inl (by omega)
 have key2:∀i,uH s i=false↔vS s.log i<=(s.log.getD i default).e/\(s.log.getD i default).e<=s.ep:=by
  intro i;unfold uH W2;simp only[xO,J6,o9]
 simp only[key,key2];constructor
 ·intro h;refine⟨λi hi=>(h i hi).1,λi hi=>⟨?_,(h i hi).2.1⟩⟩
  by_cases h0:i=0
  ·subst h0;have:=((Q9 _).1 (h 0 hi).1.1).1;exact this
  ·unfold vS;rw[if_neg h0];exact(h i hi).2.2 (by omega)
 ·rintro⟨h1,h2⟩ i hi;refine⟨h1 i hi,(h2 i hi).2,λh0=> ?_⟩
  have:=(h2 i hi).1;unfold vS at this;rw[if_neg (by omega)] at this
  exact this
theorem cG:GK 72 a1Z:=gk Tryz.func72<|by
 rintro(s:Sto) ⟨hd,hl,hf,hm⟩;have hfr:s.fr.length<1000000000000:=hf.1;have e0:(!y6 s.d||(s.d.sec.length:Int) !=69|| !W2 s.ep 1 60||decide ((s.log.length:Int)>60)|| !W2 s.sure 0 s.log.length||decide ((s.fr.length:Int)>3)|| !W2 s.hand 0 2)=(tF s|| !W2 s.sure 0 s.log.length||decide ((s.fr.length:Int)>3)|| !W2 s.hand 0 2):=rfl;have sp:L3 s=true↔(tF s|| !W2 s.sure 0 s.log.length||decide ((s.fr.length:Int)>3)|| !W2 s.hand 0 2)=false/\(∀i,i<s.log.length->xL s i=false)/\(∀i,i<s.fr.length->zJ s i=false)/\∀i,i<8->m7 s i=false:=by
  rw[K6,b2l];simp only[uL,xO,a9W,tW];unfold i5;simp only[J6,wD,K2,o9];constructor
  ·rintro⟨⟨h1,h2,h3⟩,h4,h5,⟨h6,h7⟩,h8⟩;exact⟨⟨⟨⟨h1,h3⟩,by omega⟩,h8⟩,⟨h2,h4⟩,h6,h5⟩
  ·rintro⟨⟨⟨⟨h1,h3⟩,h7⟩,h8⟩,⟨h2,h4⟩,h6,h5⟩;exact⟨⟨h1,h2,h3⟩,h4,h5,⟨h6,by omega⟩,h8⟩
 refine S6 (gC a4j (gC z8 (gC rJ (gC nO (gC pR (gC a4p gN)))))) Tryz.func72 (a3k s) (α:=∃(x:sF.ι),(((k4 s.d x)/\True)/\b5t x)/\((!y6 x||(s.d.sec.length:Int) !=(69:Int)|| !W2 s.ep (1:Int) (60:Int)||decide ((s.log.length:Int)>(60:Int))|| !W2 s.sure (0:Int) (s.log.length:Int)||decide ((s.fr.length:Int)>(3:Int))|| !W2 s.hand (0:Int) (2:Int))=true->false=L3 s)/\((!y6 x||(s.d.sec.length:Int) !=(69:Int)|| !W2 s.ep (1:Int) (60:Int)||decide ((s.log.length:Int)>(60:Int))|| !W2 s.sure (0:Int) (s.log.length:Int)||decide ((s.fr.length:Int)>(3:Int))|| !W2 s.hand (0:Int) (2:Int))=false->(∃(x:V4 s.log.length (xL s)),((0=0/\0=0)/\(0:Int)=(x.val:Int)/\True)/\(1=1/\1=1/\yR s s)/\True)/\∀(x:V4 s.log.length (xL s)),(decide ((x.val:Int)<(s.log.length:Int))=true->W4 (x.val:Int) s.log.length/\M7 (s.log.getD (x.val:Int).toNat default).a.length/\((!R2 (Rec.mk (s.log.getD (x.val:Int).toNat default).e (s.log.getD (x.val:Int).toNat default).l (s.log.getD (x.val:Int).toNat default).t (s.log.getD (x.val:Int).toNat default).k (s.log.getD (x.val:Int).toNat default).p (s.log.getD (x.val:Int).toNat default).n (s.log.getD (x.val:Int).toNat default).g (s.log.getD (x.val:Int).toNat default).s (s.log.getD (x.val:Int).toNat default).b (s.log.getD (x.val:Int).toNat default).a))=false->X4 .i64 ((x.val:Int)+(1:Int)))/\((!R2 (Rec.mk (s.log.getD (x.val:Int).toNat default).e (s.log.getD (x.val:Int).toNat default).l (s.log.getD (x.val:Int).toNat default).t (s.log.getD (x.val:Int).toNat default).k (s.log.getD (x.val:Int).toNat default).p (s.log.getD (x.val:Int).toNat default).n (s.log.getD (x.val:Int).toNat default).g (s.log.getD (x.val:Int).toNat default).s (s.log.getD (x.val:Int).toNat default).b (s.log.getD (x.val:Int).toNat default).a)||(s.log.getD (x.val:Int).toNat default).l !=(x.val:Int)+(1:Int)||decide ((s.log.getD (x.val:Int).toNat default).e>s.ep))=false->decide ((x.val:Int)>(0:Int))=true->X4 .i64 ((x.val:Int)- (1:Int)))/\((!R2 (Rec.mk (s.log.getD (x.val:Int).toNat default).e (s.log.getD (x.val:Int).toNat default).l (s.log.getD (x.val:Int).toNat default).t (s.log.getD (x.val:Int).toNat default).k (s.log.getD (x.val:Int).toNat default).p (s.log.getD (x.val:Int).toNat default).n (s.log.getD (x.val:Int).toNat default).g (s.log.getD (x.val:Int).toNat default).s (s.log.getD (x.val:Int).toNat default).b (s.log.getD (x.val:Int).toNat default).a)||(s.log.getD (x.val:Int).toNat default).l !=(x.val:Int)+(1:Int)||decide ((s.log.getD (x.val:Int).toNat default).e>s.ep))=false->decide ((x.val:Int)>(0:Int))=true->W4 ((x.val:Int)- (1:Int)) s.log.length)/\((!R2 (Rec.mk (s.log.getD (x.val:Int).toNat default).e (s.log.getD (x.val:Int).toNat default).l (s.log.getD (x.val:Int).toNat default).t (s.log.getD (x.val:Int).toNat default).k (s.log.getD (x.val:Int).toNat default).p (s.log.getD (x.val:Int).toNat default).n (s.log.getD (x.val:Int).toNat default).g (s.log.getD (x.val:Int).toNat default).s (s.log.getD (x.val:Int).toNat default).b (s.log.getD (x.val:Int).toNat default).a)||(s.log.getD (x.val:Int).toNat default).l !=(x.val:Int)+(1:Int)||decide ((s.log.getD (x.val:Int).toNat default).e>s.ep)||decide ((x.val:Int)>(0:Int))&&decide ((s.log.getD ((x.val:Int)- (1:Int)).toNat default).e>(s.log.getD (x.val:Int).toNat default).e))=true->false=L3 s)/\((!R2 (Rec.mk (s.log.getD (x.val:Int).toNat default).e (s.log.getD (x.val:Int).toNat default).l (s.log.getD (x.val:Int).toNat default).t (s.log.getD (x.val:Int).toNat default).k (s.log.getD (x.val:Int).toNat default).p (s.log.getD (x.val:Int).toNat default).n (s.log.getD (x.val:Int).toNat default).g (s.log.getD (x.val:Int).toNat default).s (s.log.getD (x.val:Int).toNat default).b (s.log.getD (x.val:Int).toNat default).a)||(s.log.getD (x.val:Int).toNat default).l !=(x.val:Int)+(1:Int)||decide ((s.log.getD (x.val:Int).toNat default).e>s.ep)||decide ((x.val:Int)>(0:Int))&&decide ((s.log.getD ((x.val:Int)- (1:Int)).toNat default).e>(s.log.getD (x.val:Int).toNat default).e))=false->X4 .i64 ((x.val:Int)+(1:Int))/\∃(y:V4 s.log.length (xL s)),(((0=0/\0=0)/\(x.val:Int)+(1:Int)=(y.val:Int)/\True)/\(1=1/\1=1/\yR s s)/\True)/\Lt (s.log.length-y.val) (s.log.length-x.val)))/\(decide ((x.val:Int)<(s.log.length:Int))=false->(∃(x:V4 s.fr.length (zJ s)),((0=0/\0=0)/\(0:Int)=(x.val:Int)/\True)/\(1=1/\1=1/\yR s s)/\True)/\∀(x:V4 s.fr.length (zJ s)),(decide ((x.val:Int)<(s.fr.length:Int))=true->W4 (x.val:Int) s.fr.length/\∃(x_1:i7.ι),((!W2 (s.fr.getD (x.val:Int).toNat default).no (0:Int) (7:Int))=false->(((s.fr.getD (x.val:Int).toNat default).pg.lsn=x_1.lsn/\(Y5 Z5 (s.fr.getD (x.val:Int).toNat default).pg.sl x_1.sl)/\True)/\True)/\PgB x_1)/\∃(x_2:sY.ι),((!W2 (s.fr.getD (x.val:Int).toNat default).no (0:Int) (7:Int)|| !B3 x_1||decide ((s.fr.getD (x.val:Int).toNat default).pg.lsn>(s.log.length:Int))|| !W2 (s.fr.getD (x.val:Int).toNat default).first (0:Int) (s.log.length:Int)|| !(s.fr.getD (x.val:Int).toNat default).dirty==decide ((s.fr.getD (x.val:Int).toNat default).first>(0:Int)))=false->((yR s x_2.1)/\(s.fr.getD (x.val:Int).toNat default).no=x_2.2/\True)/\M7 x_2.1.fr.length)/\((!W2 (s.fr.getD (x.val:Int).toNat default).no (0:Int) (7:Int)|| !B3 x_1||decide ((s.fr.getD (x.val:Int).toNat default).pg.lsn>(s.log.length:Int))|| !W2 (s.fr.getD (x.val:Int).toNat default).first (0:Int) (s.log.length:Int)|| !(s.fr.getD (x.val:Int).toNat default).dirty==decide ((s.fr.getD (x.val:Int).toNat default).first>(0:Int))||frAt x_2.1.fr x_2.2 !=(x.val:Int))=true->false=L3 s)/\((!W2 (s.fr.getD (x.val:Int).toNat default).no (0:Int) (7:Int)|| !B3 x_1||decide ((s.fr.getD (x.val:Int).toNat default).pg.lsn>(s.log.length:Int))|| !W2 (s.fr.getD (x.val:Int).toNat default).first (0:Int) (s.log.length:Int)|| !(s.fr.getD (x.val:Int).toNat default).dirty==decide ((s.fr.getD (x.val:Int).toNat default).first>(0:Int))||frAt x_2.1.fr x_2.2 !=(x.val:Int))=false->X4 .i64 ((x.val:Int)+(1:Int))/\∃(y:V4 s.fr.length (zJ s)),(((0=0/\0=0)/\(x.val:Int)+(1:Int)=(y.val:Int)/\True)/\(1=1/\1=1/\yR s s)/\True)/\Lt (s.fr.length-y.val) (s.fr.length-x.val)))/\(decide ((x.val:Int)<(s.fr.length:Int))=false->(∃(x:V4 8 (m7 s)),((0=0/\0=0)/\(0:Int)=(x.val:Int)/\True)/\(1=1/\1=1/\yR s s)/\True)/\∀(x:V4 8 (m7 s)),(decide ((x.val:Int)<(8:Int))=true->∃(x_1:jE.ι),(((k4 s.d x_1.1)/\(x.val:Int)=(x_1.2:Int)/\True)/\gA x_1)/\((!(R3 x_1.1 x_1.2).2||decide ((R3 x_1.1 x_1.2).1.lsn>s.sure))=true->false=L3 s)/\((!(R3 x_1.1 x_1.2).2||decide ((R3 x_1.1 x_1.2).1.lsn>s.sure))=false->X4 .i64 ((x.val:Int)+(1:Int))/\∃(y:V4 8 (m7 s)),(((0=0/\0=0)/\(x.val:Int)+(1:Int)=(y.val:Int)/\True)/\(1=1/\1=1/\yR s s)/\True)/\Lt (8-y.val) (8-x.val)))/\(decide ((x.val:Int)<(8:Int))=false->true=L3 s))))) ⟨s.d,⟨⟨(xN _),trivial⟩,hd⟩,λhb=>tT ?_,λhb=> ?_⟩
 ·rw[sp,←e0];rintro⟨h1,_⟩;have hb:(!y6 s.d||(s.d.sec.length:Int) !=69|| !W2 s.ep 1 60||decide ((s.log.length:Int)>60)|| !W2 s.sure 0 s.log.length||decide ((s.fr.length:Int)>3)|| !W2 s.hand 0 2)=true:=hb;rw[h1] at hb;cases hb
 rw[e0] at hb;have hb':=hb;simp only[uL,xO,tW] at hb';obtain⟨c1,c2,c3,c4,c5⟩:=(w6 s).1 hb'.1.1.1;refine⟨⟨D5,⟨Z7,Z9⟩,⟨rfl,rfl,yP _⟩,trivial⟩,λx=>⟨λhc=> ?_,λhc=>⟨⟨D5,⟨Z7,Z9⟩,⟨rfl,rfl,yP _⟩,trivial⟩,λy=>⟨λhy=> ?_,λhy=>⟨⟨D5,⟨Z7,Z9⟩,⟨rfl,rfl,yP _⟩,trivial⟩,λz=>⟨λhz=> ?_,λhz=> ?_⟩⟩⟩⟩⟩⟩
 ·have hlt:=Y1 hc;refine⟨Y2 hlt,hm _ (lE hlt),λ_=>V7 hlt (by omega),λ_ _=>Z4 (by omega),λ_ h0=>⟨by have:=F3 h0;omega,by omega⟩,λhq=>tT ?_,λhq=>⟨V7 hlt (by omega),x.succ hlt ?_,⟨⟨Z7,by simp only[V4.succ];omega,trivial⟩,⟨rfl,rfl,yP _⟩,trivial⟩,V4.ext_lt hlt⟩⟩
  ·rw[sp];rintro⟨_,h1,_⟩;have:=h1 x.val hlt;unfold xL at this;rw[u9,show((x.val:Int)-1).toNat=x.val-1 by omega] at hq
   have hq:=hq.symm.trans this;cases hq
  ·rw[u9,show((x.val:Int)-1).toNat=x.val-1 by omega] at hq
   exact hq
 ·have hlt:=Y1 hy;refine⟨Y2 hlt,(s.fr.getD y.val default).pg,λ_=>⟨⟨⟨rfl,X8⟩,trivial⟩,hf.2 _ hlt⟩,(s,(s.fr.getD y.val default).no),λ_=>⟨⟨(yP _),Z9⟩,hf.1⟩,λhq=>tT ?_,λhq=>⟨V7 hlt (by omega),y.succ hlt hq,⟨⟨Z7,by simp only[V4.succ];omega,trivial⟩,⟨rfl,rfl,yP _⟩,trivial⟩,V4.ext_lt hlt⟩⟩
  rw[sp];rintro⟨_,_,h1,_⟩;have:=h1 y.val hlt;have hq:zJ s y.val=true:=hq;rw[this] at hq;cases hq
 ·have hlt:z.val<8:=by have:=F3 hz;omega
  refine⟨(s.d,z.val),⟨⟨(xN _),Z9⟩,c1,by simp only;omega⟩,λhq=>tT ?_,λhq=>⟨Z4 (by omega),z.succ hlt hq,⟨⟨Z7,by simp only[V4.succ];omega,trivial⟩,⟨rfl,rfl,yP _⟩,trivial⟩,V4.ext_lt hlt⟩⟩
  rw[sp];rintro⟨_,_,_,h1⟩;have:=h1 z.val hlt;have hq:m7 s z.val=true:=hq;rw[this] at hq;cases hq
 ·have g1:=X9 hc;have g2:=X9 hy;have g3:8<=z.val:=by have:=yQ hz;omega
  exact(sp.2 ⟨hb,λi hi=>x.2.2 i (vV hi g1),λi hi=>y.2.2 i (vV hi g2),λi hi=>z.2.2 i (vV hi g3)⟩).symm
end Go.Proofs.YtokaojbaacnngaaGreat

namespace Go.Proofs.YtokaojbaacnngaaGreat
set_option maxRecDepth 100000
open Go.SS

def l8(n:Int):UInt8:=P6 (IntKind.u8.wrap n)
def W7(L:List (List UInt8)):Nat->List UInt8
 |0=>[l8 L.length]
 |i+1=>W7 L i++[l8 (L.getD i []).length]++L.getD i []
def T3(L:List (List UInt8)):List UInt8:=W7 L L.length
def A2(L:List (List UInt8)):Prop:=L.length<=1000/\∀i,i<L.length->(L.getD i []).length<=1000
def zA:Rl:=⟨List (List UInt8),λL=>[C0 L],λL=>.bys (T3 L),A2⟩
def a1v:Con:=.rel zA
def bK(L:List (List UInt8)):Nat->Ann
 |0=>.one {i:Nat//i<=L.length} (λx=>⟨[(0,C0 L),(3,.osl 0 0 (W7 L x.1).length),(4,.int .i64 x.1)],[some (.bys 5 (W7 L x.1))]⟩) (λx=>L.length-x.1) [.arr 0] [.arr 3] (λ_=>Z0)
 |_=>.none
def d6(n:Nat)(l:List UInt8):Prop:=n=l.length/\l.length<=1000000
def yY:List T->Y3->Option (T×Y3×Option Prop)
 | [.osl k off n],[some (.bys ty l)]=>match k,off,ty with
  |0,0,5=>some (.bys (l++C1 (u3 l)),[none],some (d6 n l))
  |_,_,_=>none
 |_,_=>none
def a0E:Con:=.eff yY
theorem rV:GK 233 a0E:=gk Tryz.func233<|by
 intro args H res H' p h hp;unfold yY at h;split at h
 case h_2=>cases h
 rename_i k off n ty l;split at h
 ·skip
  simp only[X1,U4] at h;obtain⟨rfl,rfl,rfl⟩:=h;obtain⟨rfl,hl⟩:d6 n l:=hp;have e4:(C1 (u3 l)).length=4:=rfl;refine vcE (gC pO (gC rU gN)) Tryz.func233 Z0 (bs:=[false]) (α:=∃(x:(xA IntKind.i64).ι),(Le (0+l.length) l.length/\(List.take l.length (List.drop 0 l)=x/\True)/\J1 x)/\∃(x_1:mL.ι),(((↑(u3 x):Int)=(x_1.1:Int)/\((4:Int)=match x_1.2 with|true=>(4:Int)|false=>(2:Int))/\True)/\True)/\(Le l.length l.length/\V6 l.length (match x_1.2 with|true=>C1 x_1.1|false=>zP x_1.1).length 1)/\Le (0+(l.length+(match x_1.2 with|true=>C1 x_1.1|false=>zP x_1.1).length)) (List.take l.length l++match x_1.2 with|true=>C1 x_1.1|false=>zP x_1.1).length/\List.take (l.length+(match x_1.2 with|true=>C1 x_1.1|false=>zP x_1.1).length) (List.drop 0 (List.take l.length l++match x_1.2 with|true=>C1 x_1.1|false=>zP x_1.1))=l++C1 (u3 l)/\True/\True) ⟨l,⟨by unfold Le;omega,⟨by rw[List.drop_zero,kV],trivial⟩,by unfold J1;omega⟩,(u3 l,true),⟨⟨rfl,rfl,trivial⟩,trivial⟩,⟨V2 _,?_,?_⟩,?_,?_,trivial,trivial⟩
  ·simp only[e4];omega
  ·simp only[e4];omega
  ·unfold Le;rw[kV,A3,C3];exact V2 _
  ·rw[kV,List.drop_zero];exact List.take_of_length_le (by rw[A3];exact V2 _)
 ·cases h
theorem zD(L:List (List UInt8))(h:∀i,i<L.length->(L.getD i []).length<=1000):∀i,i<=L.length->(W7 L i).length<=1+1001*i
 |0,_=>by simp[W7]
 |i+1,hi=>by
  have h1:=zD L h i (by omega)
  have h2:=h i (by omega)
  simp only[W7,A3,List.length_cons,List.length_nil];omega
theorem l01Fields_ok:GK 234 a1v:=gk Tryz.func234<|by
 rintro(L:List (List UInt8)) ⟨hL,hs⟩;refine S6 gN Tryz.func234 (bK L) (α:=X4 IntKind.u8 (IntKind.u8.wrap (L.length:Int))/\(∃(x:{i:Nat//i<=L.length}),((Y5 Z5 L L)/\(0=0/\1=(W7 L x.val).length)/\(0:Int)=(x.val:Int)/\True)/\List.map P6 [IntKind.u8.wrap (L.length:Int)]=W7 L x.val/\True)/\∀(x:{i:Nat//i<=L.length}),(decide ((x.val:Int)<(L.length:Int))=true->W4 (x.val:Int) L.length/\X4 IntKind.u8 (IntKind.u8.wrap (↑(L.getD (x.val:Int).toNat []).length:Int))/\(Le 1 1/\Le (W7 L x.val).length (W7 L x.val).length/\V6 (W7 L x.val).length 1 1)/\W4 (x.val:Int) L.length/\(Le ((W7 L x.val).length+1) (List.take (W7 L x.val).length (W7 L x.val)++List.take 1 (List.drop 0 (List.map P6 [IntKind.u8.wrap (↑(L.getD (x.val:Int).toNat []).length:Int)]))).length/\V6 ((W7 L x.val).length+1) (L.getD (x.val:Int).toNat []).length 1)/\X4 .i64 ((x.val:Int)+(1:Int))/\∃(y:{i:Nat//i<=L.length}),(((Y5 Z5 L L)/\(0=0/\(W7 L x.val).length+1+(L.getD (x.val:Int).toNat []).length=(W7 L y.val).length)/\(x.val:Int)+(1:Int)=(y.val:Int)/\True)/\List.take ((W7 L x.val).length+1) (List.take (W7 L x.val).length (W7 L x.val)++List.take 1 (List.drop 0 (List.map P6 [IntKind.u8.wrap (↑(L.getD (x.val:Int).toNat []).length:Int)])))++L.getD (x.val:Int).toNat []=W7 L y.val/\True)/\Lt (L.length-y.val) (L.length-x.val))/\(decide ((x.val:Int)<(L.length:Int))=false->Le (0+(W7 L x.val).length) (W7 L x.val).length/\List.take (W7 L x.val).length (List.drop 0 (W7 L x.val))=T3 L)) ⟨Q6 _,⟨⟨0,S7 _⟩,⟨Z8,Z7,Z9⟩,Z9⟩,λx=>⟨λhc=> ?_,λhc=> ?_⟩⟩
 ·have hlt:=Y1 hc;have h1:=zD L hs x.val (by omega)
  have h2:=hs x.val hlt;rw[u9];have e:List.take (W7 L x.val).length (W7 L x.val)++List.take 1 (List.drop 0 (List.map P6 [IntKind.u8.wrap ((L.getD x.val []).length:Int)]))=W7 L x.val++[l8 (L.getD x.val []).length]:=by
   rw[kV];rfl
  rw[e];have e2:(W7 L x.val++[l8 (L.getD x.val []).length]).length=(W7 L x.val).length+1:=by simp
  refine⟨Y2 hlt,Q6 _,⟨V2 _,V2 _,by omega,by omega⟩,Y2 hlt,⟨by unfold Le;omega,by omega,by omega⟩,V7 hlt (by omega),⟨x.val+1,hlt⟩,⟨⟨Z8,⟨rfl,?_⟩,by simp only;omega,trivial⟩,?_,trivial⟩,V4.ext_lt hlt⟩
  ·simp only[W7,A3,List.length_cons,List.length_nil]
  ·rw[←e2,kV];rfl
 ·have hx:x.val=L.length:=by have:=x.2;have:=X9 hc;omega
  rw[hx];exact⟨by unfold Le;omega,by rw[List.drop_zero,kV];rfl⟩
def vP(no:Int)(p:Pg):List UInt8:=([P6 112,l8 no]++zP p.lsn.toNat)++T3 p.sl
def T1(no:Int)(p:Pg):List UInt8:=vP no p++C1 (u3 (vP no p))
noncomputable def tC:Rl:=⟨Int×Pg,λx=>[.int .i64 x.1,.agg x.2.ts],λx=>.bys (T1 x.1 x.2),λx=>cN x.2⟩
noncomputable def a3j:Con:=.rel tC
theorem a0c:GK 279 a3j:=gk Tryz.func279<|by
 rintro⟨no,p⟩ ⟨h1,h2,h3,h4⟩;simp only at h1 h2 h3 h4;have hs:A2 p.sl:=⟨by omega,λi hi=>Nat.le_trans (h4 i hi) (by decide)⟩
 have hfl:=zD p.sl hs.2 p.sl.length (V2 _);have hfl:(T3 p.sl).length<=5000:=by unfold T3;omega
 have e2:(zP p.lsn.toNat).length=2:=rfl;have e0:List.take 2 (List.map P6 [(112:Int),IntKind.u8.wrap no])=[P6 112,l8 no]:=rfl;have e1:List.take (2+(zP p.lsn.toNat).length) ([P6 112,l8 no]++zP p.lsn.toNat)=[P6 112,l8 no]++zP p.lsn.toNat:=List.take_of_length_le (by simp;omega)
 have key:List.take (2+(zP p.lsn.toNat).length) (List.take 2 (List.map P6 [(112:Int),IntKind.u8.wrap no])++zP p.lsn.toNat)++T3 p.sl=vP no p:=by rw[e0,e1];rfl
 refine S6 (gC rU (gC l01Fields_ok (gC rV gN))) Tryz.func279 Z0 (α:=(X4 IntKind.u8 (112:Int)/\X4 IntKind.u8 (IntKind.u8.wrap no))/\∃(x:mL.ι),((p.lsn=(x.1:Int)/\((2:Int)=match x.2 with|true=>(4:Int)|false=>(2:Int))/\True)/\True)/\(Le 2 2/\V6 2 (match x.2 with|true=>C1 x.1|false=>zP x.1).length 1)/\∃(x_1:zA.ι),(((p.sl.length=List.length x_1/\Z6 p.sl.length (Z5 p.sl) (Z5 x_1))/\True)/\A2 x_1)/\(Le (2+(match x.2 with|true=>C1 x.1|false=>zP x.1).length) (List.take 2 (List.map P6 [(112:Int),IntKind.u8.wrap no])++match x.2 with|true=>C1 x.1|false=>zP x.1).length/\V6 (2+(match x.2 with|true=>C1 x.1|false=>zP x.1).length) (T3 x_1).length 1)/\d6 (2+(match x.2 with|true=>C1 x.1|false=>zP x.1).length+(T3 x_1).length) (List.take (2+(match x.2 with|true=>C1 x.1|false=>zP x.1).length) (List.take 2 (List.map P6 [(112:Int),IntKind.u8.wrap no])++match x.2 with|true=>C1 x.1|false=>zP x.1)++T3 x_1)/\List.take (2+(match x.2 with|true=>C1 x.1|false=>zP x.1).length) (List.take 2 (List.map P6 [(112:Int),IntKind.u8.wrap no])++match x.2 with|true=>C1 x.1|false=>zP x.1)++T3 x_1++C1 (u3 (List.take (2+(match x.2 with|true=>C1 x.1|false=>zP x.1).length) (List.take 2 (List.map P6 [(112:Int),IntKind.u8.wrap no])++match x.2 with|true=>C1 x.1|false=>zP x.1)++T3 x_1))=T1 no p) ⟨⟨(gY _).2 (by omega),Q6 _⟩,(p.lsn.toNat,false),⟨⟨by simp only;omega,rfl,trivial⟩,trivial⟩,⟨V2 _,by simp only[e2];omega,by simp only[e2];omega⟩,p.sl,⟨⟨⟨rfl,Z2 _ _⟩,trivial⟩,hs⟩,⟨?_,by simp only[e2];omega,by simp only[e2];omega⟩,?_,?_⟩
 ·unfold Le;rw[e0,A3];exact V2 _
 ·show d6 _ (List.take (2+(zP p.lsn.toNat).length) (List.take 2 (List.map P6 [(112:Int),IntKind.u8.wrap no])++zP p.lsn.toNat)++T3 p.sl);rw[key];have hl:(vP no p).length=2+(zP p.lsn.toNat).length+(T3 p.sl).length:=by unfold vP;simp;omega
  exact⟨hl.symm,by rw[hl,e2];omega⟩
 ·show List.take (2+(zP p.lsn.toNat).length) (List.take 2 (List.map P6 [(112:Int),IntKind.u8.wrap no])++zP p.lsn.toNat)++T3 p.sl++C1 (u3 (List.take (2+(zP p.lsn.toNat).length) (List.take 2 (List.map P6 [(112:Int),IntKind.u8.wrap no])++zP p.lsn.toNat)++T3 p.sl))=_;rw[key];rfl
end Go.Proofs.YtokaojbaacnngaaGreat

