/- A part of the proof. -/
import Derived.Test.YtokaojbaacnngaaGreatW3
namespace Go.Proofs.YtokaojbaacnngaaGreat
set_option maxRecDepth 100000
open Go.SS

def mT(L:List Rec)(T:List Txn):Nat->Nat
 |0=>0
 |k+1=>mT L T k+(1+und L 61 (T.getD k default).last)
def ndE(e:Eng):Nat:=mT e.s.log e.txs e.txs.length
def a4b(e:Eng):Prop:=wV e.s.log/\e.txs.length<=10/\∀i,i<e.txs.length->(e.txs.getD i default).last<=(e.s.log.length:Int)
theorem cC(L:List Rec)(T:List Txn):∀k,mT L T k<=62*k:=by
 intro k;induction k with
 |zero=>exact V1 0
 |succ k ih=>unfold mT;have:=dP L 61 (T.getD k default).last;omega
def b1N:Con:=.rel ⟨Eng,λe=>[.bref e.ts],λe=>.int .i64 (ndE e),a4b⟩
def b29(e:Eng):Nat->Ann
 |0=>.one {i:Nat//i<=e.txs.length} (λx=>⟨[(0,.bref e.ts),(3,.int .i64 (mT e.s.log e.txs x.1)),(9,vP e.txs),(10,.int .i64 e.txs.length),(11,.int .i64 x.1)],[]⟩) (λx=>e.txs.length-x.1) [] [] (λ_=>Z0)
 |_=>.none
theorem a0R{L:List Rec}{T:List Txn}{i:Nat}:((mT L T i:Nat):Int)+((1+und L 61 (T.getD i default).last:Nat):Int)=(mT L T (i+1):Nat):=by
 conv=>rhs;unfold mT
 omega
theorem a89:GK 179 b1N:=gk Tryz.func179<|by
 rintro(e:Eng) ⟨hL,h10,hb⟩;refine S3 (gC a8l gN) Tryz.func179 (b29 e) (α:=(∃(x:{i:Nat//i<=e.txs.length}),(M2 (λ(x:Nat)=>none) (T.bref e.ts) (T.bref e.ts)/\(0:Int)=(↑(mT e.s.log e.txs x.val):Int)/\(Y6 X5 e.txs e.txs)/\(e.txs.length:Int)=(e.txs.length:Int)/\(0:Int)=(x.val:Int)/\True)/\True)/\∀(x:{i:Nat//i<=e.txs.length}),(decide ((x.val:Int)<(e.txs.length:Int))=true->W2 (x.val:Int) e.txs.length/\∃(x_1:(Sto×Int)),(((yI e.s x_1.1)/\(e.txs.getD (x.val:Int).toNat default).last=x_1.2/\True)/\qC x_1.1.log x_1.2)/\X2 .i64 ((↑(mT e.s.log e.txs x.val):Int)+(↑(1+und x_1.1.log 61 x_1.2):Int))/\X2 .i64 ((x.val:Int)+(1:Int))/\∃(y:{i:Nat//i<=e.txs.length}),((M2 (λ(x:Nat)=>none) (T.bref e.ts) (T.bref e.ts)/\(↑(mT e.s.log e.txs x.val):Int)+(↑(1+und x_1.1.log 61 x_1.2):Int)=(↑(mT e.s.log e.txs y.val):Int)/\(Y6 X5 e.txs e.txs)/\(e.txs.length:Int)=(e.txs.length:Int)/\(x.val:Int)+(1:Int)=(y.val:Int)/\True)/\True)/\Lt (e.txs.length-y.val) (e.txs.length-x.val))/\(decide ((x.val:Int)<(e.txs.length:Int))=false->(↑(mT e.s.log e.txs x.val):Int)=(↑(ndE e):Int))) ⟨⟨⟨0,S2 _⟩,⟨S1 _,rfl,Z8,rfl,Z9⟩,trivial⟩,λx=>⟨λhc=> ?_,λhc=> ?_⟩⟩
 ·have hlt:=Y1 hc;have h1:=cC e.s.log e.txs x.val;have h2:=dP e.s.log 61 (e.txs.getD x.val default).last;refine⟨Y3 hlt,(e.s,(e.txs.getD x.val default).last),⟨⟨(yH _),Z9⟩,hL,hb _ hlt⟩,Z4 (by dsimp only;omega),V5 hlt (by omega),⟨x.val+1,hlt⟩,⟨⟨S1 _,a0R,⟨rfl,Z2 _ _⟩,rfl,by dsimp only;omega,trivial⟩,trivial⟩,V3.ext_lt hlt⟩
 ·have hx:x.val=e.txs.length:=by have:=x.2;have:=X9 hc;omega
  rw[hx];rfl
def a6N:Con:=.rel ⟨Eng×Int,λx=>[.bref x.1.ts,.int .i64 x.2],λx=>.bool (decide ((x.1.s.log.length:Int)+ndE x.1+x.2<=60)),λx=>a4b x.1/\t8 x.2⟩
theorem a2V:GK 110 a6N:=gk Tryz.func110<|by
 rintro⟨e,m⟩ ⟨hn,h1,h2⟩;dsimp only at hn h1 h2;have hb:=cC e.s.log e.txs e.txs.length;have hb2:=hn.2.1;have hb3:=hn.1.1;have he:ndE e=mT e.s.log e.txs e.txs.length:=rfl;exact S3 (gC a89 gN) Tryz.func110 Z0 (α:=∃(x:Eng),(((y5 e x)/\True)/\a4b x)/\X2 .i64 ((e.s.log.length:Int)+(↑(ndE x):Int))/\X2 .i64 ((e.s.log.length:Int)+(↑(ndE x):Int)+m)/\decide ((e.s.log.length:Int)+(↑(ndE x):Int)+m<=(60:Int))=decide ((e.s.log.length:Int)+(↑(ndE e):Int)+m<=(60:Int))) ⟨e,⟨⟨(B5 _),trivial⟩,hn⟩,Z4 (by omega),Z4 (by omega),rfl⟩
def eJ:Con:=.rel ⟨Eng,λe=>[.agg e.ts],λe=>.int .i64 (ndE e),a4b⟩
def fI(e:Eng):Nat->Ann
 |0=>.one {i:Nat//i<=e.txs.length} (λx=>⟨[(1,.ref 0 0 0),(3,.int .i64 (mT e.s.log e.txs x.1)),(4,.int .i64 x.1)],[uZ e]⟩) (λx=>e.txs.length-x.1) [.box 0] [.box 0] (λ_=>Z0)
 |_=>.none
theorem jK:GK 77 eJ:=gk Tryz.func77<|by
 rintro(e:Eng) ⟨hL,h10,hb⟩;refine S3 (gC a2Y gN) Tryz.func77 (fI e) (α:=(∃(x:{i:Nat//i<=e.txs.length}),((0=0/\0=0)/\(0:Int)=(↑(mT e.s.log e.txs x.val):Int)/\(0:Int)=(x.val:Int)/\True)/\(1=1/\1=1/\y5 e e)/\True)/\∀(x:{i:Nat//i<=e.txs.length}),(decide ((x.val:Int)<(e.txs.length:Int))=true->W2 (x.val:Int) e.txs.length/\∃(x_1:(Sto×Int)),(((yI e.s x_1.1)/\(e.txs.getD (x.val:Int).toNat default).last=x_1.2/\True)/\qC x_1.1.log x_1.2)/\X2 .i64 ((↑(mT e.s.log e.txs x.val):Int)+(↑(1+und x_1.1.log 61 x_1.2):Int))/\X2 .i64 ((x.val:Int)+(1:Int))/\∃(y:{i:Nat//i<=e.txs.length}),(((0=0/\0=0)/\(↑(mT e.s.log e.txs x.val):Int)+(↑(1+und x_1.1.log 61 x_1.2):Int)=(↑(mT e.s.log e.txs y.val):Int)/\(x.val:Int)+(1:Int)=(y.val:Int)/\True)/\(1=1/\1=1/\y5 e e)/\True)/\Lt (e.txs.length-y.val) (e.txs.length-x.val))/\(decide ((x.val:Int)<(e.txs.length:Int))=false->(↑(mT e.s.log e.txs x.val):Int)=(↑(ndE e):Int))) ⟨⟨⟨0,S2 _⟩,⟨Z7,rfl,Z9⟩,⟨rfl,rfl,B5 _⟩,trivial⟩,λx=>⟨λhc=> ?_,λhc=> ?_⟩⟩
 ·have hlt:=Y1 hc;have h1:=cC e.s.log e.txs x.val;have h2:=dP e.s.log 61 (e.txs.getD x.val default).last;refine⟨Y3 hlt,(e.s,(e.txs.getD x.val default).last),⟨⟨(yH _),Z9⟩,hL,hb _ hlt⟩,Z4 (by dsimp only;omega),V5 hlt (by omega),⟨x.val+1,hlt⟩,⟨⟨⟨rfl,rfl⟩,a0R,by dsimp only;omega,trivial⟩,⟨rfl,rfl,B5 _⟩,trivial⟩,V3.ext_lt hlt⟩
 ·have hx:x.val=e.txs.length:=by have:=x.2;have:=X9 hc;omega
  rw[hx];rfl
def gU(L:List Rec)(r:Rec):Bool:=decide (r.n>0)&&((Y4 L r.n).t==r.t)&&decide ((Y4 L r.n).k<=3)
def a8f:Con:=.rel ⟨Sto×Rec,λx=>[.agg x.1.ts,.agg x.2.ts],λx=>.bool (gU x.1.log x.2),λx=>x.2.n<=(x.1.log.length:Int)/\N3 x.1.log.length⟩
theorem a4k:GK 75 a8f:=gk Tryz.func75<|by
 rintro⟨s,r⟩ ⟨h1,h2⟩;have h2:s.log.length<1000000000000:=h2;dsimp only at h1;have k1:decide (r.n>(0:Int))=true->X2 .i64 (r.n-1)/\W2 (r.n-1) s.log.length:=λh=>by
  have h:=E9 h;exact⟨Z4 (by omega),by omega,by omega⟩
 exact S3 gN Tryz.func75 Z0 (α:=(decide (r.n>(0:Int))=true->X2 .i64 (r.n- (1:Int)))/\(decide (r.n>(0:Int))=true->W2 (r.n- (1:Int)) s.log.length)/\((decide (r.n>(0:Int))&&(s.log.getD (r.n- (1:Int)).toNat default).t==r.t)=true->X2 .i64 (r.n- (1:Int)))/\((decide (r.n>(0:Int))&&(s.log.getD (r.n- (1:Int)).toNat default).t==r.t)=true->W2 (r.n- (1:Int)) s.log.length)/\(decide (r.n>(0:Int))&&(s.log.getD (r.n- (1:Int)).toNat default).t==r.t&&decide ((s.log.getD (r.n- (1:Int)).toNat default).k<=(3:Int)))=gU s.log r) ⟨λh=>(k1 h).1,λh=>(k1 h).2,λh=>(k1 (Bool.and_eq_true_iff.1 h).1).1,λh=>(k1 (Bool.and_eq_true_iff.1 h).1).2,rfl⟩
def zG(e:Eng)(i:Nat):Bool:=decide (U4 e.txs (e.lk.held.getD i default).tx<0)
def B3(e:Eng)(i:Nat):Bool:=decide (U4 e.txs (e.lk.waits.getD i default).tx<0)||decide (U4 e.txs (e.lk.waits.getD i default).fo<0)
def TxL(e:Eng):Prop:=N3 e.txs.length
def a05:Con:=.rel ⟨Eng×Lck,λx=>[.agg x.2.ts,.bref [.bref x.1.ts]],λx=>.bool (decide (U4 x.1.txs x.2.tx<0)),λx=>TxL x.1⟩
theorem a1s(e:Eng)(l:Lck)(h:
  ∃(x:(Eng×Int)),(((y5 e x.1)/\l.tx=x.2/\True)/\N3 x.1.txs.length)/\decide (U4 x.1.txs x.2<(0:Int))=decide (U4 e.txs l.tx<(0:Int))):
  U3 Tryz.prog 159 [.agg l.ts,.bref [.bref e.ts]] (.bool (decide (U4 e.txs l.tx<0))):=
 S3 (gC uN gN) Tryz.func159 Z0 h
theorem bU:GK 159 a05:=gk Tryz.func159<|λx h=>a1s x.1 x.2 ⟨(x.1,x.2.tx),⟨⟨(B5 _),Z9⟩,h⟩,rfl⟩
def bC:Con:=.rel ⟨Eng×Wt,λx=>[.agg x.2.ts,.bref [.bref x.1.ts]],λx=>.bool (decide (U4 x.1.txs x.2.tx<0)||decide (U4 x.1.txs x.2.fo<0)),λx=>TxL x.1⟩
theorem a0d(e:Eng)(l:Wt)(h:
  ∃(x:(Eng×Int)),(((y5 e x.1)/\l.tx=x.2/\True)/\N3 x.1.txs.length)/\∃(x_1:(Eng×Int)),(decide (U4 x.1.txs x.2<(0:Int))=false->((y5 e x_1.1)/\l.fo=x_1.2/\True)/\N3 x_1.1.txs.length)
  /\(decide (U4 x.1.txs x.2<(0:Int))||decide (U4 x_1.1.txs x_1.2<(0:Int)))=(decide (U4 e.txs l.tx<(0:Int))||decide (U4 e.txs l.fo<(0:Int)))):
  U3 Tryz.prog 161 [.agg l.ts,.bref [.bref e.ts]] (.bool (decide (U4 e.txs l.tx<0)||decide (U4 e.txs l.fo<0))):=
 S3 (gC uN gN) Tryz.func161 Z0 h
theorem cT:GK 161 bC:=gk Tryz.func161<|λx h=>a0d x.1 x.2 ⟨(x.1,x.2.tx),⟨⟨(B5 _),Z9⟩,h⟩,(x.1,x.2.fo),λ_=>⟨⟨(B5 _),Z9⟩,h⟩,rfl⟩
def eF1(e:Eng):T:=.fn (.func 159) [.bref [.bref e.ts]]
def eF2(e:Eng):T:=.fn (.func 161) [.bref [.bref e.ts]]
def HlL(e:Eng):Prop:=TxL e/\N3 e.lk.held.length/\N3 e.lk.waits.length
def a8I:Con:=.rel ⟨Eng,λe=>[zJ e.lk.held,eF1 e],λe=>.int .i64 (R0 e.lk.held.length (zG e)),HlL⟩
def a9G(e:Eng):Nat->Ann
 |0=>.one (V3 e.lk.held.length (zG e)) (λx=>⟨[(0,zJ e.lk.held),(1,eF1 e),(7,.int .i64 e.lk.held.length),(8,.int .i64 x.1)],[]⟩) (λx=>e.lk.held.length-x.1) [] [] (λ_=>Z0)
 |_=>.none
theorem a4e:GK 223 a8I:=gk Tryz.func223<|by
 rintro(e:Eng) ⟨ht,h1,h2⟩;have h1:e.lk.held.length<1000000000000:=h1;have h2:e.lk.waits.length<1000000000000:=h2;refine S3 (gC bU gN) Tryz.func223 (a9G e) (α:=(∃(x:V3 e.lk.held.length (zG e)),((Y6 Y5 e.lk.held e.lk.held)/\(Fn.func 159=Fn.func 159/\M2 (λ(x:Nat)=>none) (T.bref [T.bref e.ts]) (T.bref [T.bref e.ts])/\True)/\(e.lk.held.length:Int)=(e.lk.held.length:Int)/\(0:Int)=(x.val:Int)/\True)/\True)/\∀(x:V3 e.lk.held.length (zG e)),(decide ((x.val:Int)<(e.lk.held.length:Int))=true->W2 (x.val:Int) e.lk.held.length/\∃(x_1:(Eng×Lck)),((((e.lk.held.getD (x.val:Int).toNat default).tx=x_1.2.tx/\(e.lk.held.getD (x.val:Int).toNat default).ta=x_1.2.ta/\(e.lk.held.getD (x.val:Int).toNat default).row=x_1.2.row/\(e.lk.held.getD (x.val:Int).toNat default).mo=x_1.2.mo/\True)/\((y5 e x_1.1)/\True)/\True)/\TxL x_1.1)/\(decide (U4 x_1.1.txs x_1.2.tx<(0:Int))=true->(x.val:Int)=R0 e.lk.held.length (zG e))/\(decide (U4 x_1.1.txs x_1.2.tx<(0:Int))=false->X2 .i64 ((x.val:Int)+(1:Int))/\∃(y:V3 e.lk.held.length (zG e)),(((Y6 Y5 e.lk.held e.lk.held)/\(Fn.func 159=Fn.func 159/\M2 (λ(x:Nat)=>none) (T.bref [T.bref e.ts]) (T.bref [T.bref e.ts])/\True)/\(e.lk.held.length:Int)=(e.lk.held.length:Int)/\(x.val:Int)+(1:Int)=(y.val:Int)/\True)/\True)/\Lt (e.lk.held.length-y.val) (e.lk.held.length-x.val)))/\(decide ((x.val:Int)<(e.lk.held.length:Int))=false->(-1:Int)=R0 e.lk.held.length (zG e))) ⟨⟨E8,⟨Z8,⟨rfl,S1 _,trivial⟩,rfl,Z9⟩,trivial⟩,λx=>⟨λhc=> ?_,λhc=> ?_⟩⟩
 ·have hlt:=Y1 hc;refine⟨Y3 hlt,(e,e.lk.held.getD x.val default),⟨⟨⟨rfl,rfl,rfl,Z9⟩,⟨(B5 _),trivial⟩,trivial⟩,ht⟩,λhp=>(L5 hlt hp x.2.2).symm,λhp=>⟨V5 hlt (by omega),x.succ hlt hp,⟨⟨Z8,⟨rfl,S1 _,trivial⟩,rfl,by simp only[V3.succ];omega,trivial⟩,trivial⟩,V3.ext_lt hlt⟩⟩
 ·have hge:=X9 hc;exact(J9 λj hj=>x.2.2 j (vR hj hge)).symm
def a9u:Con:=.rel ⟨Eng,λe=>[zJ e.lk.held,eF1 e],λe=>.bool (anyI e.lk.held.length (zG e)),HlL⟩
theorem a7V(e:Eng)(h:
  ∃(x:Eng),(((Y6 Y5 e.lk.held x.lk.held)/\(Fn.func 159=Fn.func 159/\((y5 e x)/\True)/\True)/\True)/\HlL x)/\decide (R0 x.lk.held.length (zG x)≥(0:Int))=anyI e.lk.held.length (zG e)):
  U3 Tryz.prog 158 [zJ e.lk.held,eF1 e] (.bool (anyI e.lk.held.length (zG e))):=
 S3 (gC a4e gN) Tryz.func158 Z0 h
theorem a2D:GK 158 a9u:=gk Tryz.func158<|λ(e:Eng) h=>a7V e ⟨e,⟨⟨Z8,⟨rfl,⟨(B5 _),trivial⟩,trivial⟩,trivial⟩,h⟩,y8 _ _⟩
def b3W:Con:=.rel ⟨Eng,λe=>[oP e.lk.waits,eF2 e],λe=>.int .i64 (R0 e.lk.waits.length (B3 e)),HlL⟩
def b20(e:Eng):Nat->Ann
 |0=>.one (V3 e.lk.waits.length (B3 e)) (λx=>⟨[(0,oP e.lk.waits),(1,eF2 e),(7,.int .i64 e.lk.waits.length),(8,.int .i64 x.1)],[]⟩) (λx=>e.lk.waits.length-x.1) [] [] (λ_=>Z0)
 |_=>.none
theorem a84:GK 224 b3W:=gk Tryz.func224<|by
 rintro(e:Eng) ⟨ht,h1,h2⟩;have h1:e.lk.held.length<1000000000000:=h1;have h2:e.lk.waits.length<1000000000000:=h2;refine S3 (gC cT gN) Tryz.func224 (b20 e) (α:=(∃(x:V3 e.lk.waits.length (B3 e)),((Y6 X6 e.lk.waits e.lk.waits)/\(Fn.func 161=Fn.func 161/\M2 (λ(x:Nat)=>none) (T.bref [T.bref e.ts]) (T.bref [T.bref e.ts])/\True)/\(e.lk.waits.length:Int)=(e.lk.waits.length:Int)/\(0:Int)=(x.val:Int)/\True)/\True)/\∀(x:V3 e.lk.waits.length (B3 e)),(decide ((x.val:Int)<(e.lk.waits.length:Int))=true->W2 (x.val:Int) e.lk.waits.length/\∃(x_1:(Eng×Wt)),((((e.lk.waits.getD (x.val:Int).toNat default).tx=x_1.2.tx/\(e.lk.waits.getD (x.val:Int).toNat default).fo=x_1.2.fo/\True)/\((y5 e x_1.1)/\True)/\True)/\TxL x_1.1)/\((decide (U4 x_1.1.txs x_1.2.tx<(0:Int))||decide (U4 x_1.1.txs x_1.2.fo<(0:Int)))=true->(x.val:Int)=R0 e.lk.waits.length (B3 e))/\((decide (U4 x_1.1.txs x_1.2.tx<(0:Int))||decide (U4 x_1.1.txs x_1.2.fo<(0:Int)))=false->X2 .i64 ((x.val:Int)+(1:Int))/\∃(y:V3 e.lk.waits.length (B3 e)),(((Y6 X6 e.lk.waits e.lk.waits)/\(Fn.func 161=Fn.func 161/\M2 (λ(x:Nat)=>none) (T.bref [T.bref e.ts]) (T.bref [T.bref e.ts])/\True)/\(e.lk.waits.length:Int)=(e.lk.waits.length:Int)/\(x.val:Int)+(1:Int)=(y.val:Int)/\True)/\True)/\Lt (e.lk.waits.length-y.val) (e.lk.waits.length-x.val)))/\(decide ((x.val:Int)<(e.lk.waits.length:Int))=false->(-1:Int)=R0 e.lk.waits.length (B3 e))) ⟨⟨E8,⟨Z8,⟨rfl,S1 _,trivial⟩,rfl,Z9⟩,trivial⟩,λx=>⟨λhc=> ?_,λhc=> ?_⟩⟩
 ·have hlt:=Y1 hc;refine⟨Y3 hlt,(e,e.lk.waits.getD x.val default),⟨⟨⟨rfl,Z9⟩,⟨(B5 _),trivial⟩,trivial⟩,ht⟩,λhp=>(L5 hlt hp x.2.2).symm,λhp=>⟨V5 hlt (by omega),x.succ hlt hp,⟨⟨Z8,⟨rfl,S1 _,trivial⟩,rfl,by simp only[V3.succ];omega,trivial⟩,trivial⟩,V3.ext_lt hlt⟩⟩
 ·have hge:=X9 hc;exact(J9 λj hj=>x.2.2 j (vR hj hge)).symm
def b2p:Con:=.rel ⟨Eng,λe=>[oP e.lk.waits,eF2 e],λe=>.bool (anyI e.lk.waits.length (B3 e)),HlL⟩
theorem a9Y(e:Eng)(h:
  ∃(x:Eng),(((Y6 X6 e.lk.waits x.lk.waits)/\(Fn.func 161=Fn.func 161/\((y5 e x)/\True)/\True)/\True)/\HlL x)/\decide (R0 x.lk.waits.length (B3 x)≥(0:Int))=anyI e.lk.waits.length (B3 e)):
  U3 Tryz.prog 160 [oP e.lk.waits,eF2 e] (.bool (anyI e.lk.waits.length (B3 e))):=
 S3 (gC a84 gN) Tryz.func160 Z0 h
theorem a8G:GK 160 b2p:=gk Tryz.func160<|λ(e:Eng) h=>a9Y e ⟨e,⟨⟨Z8,⟨rfl,⟨(B5 _),trivial⟩,trivial⟩,trivial⟩,h⟩,y8 _ _⟩
def D7(e:Eng)(i:Nat):Bool:= !V6 (e.txs.getD i default).id 1 (e.next-1)||(decide ((i:Int)>0)&&decide ((e.txs.getD (i-1) default).id≥(e.txs.getD i default).id))|| !qF e.s.log (e.txs.getD i default)
def xS(e:Eng):Bool:=decide (e.txs.length<=10)&&V6 e.next 1 61&&H5 e.lk
def a1Y(e:Eng):Bool:=decide (e.txs.length+e.lk.held.length+e.lk.waits.length+e.s.fr.length=0)
def upE(e:Eng):Bool:= !anyI e.txs.length (D7 e)&& !anyI e.lk.held.length (zG e)&& !anyI e.lk.waits.length (B3 e)&&decide (e.s.log.length+ndE e<=60)
def tV(e:Eng):Bool:=xS e&&(if e.up then upE e else a1Y e)
def c0v(e:Eng):Prop:=wV e.s.log/\b0K e.lk/\N3 e.txs.length/\N3 e.s.fr.length
def a3l:Con:=.rel ⟨Eng,λe=>[.bref e.ts],λe=>.bool (tV e),c0v⟩
def b9X(e:Eng):Option Ob:=some (.arr true 1000000 1 1 λ_=>[.bref e.ts])
def a4P(e:Eng):Nat->Ann
 |0=>.one (V3 e.txs.length (D7 e)) (λx=>⟨[(1,.ref 0 0 0),(62,vP e.txs),(63,.int .i64 e.txs.length),(64,.int .i64 x.1)],[b9X e]⟩) (λx=>e.txs.length-x.1) [.box 0] [.box 0] (λ_=>Z0)
 |_=>.none
theorem b0t(e:Eng):(decide ((e.txs.length:Int)>10)|| !V6 e.next 1 61|| !H5 e.lk)= !xS e:=by
 unfold xS;rw[Bool.not_and,Bool.not_and,←decide_not];congr 2
 exact decide_eq_decide.2 (by omega)
theorem a6K{e:Eng}(h:xS e=false):tV e=false:=by unfold tV;rw[h];rfl
theorem a57{e:Eng}(h:xS e=true)(hu:e.up=true):tV e=upE e:=by unfold tV;rw[h,if_pos hu];rfl
theorem a6d{e:Eng}(h:xS e=true)(hu:e.up=false):tV e=a1Y e:=by unfold tV;rw[h,hu];rfl
theorem a3M{e:Eng}{i:Nat}(hi:i<e.txs.length)(h:D7 e i=true):upE e=false:=by
 have:anyI e.txs.length (D7 e)=true:=O1.2 ⟨i,hi,h⟩;unfold upE;rw[this];rfl
theorem b8Q{e:Eng}{i:Nat}(hi:i<e.lk.held.length)(h:zG e i=true):upE e=false:=by
 have:anyI e.lk.held.length (zG e)=true:=O1.2 ⟨i,hi,h⟩;unfold upE;rw[this];simp
theorem b8y{e:Eng}{i:Nat}(hi:i<e.lk.waits.length)(h:B3 e i=true):upE e=false:=by
 have:anyI e.lk.waits.length (B3 e)=true:=O1.2 ⟨i,hi,h⟩;unfold upE;rw[this];simp
theorem yD{e:Eng}(h:xS e=true):e.txs.length<=10/\1<=e.next/\e.next<=61/\H5 e.lk=true:=by
 unfold xS at h;simp only[I3,m5,L7] at h;exact⟨h.1.1,h.1.2.1,h.1.2.2,h.2⟩
theorem b7t{e:Eng}(hL:wV e.s.log)(h:xS e=true)(hb:∀i,i<e.txs.length->D7 e i=false):a4b e:=by
 refine⟨hL,(yD h).1,λi hi=> ?_⟩
 have:=hb i hi;unfold D7 at this;simp only[tU,xE] at this;have:=this.2;unfold qF at this;simp only[I3,L7] at this;exact this.1.2
theorem a0A:GK 88 a3l:=gk Tryz.func88<|by
 rintro(e:Eng) ⟨hL,hk,ht,hf⟩;have ht:e.txs.length<1000000000000:=ht;have hf:e.s.fr.length<1000000000000:=hf;have hk1:e.lk.held.length<1000000000000:=hk.1;have hk2:e.lk.waits.length<1000000000000:=hk.2;refine S3 (gC N4 (gC a1r (gC a32 (gC a2D (gC a8G (gC a2V gN)))))) Tryz.func88 (a4P e) (α:=∃(x:uQ.ι),((decide ((e.txs.length:Int)>(10:Int))|| !V6 e.next (1:Int) (61:Int))=false->(((Y6 Y5 e.lk.held x.held)/\(Y6 X6 e.lk.waits x.waits)/\True)/\True)/\b0K x)/\((decide ((e.txs.length:Int)>(10:Int))|| !V6 e.next (1:Int) (61:Int)|| !H5 x)=true->false=tV e)/\((decide ((e.txs.length:Int)>(10:Int))|| !V6 e.next (1:Int) (61:Int)|| !H5 x)=false->((!e.up)=true->X2 .i64 ((e.txs.length:Int)+(e.lk.held.length:Int))/\X2 .i64 ((e.txs.length:Int)+(e.lk.held.length:Int)+(e.lk.waits.length:Int))/\X2 .i64 ((e.txs.length:Int)+(e.lk.held.length:Int)+(e.lk.waits.length:Int)+(e.s.fr.length:Int))/\((e.txs.length:Int)+(e.lk.held.length:Int)+(e.lk.waits.length:Int)+(e.s.fr.length:Int)==(0:Int))=tV e)/\((!e.up)=false->(∃(x:V3 e.txs.length (D7 e)),((0=0/\0=0)/\(Y6 X5 e.txs e.txs)/\(e.txs.length:Int)=(e.txs.length:Int)/\(0:Int)=(x.val:Int)/\True)/\(1=1/\1=1/\M2 (v5 [some 0]) (T.bref e.ts) (T.bref e.ts)/\True)/\True)/\∀(x:V3 e.txs.length (D7 e)),(decide ((x.val:Int)<(e.txs.length:Int))=true->W2 (x.val:Int) e.txs.length/\X2 .i64 (e.next- (1:Int))/\((!V6 (e.txs.getD (x.val:Int).toNat default).id (1:Int) (e.next- (1:Int)))=false->decide ((x.val:Int)>(0:Int))=true->X2 .i64 ((x.val:Int)- (1:Int)))/\((!V6 (e.txs.getD (x.val:Int).toNat default).id (1:Int) (e.next- (1:Int)))=false->decide ((x.val:Int)>(0:Int))=true->W2 ((x.val:Int)- (1:Int)) e.txs.length)/\∃(x_1:(Sto×Txn)),((!V6 (e.txs.getD (x.val:Int).toNat default).id (1:Int) (e.next- (1:Int))||decide ((x.val:Int)>(0:Int))&&decide ((e.txs.getD ((x.val:Int)- (1:Int)).toNat default).id≥(e.txs.getD (x.val:Int).toNat default).id))=false->((yI e.s x_1.1)/\((e.txs.getD (x.val:Int).toNat default).id=x_1.2.id/\(e.txs.getD (x.val:Int).toNat default).last=x_1.2.last/\True)/\True)/\wV x_1.1.log)/\((!V6 (e.txs.getD (x.val:Int).toNat default).id (1:Int) (e.next- (1:Int))||decide ((x.val:Int)>(0:Int))&&decide ((e.txs.getD ((x.val:Int)- (1:Int)).toNat default).id≥(e.txs.getD (x.val:Int).toNat default).id)|| !qF x_1.1.log x_1.2)=true->false=tV e)/\((!V6 (e.txs.getD (x.val:Int).toNat default).id (1:Int) (e.next- (1:Int))||decide ((x.val:Int)>(0:Int))&&decide ((e.txs.getD ((x.val:Int)- (1:Int)).toNat default).id≥(e.txs.getD (x.val:Int).toNat default).id)|| !qF x_1.1.log x_1.2)=false->X2 .i64 ((x.val:Int)+(1:Int))/\∃(y:V3 e.txs.length (D7 e)),(((0=0/\0=0)/\(Y6 X5 e.txs e.txs)/\(e.txs.length:Int)=(e.txs.length:Int)/\(x.val:Int)+(1:Int)=(y.val:Int)/\True)/\(1=1/\1=1/\M2 (v5 [some 0]) (T.bref e.ts) (T.bref e.ts)/\True)/\True)/\Lt (e.txs.length-y.val) (e.txs.length-x.val)))/\(decide ((x.val:Int)<(e.txs.length:Int))=false->∃(x:Eng),(((Y6 Y5 e.lk.held x.lk.held)/\(Fn.func 159=Fn.func 159/\((y5 e x)/\True)/\True)/\True)/\HlL x)/\∃(x_1:Eng),(anyI x.lk.held.length (zG x)=false->((Y6 X6 e.lk.waits x_1.lk.waits)/\(Fn.func 161=Fn.func 161/\((y5 e x_1)/\True)/\True)/\True)/\HlL x_1)/\((anyI x.lk.held.length (zG x)||anyI x_1.lk.waits.length (B3 x_1))=true->false=tV e)/\((anyI x.lk.held.length (zG x)||anyI x_1.lk.waits.length (B3 x_1))=false->∃(x:(Eng×Int)),(((y5 e x.1)/\(0:Int)=x.2/\True)/\a4b x.1/\t8 x.2)/\decide ((x.1.s.log.length:Int)+(↑(ndE x.1):Int)+x.2<=(60:Int))=tV e))))) ⟨e.lk,λ_=>⟨⟨⟨Z8,X8⟩,trivial⟩,hk⟩,λhb=> ?_,λhb=>⟨λhu=> ?_,λhu=> ?_⟩⟩
 ·rw[b0t] at hb;rw[a6K (by simpa using hb)]
 ·rw[b0t] at hb;rw[a6d (by simpa using hb) (by simpa using hu)]
  refine⟨Z4 (by omega),Z4 (by omega),Z4 (by omega),?_⟩
  unfold a1Y;rw[Bool.eq_iff_iff,beq_iff_eq,m5];omega
 ·rw[b0t] at hb;have hh:xS e=true:=by simpa using hb
  have hu':e.up=true:=by simpa using hu
  obtain⟨q1,q2,q3,q4⟩:=yD hh;rw[a57 hh hu'];refine⟨⟨E8,⟨Z7,Z8,rfl,Z9⟩,⟨rfl,rfl,S1 _,trivial⟩,trivial⟩,λx=>⟨λhc=> ?_,λhc=> ?_⟩⟩
  ·have hlt:=Y1 hc;refine⟨Y3 hlt,Z4 (by omega),λ_ _=>Z4 (by omega),λ_ h0=>⟨by have:=E9 h0;omega,by omega⟩,(e.s,e.txs.getD x.val default),λ_=>⟨⟨(yH _),⟨rfl,Z9⟩,trivial⟩,hL⟩,λhq=> ?_,λhq=> ?_⟩
   ·rw[z7,show((x.val:Int)-1).toNat=x.val-1 by omega] at hq
    exact(a3M hlt hq).symm
   ·rw[z7,show((x.val:Int)-1).toNat=x.val-1 by omega] at hq
    exact⟨V5 hlt (by omega),x.succ hlt hq,⟨⟨Z7,Z8,rfl,by simp only[V3.succ];omega,trivial⟩,⟨rfl,rfl,S1 _,trivial⟩,trivial⟩,V3.ext_lt hlt⟩
  ·have hge:=X9 hc;have hno:∀i,i<e.txs.length->D7 e i=false:=λi hi=>x.2.2 i (vR hi hge)
   have hn:=b7t hL hh hno;have e1:anyI e.txs.length (D7 e)=false:=K6.2 hno;refine⟨e,⟨⟨Z8,⟨rfl,⟨(B5 _),trivial⟩,trivial⟩,trivial⟩,ht,hk1,hk2⟩,e,λ_=>⟨⟨Z8,⟨rfl,⟨(B5 _),trivial⟩,trivial⟩,trivial⟩,ht,hk1,hk2⟩,λhq=> ?_,λhq=>⟨(e,0),⟨⟨(B5 _),Z9⟩,hn,by unfold t8;dsimp only;omega⟩,?_⟩⟩
   ·unfold upE;rw[e1];simp only[nO] at hq;rcases hq with hq|hq<;>rw[hq]<;>simp
   ·simp only[tU] at hq;unfold upE;rw[e1,hq.1,hq.2];simp only[Bool.not_false,Bool.true_and];exact decide_eq_decide.2 (by omega)
noncomputable def K8(e:Eng):Bool:=K7 e.s&&tV e
def eR(e:Eng):Prop:=b2B e.s/\b0K e.lk/\N3 e.txs.length
noncomputable def vV:Rl:=⟨Eng,λe=>[.agg e.ts],λe=>.bool (K8 e),eR⟩
noncomputable def a1b:Con:=.rel vV
noncomputable def aZ:Con:=.rel vV
theorem fG{s:Sto}(h:K7 s=true):wV s.log:=by
 obtain⟨⟨h1,h2,_⟩,_⟩:=(K1 s).1 h;exact⟨((u9 s).1 h1).2.2.2.2,λi hi=>by
  obtain⟨a,b⟩:=z9.1 h2 i hi;exact⟨(Q1 _).1 a,b⟩⟩
theorem fJ:GK 41 a1b:=gk Tryz.func41<|by
 rintro(e:Eng) ⟨h1,h2,h3⟩;exact S3 (gC a1e (gC a0A gN)) Tryz.func41 Z0 (α:=∃(x:uH.ι),(((yI e.s x)/\True)/\b2B x)/\∃(x_1:Eng),(K7 x=true->((y5 e x_1)/\True)/\c0v x_1)/\(K7 x&&tV x_1)=K8 e) ⟨e.s,⟨⟨(yH _),trivial⟩,h1⟩,e,λhs=>⟨⟨(B5 _),trivial⟩,fG hs,h2,h3,h1.2.2.1.1⟩,rfl⟩
def Chs(L:List Rec)(t:Txn):Type:={x:Nat×Int//(decide (x.2<=0)||chn L t.id x.1 x.2)=qF L t/\x.2<=(L.length:Int)/\x.2.toNat<x.1}
def a09(e:Eng):Nat->Ann
 |0=>.one (V3 e.txs.length (D7 e)) (λx=>⟨[(1,.ref 0 0 0),(3,.int .i64 x.1)],[uZ e]⟩) (λx=>e.txs.length-x.1) [.box 0] [.box 0] (λx=>fun
  |1=>.one (Chs e.s.log (e.txs.getD x.1 default)) (λy=>⟨[(1,.ref 0 0 0),(3,.int .i64 x.1),(4,.ref 1 0 0),(5,.int .i64 y.1.2)],[uZ e,b3I (e.txs.getD x.1 default)]⟩) (λy=>y.1.1) [.box 0,.box 1] [.box 0,.box 1] (λ_=>Z0)
  |2=>.one (V3 e.lk.held.length (zG e)) (λy=>⟨[(1,.ref 0 0 0),(7,.int .i64 y.1)],[uZ e]⟩) (λy=>e.lk.held.length-y.1) [.box 0] [.box 0] (λ_=>fun
   |3=>.one (V3 e.lk.waits.length (B3 e)) (λz=>⟨[(1,.ref 0 0 0),(8,.int .i64 z.1)],[uZ e]⟩) (λz=>e.lk.waits.length-z.1) [.box 0] [.box 0] (λ_=>Z0)
   |_=>.none)
  |_=>.none)
 |_=>.none
theorem c05{L:List Rec}(hL:wV L)(id:Int){at_:Int}(h1:1<=at_)(h2:at_<=L.length):
  ((Y4 L at_).t !=id||(Y4 L at_).k==4||(Y4 L at_).k==5||(Y4 L at_).k==6||(Y4 L at_).k==3&& !gU L (Y4 L at_))= !okR L id at_:=by
 obtain⟨hr,hl⟩:=hL.at h1 h2;obtain⟨p1,p2,p3,p4⟩:=hL.prev h1 h2;obtain⟨_,_,_,_,k1,k2,_⟩:=hr;unfold okR ownR;rw[L7.2 ⟨h1,h2⟩,Bool.true_and];by_cases ht:(Y4 L at_).t=id
 ·rw[show((Y4 L at_).t !=id)=false by simpa using ht,show((Y4 L at_).t==id)=true by simpa using ht,Bool.false_or,Bool.true_and]
  by_cases hk:(Y4 L at_).k<=3
  ·rw[L7.2 ⟨k1,hk⟩,show((Y4 L at_).k==4)=false by rw[beq_eq_false_iff_ne];omega,show((Y4 L at_).k==5)=false by rw[beq_eq_false_iff_ne];omega,show((Y4 L at_).k==6)=false by rw[beq_eq_false_iff_ne];omega]
   simp only[Bool.false_or,Bool.true_and];by_cases h3:(Y4 L at_).k=3
   ·rw[show((Y4 L at_).k==3)=true by simpa using h3,show((Y4 L at_).k !=3)=false by simpa using h3,Bool.true_and,Bool.false_or]
    congr 1
    unfold gU;by_cases hn:(Y4 L at_).n>0
    ·obtain⟨hr2,_⟩:=hL.at (show 1<=(Y4 L at_).n by omega) (by omega)
     have k3:1<=(Y4 L (Y4 L at_).n).k:=hr2.2.2.2.2.1;rw[iO hn,L7.2 (show 1<=(Y4 L at_).n/\(Y4 L at_).n<=(L.length:Int) by omega),Bool.true_and,Bool.true_and,ht]
     congr 1
     unfold V6;rw[iO k3,Bool.true_and]
    ·rw[tW hn,show V6 (Y4 L at_).n 1 L.length=false from Bool.eq_false_iff.2 λh=>by have:=L7.1 h;omega]
     rfl
   ·rw[show((Y4 L at_).k==3)=false by simpa using h3,show((Y4 L at_).k !=3)=true by simpa using h3]
    rfl
  ·rw[show V6 (Y4 L at_).k 1 3=false from Bool.eq_false_iff.2 λh=>by have:=L7.1 h;omega]
   simp only[Bool.false_and,Bool.not_false,nO,beq_iff_eq];exact .inl (by omega)
 ·rw[show((Y4 L at_).t !=id)=true by simpa using ht,show((Y4 L at_).t==id)=false by simpa using ht]
  rfl
theorem b38(e:Eng):(!K7 e.s||decide ((e.txs.length:Int)>10)|| !H5 e.lk|| !V6 e.next 1 61)= !(K7 e.s&&xS e):=by
 unfold xS;rw[show decide ((e.txs.length:Int)>10)= !decide (e.txs.length<=10) by rw[←decide_not];exact decide_eq_decide.2 (by omega)]
 cases K7 e.s<;>cases decide (e.txs.length<=10)<;>cases H5 e.lk<;>cases V6 e.next 1 61<;>rfl
theorem eE:GK 35 aZ:=gk Tryz.func35<|by
 rintro(e:Eng) ⟨hS,hk,ht⟩;have ht:e.txs.length<1000000000000:=ht;have hk1:e.lk.held.length<1000000000000:=hk.1;have hk2:e.lk.waits.length<1000000000000:=hk.2;refine S3 (gC a1N (gC a1E (gC o8 (gC a4k (gC aR (gC jK gN)))))) Tryz.func35 (a09 e) (α:=∃(x:uH.ι),(((yI e.s x)/\True)/\b2B x)/\∃(x_1:uQ.ι),((!K7 x||decide ((e.txs.length:Int)>(10:Int)))=false->(((Y6 Y5 e.lk.held x_1.held)/\(Y6 X6 e.lk.waits x_1.waits)/\True)/\True)/\b0K x_1)/\((!K7 x||decide ((e.txs.length:Int)>(10:Int))|| !H5 x_1|| !V6 e.next (1:Int) (61:Int))=true->false=K8 e)/\((!K7 x||decide ((e.txs.length:Int)>(10:Int))|| !H5 x_1|| !V6 e.next (1:Int) (61:Int))=false->((!e.up)=true->((e.txs.length:Int)==(0:Int)&&(e.lk.held.length:Int)==(0:Int)&&(e.lk.waits.length:Int)==(0:Int)&&(e.s.fr.length:Int)==(0:Int))=K8 e)/\((!e.up)=false->(∃(x:V3 e.txs.length (D7 e)),((0=0/\0=0)/\(0:Int)=(x.val:Int)/\True)/\(1=1/\1=1/\y5 e e)/\True)/\∀(x:V3 e.txs.length (D7 e)),(decide ((x.val:Int)<(e.txs.length:Int))=true->W2 (x.val:Int) e.txs.length/\X2 .i64 (e.next- (1:Int))/\((!V6 (e.txs.getD (x.val:Int).toNat default).id (1:Int) (e.next- (1:Int)))=false->decide ((x.val:Int)>(0:Int))=true->X2 .i64 ((x.val:Int)- (1:Int)))/\((!V6 (e.txs.getD (x.val:Int).toNat default).id (1:Int) (e.next- (1:Int)))=false->decide ((x.val:Int)>(0:Int))=true->W2 ((x.val:Int)- (1:Int)) e.txs.length)/\((!V6 (e.txs.getD (x.val:Int).toNat default).id (1:Int) (e.next- (1:Int))||decide ((x.val:Int)>(0:Int))&&decide ((e.txs.getD ((x.val:Int)- (1:Int)).toNat default).id≥(e.txs.getD (x.val:Int).toNat default).id)|| !V6 (e.txs.getD (x.val:Int).toNat default).last (1:Int) (e.s.log.length:Int))=true->false=K8 e)/\((!V6 (e.txs.getD (x.val:Int).toNat default).id (1:Int) (e.next- (1:Int))||decide ((x.val:Int)>(0:Int))&&decide ((e.txs.getD ((x.val:Int)- (1:Int)).toNat default).id≥(e.txs.getD (x.val:Int).toNat default).id)|| !V6 (e.txs.getD (x.val:Int).toNat default).last (1:Int) (e.s.log.length:Int))=false->(∃(x_2:Chs e.s.log (e.txs.getD x.val default)),((0=0/\0=0)/\(x.val:Int)=(x.val:Int)/\(0=0/\0=0)/\(e.txs.getD (x.val:Int).toNat default).last=x_2.val.2/\True)/\(1=1/\1=1/\y5 e e)/\(1=1/\1=1/\(e.txs.getD (x.val:Int).toNat default).id=(e.txs.getD x.val default).id/\(e.txs.getD (x.val:Int).toNat default).last=(e.txs.getD x.val default).last/\True)/\True)/\∀(x_2:Chs e.s.log (e.txs.getD x.val default)),(decide (x_2.val.2>(0:Int))=true->X2 .i64 (x_2.val.2- (1:Int))/\W2 (x_2.val.2- (1:Int)) e.s.log.length/\∃(x_3:(Sto×Rec)),(((e.s.log.getD (x_2.val.2- (1:Int)).toNat default).t !=(e.txs.getD x.val default).id||(e.s.log.getD (x_2.val.2- (1:Int)).toNat default).k==(4:Int)||(e.s.log.getD (x_2.val.2- (1:Int)).toNat default).k==(5:Int)||(e.s.log.getD (x_2.val.2- (1:Int)).toNat default).k==(6:Int))=false->((e.s.log.getD (x_2.val.2- (1:Int)).toNat default).k==(3:Int))=true->((yI e.s x_3.1)/\((e.s.log.getD (x_2.val.2- (1:Int)).toNat default).e=x_3.2.e/\(e.s.log.getD (x_2.val.2- (1:Int)).toNat default).l=x_3.2.l/\(e.s.log.getD (x_2.val.2- (1:Int)).toNat default).t=x_3.2.t/\(e.s.log.getD (x_2.val.2- (1:Int)).toNat default).k=x_3.2.k/\(e.s.log.getD (x_2.val.2- (1:Int)).toNat default).p=x_3.2.p/\(e.s.log.getD (x_2.val.2- (1:Int)).toNat default).n=x_3.2.n/\(e.s.log.getD (x_2.val.2- (1:Int)).toNat default).g=x_3.2.g/\(e.s.log.getD (x_2.val.2- (1:Int)).toNat default).s=x_3.2.s/\(e.s.log.getD (x_2.val.2- (1:Int)).toNat default).b=x_3.2.b/\(e.s.log.getD (x_2.val.2- (1:Int)).toNat default).a=x_3.2.a/\True)/\True)/\x_3.2.n<=(x_3.1.log.length:Int)/\N3 x_3.1.log.length)/\(((e.s.log.getD (x_2.val.2- (1:Int)).toNat default).t !=(e.txs.getD x.val default).id||(e.s.log.getD (x_2.val.2- (1:Int)).toNat default).k==(4:Int)||(e.s.log.getD (x_2.val.2- (1:Int)).toNat default).k==(5:Int)||(e.s.log.getD (x_2.val.2- (1:Int)).toNat default).k==(6:Int)||(e.s.log.getD (x_2.val.2- (1:Int)).toNat default).k==(3:Int)&& !gU x_3.1.log x_3.2)=true->false=K8 e)/\(((e.s.log.getD (x_2.val.2- (1:Int)).toNat default).t !=(e.txs.getD x.val default).id||(e.s.log.getD (x_2.val.2- (1:Int)).toNat default).k==(4:Int)||(e.s.log.getD (x_2.val.2- (1:Int)).toNat default).k==(5:Int)||(e.s.log.getD (x_2.val.2- (1:Int)).toNat default).k==(6:Int)||(e.s.log.getD (x_2.val.2- (1:Int)).toNat default).k==(3:Int)&& !gU x_3.1.log x_3.2)=false->X2 .i64 (x_2.val.2- (1:Int))/\W2 (x_2.val.2- (1:Int)) e.s.log.length/\∃(y:Chs e.s.log (e.txs.getD x.val default)),(((0=0/\0=0)/\(x.val:Int)=(x.val:Int)/\(0=0/\0=0)/\(e.s.log.getD (x_2.val.2- (1:Int)).toNat default).p=y.val.2/\True)/\(1=1/\1=1/\y5 e e)/\(1=1/\1=1/\(e.txs.getD x.val default).id=(e.txs.getD x.val default).id/\(e.txs.getD x.val default).last=(e.txs.getD x.val default).last/\True)/\True)/\Lt y.val.1 x_2.val.1))/\(decide (x_2.val.2>(0:Int))=false->X2 .i64 ((x.val:Int)+(1:Int))/\∃(y:V3 e.txs.length (D7 e)),(((0=0/\0=0)/\(x.val:Int)+(1:Int)=(y.val:Int)/\True)/\(1=1/\1=1/\y5 e e)/\True)/\Lt (e.txs.length-y.val) (e.txs.length-x.val))))/\(decide ((x.val:Int)<(e.txs.length:Int))=false->(∃(x:V3 e.lk.held.length (zG e)),((0=0/\0=0)/\(0:Int)=(x.val:Int)/\True)/\(1=1/\1=1/\y5 e e)/\True)/\∀(x:V3 e.lk.held.length (zG e)),(decide ((x.val:Int)<(e.lk.held.length:Int))=true->W2 (x.val:Int) e.lk.held.length/\∃(x_2:(Eng×Int)),(((y5 e x_2.1)/\(e.lk.held.getD (x.val:Int).toNat default).tx=x_2.2/\True)/\N3 x_2.1.txs.length)/\(decide (U4 x_2.1.txs x_2.2<(0:Int))=true->false=K8 e)/\(decide (U4 x_2.1.txs x_2.2<(0:Int))=false->X2 .i64 ((x.val:Int)+(1:Int))/\∃(y:V3 e.lk.held.length (zG e)),(((0=0/\0=0)/\(x.val:Int)+(1:Int)=(y.val:Int)/\True)/\(1=1/\1=1/\y5 e e)/\True)/\Lt (e.lk.held.length-y.val) (e.lk.held.length-x.val)))/\(decide ((x.val:Int)<(e.lk.held.length:Int))=false->(∃(x:V3 e.lk.waits.length (B3 e)),((0=0/\0=0)/\(0:Int)=(x.val:Int)/\True)/\(1=1/\1=1/\y5 e e)/\True)/\∀(x:V3 e.lk.waits.length (B3 e)),(decide ((x.val:Int)<(e.lk.waits.length:Int))=true->W2 (x.val:Int) e.lk.waits.length/\∃(x_2:(Eng×Int)),(((y5 e x_2.1)/\(e.lk.waits.getD (x.val:Int).toNat default).tx=x_2.2/\True)/\N3 x_2.1.txs.length)/\(decide (U4 x_2.1.txs x_2.2<(0:Int))=false->W2 (x.val:Int) e.lk.waits.length)/\∃(x_3:(Eng×Int)),(decide (U4 x_2.1.txs x_2.2<(0:Int))=false->((y5 e x_3.1)/\(e.lk.waits.getD (x.val:Int).toNat default).fo=x_3.2/\True)/\N3 x_3.1.txs.length)/\((decide (U4 x_2.1.txs x_2.2<(0:Int))||decide (U4 x_3.1.txs x_3.2<(0:Int)))=true->false=K8 e)/\((decide (U4 x_2.1.txs x_2.2<(0:Int))||decide (U4 x_3.1.txs x_3.2<(0:Int)))=false->X2 .i64 ((x.val:Int)+(1:Int))/\∃(y:V3 e.lk.waits.length (B3 e)),(((0=0/\0=0)/\(x.val:Int)+(1:Int)=(y.val:Int)/\True)/\(1=1/\1=1/\y5 e e)/\True)/\Lt (e.lk.waits.length-y.val) (e.lk.waits.length-x.val)))/\(decide ((x.val:Int)<(e.lk.waits.length:Int))=false->∃(x:Eng),(((y5 e x)/\True)/\a4b x)/\X2 .i64 ((e.s.log.length:Int)+(↑(ndE x):Int))/\decide ((e.s.log.length:Int)+(↑(ndE x):Int)<=(60:Int))=K8 e)))))) ⟨e.s,⟨⟨(yH _),trivial⟩,hS⟩,e.lk,λ_=>⟨⟨⟨Z8,X8⟩,trivial⟩,hk⟩,λhb=> ?_,λhb=> ?_⟩
 ·rw[b38] at hb;unfold K8;cases h1:K7 e.s
  ·rfl
  ·rw[h1] at hb;rw[a6K (by simpa using hb)]
   rfl
 rw[b38] at hb;simp only[xE,I3] at hb;obtain⟨hs,hh⟩:=hb;have hL:=fG hs;have h60:=hL.1;obtain⟨q1,q2,q3,q4⟩:=yD hh;have eo:K8 e=tV e:=by unfold K8;rw[hs,Bool.true_and]
 refine⟨λhu=> ?_,λhu=> ?_⟩
 ·rw[eo,a6d hh (by simpa using hu)]
  unfold a1Y;rw[Bool.eq_iff_iff];simp only[I3,beq_iff_eq,m5];omega
 ·have hu':e.up=true:=by simpa using hu
  rw[eo,a57 hh hu'];refine⟨⟨E8,⟨Z7,Z9⟩,⟨rfl,rfl,B5 _⟩,trivial⟩,λx=>⟨λhc=> ?_,λhc=> ?_⟩⟩
  ·have hlt:=Y1 hc;rw[z7,show((x.val:Int)-1).toNat=x.val-1 by omega]
   refine⟨Y3 hlt,Z4 (by omega),λ_ _=>Z4 (by omega),λ_ h0=>⟨by have:=E9 h0;omega,by omega⟩,λhq=> ?_,λhq=> ?_⟩
   ·refine(a3M hlt ?_).symm
    unfold D7 qF;rw[Bool.not_and,←Bool.or_assoc,hq];rfl
   ·simp only[tU,xE] at hq;obtain⟨⟨r1,r2⟩,r3⟩:=hq;obtain⟨l1,l2⟩:=L7.1 r3;refine⟨⟨⟨(61,(e.txs.getD x.val default).last),?_,l2,by dsimp only;omega⟩,⟨⟨rfl,rfl⟩,rfl,⟨rfl,rfl⟩,rfl,trivial⟩,⟨rfl,rfl,B5 _⟩,⟨rfl,rfl,rfl,rfl,trivial⟩,trivial⟩,λy=> ?_⟩
    ·dsimp only;unfold qF;rw[tW (by omega),r3]
     rfl
    obtain⟨⟨f,at_⟩,he,hle,hf⟩:=y;dsimp only at he hle hf ⊢;refine⟨λhy=> ?_,λhy=> ?_⟩
    ·have h0:at_>0:=E9 hy;have h1:1<=at_:=by omega
     obtain⟨p1,p2,p3,p4⟩:=hL.prev h1 hle;rw[tW (by omega),Bool.false_or,lN _ _ (by omega) h1] at he
     have es:=c05 hL (e.txs.getD x.val default).id h1 hle;refine⟨Z4 (by omega),⟨by omega,by omega⟩,(e.s,Y4 e.s.log at_),λ_ _=>⟨⟨(yH _),⟨rfl,rfl,rfl,rfl,rfl,rfl,rfl,rfl,rfl,Z9⟩,trivial⟩,by dsimp only;omega,by unfold N3;dsimp only;omega⟩,λhq=> ?_,λhq=> ?_⟩
     ·have hq:=es.symm.trans hq;refine(a3M hlt ?_).symm
      rw[show okR e.s.log (e.txs.getD x.val default).id at_=false by simpa using hq] at he
      unfold D7;rw[←he];simp
     ·have hq:=es.symm.trans hq;rw[show okR e.s.log (e.txs.getD x.val default).id at_=true by simpa using hq,Bool.true_and] at he
      refine⟨Z4 (by omega),⟨by omega,by omega⟩,⟨(f-1,(Y4 e.s.log at_).p),?_,by dsimp only;omega,by dsimp only;omega⟩,⟨⟨⟨rfl,rfl⟩,rfl,⟨rfl,rfl⟩,rfl,trivial⟩,⟨rfl,rfl,B5 _⟩,⟨rfl,rfl,rfl,rfl,trivial⟩,trivial⟩,show f-1<f by omega⟩
      dsimp only;rw[←he];by_cases hp:(Y4 e.s.log at_).p<=0
      ·rw[aD _ _ _ hp,Bool.or_true]
      ·rw[tW hp,Bool.false_or]
    ·have h0:at_<=0:=by have:=yG hy;omega
     rw[iO h0,Bool.true_or] at he;exact⟨V5 hlt (by omega),x.succ hlt (by unfold D7;rw[←he,r1,r2];rfl),⟨⟨⟨rfl,rfl⟩,by simp only[V3.succ];omega,trivial⟩,⟨rfl,rfl,B5 _⟩,trivial⟩,V3.ext_lt hlt⟩
  ·have hge:=X9 hc;have hno:∀i,i<e.txs.length->D7 e i=false:=λi hi=>x.2.2 i (vR hi hge)
   have hn:=b7t hL hh hno;refine⟨⟨E8,⟨Z7,Z9⟩,⟨rfl,rfl,B5 _⟩,trivial⟩,λy=>⟨λhy=> ?_,λhy=>⟨⟨E8,⟨Z7,Z9⟩,⟨rfl,rfl,B5 _⟩,trivial⟩,λz=>⟨λhz=> ?_,λhz=> ?_⟩⟩⟩⟩
   ·have hlt:=Y1 hy;exact⟨Y3 hlt,(e,(e.lk.held.getD y.val default).tx),⟨⟨(B5 _),Z9⟩,ht⟩,λhq=>(b8Q hlt hq).symm,λhq=>⟨V5 hlt (by omega),y.succ hlt hq,⟨⟨Z7,by simp only[V3.succ];omega,trivial⟩,⟨rfl,rfl,B5 _⟩,trivial⟩,V3.ext_lt hlt⟩⟩
   ·have hlt:=Y1 hz;exact⟨Y3 hlt,(e,(e.lk.waits.getD z.val default).tx),⟨⟨(B5 _),Z9⟩,ht⟩,λ_=>Y3 hlt,(e,(e.lk.waits.getD z.val default).fo),λ_=>⟨⟨(B5 _),Z9⟩,ht⟩,λhq=>(b8y hlt hq).symm,λhq=>⟨V5 hlt (by omega),z.succ hlt hq,⟨⟨Z7,by simp only[V3.succ];omega,trivial⟩,⟨rfl,rfl,B5 _⟩,trivial⟩,V3.ext_lt hlt⟩⟩
   ·have g1:=X9 hy;have g2:=X9 hz;have hb:=cC e.s.log e.txs e.txs.length;have he:ndE e=mT e.s.log e.txs e.txs.length:=rfl;refine⟨e,⟨⟨(B5 _),trivial⟩,hn⟩,Z4 (by omega),?_⟩
    have e1:anyI e.txs.length (D7 e)=false:=K6.2 hno;have e2:anyI e.lk.held.length (zG e)=false:=K6.2 λi hi=>y.2.2 i (vR hi g1)
    have e3:anyI e.lk.waits.length (B3 e)=false:=K6.2 λi hi=>z.2.2 i (vR hi g2)
    unfold upE;rw[e1,e2,e3];simp only[Bool.not_false,Bool.true_and];exact decide_eq_decide.2 (by omega)
end Go.Proofs.YtokaojbaacnngaaGreat

