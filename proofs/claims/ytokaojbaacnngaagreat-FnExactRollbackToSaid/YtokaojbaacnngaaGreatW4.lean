/- A part of the proof. -/
import Derived.Test.YtokaojbaacnngaaGreatW3
namespace Go.Proofs.YtokaojbaacnngaaGreat
set_option maxRecDepth 100000
open Go.SS

def nM(L:List Rec)(T:List Txn):Nat->Nat
 |0=>0
 |k+1=>nM L T k+(1+und L 61 (T.getD k default).last)
def ndE(e:Eng):Nat:=nM e.s.log e.txs e.txs.length
def a2g(e:Eng):Prop:=xD e.s.log/\e.txs.length<=10/\∀i,i<e.txs.length->(e.txs.getD i default).last<=(e.s.log.length:Int)
theorem eC(L:List Rec)(T:List Txn):∀k,nM L T k<=62*k:=by
 intro k;induction k with
 |zero=>exact V2 0
 |succ k ih=>unfold nM;have:=dO L 61 (T.getD k default).last;omega
def b2g:Con:=.rel ⟨Eng,λe=>[.bref e.ts],λe=>.int .i64 (ndE e),a2g⟩
def a9y(e:Eng):Nat->Ann
 |0=>.one {i:Nat//i<=e.txs.length} (λx=>⟨[(0,.bref e.ts),(3,.int .i64 (nM e.s.log e.txs x.1)),(9,wF e.txs),(10,.int .i64 e.txs.length),(11,.int .i64 x.1)],[]⟩) (λx=>e.txs.length-x.1) [] [] (λ_=>Z0)
 |_=>.none
theorem a1i{L:List Rec}{T:List Txn}{i:Nat}:((nM L T i:Nat):Int)+((1+und L 61 (T.getD i default).last:Nat):Int)=(nM L T (i+1):Nat):=by
 conv=>rhs;unfold nM
 omega
theorem a8k:GK 179 b2g:=gk Tryz.func179<|by
 rintro(e:Eng) ⟨hL,h10,hb⟩;refine S6 (gC a6G gN) Tryz.func179 (a9y e) (α:=(∃(x:{i:Nat//i<=e.txs.length}),(M2 (λ(x:Nat)=>none) (T.bref e.ts) (T.bref e.ts)/\(0:Int)=(↑(nM e.s.log e.txs x.val):Int)/\(Y5 X0 e.txs e.txs)/\(e.txs.length:Int)=(e.txs.length:Int)/\(0:Int)=(x.val:Int)/\True)/\True)/\∀(x:{i:Nat//i<=e.txs.length}),(decide ((x.val:Int)<(e.txs.length:Int))=true->W4 (x.val:Int) e.txs.length/\∃(x_1:(Sto×Int)),(((yR e.s x_1.1)/\(e.txs.getD (x.val:Int).toNat default).last=x_1.2/\True)/\qV x_1.1.log x_1.2)/\X4 .i64 ((↑(nM e.s.log e.txs x.val):Int)+(↑(1+und x_1.1.log 61 x_1.2):Int))/\X4 .i64 ((x.val:Int)+(1:Int))/\∃(y:{i:Nat//i<=e.txs.length}),((M2 (λ(x:Nat)=>none) (T.bref e.ts) (T.bref e.ts)/\(↑(nM e.s.log e.txs x.val):Int)+(↑(1+und x_1.1.log 61 x_1.2):Int)=(↑(nM e.s.log e.txs y.val):Int)/\(Y5 X0 e.txs e.txs)/\(e.txs.length:Int)=(e.txs.length:Int)/\(x.val:Int)+(1:Int)=(y.val:Int)/\True)/\True)/\Lt (e.txs.length-y.val) (e.txs.length-x.val))/\(decide ((x.val:Int)<(e.txs.length:Int))=false->(↑(nM e.s.log e.txs x.val):Int)=(↑(ndE e):Int))) ⟨⟨⟨0,S7 _⟩,⟨R8 _,rfl,Z8,rfl,Z9⟩,trivial⟩,λx=>⟨λhc=> ?_,λhc=> ?_⟩⟩
 ·have hlt:=Y1 hc;have h1:=eC e.s.log e.txs x.val;have h2:=dO e.s.log 61 (e.txs.getD x.val default).last;refine⟨Y2 hlt,(e.s,(e.txs.getD x.val default).last),⟨⟨(yP _),Z9⟩,hL,hb _ hlt⟩,Z4 (by dsimp only;omega),V7 hlt (by omega),⟨x.val+1,hlt⟩,⟨⟨R8 _,a1i,⟨rfl,Z2 _ _⟩,rfl,by dsimp only;omega,trivial⟩,trivial⟩,V4.ext_lt hlt⟩
 ·have hx:x.val=e.txs.length:=by have:=x.2;have:=X9 hc;omega
  rw[hx];rfl
def a6W:Con:=.rel ⟨Eng×Int,λx=>[.bref x.1.ts,.int .i64 x.2],λx=>.bool (decide ((x.1.s.log.length:Int)+ndE x.1+x.2<=60)),λx=>a2g x.1/\s9 x.2⟩
theorem a1G:GK 110 a6W:=gk Tryz.func110<|by
 rintro⟨e,m⟩ ⟨hn,h1,h2⟩;dsimp only at hn h1 h2;have hb:=eC e.s.log e.txs e.txs.length;have hb2:=hn.2.1;have hb3:=hn.1.1;have he:ndE e=nM e.s.log e.txs e.txs.length:=rfl;exact S6 (gC a8k gN) Tryz.func110 Z0 (α:=∃(x:Eng),(((y5 e x)/\True)/\a2g x)/\X4 .i64 ((e.s.log.length:Int)+(↑(ndE x):Int))/\X4 .i64 ((e.s.log.length:Int)+(↑(ndE x):Int)+m)/\decide ((e.s.log.length:Int)+(↑(ndE x):Int)+m<=(60:Int))=decide ((e.s.log.length:Int)+(↑(ndE e):Int)+m<=(60:Int))) ⟨e,⟨⟨(A4 _),trivial⟩,hn⟩,Z4 (by omega),Z4 (by omega),rfl⟩
def dT:Con:=.rel ⟨Eng,λe=>[.agg e.ts],λe=>.int .i64 (ndE e),a2g⟩
def fN(e:Eng):Nat->Ann
 |0=>.one {i:Nat//i<=e.txs.length} (λx=>⟨[(1,.ref 0 0 0),(3,.int .i64 (nM e.s.log e.txs x.1)),(4,.int .i64 x.1)],[vQ e]⟩) (λx=>e.txs.length-x.1) [.box 0] [.box 0] (λ_=>Z0)
 |_=>.none
theorem kM:GK 77 dT:=gk Tryz.func77<|by
 rintro(e:Eng) ⟨hL,h10,hb⟩;refine S6 (gC a2p gN) Tryz.func77 (fN e) (α:=(∃(x:{i:Nat//i<=e.txs.length}),((0=0/\0=0)/\(0:Int)=(↑(nM e.s.log e.txs x.val):Int)/\(0:Int)=(x.val:Int)/\True)/\(1=1/\1=1/\y5 e e)/\True)/\∀(x:{i:Nat//i<=e.txs.length}),(decide ((x.val:Int)<(e.txs.length:Int))=true->W4 (x.val:Int) e.txs.length/\∃(x_1:(Sto×Int)),(((yR e.s x_1.1)/\(e.txs.getD (x.val:Int).toNat default).last=x_1.2/\True)/\qV x_1.1.log x_1.2)/\X4 .i64 ((↑(nM e.s.log e.txs x.val):Int)+(↑(1+und x_1.1.log 61 x_1.2):Int))/\X4 .i64 ((x.val:Int)+(1:Int))/\∃(y:{i:Nat//i<=e.txs.length}),(((0=0/\0=0)/\(↑(nM e.s.log e.txs x.val):Int)+(↑(1+und x_1.1.log 61 x_1.2):Int)=(↑(nM e.s.log e.txs y.val):Int)/\(x.val:Int)+(1:Int)=(y.val:Int)/\True)/\(1=1/\1=1/\y5 e e)/\True)/\Lt (e.txs.length-y.val) (e.txs.length-x.val))/\(decide ((x.val:Int)<(e.txs.length:Int))=false->(↑(nM e.s.log e.txs x.val):Int)=(↑(ndE e):Int))) ⟨⟨⟨0,S7 _⟩,⟨Z7,rfl,Z9⟩,⟨rfl,rfl,A4 _⟩,trivial⟩,λx=>⟨λhc=> ?_,λhc=> ?_⟩⟩
 ·have hlt:=Y1 hc;have h1:=eC e.s.log e.txs x.val;have h2:=dO e.s.log 61 (e.txs.getD x.val default).last;refine⟨Y2 hlt,(e.s,(e.txs.getD x.val default).last),⟨⟨(yP _),Z9⟩,hL,hb _ hlt⟩,Z4 (by dsimp only;omega),V7 hlt (by omega),⟨x.val+1,hlt⟩,⟨⟨⟨rfl,rfl⟩,a1i,by dsimp only;omega,trivial⟩,⟨rfl,rfl,A4 _⟩,trivial⟩,V4.ext_lt hlt⟩
 ·have hx:x.val=e.txs.length:=by have:=x.2;have:=X9 hc;omega
  rw[hx];rfl
def hZ(L:List Rec)(r:Rec):Bool:=decide (r.n>0)&&((Y6 L r.n).t==r.t)&&decide ((Y6 L r.n).k<=3)
def a8T:Con:=.rel ⟨Sto×Rec,λx=>[.agg x.1.ts,.agg x.2.ts],λx=>.bool (hZ x.1.log x.2),λx=>x.2.n<=(x.1.log.length:Int)/\M7 x.1.log.length⟩
theorem a4m:GK 75 a8T:=gk Tryz.func75<|by
 rintro⟨s,r⟩ ⟨h1,h2⟩;have h2:s.log.length<1000000000000:=h2;dsimp only at h1;have k1:decide (r.n>(0:Int))=true->X4 .i64 (r.n-1)/\W4 (r.n-1) s.log.length:=λh=>by
  have h:=F3 h;exact⟨Z4 (by omega),by omega,by omega⟩
 exact S6 gN Tryz.func75 Z0 (α:=(decide (r.n>(0:Int))=true->X4 .i64 (r.n- (1:Int)))/\(decide (r.n>(0:Int))=true->W4 (r.n- (1:Int)) s.log.length)/\((decide (r.n>(0:Int))&&(s.log.getD (r.n- (1:Int)).toNat default).t==r.t)=true->X4 .i64 (r.n- (1:Int)))/\((decide (r.n>(0:Int))&&(s.log.getD (r.n- (1:Int)).toNat default).t==r.t)=true->W4 (r.n- (1:Int)) s.log.length)/\(decide (r.n>(0:Int))&&(s.log.getD (r.n- (1:Int)).toNat default).t==r.t&&decide ((s.log.getD (r.n- (1:Int)).toNat default).k<=(3:Int)))=hZ s.log r) ⟨λh=>(k1 h).1,λh=>(k1 h).2,λh=>(k1 (Bool.and_eq_true_iff.1 h).1).1,λh=>(k1 (Bool.and_eq_true_iff.1 h).1).2,rfl⟩
def zO(e:Eng)(i:Nat):Bool:=decide (U8 e.txs (e.lk.held.getD i default).tx<0)
def B9(e:Eng)(i:Nat):Bool:=decide (U8 e.txs (e.lk.waits.getD i default).tx<0)||decide (U8 e.txs (e.lk.waits.getD i default).fo<0)
def TxL(e:Eng):Prop:=M7 e.txs.length
def a0W:Con:=.rel ⟨Eng×Lck,λx=>[.agg x.2.ts,.bref [.bref x.1.ts]],λx=>.bool (decide (U8 x.1.txs x.2.tx<0)),λx=>TxL x.1⟩
theorem a1t(e:Eng)(l:Lck)(h:
  ∃(x:(Eng×Int)),(((y5 e x.1)/\l.tx=x.2/\True)/\M7 x.1.txs.length)/\decide (U8 x.1.txs x.2<(0:Int))=decide (U8 e.txs l.tx<(0:Int))):
  U6 Tryz.prog 159 [.agg l.ts,.bref [.bref e.ts]] (.bool (decide (U8 e.txs l.tx<0))):=
 S6 (gC vE gN) Tryz.func159 Z0 h
theorem eO:GK 159 a0W:=gk Tryz.func159<|λx h=>a1t x.1 x.2 ⟨(x.1,x.2.tx),⟨⟨(A4 _),Z9⟩,h⟩,rfl⟩
def a0q:Con:=.rel ⟨Eng×Wt,λx=>[.agg x.2.ts,.bref [.bref x.1.ts]],λx=>.bool (decide (U8 x.1.txs x.2.tx<0)||decide (U8 x.1.txs x.2.fo<0)),λx=>TxL x.1⟩
theorem a0o(e:Eng)(l:Wt)(h:
  ∃(x:(Eng×Int)),(((y5 e x.1)/\l.tx=x.2/\True)/\M7 x.1.txs.length)/\∃(x_1:(Eng×Int)),(decide (U8 x.1.txs x.2<(0:Int))=false->((y5 e x_1.1)/\l.fo=x_1.2/\True)/\M7 x_1.1.txs.length)
  /\(decide (U8 x.1.txs x.2<(0:Int))||decide (U8 x_1.1.txs x_1.2<(0:Int)))=(decide (U8 e.txs l.tx<(0:Int))||decide (U8 e.txs l.fo<(0:Int)))):
  U6 Tryz.prog 161 [.agg l.ts,.bref [.bref e.ts]] (.bool (decide (U8 e.txs l.tx<0)||decide (U8 e.txs l.fo<0))):=
 S6 (gC vE gN) Tryz.func161 Z0 h
theorem fV:GK 161 a0q:=gk Tryz.func161<|λx h=>a0o x.1 x.2 ⟨(x.1,x.2.tx),⟨⟨(A4 _),Z9⟩,h⟩,(x.1,x.2.fo),λ_=>⟨⟨(A4 _),Z9⟩,h⟩,rfl⟩
def eF1(e:Eng):T:=.fn (.func 159) [.bref [.bref e.ts]]
def eF2(e:Eng):T:=.fn (.func 161) [.bref [.bref e.ts]]
def HlL(e:Eng):Prop:=TxL e/\M7 e.lk.held.length/\M7 e.lk.waits.length
def a8B:Con:=.rel ⟨Eng,λe=>[yG e.lk.held,eF1 e],λe=>.int .i64 (M3 e.lk.held.length (zO e)),HlL⟩
def a6C(e:Eng):Nat->Ann
 |0=>.one (V4 e.lk.held.length (zO e)) (λx=>⟨[(0,yG e.lk.held),(1,eF1 e),(7,.int .i64 e.lk.held.length),(8,.int .i64 x.1)],[]⟩) (λx=>e.lk.held.length-x.1) [] [] (λ_=>Z0)
 |_=>.none
theorem a4r:GK 223 a8B:=gk Tryz.func223<|by
 rintro(e:Eng) ⟨ht,h1,h2⟩;have h1:e.lk.held.length<1000000000000:=h1;have h2:e.lk.waits.length<1000000000000:=h2;refine S6 (gC eO gN) Tryz.func223 (a6C e) (α:=(∃(x:V4 e.lk.held.length (zO e)),((Y5 X7 e.lk.held e.lk.held)/\(Fn.func 159=Fn.func 159/\M2 (λ(x:Nat)=>none) (T.bref [T.bref e.ts]) (T.bref [T.bref e.ts])/\True)/\(e.lk.held.length:Int)=(e.lk.held.length:Int)/\(0:Int)=(x.val:Int)/\True)/\True)/\∀(x:V4 e.lk.held.length (zO e)),(decide ((x.val:Int)<(e.lk.held.length:Int))=true->W4 (x.val:Int) e.lk.held.length/\∃(x_1:(Eng×Lck)),((((e.lk.held.getD (x.val:Int).toNat default).tx=x_1.2.tx/\(e.lk.held.getD (x.val:Int).toNat default).ta=x_1.2.ta/\(e.lk.held.getD (x.val:Int).toNat default).row=x_1.2.row/\(e.lk.held.getD (x.val:Int).toNat default).mo=x_1.2.mo/\True)/\((y5 e x_1.1)/\True)/\True)/\TxL x_1.1)/\(decide (U8 x_1.1.txs x_1.2.tx<(0:Int))=true->(x.val:Int)=M3 e.lk.held.length (zO e))/\(decide (U8 x_1.1.txs x_1.2.tx<(0:Int))=false->X4 .i64 ((x.val:Int)+(1:Int))/\∃(y:V4 e.lk.held.length (zO e)),(((Y5 X7 e.lk.held e.lk.held)/\(Fn.func 159=Fn.func 159/\M2 (λ(x:Nat)=>none) (T.bref [T.bref e.ts]) (T.bref [T.bref e.ts])/\True)/\(e.lk.held.length:Int)=(e.lk.held.length:Int)/\(x.val:Int)+(1:Int)=(y.val:Int)/\True)/\True)/\Lt (e.lk.held.length-y.val) (e.lk.held.length-x.val)))/\(decide ((x.val:Int)<(e.lk.held.length:Int))=false->(-1:Int)=M3 e.lk.held.length (zO e))) ⟨⟨D5,⟨Z8,⟨rfl,R8 _,trivial⟩,rfl,Z9⟩,trivial⟩,λx=>⟨λhc=> ?_,λhc=> ?_⟩⟩
 ·have hlt:=Y1 hc;refine⟨Y2 hlt,(e,e.lk.held.getD x.val default),⟨⟨⟨rfl,rfl,rfl,Z9⟩,⟨(A4 _),trivial⟩,trivial⟩,ht⟩,λhp=>(H7 hlt hp x.2.2).symm,λhp=>⟨V7 hlt (by omega),x.succ hlt hp,⟨⟨Z8,⟨rfl,R8 _,trivial⟩,rfl,by simp only[V4.succ];omega,trivial⟩,trivial⟩,V4.ext_lt hlt⟩⟩
 ·have hge:=X9 hc;exact(F4 λj hj=>x.2.2 j (vV hj hge)).symm
def a8J:Con:=.rel ⟨Eng,λe=>[yG e.lk.held,eF1 e],λe=>.bool (anyI e.lk.held.length (zO e)),HlL⟩
theorem a8s(e:Eng)(h:
  ∃(x:Eng),(((Y5 X7 e.lk.held x.lk.held)/\(Fn.func 159=Fn.func 159/\((y5 e x)/\True)/\True)/\True)/\HlL x)/\decide (M3 x.lk.held.length (zO x)≥(0:Int))=anyI e.lk.held.length (zO e)):
  U6 Tryz.prog 158 [yG e.lk.held,eF1 e] (.bool (anyI e.lk.held.length (zO e))):=
 S6 (gC a4r gN) Tryz.func158 Z0 h
theorem a3l:GK 158 a8J:=gk Tryz.func158<|λ(e:Eng) h=>a8s e ⟨e,⟨⟨Z8,⟨rfl,⟨(A4 _),trivial⟩,trivial⟩,trivial⟩,h⟩,z7 _ _⟩
def b2w:Con:=.rel ⟨Eng,λe=>[mU e.lk.waits,eF2 e],λe=>.int .i64 (M3 e.lk.waits.length (B9 e)),HlL⟩
def a9v(e:Eng):Nat->Ann
 |0=>.one (V4 e.lk.waits.length (B9 e)) (λx=>⟨[(0,mU e.lk.waits),(1,eF2 e),(7,.int .i64 e.lk.waits.length),(8,.int .i64 x.1)],[]⟩) (λx=>e.lk.waits.length-x.1) [] [] (λ_=>Z0)
 |_=>.none
theorem a6F:GK 224 b2w:=gk Tryz.func224<|by
 rintro(e:Eng) ⟨ht,h1,h2⟩;have h1:e.lk.held.length<1000000000000:=h1;have h2:e.lk.waits.length<1000000000000:=h2;refine S6 (gC fV gN) Tryz.func224 (a9v e) (α:=(∃(x:V4 e.lk.waits.length (B9 e)),((Y5 W8 e.lk.waits e.lk.waits)/\(Fn.func 161=Fn.func 161/\M2 (λ(x:Nat)=>none) (T.bref [T.bref e.ts]) (T.bref [T.bref e.ts])/\True)/\(e.lk.waits.length:Int)=(e.lk.waits.length:Int)/\(0:Int)=(x.val:Int)/\True)/\True)/\∀(x:V4 e.lk.waits.length (B9 e)),(decide ((x.val:Int)<(e.lk.waits.length:Int))=true->W4 (x.val:Int) e.lk.waits.length/\∃(x_1:(Eng×Wt)),((((e.lk.waits.getD (x.val:Int).toNat default).tx=x_1.2.tx/\(e.lk.waits.getD (x.val:Int).toNat default).fo=x_1.2.fo/\True)/\((y5 e x_1.1)/\True)/\True)/\TxL x_1.1)/\((decide (U8 x_1.1.txs x_1.2.tx<(0:Int))||decide (U8 x_1.1.txs x_1.2.fo<(0:Int)))=true->(x.val:Int)=M3 e.lk.waits.length (B9 e))/\((decide (U8 x_1.1.txs x_1.2.tx<(0:Int))||decide (U8 x_1.1.txs x_1.2.fo<(0:Int)))=false->X4 .i64 ((x.val:Int)+(1:Int))/\∃(y:V4 e.lk.waits.length (B9 e)),(((Y5 W8 e.lk.waits e.lk.waits)/\(Fn.func 161=Fn.func 161/\M2 (λ(x:Nat)=>none) (T.bref [T.bref e.ts]) (T.bref [T.bref e.ts])/\True)/\(e.lk.waits.length:Int)=(e.lk.waits.length:Int)/\(x.val:Int)+(1:Int)=(y.val:Int)/\True)/\True)/\Lt (e.lk.waits.length-y.val) (e.lk.waits.length-x.val)))/\(decide ((x.val:Int)<(e.lk.waits.length:Int))=false->(-1:Int)=M3 e.lk.waits.length (B9 e))) ⟨⟨D5,⟨Z8,⟨rfl,R8 _,trivial⟩,rfl,Z9⟩,trivial⟩,λx=>⟨λhc=> ?_,λhc=> ?_⟩⟩
 ·have hlt:=Y1 hc;refine⟨Y2 hlt,(e,e.lk.waits.getD x.val default),⟨⟨⟨rfl,Z9⟩,⟨(A4 _),trivial⟩,trivial⟩,ht⟩,λhp=>(H7 hlt hp x.2.2).symm,λhp=>⟨V7 hlt (by omega),x.succ hlt hp,⟨⟨Z8,⟨rfl,R8 _,trivial⟩,rfl,by simp only[V4.succ];omega,trivial⟩,trivial⟩,V4.ext_lt hlt⟩⟩
 ·have hge:=X9 hc;exact(F4 λj hj=>x.2.2 j (vV hj hge)).symm
def b1P:Con:=.rel ⟨Eng,λe=>[mU e.lk.waits,eF2 e],λe=>.bool (anyI e.lk.waits.length (B9 e)),HlL⟩
theorem a9A(e:Eng)(h:
  ∃(x:Eng),(((Y5 W8 e.lk.waits x.lk.waits)/\(Fn.func 161=Fn.func 161/\((y5 e x)/\True)/\True)/\True)/\HlL x)/\decide (M3 x.lk.waits.length (B9 x)≥(0:Int))=anyI e.lk.waits.length (B9 e)):
  U6 Tryz.prog 160 [mU e.lk.waits,eF2 e] (.bool (anyI e.lk.waits.length (B9 e))):=
 S6 (gC a6F gN) Tryz.func160 Z0 h
theorem a7L:GK 160 b1P:=gk Tryz.func160<|λ(e:Eng) h=>a9A e ⟨e,⟨⟨Z8,⟨rfl,⟨(A4 _),trivial⟩,trivial⟩,trivial⟩,h⟩,z7 _ _⟩
def E4(e:Eng)(i:Nat):Bool:= !W2 (e.txs.getD i default).id 1 (e.next-1)||(decide ((i:Int)>0)&&decide ((e.txs.getD (i-1) default).id≥(e.txs.getD i default).id))|| !rB e.s.log (e.txs.getD i default)
def yN(e:Eng):Bool:=decide (e.txs.length<=10)&&W2 e.next 1 61&&I1 e.lk
def a0f(e:Eng):Bool:=decide (e.txs.length+e.lk.held.length+e.lk.waits.length+e.s.fr.length=0)
def upE(e:Eng):Bool:= !anyI e.txs.length (E4 e)&& !anyI e.lk.held.length (zO e)&& !anyI e.lk.waits.length (B9 e)&&decide (e.s.log.length+ndE e<=60)
def uJ(e:Eng):Bool:=yN e&&(if e.up then upE e else a0f e)
def b9p(e:Eng):Prop:=xD e.s.log/\b2W e.lk/\M7 e.txs.length/\M7 e.s.fr.length
def a2H:Con:=.rel ⟨Eng,λe=>[.bref e.ts],λe=>.bool (uJ e),b9p⟩
def b6V(e:Eng):Option Ob:=some (.arr true 1000000 1 1 λ_=>[.bref e.ts])
def a4i(e:Eng):Nat->Ann
 |0=>.one (V4 e.txs.length (E4 e)) (λx=>⟨[(1,.ref 0 0 0),(62,wF e.txs),(63,.int .i64 e.txs.length),(64,.int .i64 x.1)],[b6V e]⟩) (λx=>e.txs.length-x.1) [.box 0] [.box 0] (λ_=>Z0)
 |_=>.none
theorem a9b(e:Eng):(decide ((e.txs.length:Int)>10)|| !W2 e.next 1 61|| !I1 e.lk)= !yN e:=by
 unfold yN;rw[Bool.not_and,Bool.not_and,←decide_not];congr 2
 exact decide_eq_decide.2 (by omega)
theorem a5Y{e:Eng}(h:yN e=false):uJ e=false:=by unfold uJ;rw[h];rfl
theorem a55{e:Eng}(h:yN e=true)(hu:e.up=true):uJ e=upE e:=by unfold uJ;rw[h,if_pos hu];rfl
theorem a5n{e:Eng}(h:yN e=true)(hu:e.up=false):uJ e=a0f e:=by unfold uJ;rw[h,hu];rfl
theorem a3H{e:Eng}{i:Nat}(hi:i<e.txs.length)(h:E4 e i=true):upE e=false:=by
 have:anyI e.txs.length (E4 e)=true:=O1.2 ⟨i,hi,h⟩;unfold upE;rw[this];rfl
theorem b8I{e:Eng}{i:Nat}(hi:i<e.lk.held.length)(h:zO e i=true):upE e=false:=by
 have:anyI e.lk.held.length (zO e)=true:=O1.2 ⟨i,hi,h⟩;unfold upE;rw[this];simp
theorem b7z{e:Eng}{i:Nat}(hi:i<e.lk.waits.length)(h:B9 e i=true):upE e=false:=by
 have:anyI e.lk.waits.length (B9 e)=true:=O1.2 ⟨i,hi,h⟩;unfold upE;rw[this];simp
theorem xV{e:Eng}(h:yN e=true):e.txs.length<=10/\1<=e.next/\e.next<=61/\I1 e.lk=true:=by
 unfold yN at h;simp only[J6,o9,L9] at h;exact⟨h.1.1,h.1.2.1,h.1.2.2,h.2⟩
theorem b6F{e:Eng}(hL:xD e.s.log)(h:yN e=true)(hb:∀i,i<e.txs.length->E4 e i=false):a2g e:=by
 refine⟨hL,(xV h).1,λi hi=> ?_⟩
 have:=hb i hi;unfold E4 at this;simp only[uL,xO] at this;have:=this.2;unfold rB at this;simp only[J6,L9] at this;exact this.1.2
theorem cH:GK 88 a2H:=gk Tryz.func88<|by
 rintro(e:Eng) ⟨hL,hk,ht,hf⟩;have ht:e.txs.length<1000000000000:=ht;have hf:e.s.fr.length<1000000000000:=hf;have hk1:e.lk.held.length<1000000000000:=hk.1;have hk2:e.lk.waits.length<1000000000000:=hk.2;refine S6 (gC O5 (gC a0T (gC a2b (gC a3l (gC a7L (gC a1G gN)))))) Tryz.func88 (a4i e) (α:=∃(x:vJ.ι),((decide ((e.txs.length:Int)>(10:Int))|| !W2 e.next (1:Int) (61:Int))=false->(((Y5 X7 e.lk.held x.held)/\(Y5 W8 e.lk.waits x.waits)/\True)/\True)/\b2W x)/\((decide ((e.txs.length:Int)>(10:Int))|| !W2 e.next (1:Int) (61:Int)|| !I1 x)=true->false=uJ e)/\((decide ((e.txs.length:Int)>(10:Int))|| !W2 e.next (1:Int) (61:Int)|| !I1 x)=false->((!e.up)=true->X4 .i64 ((e.txs.length:Int)+(e.lk.held.length:Int))/\X4 .i64 ((e.txs.length:Int)+(e.lk.held.length:Int)+(e.lk.waits.length:Int))/\X4 .i64 ((e.txs.length:Int)+(e.lk.held.length:Int)+(e.lk.waits.length:Int)+(e.s.fr.length:Int))/\((e.txs.length:Int)+(e.lk.held.length:Int)+(e.lk.waits.length:Int)+(e.s.fr.length:Int)==(0:Int))=uJ e)/\((!e.up)=false->(∃(x:V4 e.txs.length (E4 e)),((0=0/\0=0)/\(Y5 X0 e.txs e.txs)/\(e.txs.length:Int)=(e.txs.length:Int)/\(0:Int)=(x.val:Int)/\True)/\(1=1/\1=1/\M2 (v9 [some 0]) (T.bref e.ts) (T.bref e.ts)/\True)/\True)/\∀(x:V4 e.txs.length (E4 e)),(decide ((x.val:Int)<(e.txs.length:Int))=true->W4 (x.val:Int) e.txs.length/\X4 .i64 (e.next- (1:Int))/\((!W2 (e.txs.getD (x.val:Int).toNat default).id (1:Int) (e.next- (1:Int)))=false->decide ((x.val:Int)>(0:Int))=true->X4 .i64 ((x.val:Int)- (1:Int)))/\((!W2 (e.txs.getD (x.val:Int).toNat default).id (1:Int) (e.next- (1:Int)))=false->decide ((x.val:Int)>(0:Int))=true->W4 ((x.val:Int)- (1:Int)) e.txs.length)/\∃(x_1:(Sto×Txn)),((!W2 (e.txs.getD (x.val:Int).toNat default).id (1:Int) (e.next- (1:Int))||decide ((x.val:Int)>(0:Int))&&decide ((e.txs.getD ((x.val:Int)- (1:Int)).toNat default).id≥(e.txs.getD (x.val:Int).toNat default).id))=false->((yR e.s x_1.1)/\((e.txs.getD (x.val:Int).toNat default).id=x_1.2.id/\(e.txs.getD (x.val:Int).toNat default).last=x_1.2.last/\True)/\True)/\xD x_1.1.log)/\((!W2 (e.txs.getD (x.val:Int).toNat default).id (1:Int) (e.next- (1:Int))||decide ((x.val:Int)>(0:Int))&&decide ((e.txs.getD ((x.val:Int)- (1:Int)).toNat default).id≥(e.txs.getD (x.val:Int).toNat default).id)|| !rB x_1.1.log x_1.2)=true->false=uJ e)/\((!W2 (e.txs.getD (x.val:Int).toNat default).id (1:Int) (e.next- (1:Int))||decide ((x.val:Int)>(0:Int))&&decide ((e.txs.getD ((x.val:Int)- (1:Int)).toNat default).id≥(e.txs.getD (x.val:Int).toNat default).id)|| !rB x_1.1.log x_1.2)=false->X4 .i64 ((x.val:Int)+(1:Int))/\∃(y:V4 e.txs.length (E4 e)),(((0=0/\0=0)/\(Y5 X0 e.txs e.txs)/\(e.txs.length:Int)=(e.txs.length:Int)/\(x.val:Int)+(1:Int)=(y.val:Int)/\True)/\(1=1/\1=1/\M2 (v9 [some 0]) (T.bref e.ts) (T.bref e.ts)/\True)/\True)/\Lt (e.txs.length-y.val) (e.txs.length-x.val)))/\(decide ((x.val:Int)<(e.txs.length:Int))=false->∃(x:Eng),(((Y5 X7 e.lk.held x.lk.held)/\(Fn.func 159=Fn.func 159/\((y5 e x)/\True)/\True)/\True)/\HlL x)/\∃(x_1:Eng),(anyI x.lk.held.length (zO x)=false->((Y5 W8 e.lk.waits x_1.lk.waits)/\(Fn.func 161=Fn.func 161/\((y5 e x_1)/\True)/\True)/\True)/\HlL x_1)/\((anyI x.lk.held.length (zO x)||anyI x_1.lk.waits.length (B9 x_1))=true->false=uJ e)/\((anyI x.lk.held.length (zO x)||anyI x_1.lk.waits.length (B9 x_1))=false->∃(x:(Eng×Int)),(((y5 e x.1)/\(0:Int)=x.2/\True)/\a2g x.1/\s9 x.2)/\decide ((x.1.s.log.length:Int)+(↑(ndE x.1):Int)+x.2<=(60:Int))=uJ e))))) ⟨e.lk,λ_=>⟨⟨⟨Z8,X8⟩,trivial⟩,hk⟩,λhb=> ?_,λhb=>⟨λhu=> ?_,λhu=> ?_⟩⟩
 ·rw[a9b] at hb;rw[a5Y (by simpa using hb)]
 ·rw[a9b] at hb;rw[a5n (by simpa using hb) (by simpa using hu)]
  refine⟨Z4 (by omega),Z4 (by omega),Z4 (by omega),?_⟩
  unfold a0f;rw[Bool.eq_iff_iff,beq_iff_eq,o9];omega
 ·rw[a9b] at hb;have hh:yN e=true:=by simpa using hb
  have hu':e.up=true:=by simpa using hu
  obtain⟨q1,q2,q3,q4⟩:=xV hh;rw[a55 hh hu'];refine⟨⟨D5,⟨Z7,Z8,rfl,Z9⟩,⟨rfl,rfl,R8 _,trivial⟩,trivial⟩,λx=>⟨λhc=> ?_,λhc=> ?_⟩⟩
  ·have hlt:=Y1 hc;refine⟨Y2 hlt,Z4 (by omega),λ_ _=>Z4 (by omega),λ_ h0=>⟨by have:=F3 h0;omega,by omega⟩,(e.s,e.txs.getD x.val default),λ_=>⟨⟨(yP _),⟨rfl,Z9⟩,trivial⟩,hL⟩,λhq=> ?_,λhq=> ?_⟩
   ·rw[u9,show((x.val:Int)-1).toNat=x.val-1 by omega] at hq
    exact(a3H hlt hq).symm
   ·rw[u9,show((x.val:Int)-1).toNat=x.val-1 by omega] at hq
    exact⟨V7 hlt (by omega),x.succ hlt hq,⟨⟨Z7,Z8,rfl,by simp only[V4.succ];omega,trivial⟩,⟨rfl,rfl,R8 _,trivial⟩,trivial⟩,V4.ext_lt hlt⟩
  ·have hge:=X9 hc;have hno:∀i,i<e.txs.length->E4 e i=false:=λi hi=>x.2.2 i (vV hi hge)
   have hn:=b6F hL hh hno;have e1:anyI e.txs.length (E4 e)=false:=K2.2 hno;refine⟨e,⟨⟨Z8,⟨rfl,⟨(A4 _),trivial⟩,trivial⟩,trivial⟩,ht,hk1,hk2⟩,e,λ_=>⟨⟨Z8,⟨rfl,⟨(A4 _),trivial⟩,trivial⟩,trivial⟩,ht,hk1,hk2⟩,λhq=> ?_,λhq=>⟨(e,0),⟨⟨(A4 _),Z9⟩,hn,by unfold s9;dsimp only;omega⟩,?_⟩⟩
   ·unfold upE;rw[e1];simp only[oQ] at hq;rcases hq with hq|hq<;>rw[hq]<;>simp
   ·simp only[uL] at hq;unfold upE;rw[e1,hq.1,hq.2];simp only[Bool.not_false,Bool.true_and];exact decide_eq_decide.2 (by omega)
noncomputable def M4(e:Eng):Bool:=L3 e.s&&uJ e
def eG(e:Eng):Prop:=a9H e.s/\b2W e.lk/\M7 e.txs.length
noncomputable def wW:Rl:=⟨Eng,λe=>[.agg e.ts],λe=>.bool (M4 e),eG⟩
noncomputable def a1u:Con:=.rel wW
noncomputable def cB:Con:=.rel wW
theorem dQ{s:Sto}(h:L3 s=true):xD s.log:=by
 obtain⟨⟨h1,h2,_⟩,_⟩:=(K6 s).1 h;exact⟨((w6 s).1 h1).2.2.2.2,λi hi=>by
  obtain⟨a,b⟩:=B2.1 h2 i hi;exact⟨(Q9 _).1 a,b⟩⟩
theorem fZ:GK 41 a1u:=gk Tryz.func41<|by
 rintro(e:Eng) ⟨h1,h2,h3⟩;exact S6 (gC a0d (gC cH gN)) Tryz.func41 Z0 (α:=∃(x:vF.ι),(((yR e.s x)/\True)/\a9H x)/\∃(x_1:Eng),(L3 x=true->((y5 e x_1)/\True)/\b9p x_1)/\(L3 x&&uJ x_1)=M4 e) ⟨e.s,⟨⟨(yP _),trivial⟩,h1⟩,e,λhs=>⟨⟨(A4 _),trivial⟩,dQ hs,h2,h3,h1.2.2.1.1⟩,rfl⟩
def Chs(L:List Rec)(t:Txn):Type:={x:Nat×Int//(decide (x.2<=0)||chn L t.id x.1 x.2)=rB L t/\x.2<=(L.length:Int)/\x.2.toNat<x.1}
def a0D(e:Eng):Nat->Ann
 |0=>.one (V4 e.txs.length (E4 e)) (λx=>⟨[(1,.ref 0 0 0),(3,.int .i64 x.1)],[vQ e]⟩) (λx=>e.txs.length-x.1) [.box 0] [.box 0] (λx=>fun
  |1=>.one (Chs e.s.log (e.txs.getD x.1 default)) (λy=>⟨[(1,.ref 0 0 0),(3,.int .i64 x.1),(4,.ref 1 0 0),(5,.int .i64 y.1.2)],[vQ e,b2J (e.txs.getD x.1 default)]⟩) (λy=>y.1.1) [.box 0,.box 1] [.box 0,.box 1] (λ_=>Z0)
  |2=>.one (V4 e.lk.held.length (zO e)) (λy=>⟨[(1,.ref 0 0 0),(7,.int .i64 y.1)],[vQ e]⟩) (λy=>e.lk.held.length-y.1) [.box 0] [.box 0] (λ_=>fun
   |3=>.one (V4 e.lk.waits.length (B9 e)) (λz=>⟨[(1,.ref 0 0 0),(8,.int .i64 z.1)],[vQ e]⟩) (λz=>e.lk.waits.length-z.1) [.box 0] [.box 0] (λ_=>Z0)
   |_=>.none)
  |_=>.none)
 |_=>.none
theorem b9L{L:List Rec}(hL:xD L)(id:Int){at_:Int}(h1:1<=at_)(h2:at_<=L.length):
  ((Y6 L at_).t !=id||(Y6 L at_).k==4||(Y6 L at_).k==5||(Y6 L at_).k==6||(Y6 L at_).k==3&& !hZ L (Y6 L at_))= !okR L id at_:=by
 obtain⟨hr,hl⟩:=hL.at h1 h2;obtain⟨p1,p2,p3,p4⟩:=hL.prev h1 h2;obtain⟨_,_,_,_,k1,k2,_⟩:=hr;unfold okR ownR;rw[L9.2 ⟨h1,h2⟩,Bool.true_and];by_cases ht:(Y6 L at_).t=id
 ·rw[show((Y6 L at_).t !=id)=false by simpa using ht,show((Y6 L at_).t==id)=true by simpa using ht,Bool.false_or,Bool.true_and]
  by_cases hk:(Y6 L at_).k<=3
  ·rw[L9.2 ⟨k1,hk⟩,show((Y6 L at_).k==4)=false by rw[beq_eq_false_iff_ne];omega,show((Y6 L at_).k==5)=false by rw[beq_eq_false_iff_ne];omega,show((Y6 L at_).k==6)=false by rw[beq_eq_false_iff_ne];omega]
   simp only[Bool.false_or,Bool.true_and];by_cases h3:(Y6 L at_).k=3
   ·rw[show((Y6 L at_).k==3)=true by simpa using h3,show((Y6 L at_).k !=3)=false by simpa using h3,Bool.true_and,Bool.false_or]
    congr 1
    unfold hZ;by_cases hn:(Y6 L at_).n>0
    ·obtain⟨hr2,_⟩:=hL.at (show 1<=(Y6 L at_).n by omega) (by omega)
     have k3:1<=(Y6 L (Y6 L at_).n).k:=hr2.2.2.2.2.1;rw[iZ hn,L9.2 (show 1<=(Y6 L at_).n/\(Y6 L at_).n<=(L.length:Int) by omega),Bool.true_and,Bool.true_and,ht]
     congr 1
     unfold W2;rw[iZ k3,Bool.true_and]
    ·rw[uK hn,show W2 (Y6 L at_).n 1 L.length=false from Bool.eq_false_iff.2 λh=>by have:=L9.1 h;omega]
     rfl
   ·rw[show((Y6 L at_).k==3)=false by simpa using h3,show((Y6 L at_).k !=3)=true by simpa using h3]
    rfl
  ·rw[show W2 (Y6 L at_).k 1 3=false from Bool.eq_false_iff.2 λh=>by have:=L9.1 h;omega]
   simp only[Bool.false_and,Bool.not_false,oQ,beq_iff_eq];exact .inl (by omega)
 ·rw[show((Y6 L at_).t !=id)=true by simpa using ht,show((Y6 L at_).t==id)=false by simpa using ht]
  rfl
theorem a9R(e:Eng):(!L3 e.s||decide ((e.txs.length:Int)>10)|| !I1 e.lk|| !W2 e.next 1 61)= !(L3 e.s&&yN e):=by
 unfold yN;rw[show decide ((e.txs.length:Int)>10)= !decide (e.txs.length<=10) by rw[←decide_not];exact decide_eq_decide.2 (by omega)]
 cases L3 e.s<;>cases decide (e.txs.length<=10)<;>cases I1 e.lk<;>cases W2 e.next 1 61<;>rfl
theorem gM:GK 35 cB:=gk Tryz.func35<|by
 rintro(e:Eng) ⟨hS,hk,ht⟩;have ht:e.txs.length<1000000000000:=ht;have hk1:e.lk.held.length<1000000000000:=hk.1;have hk2:e.lk.waits.length<1000000000000:=hk.2;refine S6 (gC cG (gC a0I (gC z8 (gC a4m (gC aF (gC kM gN)))))) Tryz.func35 (a0D e) (α:=∃(x:vF.ι),(((yR e.s x)/\True)/\a9H x)/\∃(x_1:vJ.ι),((!L3 x||decide ((e.txs.length:Int)>(10:Int)))=false->(((Y5 X7 e.lk.held x_1.held)/\(Y5 W8 e.lk.waits x_1.waits)/\True)/\True)/\b2W x_1)/\((!L3 x||decide ((e.txs.length:Int)>(10:Int))|| !I1 x_1|| !W2 e.next (1:Int) (61:Int))=true->false=M4 e)/\((!L3 x||decide ((e.txs.length:Int)>(10:Int))|| !I1 x_1|| !W2 e.next (1:Int) (61:Int))=false->((!e.up)=true->((e.txs.length:Int)==(0:Int)&&(e.lk.held.length:Int)==(0:Int)&&(e.lk.waits.length:Int)==(0:Int)&&(e.s.fr.length:Int)==(0:Int))=M4 e)/\((!e.up)=false->(∃(x:V4 e.txs.length (E4 e)),((0=0/\0=0)/\(0:Int)=(x.val:Int)/\True)/\(1=1/\1=1/\y5 e e)/\True)/\∀(x:V4 e.txs.length (E4 e)),(decide ((x.val:Int)<(e.txs.length:Int))=true->W4 (x.val:Int) e.txs.length/\X4 .i64 (e.next- (1:Int))/\((!W2 (e.txs.getD (x.val:Int).toNat default).id (1:Int) (e.next- (1:Int)))=false->decide ((x.val:Int)>(0:Int))=true->X4 .i64 ((x.val:Int)- (1:Int)))/\((!W2 (e.txs.getD (x.val:Int).toNat default).id (1:Int) (e.next- (1:Int)))=false->decide ((x.val:Int)>(0:Int))=true->W4 ((x.val:Int)- (1:Int)) e.txs.length)/\((!W2 (e.txs.getD (x.val:Int).toNat default).id (1:Int) (e.next- (1:Int))||decide ((x.val:Int)>(0:Int))&&decide ((e.txs.getD ((x.val:Int)- (1:Int)).toNat default).id≥(e.txs.getD (x.val:Int).toNat default).id)|| !W2 (e.txs.getD (x.val:Int).toNat default).last (1:Int) (e.s.log.length:Int))=true->false=M4 e)/\((!W2 (e.txs.getD (x.val:Int).toNat default).id (1:Int) (e.next- (1:Int))||decide ((x.val:Int)>(0:Int))&&decide ((e.txs.getD ((x.val:Int)- (1:Int)).toNat default).id≥(e.txs.getD (x.val:Int).toNat default).id)|| !W2 (e.txs.getD (x.val:Int).toNat default).last (1:Int) (e.s.log.length:Int))=false->(∃(x_2:Chs e.s.log (e.txs.getD x.val default)),((0=0/\0=0)/\(x.val:Int)=(x.val:Int)/\(0=0/\0=0)/\(e.txs.getD (x.val:Int).toNat default).last=x_2.val.2/\True)/\(1=1/\1=1/\y5 e e)/\(1=1/\1=1/\(e.txs.getD (x.val:Int).toNat default).id=(e.txs.getD x.val default).id/\(e.txs.getD (x.val:Int).toNat default).last=(e.txs.getD x.val default).last/\True)/\True)/\∀(x_2:Chs e.s.log (e.txs.getD x.val default)),(decide (x_2.val.2>(0:Int))=true->X4 .i64 (x_2.val.2- (1:Int))/\W4 (x_2.val.2- (1:Int)) e.s.log.length/\∃(x_3:(Sto×Rec)),(((e.s.log.getD (x_2.val.2- (1:Int)).toNat default).t !=(e.txs.getD x.val default).id||(e.s.log.getD (x_2.val.2- (1:Int)).toNat default).k==(4:Int)||(e.s.log.getD (x_2.val.2- (1:Int)).toNat default).k==(5:Int)||(e.s.log.getD (x_2.val.2- (1:Int)).toNat default).k==(6:Int))=false->((e.s.log.getD (x_2.val.2- (1:Int)).toNat default).k==(3:Int))=true->((yR e.s x_3.1)/\((e.s.log.getD (x_2.val.2- (1:Int)).toNat default).e=x_3.2.e/\(e.s.log.getD (x_2.val.2- (1:Int)).toNat default).l=x_3.2.l/\(e.s.log.getD (x_2.val.2- (1:Int)).toNat default).t=x_3.2.t/\(e.s.log.getD (x_2.val.2- (1:Int)).toNat default).k=x_3.2.k/\(e.s.log.getD (x_2.val.2- (1:Int)).toNat default).p=x_3.2.p/\(e.s.log.getD (x_2.val.2- (1:Int)).toNat default).n=x_3.2.n/\(e.s.log.getD (x_2.val.2- (1:Int)).toNat default).g=x_3.2.g/\(e.s.log.getD (x_2.val.2- (1:Int)).toNat default).s=x_3.2.s/\(e.s.log.getD (x_2.val.2- (1:Int)).toNat default).b=x_3.2.b/\(e.s.log.getD (x_2.val.2- (1:Int)).toNat default).a=x_3.2.a/\True)/\True)/\x_3.2.n<=(x_3.1.log.length:Int)/\M7 x_3.1.log.length)/\(((e.s.log.getD (x_2.val.2- (1:Int)).toNat default).t !=(e.txs.getD x.val default).id||(e.s.log.getD (x_2.val.2- (1:Int)).toNat default).k==(4:Int)||(e.s.log.getD (x_2.val.2- (1:Int)).toNat default).k==(5:Int)||(e.s.log.getD (x_2.val.2- (1:Int)).toNat default).k==(6:Int)||(e.s.log.getD (x_2.val.2- (1:Int)).toNat default).k==(3:Int)&& !hZ x_3.1.log x_3.2)=true->false=M4 e)/\(((e.s.log.getD (x_2.val.2- (1:Int)).toNat default).t !=(e.txs.getD x.val default).id||(e.s.log.getD (x_2.val.2- (1:Int)).toNat default).k==(4:Int)||(e.s.log.getD (x_2.val.2- (1:Int)).toNat default).k==(5:Int)||(e.s.log.getD (x_2.val.2- (1:Int)).toNat default).k==(6:Int)||(e.s.log.getD (x_2.val.2- (1:Int)).toNat default).k==(3:Int)&& !hZ x_3.1.log x_3.2)=false->X4 .i64 (x_2.val.2- (1:Int))/\W4 (x_2.val.2- (1:Int)) e.s.log.length/\∃(y:Chs e.s.log (e.txs.getD x.val default)),(((0=0/\0=0)/\(x.val:Int)=(x.val:Int)/\(0=0/\0=0)/\(e.s.log.getD (x_2.val.2- (1:Int)).toNat default).p=y.val.2/\True)/\(1=1/\1=1/\y5 e e)/\(1=1/\1=1/\(e.txs.getD x.val default).id=(e.txs.getD x.val default).id/\(e.txs.getD x.val default).last=(e.txs.getD x.val default).last/\True)/\True)/\Lt y.val.1 x_2.val.1))/\(decide (x_2.val.2>(0:Int))=false->X4 .i64 ((x.val:Int)+(1:Int))/\∃(y:V4 e.txs.length (E4 e)),(((0=0/\0=0)/\(x.val:Int)+(1:Int)=(y.val:Int)/\True)/\(1=1/\1=1/\y5 e e)/\True)/\Lt (e.txs.length-y.val) (e.txs.length-x.val))))/\(decide ((x.val:Int)<(e.txs.length:Int))=false->(∃(x:V4 e.lk.held.length (zO e)),((0=0/\0=0)/\(0:Int)=(x.val:Int)/\True)/\(1=1/\1=1/\y5 e e)/\True)/\∀(x:V4 e.lk.held.length (zO e)),(decide ((x.val:Int)<(e.lk.held.length:Int))=true->W4 (x.val:Int) e.lk.held.length/\∃(x_2:(Eng×Int)),(((y5 e x_2.1)/\(e.lk.held.getD (x.val:Int).toNat default).tx=x_2.2/\True)/\M7 x_2.1.txs.length)/\(decide (U8 x_2.1.txs x_2.2<(0:Int))=true->false=M4 e)/\(decide (U8 x_2.1.txs x_2.2<(0:Int))=false->X4 .i64 ((x.val:Int)+(1:Int))/\∃(y:V4 e.lk.held.length (zO e)),(((0=0/\0=0)/\(x.val:Int)+(1:Int)=(y.val:Int)/\True)/\(1=1/\1=1/\y5 e e)/\True)/\Lt (e.lk.held.length-y.val) (e.lk.held.length-x.val)))/\(decide ((x.val:Int)<(e.lk.held.length:Int))=false->(∃(x:V4 e.lk.waits.length (B9 e)),((0=0/\0=0)/\(0:Int)=(x.val:Int)/\True)/\(1=1/\1=1/\y5 e e)/\True)/\∀(x:V4 e.lk.waits.length (B9 e)),(decide ((x.val:Int)<(e.lk.waits.length:Int))=true->W4 (x.val:Int) e.lk.waits.length/\∃(x_2:(Eng×Int)),(((y5 e x_2.1)/\(e.lk.waits.getD (x.val:Int).toNat default).tx=x_2.2/\True)/\M7 x_2.1.txs.length)/\(decide (U8 x_2.1.txs x_2.2<(0:Int))=false->W4 (x.val:Int) e.lk.waits.length)/\∃(x_3:(Eng×Int)),(decide (U8 x_2.1.txs x_2.2<(0:Int))=false->((y5 e x_3.1)/\(e.lk.waits.getD (x.val:Int).toNat default).fo=x_3.2/\True)/\M7 x_3.1.txs.length)/\((decide (U8 x_2.1.txs x_2.2<(0:Int))||decide (U8 x_3.1.txs x_3.2<(0:Int)))=true->false=M4 e)/\((decide (U8 x_2.1.txs x_2.2<(0:Int))||decide (U8 x_3.1.txs x_3.2<(0:Int)))=false->X4 .i64 ((x.val:Int)+(1:Int))/\∃(y:V4 e.lk.waits.length (B9 e)),(((0=0/\0=0)/\(x.val:Int)+(1:Int)=(y.val:Int)/\True)/\(1=1/\1=1/\y5 e e)/\True)/\Lt (e.lk.waits.length-y.val) (e.lk.waits.length-x.val)))/\(decide ((x.val:Int)<(e.lk.waits.length:Int))=false->∃(x:Eng),(((y5 e x)/\True)/\a2g x)/\X4 .i64 ((e.s.log.length:Int)+(↑(ndE x):Int))/\decide ((e.s.log.length:Int)+(↑(ndE x):Int)<=(60:Int))=M4 e)))))) ⟨e.s,⟨⟨(yP _),trivial⟩,hS⟩,e.lk,λ_=>⟨⟨⟨Z8,X8⟩,trivial⟩,hk⟩,λhb=> ?_,λhb=> ?_⟩
 ·rw[a9R] at hb;unfold M4;cases h1:L3 e.s
  ·rfl
  ·rw[h1] at hb;rw[a5Y (by simpa using hb)]
   rfl
 rw[a9R] at hb;simp only[xO,J6] at hb;obtain⟨hs,hh⟩:=hb;have hL:=dQ hs;have h60:=hL.1;obtain⟨q1,q2,q3,q4⟩:=xV hh;have eo:M4 e=uJ e:=by unfold M4;rw[hs,Bool.true_and]
 refine⟨λhu=> ?_,λhu=> ?_⟩
 ·rw[eo,a5n hh (by simpa using hu)]
  unfold a0f;rw[Bool.eq_iff_iff];simp only[J6,beq_iff_eq,o9];omega
 ·have hu':e.up=true:=by simpa using hu
  rw[eo,a55 hh hu'];refine⟨⟨D5,⟨Z7,Z9⟩,⟨rfl,rfl,A4 _⟩,trivial⟩,λx=>⟨λhc=> ?_,λhc=> ?_⟩⟩
  ·have hlt:=Y1 hc;rw[u9,show((x.val:Int)-1).toNat=x.val-1 by omega]
   refine⟨Y2 hlt,Z4 (by omega),λ_ _=>Z4 (by omega),λ_ h0=>⟨by have:=F3 h0;omega,by omega⟩,λhq=> ?_,λhq=> ?_⟩
   ·refine(a3H hlt ?_).symm
    unfold E4 rB;rw[Bool.not_and,←Bool.or_assoc,hq];rfl
   ·simp only[uL,xO] at hq;obtain⟨⟨r1,r2⟩,r3⟩:=hq;obtain⟨l1,l2⟩:=L9.1 r3;refine⟨⟨⟨(61,(e.txs.getD x.val default).last),?_,l2,by dsimp only;omega⟩,⟨⟨rfl,rfl⟩,rfl,⟨rfl,rfl⟩,rfl,trivial⟩,⟨rfl,rfl,A4 _⟩,⟨rfl,rfl,rfl,rfl,trivial⟩,trivial⟩,λy=> ?_⟩
    ·dsimp only;unfold rB;rw[uK (by omega),r3]
     rfl
    obtain⟨⟨f,at_⟩,he,hle,hf⟩:=y;dsimp only at he hle hf ⊢;refine⟨λhy=> ?_,λhy=> ?_⟩
    ·have h0:at_>0:=F3 hy;have h1:1<=at_:=by omega
     obtain⟨p1,p2,p3,p4⟩:=hL.prev h1 hle;rw[uK (by omega),Bool.false_or,mZ _ _ (by omega) h1] at he
     have es:=b9L hL (e.txs.getD x.val default).id h1 hle;refine⟨Z4 (by omega),⟨by omega,by omega⟩,(e.s,Y6 e.s.log at_),λ_ _=>⟨⟨(yP _),⟨rfl,rfl,rfl,rfl,rfl,rfl,rfl,rfl,rfl,Z9⟩,trivial⟩,by dsimp only;omega,by unfold M7;dsimp only;omega⟩,λhq=> ?_,λhq=> ?_⟩
     ·have hq:=es.symm.trans hq;refine(a3H hlt ?_).symm
      rw[show okR e.s.log (e.txs.getD x.val default).id at_=false by simpa using hq] at he
      unfold E4;rw[←he];simp
     ·have hq:=es.symm.trans hq;rw[show okR e.s.log (e.txs.getD x.val default).id at_=true by simpa using hq,Bool.true_and] at he
      refine⟨Z4 (by omega),⟨by omega,by omega⟩,⟨(f-1,(Y6 e.s.log at_).p),?_,by dsimp only;omega,by dsimp only;omega⟩,⟨⟨⟨rfl,rfl⟩,rfl,⟨rfl,rfl⟩,rfl,trivial⟩,⟨rfl,rfl,A4 _⟩,⟨rfl,rfl,rfl,rfl,trivial⟩,trivial⟩,show f-1<f by omega⟩
      dsimp only;rw[←he];by_cases hp:(Y6 e.s.log at_).p<=0
      ·rw[aA _ _ _ hp,Bool.or_true]
      ·rw[uK hp,Bool.false_or]
    ·have h0:at_<=0:=by have:=yQ hy;omega
     rw[iZ h0,Bool.true_or] at he;exact⟨V7 hlt (by omega),x.succ hlt (by unfold E4;rw[←he,r1,r2];rfl),⟨⟨⟨rfl,rfl⟩,by simp only[V4.succ];omega,trivial⟩,⟨rfl,rfl,A4 _⟩,trivial⟩,V4.ext_lt hlt⟩
  ·have hge:=X9 hc;have hno:∀i,i<e.txs.length->E4 e i=false:=λi hi=>x.2.2 i (vV hi hge)
   have hn:=b6F hL hh hno;refine⟨⟨D5,⟨Z7,Z9⟩,⟨rfl,rfl,A4 _⟩,trivial⟩,λy=>⟨λhy=> ?_,λhy=>⟨⟨D5,⟨Z7,Z9⟩,⟨rfl,rfl,A4 _⟩,trivial⟩,λz=>⟨λhz=> ?_,λhz=> ?_⟩⟩⟩⟩
   ·have hlt:=Y1 hy;exact⟨Y2 hlt,(e,(e.lk.held.getD y.val default).tx),⟨⟨(A4 _),Z9⟩,ht⟩,λhq=>(b8I hlt hq).symm,λhq=>⟨V7 hlt (by omega),y.succ hlt hq,⟨⟨Z7,by simp only[V4.succ];omega,trivial⟩,⟨rfl,rfl,A4 _⟩,trivial⟩,V4.ext_lt hlt⟩⟩
   ·have hlt:=Y1 hz;exact⟨Y2 hlt,(e,(e.lk.waits.getD z.val default).tx),⟨⟨(A4 _),Z9⟩,ht⟩,λ_=>Y2 hlt,(e,(e.lk.waits.getD z.val default).fo),λ_=>⟨⟨(A4 _),Z9⟩,ht⟩,λhq=>(b7z hlt hq).symm,λhq=>⟨V7 hlt (by omega),z.succ hlt hq,⟨⟨Z7,by simp only[V4.succ];omega,trivial⟩,⟨rfl,rfl,A4 _⟩,trivial⟩,V4.ext_lt hlt⟩⟩
   ·have g1:=X9 hy;have g2:=X9 hz;have hb:=eC e.s.log e.txs e.txs.length;have he:ndE e=nM e.s.log e.txs e.txs.length:=rfl;refine⟨e,⟨⟨(A4 _),trivial⟩,hn⟩,Z4 (by omega),?_⟩
    have e1:anyI e.txs.length (E4 e)=false:=K2.2 hno;have e2:anyI e.lk.held.length (zO e)=false:=K2.2 λi hi=>y.2.2 i (vV hi g1)
    have e3:anyI e.lk.waits.length (B9 e)=false:=K2.2 λi hi=>z.2.2 i (vV hi g2)
    unfold upE;rw[e1,e2,e3];simp only[Bool.not_false,Bool.true_and];exact decide_eq_decide.2 (by omega)
end Go.Proofs.YtokaojbaacnngaaGreat

