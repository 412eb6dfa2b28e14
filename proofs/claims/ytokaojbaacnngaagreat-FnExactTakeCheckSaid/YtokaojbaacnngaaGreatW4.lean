/- A part of the proof. -/
import Derived.Test.YtokaojbaacnngaaGreatW3
namespace Go.Proofs.YtokaojbaacnngaaGreat
set_option maxRecDepth 100000
open Go.SS

def iB(L:List Rec)(T:List Txn):Nat->Nat
 |0=>0
 |k+1=>iB L T k+(1+und L 61 (T.getD k default).last)
def sZ(e:Eng):Nat:=iB e.s.log e.txs e.txs.length
def jZ(e:Eng):Prop:=zH e.s.log/\e.txs.length<=10/\∀i,i<e.txs.length->(e.txs.getD i default).last<=(e.s.log.length:Int)
theorem cX(L:List Rec)(T:List Txn):∀k,iB L T k<=62*k:=by
 intro k;induction k with
 |zero=>exact V5 0
 |succ k ih=>unfold iB;have:=aM L 61 (T.getD k default).last;omega
def b9H:Con:=.rel ⟨Eng,fun e=>[.bref e.ts],fun e=>.int .i64 (sZ e),jZ⟩
def b6J(e:Eng):Nat->Ann
 |0=>.one {i:Nat//i<=e.txs.length} (fun x=>⟨[(0,.bref e.ts),(3,.int .i64 (iB e.s.log e.txs x.1)),(9,B4 e.txs),(10,.int .i64 e.txs.length),(11,.int .i64 x.1)],[]⟩) (fun x=>e.txs.length-x.1) [] [] (fun _=>Z0)
 |_=>.none
noncomputable def b96:Code:=Tryz.f179.body.getD .skip
theorem a21:Z7 Tryz.prog 179:=⟨_,Tryz.func179,by kernel_rfl,by kernel_rfl⟩
theorem b90(e:Eng)(h:
  (∃(x:{i:Nat//i<=e.txs.length}),(O0 (fun(x:Nat)=>none) (T.bref e.ts) (T.bref e.ts)/\(0:Int)=(↑(iB e.s.log e.txs x.val):Int)/\(Y4 Y0 e.txs e.txs)/\(e.txs.length:Int)=(e.txs.length:Int)/\(0:Int)=
  (x.val:Int)/\True)/\True)/\∀(x:{i:Nat//i<=e.txs.length}),(decide ((x.val:Int)<(e.txs.length:Int))=true->X0 (x.val:Int) e.txs.length/\∃(x_1:(Sto×Int)),(((xM e.s x_1.fst)/\(e.txs.getD (x.val:Int).toNat
  default).last=x_1.snd/\True)/\rL x_1.fst.log x_1.snd)/\X8 .i64 ((↑(iB e.s.log e.txs x.val):Int)+(↑(1+und x_1.fst.log 61 x_1.snd):Int))/\X8 .i64 ((x.val:Int)+(1:Int))/\∃(y:{i:Nat//i<=e.txs.length
  }),((O0 (fun(x:Nat)=>none) (T.bref e.ts) (T.bref e.ts)/\(↑(iB e.s.log e.txs x.val):Int)+(↑(1+und x_1.fst.log 61 x_1.snd):Int)=(↑(iB e.s.log e.txs y.val):Int)/\(Y4 Y0 e.txs e.txs)/\(e.txs.length:Int)=
  (e.txs.length:Int)/\(x.val:Int)+(1:Int)=(y.val:Int)/\True)/\True)/\Lt (e.txs.length-y.val) (e.txs.length-x.val))/\(decide ((x.val:Int)<(e.txs.length:Int))=false->(↑(iB e.s.log e.txs x.val):Int)=(↑(sZ e):
  Int))):
  Z2 Tryz.prog 179 [.bref e.ts] (.int .i64 (sZ e)):=
 T4 (code:=b96) (gC b4v a1F gN) Tryz.func179 (by kernel_rfl) (by kernel_rfl) (b6J e) h (by kernel_rfl)
theorem a3u{L:List Rec}{T:List Txn}{i:Nat}:((iB L T i:Nat):Int)+((1+und L 61 (T.getD i default).last:Nat):Int)=(iB L T (i+1):Nat):=by
 conv=>rhs;unfold iB
 omega
theorem b33:Z1 Tryz.prog 179 b9H:=by
 rintro(e:Eng) ⟨hL,h10,hb⟩;refine b90 e ⟨⟨⟨0,T0 _⟩,⟨T8 _,rfl,⟨rfl,Z9 _ _⟩,rfl,rfl,trivial⟩,trivial⟩,fun x=>⟨fun hc=> ?_,fun hc=> ?_⟩⟩
 ·have hlt:=Y9 hc;have h1:=cX e.s.log e.txs x.val;have h2:=aM e.s.log 61 (e.txs.getD x.val default).last;refine⟨Y7 hlt,(e.s,(e.txs.getD x.val default).last),⟨⟨(wS _),rfl,trivial⟩,hL,hb _ hlt⟩,Z5 (by dsimp only;omega),W4 hlt (by omega),⟨x.val+1,hlt⟩,⟨⟨T8 _,a3u,⟨rfl,Z9 _ _⟩,rfl,by dsimp only;omega,trivial⟩,trivial⟩,V9.ext_lt hlt⟩
 ·have hx:x.val=e.txs.length:=by have:=x.2;have:=Y3 hc;omega
  rw[hx];rfl
def b4t:Con:=.rel ⟨Eng×Int,fun x=>[.bref x.1.ts,.int .i64 x.2],fun x=>.bool (decide ((x.1.s.log.length:Int)+sZ x.1+x.2<=60)),fun x=>jZ x.1/\A9 x.2⟩
noncomputable def b4q:Code:=Tryz.f110.body.getD .skip
theorem rY:Z7 Tryz.prog 110:=⟨_,Tryz.func110,by kernel_rfl,by kernel_rfl⟩
theorem b07(e:Eng)(m:Int)(h:
  ∃(x:Eng),(((j6 e x)/\True)/\jZ x)/\X8 .i64 ((e.s.log.length:Int)+(↑(sZ x):Int))/\X8 .i64 ((e.s.log.length:Int)+(↑(sZ x):Int)+m)/\decide ((e.s.log.length:Int)+(↑(sZ x):Int)+m<=(60:Int))=decide
  ((e.s.log.length:Int)+(↑(sZ e):Int)+m<=(60:Int))):
  Z2 Tryz.prog 110 [.bref e.ts,.int .i64 m] (.bool (decide ((e.s.log.length:Int)+sZ e+m<=60))):=
 T4 (code:=b4q) (gC b33 a21 gN) Tryz.func110 (by kernel_rfl) (by kernel_rfl) Z0 h (by kernel_rfl)
theorem mW:Z1 Tryz.prog 110 b4t:=by
 rintro⟨e,m⟩ ⟨hn,h1,h2⟩;dsimp only at hn h1 h2;have hb:=cX e.s.log e.txs e.txs.length;have hb2:=hn.2.1;have hb3:=hn.1.1;have he:sZ e=iB e.s.log e.txs e.txs.length:=rfl;exact b07 e m ⟨e,⟨⟨(u7 _),trivial⟩,hn⟩,Z5 (by omega),Z5 (by omega),rfl⟩
def a0A:Con:=.rel ⟨Eng,fun e=>[.agg e.ts],fun e=>.int .i64 (sZ e),jZ⟩
def a0s(e:Eng):Nat->Ann
 |0=>.one {i:Nat//i<=e.txs.length} (fun x=>⟨[(1,.ref 0 0 0),(3,.int .i64 (iB e.s.log e.txs x.1)),(4,.int .i64 x.1)],[xE e]⟩) (fun x=>e.txs.length-x.1) [.box 0] [.box 0] (fun _=>Z0)
 |_=>.none
noncomputable def aO:Code:=Tryz.f77.body.getD .skip
theorem xP:Z7 Tryz.prog 77:=⟨_,Tryz.func77,by kernel_rfl,by kernel_rfl⟩
theorem bE(e:Eng)(h:
  (∃(x:{i:Nat//i<=e.txs.length}),((0=0/\0=0)/\(0:Int)=(↑(iB e.s.log e.txs x.val):Int)/\(0:Int)=(x.val:Int)/\True)/\(1=1/\1=1/\j6 e e)/\True)/\∀(x:{i:Nat//i<=e.txs.length}),(decide
  ((x.val:Int)<(e.txs.length:Int))=true->X0 (x.val:Int) e.txs.length/\∃(x_1:(Sto×Int)),(((xM e.s x_1.fst)/\(e.txs.getD (x.val:Int).toNat default).last=x_1.snd/\True)/\rL x_1.fst.log x_1.snd)/\X8 .i64 ((↑(iB
  e.s.log e.txs x.val):Int)+(↑(1+und x_1.fst.log 61 x_1.snd):Int))/\X8 .i64 ((x.val:Int)+(1:Int))/\∃(y:{i:Nat//i<=e.txs.length}),(((0=0/\0=0)/\(↑(iB e.s.log e.txs x.val):Int)+(↑(1+und
  x_1.fst.log 61 x_1.snd):Int)=(↑(iB e.s.log e.txs y.val):Int)/\(x.val:Int)+(1:Int)=(y.val:Int)/\True)/\(1=1/\1=1/\j6 e e)/\True)/\Lt (e.txs.length-y.val) (e.txs.length-x.val))/\(decide ((x.val:Int)<
  (e.txs.length:Int))=false->(↑(iB e.s.log e.txs x.val):Int)=(↑(sZ e):Int))):
  Z2 Tryz.prog 77 [.agg e.ts] (.int .i64 (sZ e)):=
 T4 (code:=aO) (gC a5Y a0z gN) Tryz.func77 (by kernel_rfl) (by kernel_rfl) (a0s e) h (by kernel_rfl)
theorem uZ:Z1 Tryz.prog 77 a0A:=by
 rintro(e:Eng) ⟨hL,h10,hb⟩;refine bE e ⟨⟨⟨0,T0 _⟩,⟨⟨rfl,rfl⟩,rfl,rfl,trivial⟩,⟨rfl,rfl,u7 _⟩,trivial⟩,fun x=>⟨fun hc=> ?_,fun hc=> ?_⟩⟩
 ·have hlt:=Y9 hc;have h1:=cX e.s.log e.txs x.val;have h2:=aM e.s.log 61 (e.txs.getD x.val default).last;refine⟨Y7 hlt,(e.s,(e.txs.getD x.val default).last),⟨⟨(wS _),rfl,trivial⟩,hL,hb _ hlt⟩,Z5 (by dsimp only;omega),W4 hlt (by omega),⟨x.val+1,hlt⟩,⟨⟨⟨rfl,rfl⟩,a3u,by dsimp only;omega,trivial⟩,⟨rfl,rfl,u7 _⟩,trivial⟩,V9.ext_lt hlt⟩
 ·have hx:x.val=e.txs.length:=by have:=x.2;have:=Y3 hc;omega
  rw[hx];rfl
def mS(L:List Rec)(r:Rec):Bool:=decide (r.n>0)&&((W7 L r.n).t==r.t)&&decide ((W7 L r.n).k<=3)
def b04:Con:=.rel ⟨Sto×Rec,fun x=>[.agg x.1.ts,.agg x.2.ts],fun x=>.bool (mS x.1.log x.2),fun x=>x.2.n<=(x.1.log.length:Int)/\K6 x.1.log.length⟩
noncomputable def b13:Code:=Tryz.f75.body.getD .skip
theorem eC:Z7 Tryz.prog 75:=⟨_,Tryz.func75,by kernel_rfl,by kernel_rfl⟩
theorem b0T(s:Sto)(r:Rec)(h:
  (decide (r.n>(0:Int))=true->X8 .i64 (r.n- (1:Int)))/\(decide (r.n>(0:Int))=true->X0 (r.n- (1:Int)) s.log.length)/\((decide (r.n>(0:Int))&&(s.log.getD (r.n- (1:Int)).toNat default).t==r.t)=true
  ->X8 .i64 (r.n- (1:Int)))/\((decide (r.n>(0:Int))&&(s.log.getD (r.n- (1:Int)).toNat default).t==r.t)=true->X0 (r.n- (1:Int)) s.log.length)/\(decide (r.n>(0:Int))&&(s.log.getD (r.n- (1:Int)).toNat
  default).t==r.t&&decide ((s.log.getD (r.n- (1:Int)).toNat default).k<=(3:Int)))=mS s.log r):
  Z2 Tryz.prog 75 [.agg s.ts,.agg r.ts] (.bool (mS s.log r)):=
 T4 (code:=b13) gN Tryz.func75 (by kernel_rfl) (by kernel_rfl) Z0 h (by kernel_rfl)
theorem a7g:Z1 Tryz.prog 75 b04:=by
 rintro⟨s,r⟩ ⟨h1,h2⟩;have h2:s.log.length<1000000000000:=h2;dsimp only at h1;have k1:decide (r.n>(0:Int))=true->X8 .i64 (r.n-1)/\X0 (r.n-1) s.log.length:=fun h=>by
  have h:=D8 h;exact⟨Z5 (by omega),by omega,by omega⟩
 exact b0T s r ⟨fun h=>(k1 h).1,fun h=>(k1 h).2,fun h=>(k1 (Bool.and_eq_true_iff.1 h).1).1,fun h=>(k1 (Bool.and_eq_true_iff.1 h).1).2,rfl⟩
def m3(e:Eng)(i:Nat):Bool:=decide (L6 e.txs (e.lk.held.getD i default).tx<0)
def E4(e:Eng)(i:Nat):Bool:=decide (L6 e.txs (e.lk.waits.getD i default).tx<0)||decide (L6 e.txs (e.lk.waits.getD i default).fo<0)
def TxL(e:Eng):Prop:=K6 e.txs.length
def a1h:Con:=.rel ⟨Eng×Lck,fun x=>[.agg x.2.ts,.bref [.bref x.1.ts]],fun x=>.bool (decide (L6 x.1.txs x.2.tx<0)),fun x=>TxL x.1⟩
noncomputable def a07:Code:=Tryz.f159.body.getD .skip
theorem kP:Z7 Tryz.prog 159:=⟨_,Tryz.func159,by kernel_rfl,by kernel_rfl⟩
theorem a22(e:Eng)(l:Lck)(h:
  ∃(x:(Eng×Int)),(((j6 e x.fst)/\l.tx=x.snd/\True)/\K6 x.fst.txs.length)/\decide (L6 x.fst.txs x.snd<(0:Int))=decide (L6 e.txs l.tx<(0:Int))):
  Z2 Tryz.prog 159 [.agg l.ts,.bref [.bref e.ts]] (.bool (decide (L6 e.txs l.tx<0))):=
 T4 (code:=a07) (gC a8R eY gN) Tryz.func159 (by kernel_rfl) (by kernel_rfl) Z0 h (by kernel_rfl)
theorem dU:Z1 Tryz.prog 159 a1h:=fun x h=>a22 x.1 x.2 ⟨(x.1,x.2.tx),⟨⟨(u7 _),rfl,trivial⟩,h⟩,rfl⟩
def a1N:Con:=.rel ⟨Eng×Wt,fun x=>[.agg x.2.ts,.bref [.bref x.1.ts]],fun x=>.bool (decide (L6 x.1.txs x.2.tx<0)||decide (L6 x.1.txs x.2.fo<0)),fun x=>TxL x.1⟩
noncomputable def a2C:Code:=Tryz.f161.body.getD .skip
theorem nJ:Z7 Tryz.prog 161:=⟨_,Tryz.func161,by kernel_rfl,by kernel_rfl⟩
theorem a1r(e:Eng)(l:Wt)(h:
  ∃(x:(Eng×Int)),(((j6 e x.fst)/\l.tx=x.snd/\True)/\K6 x.fst.txs.length)/\∃(x_1:(Eng×Int)),(decide (L6 x.fst.txs x.snd<(0:Int))=false->((j6 e x_1.fst)/\l.fo=x_1.snd/\True)/\K6 x_1.fst.txs.length)
  /\(decide (L6 x.fst.txs x.snd<(0:Int))||decide (L6 x_1.fst.txs x_1.snd<(0:Int)))=(decide (L6 e.txs l.tx<(0:Int))||decide (L6 e.txs l.fo<(0:Int)))):
  Z2 Tryz.prog 161 [.agg l.ts,.bref [.bref e.ts]] (.bool (decide (L6 e.txs l.tx<0)||decide (L6 e.txs l.fo<0))):=
 T4 (code:=a2C) (gC a8R eY gN) Tryz.func161 (by kernel_rfl) (by kernel_rfl) Z0 h (by kernel_rfl)
theorem dP:Z1 Tryz.prog 161 a1N:=fun x h=>a1r x.1 x.2 ⟨(x.1,x.2.tx),⟨⟨(u7 _),rfl,trivial⟩,h⟩,(x.1,x.2.fo),fun _=>⟨⟨(u7 _),rfl,trivial⟩,h⟩,rfl⟩
def eF1(e:Eng):T:=.fn (.func 159) [.bref [.bref e.ts]]
def eF2(e:Eng):T:=.fn (.func 161) [.bref [.bref e.ts]]
def HlL(e:Eng):Prop:=TxL e/\K6 e.lk.held.length/\K6 e.lk.waits.length
def b0Q:Con:=.rel ⟨Eng,fun e=>[w7 e.lk.held,eF1 e],fun e=>.int .i64 (Q4 e.lk.held.length (m3 e)),HlL⟩
def b0r(e:Eng):Nat->Ann
 |0=>.one (V9 e.lk.held.length (m3 e)) (fun x=>⟨[(0,w7 e.lk.held),(1,eF1 e),(7,.int .i64 e.lk.held.length),(8,.int .i64 x.1)],[]⟩) (fun x=>e.lk.held.length-x.1) [] [] (fun _=>Z0)
 |_=>.none
noncomputable def b3H:Code:=Tryz.f223.body.getD .skip
theorem a0k:Z7 Tryz.prog 223:=⟨_,Tryz.func223,by kernel_rfl,by kernel_rfl⟩
theorem b2b(e:Eng)(h:
  (∃(x:V9 e.lk.held.length (m3 e)),((Y4 Y2 e.lk.held e.lk.held)/\(Fn.func 159=Fn.func 159/\O0 (fun(x:Nat)=>none) (T.bref [T.bref e.ts]) (T.bref [T.bref e.ts])/\True)/\(e.lk.held.length:Int)=
  (e.lk.held.length:Int)/\(0:Int)=(x.val:Int)/\True)/\True)/\∀(x:V9 e.lk.held.length (m3 e)),(decide ((x.val:Int)<(e.lk.held.length:Int))=true->X0 (x.val:Int) e.lk.held.length/\∃(x_1:(Eng×Lck)),
  ((((e.lk.held.getD (x.val:Int).toNat default).tx=x_1.snd.tx/\(e.lk.held.getD (x.val:Int).toNat default).ta=x_1.snd.ta/\(e.lk.held.getD (x.val:Int).toNat default).row=x_1.snd.row/\(e.lk.held.getD (x.val:Int).toNat
  default).mo=x_1.snd.mo/\True)/\((j6 e x_1.fst)/\True)/\True)/\TxL x_1.fst)/\(decide (L6 x_1.fst.txs x_1.snd.tx<(0:Int))=true->(x.val:Int)=Q4 e.lk.held.length (m3 e))/\(decide (L6 x_1.fst.txs x_1.snd.tx<
  (0:Int))=false->X8 .i64 ((x.val:Int)+(1:Int))/\∃(y:V9 e.lk.held.length (m3 e)),(((Y4 Y2 e.lk.held e.lk.held)/\(Fn.func 159=Fn.func 159/\O0 (fun(x:Nat)=>none) (T.bref [T.bref e.ts]) (T.bref [T.bref
  e.ts])/\True)/\(e.lk.held.length:Int)=(e.lk.held.length:Int)/\(x.val:Int)+(1:Int)=(y.val:Int)/\True)/\True)/\Lt (e.lk.held.length-y.val) (e.lk.held.length-x.val)))/\(decide ((x.val:Int)<(e.lk.held.length:Int))
  =false->(-1:Int)=Q4 e.lk.held.length (m3 e))):
  Z2 Tryz.prog 223 [w7 e.lk.held,eF1 e] (.int .i64 (Q4 e.lk.held.length (m3 e))):=
 T4 (code:=b3H) (gC dU kP gN) Tryz.func223 (by kernel_rfl) (by kernel_rfl) (b0r e) h (by kernel_rfl)
theorem a7x:Z1 Tryz.prog 223 b0Q:=by
 rintro(e:Eng) ⟨ht,h1,h2⟩;have h1:e.lk.held.length<1000000000000:=h1;have h2:e.lk.waits.length<1000000000000:=h2;refine b2b e ⟨⟨E5,⟨⟨rfl,Z9 _ _⟩,⟨rfl,T8 _,trivial⟩,rfl,rfl,trivial⟩,trivial⟩,fun x=>⟨fun hc=> ?_,fun hc=> ?_⟩⟩
 ·have hlt:=Y9 hc;refine⟨Y7 hlt,(e,e.lk.held.getD x.val default),⟨⟨⟨rfl,rfl,rfl,rfl,trivial⟩,⟨(u7 _),trivial⟩,trivial⟩,ht⟩,fun hp=>(M1 hlt hp x.2.2).symm,fun hp=>⟨W4 hlt (by omega),x.succ hlt hp,⟨⟨⟨rfl,Z9 _ _⟩,⟨rfl,T8 _,trivial⟩,rfl,by simp only[V9.succ];omega,trivial⟩,trivial⟩,V9.ext_lt hlt⟩⟩
 ·have hge:=Y3 hc;exact(J4 fun j hj=>x.2.2 j (xF hj hge)).symm
def b17:Con:=.rel ⟨Eng,fun e=>[w7 e.lk.held,eF1 e],fun e=>.bool (anyI e.lk.held.length (m3 e)),HlL⟩
noncomputable def b0E:Code:=Tryz.f158.body.getD .skip
theorem aI:Z7 Tryz.prog 158:=⟨_,Tryz.func158,by kernel_rfl,by kernel_rfl⟩
theorem b3a(e:Eng)(h:
  ∃(x:Eng),(((Y4 Y2 e.lk.held x.lk.held)/\(Fn.func 159=Fn.func 159/\((j6 e x)/\True)/\True)/\True)/\HlL x)/\decide (Q4 x.lk.held.length (m3 x)≥(0:Int))=anyI e.lk.held.length (m3 e)):
  Z2 Tryz.prog 158 [w7 e.lk.held,eF1 e] (.bool (anyI e.lk.held.length (m3 e))):=
 T4 (code:=b0E) (gC a7x a0k gN) Tryz.func158 (by kernel_rfl) (by kernel_rfl) Z0 h (by kernel_rfl)
theorem a8o:Z1 Tryz.prog 158 b17:=fun(e:Eng) h=>b3a e ⟨e,⟨⟨⟨rfl,Z9 _ _⟩,⟨rfl,⟨(u7 _),trivial⟩,trivial⟩,trivial⟩,h⟩,w8 _ _⟩
def b9x:Con:=.rel ⟨Eng,fun e=>[tT e.lk.waits,eF2 e],fun e=>.int .i64 (Q4 e.lk.waits.length (E4 e)),HlL⟩
def b7Z(e:Eng):Nat->Ann
 |0=>.one (V9 e.lk.waits.length (E4 e)) (fun x=>⟨[(0,tT e.lk.waits),(1,eF2 e),(7,.int .i64 e.lk.waits.length),(8,.int .i64 x.1)],[]⟩) (fun x=>e.lk.waits.length-x.1) [] [] (fun _=>Z0)
 |_=>.none
noncomputable def b4K:Code:=Tryz.f224.body.getD .skip
theorem a3i:Z7 Tryz.prog 224:=⟨_,Tryz.func224,by kernel_rfl,by kernel_rfl⟩
theorem c0k(e:Eng)(h:
  (∃(x:V9 e.lk.waits.length (E4 e)),((Y4 X3 e.lk.waits e.lk.waits)/\(Fn.func 161=Fn.func 161/\O0 (fun(x:Nat)=>none) (T.bref [T.bref e.ts]) (T.bref [T.bref e.ts])/\True)/\(e.lk.waits.length:Int)=
  (e.lk.waits.length:Int)/\(0:Int)=(x.val:Int)/\True)/\True)/\∀(x:V9 e.lk.waits.length (E4 e)),(decide ((x.val:Int)<(e.lk.waits.length:Int))=true->X0 (x.val:Int) e.lk.waits.length/\∃(x_1:(Eng×Wt)),
  ((((e.lk.waits.getD (x.val:Int).toNat default).tx=x_1.snd.tx/\(e.lk.waits.getD (x.val:Int).toNat default).fo=x_1.snd.fo/\True)/\((j6 e x_1.fst)/\True)/\True)/\TxL x_1.fst)/\((decide (L6 x_1.fst.txs x_1.snd.tx<(0:
  Int))||decide (L6 x_1.fst.txs x_1.snd.fo<(0:Int)))=true->(x.val:Int)=Q4 e.lk.waits.length (E4 e))/\((decide (L6 x_1.fst.txs x_1.snd.tx<(0:Int))||decide (L6 x_1.fst.txs x_1.snd.fo<(0:Int)))=false
  ->X8 .i64 ((x.val:Int)+(1:Int))/\∃(y:V9 e.lk.waits.length (E4 e)),(((Y4 X3 e.lk.waits e.lk.waits)/\(Fn.func 161=Fn.func 161/\O0 (fun(x:Nat)=>none) (T.bref [T.bref e.ts]) (T.bref [T.bref e.ts])/\True)/\
  (e.lk.waits.length:Int)=(e.lk.waits.length:Int)/\(x.val:Int)+(1:Int)=(y.val:Int)/\True)/\True)/\Lt (e.lk.waits.length-y.val) (e.lk.waits.length-x.val)))/\(decide ((x.val:Int)<(e.lk.waits.length:Int))=false->
  (-1:Int)=Q4 e.lk.waits.length (E4 e))):
  Z2 Tryz.prog 224 [tT e.lk.waits,eF2 e] (.int .i64 (Q4 e.lk.waits.length (E4 e))):=
 T4 (code:=b4K) (gC dP nJ gN) Tryz.func224 (by kernel_rfl) (by kernel_rfl) (b7Z e) h (by kernel_rfl)
theorem b0e:Z1 Tryz.prog 224 b9x:=by
 rintro(e:Eng) ⟨ht,h1,h2⟩;have h1:e.lk.held.length<1000000000000:=h1;have h2:e.lk.waits.length<1000000000000:=h2;refine c0k e ⟨⟨E5,⟨⟨rfl,Z9 _ _⟩,⟨rfl,T8 _,trivial⟩,rfl,rfl,trivial⟩,trivial⟩,fun x=>⟨fun hc=> ?_,fun hc=> ?_⟩⟩
 ·have hlt:=Y9 hc;refine⟨Y7 hlt,(e,e.lk.waits.getD x.val default),⟨⟨⟨rfl,rfl,trivial⟩,⟨(u7 _),trivial⟩,trivial⟩,ht⟩,fun hp=>(M1 hlt hp x.2.2).symm,fun hp=>⟨W4 hlt (by omega),x.succ hlt hp,⟨⟨⟨rfl,Z9 _ _⟩,⟨rfl,T8 _,trivial⟩,rfl,by simp only[V9.succ];omega,trivial⟩,trivial⟩,V9.ext_lt hlt⟩⟩
 ·have hge:=Y3 hc;exact(J4 fun j hj=>x.2.2 j (xF hj hge)).symm
def b8m:Con:=.rel ⟨Eng,fun e=>[tT e.lk.waits,eF2 e],fun e=>.bool (anyI e.lk.waits.length (E4 e)),HlL⟩
noncomputable def b6h:Code:=Tryz.f160.body.getD .skip
theorem a2K:Z7 Tryz.prog 160:=⟨_,Tryz.func160,by kernel_rfl,by kernel_rfl⟩
theorem b9L(e:Eng)(h:
  ∃(x:Eng),(((Y4 X3 e.lk.waits x.lk.waits)/\(Fn.func 161=Fn.func 161/\((j6 e x)/\True)/\True)/\True)/\HlL x)/\decide (Q4 x.lk.waits.length (E4 x)≥(0:Int))=anyI e.lk.waits.length (E4 e)):
  Z2 Tryz.prog 160 [tT e.lk.waits,eF2 e] (.bool (anyI e.lk.waits.length (E4 e))):=
 T4 (code:=b6h) (gC b0e a3i gN) Tryz.func160 (by kernel_rfl) (by kernel_rfl) Z0 h (by kernel_rfl)
theorem b1w:Z1 Tryz.prog 160 b8m:=fun(e:Eng) h=>b9L e ⟨e,⟨⟨⟨rfl,Z9 _ _⟩,⟨rfl,⟨(u7 _),trivial⟩,trivial⟩,trivial⟩,h⟩,w8 _ _⟩
def H5(e:Eng)(i:Nat):Bool:= !W8 (e.txs.getD i default).id 1 (e.next-1)||(decide ((i:Int)>0)&&decide ((e.txs.getD (i-1) default).id≥(e.txs.getD i default).id))|| !tN e.s.log (e.txs.getD i default)
def zP(e:Eng):Bool:=decide (e.txs.length<=10)&&W8 e.next 1 61&&J8 e.lk
def a1f(e:Eng):Bool:=decide (e.txs.length+e.lk.held.length+e.lk.waits.length+e.s.fr.length=0)
def upE(e:Eng):Bool:= !anyI e.txs.length (H5 e)&& !anyI e.lk.held.length (m3 e)&& !anyI e.lk.waits.length (E4 e)&&decide (e.s.log.length+sZ e<=60)
def xD(e:Eng):Bool:=zP e&&(if e.up then upE e else a1f e)
def c7M(e:Eng):Prop:=zH e.s.log/\b9r e.lk/\K6 e.txs.length/\K6 e.s.fr.length
def a6f:Con:=.rel ⟨Eng,fun e=>[.bref e.ts],fun e=>.bool (xD e),c7M⟩
def c5m(e:Eng):Option Ob:=some (.arr true 1000000 1 1 fun _=>[.bref e.ts])
def a4w(e:Eng):Nat->Ann
 |0=>.one (V9 e.txs.length (H5 e)) (fun x=>⟨[(1,.ref 0 0 0),(62,B4 e.txs),(63,.int .i64 e.txs.length),(64,.int .i64 x.1)],[c5m e]⟩) (fun x=>e.txs.length-x.1) [.box 0] [.box 0] (fun _=>Z0)
 |_=>.none
noncomputable def a58:Code:=Tryz.f88.body.getD .skip
theorem jW:Z7 Tryz.prog 88:=⟨_,Tryz.func88,by kernel_rfl,by kernel_rfl⟩
theorem a6B(e:Eng)(h:
  ∃(x:vV.ι),((decide ((e.txs.length:Int)>(10:Int))|| !W8 e.next (1:Int) (61:Int))=false->(((Y4 Y2 e.lk.held x.held)/\(Y4 X3 e.lk.waits x.waits)/\True)/\True)/\b9r x)/\((decide
  ((e.txs.length:Int)>(10:Int))|| !W8 e.next (1:Int) (61:Int)|| !J8 x)=true->false=xD e)/\((decide ((e.txs.length:Int)>(10:Int))|| !W8 e.next (1:Int) (61:Int)|| !J8 x)=false->((!e.up)=true->
  X8 .i64 ((e.txs.length:Int)+(e.lk.held.length:Int))/\X8 .i64 ((e.txs.length:Int)+(e.lk.held.length:Int)+(e.lk.waits.length:Int))/\X8 .i64 ((e.txs.length:Int)+(e.lk.held.length:Int)+(e.lk.waits.length:Int)+
  (e.s.fr.length:Int))/\((e.txs.length:Int)+(e.lk.held.length:Int)+(e.lk.waits.length:Int)+(e.s.fr.length:Int)==(0:Int))=xD e)/\((!e.up)=false->(∃(x:V9 e.txs.length (H5 e)),((0=0/\0=0)/\(Y4 Y0
  e.txs e.txs)/\(e.txs.length:Int)=(e.txs.length:Int)/\(0:Int)=(x.val:Int)/\True)/\(1=1/\1=1/\O0 (A5 [some 0]) (T.bref e.ts) (T.bref e.ts)/\True)/\True)/\∀(x:V9 e.txs.length (H5 e)),(decide ((x.val:Int)
  <(e.txs.length:Int))=true->X0 (x.val:Int) e.txs.length/\X8 .i64 (e.next- (1:Int))/\((!W8 (e.txs.getD (x.val:Int).toNat default).id (1:Int) (e.next- (1:Int)))=false->decide ((x.val:Int)>(0:Int))=true->X8
  .i64 ((x.val:Int)- (1:Int)))/\((!W8 (e.txs.getD (x.val:Int).toNat default).id (1:Int) (e.next- (1:Int)))=false->decide ((x.val:Int)>(0:Int))=true->X0 ((x.val:Int)- (1:Int)) e.txs.length)/\∃(x_1:(Sto×
  Txn)),((!W8 (e.txs.getD (x.val:Int).toNat default).id (1:Int) (e.next- (1:Int))||decide ((x.val:Int)>(0:Int))&&decide ((e.txs.getD ((x.val:Int)- (1:Int)).toNat default).id≥(e.txs.getD (x.val:Int).toNat
  default).id))=false->((xM e.s x_1.fst)/\((e.txs.getD (x.val:Int).toNat default).id=x_1.snd.id/\(e.txs.getD (x.val:Int).toNat default).last=x_1.snd.last/\True)/\True)/\zH x_1.fst.log)/\((!W8 (e.txs.getD
  (x.val:Int).toNat default).id (1:Int) (e.next- (1:Int))||decide ((x.val:Int)>(0:Int))&&decide ((e.txs.getD ((x.val:Int)- (1:Int)).toNat default).id≥(e.txs.getD (x.val:Int).toNat default).id)|| !tN x_1.fst.log
  x_1.snd)=true->false=xD e)/\((!W8 (e.txs.getD (x.val:Int).toNat default).id (1:Int) (e.next- (1:Int))||decide ((x.val:Int)>(0:Int))&&decide ((e.txs.getD ((x.val:Int)- (1:Int)).toNat default).id≥
  (e.txs.getD (x.val:Int).toNat default).id)|| !tN x_1.fst.log x_1.snd)=false->X8 .i64 ((x.val:Int)+(1:Int))/\∃(y:V9 e.txs.length (H5 e)),(((0=0/\0=0)/\(Y4 Y0 e.txs e.txs)/\(e.txs.length:Int)=
  (e.txs.length:Int)/\(x.val:Int)+(1:Int)=(y.val:Int)/\True)/\(1=1/\1=1/\O0 (A5 [some 0]) (T.bref e.ts) (T.bref e.ts)/\True)/\True)/\Lt (e.txs.length-y.val) (e.txs.length-x.val)))/\(decide ((x.val:Int)<
  (e.txs.length:Int))=false->∃(x:Eng),(((Y4 Y2 e.lk.held x.lk.held)/\(Fn.func 159=Fn.func 159/\((j6 e x)/\True)/\True)/\True)/\HlL x)/\∃(x_1:Eng),(anyI x.lk.held.length (m3 x)=false->((Y4 X3
  e.lk.waits x_1.lk.waits)/\(Fn.func 161=Fn.func 161/\((j6 e x_1)/\True)/\True)/\True)/\HlL x_1)/\((anyI x.lk.held.length (m3 x)||anyI x_1.lk.waits.length (E4 x_1))=true->false=xD e)/\((anyI x.lk.held.length
  (m3 x)||anyI x_1.lk.waits.length (E4 x_1))=false->∃(x:(Eng×Int)),(((j6 e x.fst)/\(0:Int)=x.snd/\True)/\jZ x.fst/\A9 x.snd)/\decide ((x.fst.s.log.length:Int)+(↑(sZ x.fst):Int)+x.snd<=(60:
  Int))=xD e))))):
  Z2 Tryz.prog 88 [.bref e.ts] (.bool (xD e)):=
 T4 (code:=a58) (gC P2 R8 (gC a2V jX (gC a8l a0y (gC a8o aI (gC b1w a2K (gC mW rY gN)))))) Tryz.func88 (by kernel_rfl) (by kernel_rfl) (a4w e) h (by kernel_rfl)
theorem b8X(e:Eng):(decide ((e.txs.length:Int)>10)|| !W8 e.next 1 61|| !J8 e.lk)= !zP e:=by
 unfold zP;rw[Bool.not_and,Bool.not_and,←decide_not];congr 2
 exact decide_eq_decide.2 (by omega)
theorem a9g{e:Eng}(h:zP e=false):xD e=false:=by unfold xD;rw[h];rfl
theorem a89{e:Eng}(h:zP e=true)(hu:e.up=true):xD e=upE e:=by unfold xD;rw[h,if_pos hu];rfl
theorem a9P{e:Eng}(h:zP e=true)(hu:e.up=false):xD e=a1f e:=by unfold xD;rw[h,hu];rfl
theorem a4C{e:Eng}{i:Nat}(hi:i<e.txs.length)(h:H5 e i=true):upE e=false:=by
 have:anyI e.txs.length (H5 e)=true:=Q0.2 ⟨i,hi,h⟩;unfold upE;rw[this];rfl
theorem c6g{e:Eng}{i:Nat}(hi:i<e.lk.held.length)(h:m3 e i=true):upE e=false:=by
 have:anyI e.lk.held.length (m3 e)=true:=Q0.2 ⟨i,hi,h⟩;unfold upE;rw[this];simp
theorem c6a{e:Eng}{i:Nat}(hi:i<e.lk.waits.length)(h:E4 e i=true):upE e=false:=by
 have:anyI e.lk.waits.length (E4 e)=true:=Q0.2 ⟨i,hi,h⟩;unfold upE;rw[this];simp
theorem wZ{e:Eng}(h:zP e=true):e.txs.length<=10/\1<=e.next/\e.next<=61/\J8 e.lk=true:=by
 unfold zP at h;simp only[K5,t9,O5] at h;exact⟨h.1.1,h.1.2.1,h.1.2.2,h.2⟩
theorem b8O{e:Eng}(hL:zH e.s.log)(h:zP e=true)(hb:∀i,i<e.txs.length->H5 e i=false):jZ e:=by
 refine⟨hL,(wZ h).1,fun i hi=> ?_⟩
 have:=hb i hi;unfold H5 at this;simp only[vG,tE] at this;have:=this.2;unfold tN at this;simp only[K5,O5] at this;exact this.1.2
theorem a2r:Z1 Tryz.prog 88 a6f:=by
 rintro(e:Eng) ⟨hL,hk,ht,hf⟩;have ht:e.txs.length<1000000000000:=ht;have hf:e.s.fr.length<1000000000000:=hf;have hk1:e.lk.held.length<1000000000000:=hk.1;have hk2:e.lk.waits.length<1000000000000:=hk.2;refine a6B e ⟨e.lk,fun _=>⟨⟨⟨⟨rfl,Z9 _ _⟩,⟨rfl,Z9 _ _⟩,trivial⟩,trivial⟩,hk⟩,fun hb=> ?_,fun hb=>⟨fun hu=> ?_,fun hu=> ?_⟩⟩
 ·rw[b8X] at hb;rw[a9g (by simpa using hb)]
 ·rw[b8X] at hb;rw[a9P (by simpa using hb) (by simpa using hu)]
  refine⟨Z5 (by omega),Z5 (by omega),Z5 (by omega),?_⟩
  unfold a1f;rw[Bool.eq_iff_iff,beq_iff_eq,t9];omega
 ·rw[b8X] at hb;have hh:zP e=true:=by simpa using hb
  have hu':e.up=true:=by simpa using hu
  obtain⟨q1,q2,q3,q4⟩:=wZ hh;rw[a89 hh hu'];refine⟨⟨E5,⟨⟨rfl,rfl⟩,⟨rfl,Z9 _ _⟩,rfl,rfl,trivial⟩,⟨rfl,rfl,T8 _,trivial⟩,trivial⟩,fun x=>⟨fun hc=> ?_,fun hc=> ?_⟩⟩
  ·have hlt:=Y9 hc;refine⟨Y7 hlt,Z5 (by omega),fun _ _=>Z5 (by omega),fun _ h0=>⟨by have:=D8 h0;omega,by omega⟩,(e.s,e.txs.getD x.val default),fun _=>⟨⟨(wS _),⟨rfl,rfl,trivial⟩,trivial⟩,hL⟩,fun hq=> ?_,fun hq=> ?_⟩
   ·rw[v4,show((x.val:Int)-1).toNat=x.val-1 by omega] at hq
    exact(a4C hlt hq).symm
   ·rw[v4,show((x.val:Int)-1).toNat=x.val-1 by omega] at hq
    exact⟨W4 hlt (by omega),x.succ hlt hq,⟨⟨⟨rfl,rfl⟩,⟨rfl,Z9 _ _⟩,rfl,by simp only[V9.succ];omega,trivial⟩,⟨rfl,rfl,T8 _,trivial⟩,trivial⟩,V9.ext_lt hlt⟩
  ·have hge:=Y3 hc;have hno:∀i,i<e.txs.length->H5 e i=false:=fun i hi=>x.2.2 i (xF hi hge)
   have hn:=b8O hL hh hno;have e1:anyI e.txs.length (H5 e)=false:=M5.2 hno;refine⟨e,⟨⟨⟨rfl,Z9 _ _⟩,⟨rfl,⟨(u7 _),trivial⟩,trivial⟩,trivial⟩,ht,hk1,hk2⟩,e,fun _=>⟨⟨⟨rfl,Z9 _ _⟩,⟨rfl,⟨(u7 _),trivial⟩,trivial⟩,trivial⟩,ht,hk1,hk2⟩,fun hq=> ?_,fun hq=>⟨(e,0),⟨⟨(u7 _),rfl,trivial⟩,hn,by unfold A9;dsimp only;omega⟩,?_⟩⟩
   ·unfold upE;rw[e1];simp only[oU] at hq;rcases hq with hq|hq<;>rw[hq]<;>simp
   ·simp only[vG] at hq;unfold upE;rw[e1,hq.1,hq.2];simp only[Bool.not_false,Bool.true_and];exact decide_eq_decide.2 (by omega)
noncomputable def Q5(e:Eng):Bool:=N4 e.s&&xD e
def mD(e:Eng):Prop:=b9e e.s/\b9r e.lk/\K6 e.txs.length
noncomputable def yA:Rl:=⟨Eng,fun e=>[.agg e.ts],fun e=>.bool (Q5 e),mD⟩
noncomputable def a2S:Con:=.rel yA
noncomputable def a1I:Con:=.rel yA
noncomputable def a2T:Code:=Tryz.f41.body.getD .skip
theorem mI:Z7 Tryz.prog 41:=⟨_,Tryz.func41,by kernel_rfl,by kernel_rfl⟩
theorem a3n(e:Eng)(h:
  ∃(x:wC.ι),(((xM e.s x)/\True)/\b9e x)/\∃(x_1:Eng),(N4 x=true->((j6 e x_1)/\True)/\c7M x_1)/\(N4 x&&xD x_1)=Q5 e):
  Z2 Tryz.prog 41 [.agg e.ts] (.bool (Q5 e)):=
 T4 (code:=a2T) (gC a2t iZ (gC a2r jW gN)) Tryz.func41 (by kernel_rfl) (by kernel_rfl) Z0 h (by kernel_rfl)
theorem oP{s:Sto}(h:N4 s=true):zH s.log:=by
 obtain⟨⟨h1,h2,_⟩,_⟩:=(I2 s).1 h;exact⟨((zK s).1 h1).2.2.2.2,fun i hi=>by
  obtain⟨a,b⟩:=rP.1 h2 i hi;exact⟨(P8 _).1 a,b⟩⟩
theorem cW:Z1 Tryz.prog 41 a2S:=by
 rintro(e:Eng) ⟨h1,h2,h3⟩;exact a3n e ⟨e.s,⟨⟨(wS _),trivial⟩,h1⟩,e,fun hs=>⟨⟨(u7 _),trivial⟩,oP hs,h2,h3,h1.2.2.1.1⟩,rfl⟩
def Chs(L:List Rec)(t:Txn):Type:={x:Nat×Int//(decide (x.2<=0)||chn L t.id x.1 x.2)=tN L t/\x.2<=(L.length:Int)/\x.2.toNat<x.1}
def a3z(e:Eng):Nat->Ann
 |0=>.one (V9 e.txs.length (H5 e)) (fun x=>⟨[(1,.ref 0 0 0),(3,.int .i64 x.1)],[xE e]⟩) (fun x=>e.txs.length-x.1) [.box 0] [.box 0] (fun x=>fun
  |1=>.one (Chs e.s.log (e.txs.getD x.1 default)) (fun y=>⟨[(1,.ref 0 0 0),(3,.int .i64 x.1),(4,.ref 1 0 0),(5,.int .i64 y.1.2)],[xE e,b9M (e.txs.getD x.1 default)]⟩) (fun y=>y.1.1) [.box 0,.box 1] [.box 0,.box 1] (fun _=>Z0)
  |2=>.one (V9 e.lk.held.length (m3 e)) (fun y=>⟨[(1,.ref 0 0 0),(7,.int .i64 y.1)],[xE e]⟩) (fun y=>e.lk.held.length-y.1) [.box 0] [.box 0] (fun _=>fun
   |3=>.one (V9 e.lk.waits.length (E4 e)) (fun z=>⟨[(1,.ref 0 0 0),(8,.int .i64 z.1)],[xE e]⟩) (fun z=>e.lk.waits.length-z.1) [.box 0] [.box 0] (fun _=>Z0)
   |_=>.none)
  |_=>.none)
 |_=>.none
noncomputable def a0E:Code:=Tryz.f35.body.getD .skip
theorem nH:Z7 Tryz.prog 35:=⟨_,Tryz.func35,by kernel_rfl,by kernel_rfl⟩
theorem a3J(e:Eng)(h:
  ∃(x:wC.ι),(((xM e.s x)/\True)/\b9e x)/\∃(x_1:vV.ι),((!N4 x||decide ((e.txs.length:Int)>(10:Int)))=false->(((Y4 Y2 e.lk.held x_1.held)/\(Y4 X3 e.lk.waits x_1.waits)/\True)/\True)/\
  b9r x_1)/\((!N4 x||decide ((e.txs.length:Int)>(10:Int))|| !J8 x_1|| !W8 e.next (1:Int) (61:Int))=true->false=Q5 e)/\((!N4 x||decide ((e.txs.length:Int)>(10:Int))|| !J8 x_1|| !W8 e.next
  (1:Int) (61:Int))=false->((!e.up)=true->((e.txs.length:Int)==(0:Int)&&(e.lk.held.length:Int)==(0:Int)&&(e.lk.waits.length:Int)==(0:Int)&&(e.s.fr.length:Int)==(0:Int))=Q5 e)/\((!e.up)=false->
  (∃(x:V9 e.txs.length (H5 e)),((0=0/\0=0)/\(0:Int)=(x.val:Int)/\True)/\(1=1/\1=1/\j6 e e)/\True)/\∀(x:V9 e.txs.length (H5 e)),(decide ((x.val:Int)<(e.txs.length:Int))=true->X0 (x.val:Int)
  e.txs.length/\X8 .i64 (e.next- (1:Int))/\((!W8 (e.txs.getD (x.val:Int).toNat default).id (1:Int) (e.next- (1:Int)))=false->decide ((x.val:Int)>(0:Int))=true->X8 .i64 ((x.val:Int)- (1:Int)))/\((!W8
  (e.txs.getD (x.val:Int).toNat default).id (1:Int) (e.next- (1:Int)))=false->decide ((x.val:Int)>(0:Int))=true->X0 ((x.val:Int)- (1:Int)) e.txs.length)/\((!W8 (e.txs.getD (x.val:Int).toNat default).id (1:Int)
  (e.next- (1:Int))||decide ((x.val:Int)>(0:Int))&&decide ((e.txs.getD ((x.val:Int)- (1:Int)).toNat default).id≥(e.txs.getD (x.val:Int).toNat default).id)|| !W8 (e.txs.getD (x.val:Int).toNat default).last (1:Int)
  (e.s.log.length:Int))=true->false=Q5 e)/\((!W8 (e.txs.getD (x.val:Int).toNat default).id (1:Int) (e.next- (1:Int))||decide ((x.val:Int)>(0:Int))&&decide ((e.txs.getD ((x.val:Int)- (1:Int)).toNat
  default).id≥(e.txs.getD (x.val:Int).toNat default).id)|| !W8 (e.txs.getD (x.val:Int).toNat default).last (1:Int) (e.s.log.length:Int))=false->(∃(x_2:Chs e.s.log (e.txs.getD x.val default)),((0=0/\0=0)/\
  (x.val:Int)=(x.val:Int)/\(0=0/\0=0)/\(e.txs.getD (x.val:Int).toNat default).last=x_2.val.snd/\True)/\(1=1/\1=1/\j6 e e)/\(1=1/\1=1/\(e.txs.getD (x.val:Int).toNat default).id=(e.txs.getD x.val
  default).id/\(e.txs.getD (x.val:Int).toNat default).last=(e.txs.getD x.val default).last/\True)/\True)/\∀(x_2:Chs e.s.log (e.txs.getD x.val default)),(decide (x_2.val.snd>(0:Int))=true->X8 .i64 (x_2.val.snd- (1
  :Int))/\X0 (x_2.val.snd- (1:Int)) e.s.log.length/\∃(x_3:(Sto×Rec)),(((e.s.log.getD (x_2.val.snd- (1:Int)).toNat default).t !=(e.txs.getD x.val default).id||(e.s.log.getD (x_2.val.snd- (1:Int)).toNat
  default).k==(4:Int)||(e.s.log.getD (x_2.val.snd- (1:Int)).toNat default).k==(5:Int)||(e.s.log.getD (x_2.val.snd- (1:Int)).toNat default).k==(6:Int))=false->((e.s.log.getD (x_2.val.snd- (1:Int)).toNat
  default).k==(3:Int))=true->((xM e.s x_3.fst)/\((e.s.log.getD (x_2.val.snd- (1:Int)).toNat default).e=x_3.snd.e/\(e.s.log.getD (x_2.val.snd- (1:Int)).toNat default).l=x_3.snd.l/\(e.s.log.getD (x_2.val.snd- (1
  :Int)).toNat default).t=x_3.snd.t/\(e.s.log.getD (x_2.val.snd- (1:Int)).toNat default).k=x_3.snd.k/\(e.s.log.getD (x_2.val.snd- (1:Int)).toNat default).p=x_3.snd.p/\(e.s.log.getD (x_2.val.snd- (1:Int)).toNat
  default).n=x_3.snd.n/\(e.s.log.getD (x_2.val.snd- (1:Int)).toNat default).g=x_3.snd.g/\(e.s.log.getD (x_2.val.snd- (1:Int)).toNat default).s=x_3.snd.s/\(e.s.log.getD (x_2.val.snd- (1:Int)).toNat default).b=
  x_3.snd.b/\(e.s.log.getD (x_2.val.snd- (1:Int)).toNat default).a=x_3.snd.a/\True)/\True)/\x_3.snd.n<=(x_3.fst.log.length:Int)/\K6 x_3.fst.log.length)/\(((e.s.log.getD (x_2.val.snd- (1:Int)).toNat default).t !=
  (e.txs.getD x.val default).id||(e.s.log.getD (x_2.val.snd- (1:Int)).toNat default).k==(4:Int)||(e.s.log.getD (x_2.val.snd- (1:Int)).toNat default).k==(5:Int)||(e.s.log.getD (x_2.val.snd- (1:Int)).toNat
  default).k==(6:Int)||(e.s.log.getD (x_2.val.snd- (1:Int)).toNat default).k==(3:Int)&& !mS x_3.fst.log x_3.snd)=true->false=Q5 e)/\(((e.s.log.getD (x_2.val.snd- (1:Int)).toNat default).t !=(e.txs.getD
  x.val default).id||(e.s.log.getD (x_2.val.snd- (1:Int)).toNat default).k==(4:Int)||(e.s.log.getD (x_2.val.snd- (1:Int)).toNat default).k==(5:Int)||(e.s.log.getD (x_2.val.snd- (1:Int)).toNat default).k==(6
  :Int)||(e.s.log.getD (x_2.val.snd- (1:Int)).toNat default).k==(3:Int)&& !mS x_3.fst.log x_3.snd)=false->X8 .i64 (x_2.val.snd- (1:Int))/\X0 (x_2.val.snd- (1:Int)) e.s.log.length/\∃(y:Chs e.s.log
  (e.txs.getD x.val default)),(((0=0/\0=0)/\(x.val:Int)=(x.val:Int)/\(0=0/\0=0)/\(e.s.log.getD (x_2.val.snd- (1:Int)).toNat default).p=y.val.snd/\True)/\(1=1/\1=1/\j6 e e)/\(1=1/\1=1/\(e.txs.getD
  x.val default).id=(e.txs.getD x.val default).id/\(e.txs.getD x.val default).last=(e.txs.getD x.val default).last/\True)/\True)/\Lt y.val.fst x_2.val.fst))/\(decide (x_2.val.snd>(0:Int))=false->X8 .i64 ((x.val:Int)
  +(1:Int))/\∃(y:V9 e.txs.length (H5 e)),(((0=0/\0=0)/\(x.val:Int)+(1:Int)=(y.val:Int)/\True)/\(1=1/\1=1/\j6 e e)/\True)/\Lt (e.txs.length-y.val) (e.txs.length-x.val))))/\(decide ((x.val:Int)
  <(e.txs.length:Int))=false->(∃(x:V9 e.lk.held.length (m3 e)),((0=0/\0=0)/\(0:Int)=(x.val:Int)/\True)/\(1=1/\1=1/\j6 e e)/\True)/\∀(x:V9 e.lk.held.length (m3 e)),(decide ((x.val:Int)<
  (e.lk.held.length:Int))=true->X0 (x.val:Int) e.lk.held.length/\∃(x_2:(Eng×Int)),(((j6 e x_2.fst)/\(e.lk.held.getD (x.val:Int).toNat default).tx=x_2.snd/\True)/\K6 x_2.fst.txs.length)/\(decide (L6 x_2.fst.txs
  x_2.snd<(0:Int))=true->false=Q5 e)/\(decide (L6 x_2.fst.txs x_2.snd<(0:Int))=false->X8 .i64 ((x.val:Int)+(1:Int))/\∃(y:V9 e.lk.held.length (m3 e)),(((0=0/\0=0)/\(x.val:Int)+(1:Int)=
  (y.val:Int)/\True)/\(1=1/\1=1/\j6 e e)/\True)/\Lt (e.lk.held.length-y.val) (e.lk.held.length-x.val)))/\(decide ((x.val:Int)<(e.lk.held.length:Int))=false->(∃(x:V9 e.lk.waits.length (E4 e)),((0=0/\0
  =0)/\(0:Int)=(x.val:Int)/\True)/\(1=1/\1=1/\j6 e e)/\True)/\∀(x:V9 e.lk.waits.length (E4 e)),(decide ((x.val:Int)<(e.lk.waits.length:Int))=true->X0 (x.val:Int) e.lk.waits.length/\∃(x_2:(Eng×
  Int)),(((j6 e x_2.fst)/\(e.lk.waits.getD (x.val:Int).toNat default).tx=x_2.snd/\True)/\K6 x_2.fst.txs.length)/\(decide (L6 x_2.fst.txs x_2.snd<(0:Int))=false->X0 (x.val:Int) e.lk.waits.length)/\∃(x_3:(Eng×
  Int)),(decide (L6 x_2.fst.txs x_2.snd<(0:Int))=false->((j6 e x_3.fst)/\(e.lk.waits.getD (x.val:Int).toNat default).fo=x_3.snd/\True)/\K6 x_3.fst.txs.length)/\((decide (L6 x_2.fst.txs x_2.snd<(0:Int))||
  decide (L6 x_3.fst.txs x_3.snd<(0:Int)))=true->false=Q5 e)/\((decide (L6 x_2.fst.txs x_2.snd<(0:Int))||decide (L6 x_3.fst.txs x_3.snd<(0:Int)))=false->X8 .i64 ((x.val:Int)+(1:Int))/\∃(y:V9
  e.lk.waits.length (E4 e)),(((0=0/\0=0)/\(x.val:Int)+(1:Int)=(y.val:Int)/\True)/\(1=1/\1=1/\j6 e e)/\True)/\Lt (e.lk.waits.length-y.val) (e.lk.waits.length-x.val)))/\(decide ((x.val:Int)<
  (e.lk.waits.length:Int))=false->∃(x:Eng),(((j6 e x)/\True)/\jZ x)/\X8 .i64 ((e.s.log.length:Int)+(↑(sZ x):Int))/\decide ((e.s.log.length:Int)+(↑(sZ x):Int)<=(60:Int))=Q5 e)))))):
  Z2 Tryz.prog 35 [.agg e.ts] (.bool (Q5 e)):=
 T4 (code:=a0E) (gC a04 iD (gC a08 iY (gC v7 F7 (gC a7g eC (gC b7W a8w (gC uZ xP gN)))))) Tryz.func35 (by kernel_rfl) (by kernel_rfl) (a3z e) h (by kernel_rfl)
theorem c8e{L:List Rec}(hL:zH L)(id:Int){at_:Int}(h1:1<=at_)(h2:at_<=L.length):
  ((W7 L at_).t !=id||(W7 L at_).k==4||(W7 L at_).k==5||(W7 L at_).k==6||(W7 L at_).k==3&& !mS L (W7 L at_))= !okR L id at_:=by
 obtain⟨hr,hl⟩:=hL.at h1 h2;obtain⟨p1,p2,p3,p4⟩:=hL.prev h1 h2;obtain⟨_,_,_,_,k1,k2,_⟩:=hr;unfold okR ownR;rw[O5.2 ⟨h1,h2⟩,Bool.true_and];by_cases ht:(W7 L at_).t=id
 ·rw[show((W7 L at_).t !=id)=false by simpa using ht,show((W7 L at_).t==id)=true by simpa using ht,Bool.false_or,Bool.true_and]
  by_cases hk:(W7 L at_).k<=3
  ·rw[O5.2 ⟨k1,hk⟩,show((W7 L at_).k==4)=false by rw[beq_eq_false_iff_ne];omega,show((W7 L at_).k==5)=false by rw[beq_eq_false_iff_ne];omega,show((W7 L at_).k==6)=false by rw[beq_eq_false_iff_ne];omega]
   simp only[Bool.false_or,Bool.true_and];by_cases h3:(W7 L at_).k=3
   ·rw[show((W7 L at_).k==3)=true by simpa using h3,show((W7 L at_).k !=3)=false by simpa using h3,Bool.true_and,Bool.false_or]
    congr 1
    unfold mS;by_cases hn:(W7 L at_).n>0
    ·obtain⟨hr2,_⟩:=hL.at (show 1<=(W7 L at_).n by omega) (by omega)
     have k3:1<=(W7 L (W7 L at_).n).k:=hr2.2.2.2.2.1;rw[jB hn,O5.2 (show 1<=(W7 L at_).n/\(W7 L at_).n<=(L.length:Int) by omega),Bool.true_and,Bool.true_and,ht]
     congr 1
     unfold W8;rw[jB k3,Bool.true_and]
    ·rw[uY hn,show W8 (W7 L at_).n 1 L.length=false from Bool.eq_false_iff.2 fun h=>by have:=O5.1 h;omega]
     rfl
   ·rw[show((W7 L at_).k==3)=false by simpa using h3,show((W7 L at_).k !=3)=true by simpa using h3]
    rfl
  ·rw[show W8 (W7 L at_).k 1 3=false from Bool.eq_false_iff.2 fun h=>by have:=O5.1 h;omega]
   simp only[Bool.false_and,Bool.not_false,oU,beq_iff_eq];exact .inl (by omega)
 ·rw[show((W7 L at_).t !=id)=true by simpa using ht,show((W7 L at_).t==id)=false by simpa using ht]
  rfl
theorem b5u(e:Eng):(!N4 e.s||decide ((e.txs.length:Int)>10)|| !J8 e.lk|| !W8 e.next 1 61)= !(N4 e.s&&zP e):=by
 unfold zP;rw[show decide ((e.txs.length:Int)>10)= !decide (e.txs.length<=10) by rw[←decide_not];exact decide_eq_decide.2 (by omega)]
 cases N4 e.s<;>cases decide (e.txs.length<=10)<;>cases J8 e.lk<;>cases W8 e.next 1 61<;>rfl
theorem dL:Z1 Tryz.prog 35 a1I:=by
 rintro(e:Eng) ⟨hS,hk,ht⟩;have ht:e.txs.length<1000000000000:=ht;have hk1:e.lk.held.length<1000000000000:=hk.1;have hk2:e.lk.waits.length<1000000000000:=hk.2;refine a3J e ⟨e.s,⟨⟨(wS _),trivial⟩,hS⟩,e.lk,fun _=>⟨⟨⟨⟨rfl,Z9 _ _⟩,⟨rfl,Z9 _ _⟩,trivial⟩,trivial⟩,hk⟩,fun hb=> ?_,fun hb=> ?_⟩
 ·rw[b5u] at hb;unfold Q5;cases h1:N4 e.s
  ·rfl
  ·rw[h1] at hb;rw[a9g (by simpa using hb)]
   rfl
 rw[b5u] at hb;simp only[tE,K5] at hb;obtain⟨hs,hh⟩:=hb;have hL:=oP hs;have h60:=hL.1;obtain⟨q1,q2,q3,q4⟩:=wZ hh;have eo:Q5 e=xD e:=by unfold Q5;rw[hs,Bool.true_and]
 refine⟨fun hu=> ?_,fun hu=> ?_⟩
 ·rw[eo,a9P hh (by simpa using hu)]
  unfold a1f;rw[Bool.eq_iff_iff];simp only[K5,beq_iff_eq,t9];omega
 ·have hu':e.up=true:=by simpa using hu
  rw[eo,a89 hh hu'];refine⟨⟨E5,⟨⟨rfl,rfl⟩,rfl,trivial⟩,⟨rfl,rfl,u7 _⟩,trivial⟩,fun x=>⟨fun hc=> ?_,fun hc=> ?_⟩⟩
  ·have hlt:=Y9 hc;rw[v4,show((x.val:Int)-1).toNat=x.val-1 by omega]
   refine⟨Y7 hlt,Z5 (by omega),fun _ _=>Z5 (by omega),fun _ h0=>⟨by have:=D8 h0;omega,by omega⟩,fun hq=> ?_,fun hq=> ?_⟩
   ·refine(a4C hlt ?_).symm
    unfold H5 tN;rw[Bool.not_and,←Bool.or_assoc,hq];rfl
   ·simp only[vG,tE] at hq;obtain⟨⟨r1,r2⟩,r3⟩:=hq;obtain⟨l1,l2⟩:=O5.1 r3;refine⟨⟨⟨(61,(e.txs.getD x.val default).last),?_,l2,by dsimp only;omega⟩,⟨⟨rfl,rfl⟩,rfl,⟨rfl,rfl⟩,rfl,trivial⟩,⟨rfl,rfl,u7 _⟩,⟨rfl,rfl,rfl,rfl,trivial⟩,trivial⟩,fun y=> ?_⟩
    ·dsimp only;unfold tN;rw[uY (by omega),r3]
     rfl
    obtain⟨⟨f,at_⟩,he,hle,hf⟩:=y;dsimp only at he hle hf ⊢;refine⟨fun hy=> ?_,fun hy=> ?_⟩
    ·have h0:at_>0:=D8 hy;have h1:1<=at_:=by omega
     obtain⟨p1,p2,p3,p4⟩:=hL.prev h1 hle;rw[uY (by omega),Bool.false_or,mU _ _ (by omega) h1] at he
     have es:=c8e hL (e.txs.getD x.val default).id h1 hle;refine⟨Z5 (by omega),⟨by omega,by omega⟩,(e.s,W7 e.s.log at_),fun _ _=>⟨⟨(wS _),⟨rfl,rfl,rfl,rfl,rfl,rfl,rfl,rfl,rfl,rfl,trivial⟩,trivial⟩,by dsimp only;omega,by unfold K6;dsimp only;omega⟩,fun hq=> ?_,fun hq=> ?_⟩
     ·have hq:=es.symm.trans hq;refine(a4C hlt ?_).symm
      rw[show okR e.s.log (e.txs.getD x.val default).id at_=false by simpa using hq] at he
      unfold H5;rw[←he];simp
     ·have hq:=es.symm.trans hq;rw[show okR e.s.log (e.txs.getD x.val default).id at_=true by simpa using hq,Bool.true_and] at he
      refine⟨Z5 (by omega),⟨by omega,by omega⟩,⟨(f-1,(W7 e.s.log at_).p),?_,by dsimp only;omega,by dsimp only;omega⟩,⟨⟨⟨rfl,rfl⟩,rfl,⟨rfl,rfl⟩,rfl,trivial⟩,⟨rfl,rfl,u7 _⟩,⟨rfl,rfl,rfl,rfl,trivial⟩,trivial⟩,show f-1<f by omega⟩
      dsimp only;rw[←he];by_cases hp:(W7 e.s.log at_).p<=0
      ·rw[a2H _ _ _ hp,Bool.or_true]
      ·rw[uY hp,Bool.false_or]
    ·have h0:at_<=0:=by have:=yQ hy;omega
     rw[jB h0,Bool.true_or] at he;exact⟨W4 hlt (by omega),x.succ hlt (by unfold H5;rw[←he,r1,r2];rfl),⟨⟨⟨rfl,rfl⟩,by simp only[V9.succ];omega,trivial⟩,⟨rfl,rfl,u7 _⟩,trivial⟩,V9.ext_lt hlt⟩
  ·have hge:=Y3 hc;have hno:∀i,i<e.txs.length->H5 e i=false:=fun i hi=>x.2.2 i (xF hi hge)
   have hn:=b8O hL hh hno;refine⟨⟨E5,⟨⟨rfl,rfl⟩,rfl,trivial⟩,⟨rfl,rfl,u7 _⟩,trivial⟩,fun y=>⟨fun hy=> ?_,fun hy=>⟨⟨E5,⟨⟨rfl,rfl⟩,rfl,trivial⟩,⟨rfl,rfl,u7 _⟩,trivial⟩,fun z=>⟨fun hz=> ?_,fun hz=> ?_⟩⟩⟩⟩
   ·have hlt:=Y9 hy;exact⟨Y7 hlt,(e,(e.lk.held.getD y.val default).tx),⟨⟨(u7 _),rfl,trivial⟩,ht⟩,fun hq=>(c6g hlt hq).symm,fun hq=>⟨W4 hlt (by omega),y.succ hlt hq,⟨⟨⟨rfl,rfl⟩,by simp only[V9.succ];omega,trivial⟩,⟨rfl,rfl,u7 _⟩,trivial⟩,V9.ext_lt hlt⟩⟩
   ·have hlt:=Y9 hz;exact⟨Y7 hlt,(e,(e.lk.waits.getD z.val default).tx),⟨⟨(u7 _),rfl,trivial⟩,ht⟩,fun _=>Y7 hlt,(e,(e.lk.waits.getD z.val default).fo),fun _=>⟨⟨(u7 _),rfl,trivial⟩,ht⟩,fun hq=>(c6a hlt hq).symm,fun hq=>⟨W4 hlt (by omega),z.succ hlt hq,⟨⟨⟨rfl,rfl⟩,by simp only[V9.succ];omega,trivial⟩,⟨rfl,rfl,u7 _⟩,trivial⟩,V9.ext_lt hlt⟩⟩
   ·have g1:=Y3 hy;have g2:=Y3 hz;have hb:=cX e.s.log e.txs e.txs.length;have he:sZ e=iB e.s.log e.txs e.txs.length:=rfl;refine⟨e,⟨⟨(u7 _),trivial⟩,hn⟩,Z5 (by omega),?_⟩
    have e1:anyI e.txs.length (H5 e)=false:=M5.2 hno;have e2:anyI e.lk.held.length (m3 e)=false:=M5.2 fun i hi=>y.2.2 i (xF hi g1)
    have e3:anyI e.lk.waits.length (E4 e)=false:=M5.2 fun i hi=>z.2.2 i (xF hi g2)
    unfold upE;rw[e1,e2,e3];simp only[Bool.not_false,Bool.true_and];exact decide_eq_decide.2 (by omega)
end Go.Proofs.YtokaojbaacnngaaGreat

