/- A part of the proof. -/
import Derived.Test.YtokaojbaacnngaaGreatW3
namespace Go.Proofs.YtokaojbaacnngaaGreat
set_option maxRecDepth 100000
open Go.SS

def ndS(L:List Rec)(T:List Txn):Nat->Nat
 |0=>0
 |k+1=>ndS L T k+(1+und L 61 (T.getD k default).last)
def ndE(e:Eng):Nat:=ndS e.s.log e.txs e.txs.length
def b36(e:Eng):Prop:=a0d e.s.log/\e.txs.length<=10/\∀i,i<e.txs.length->(e.txs.getD i default).last<=(e.s.log.length:Int)
theorem a7Z(L:List Rec)(T:List Txn):∀k,ndS L T k<=62*k:=by
 intro k;induction k with
 |zero=>exact Nat.le_refl 0
 |succ k ih=>unfold ndS;have:=a82 L 61 (T.getD k default).last;omega
def c8K:Con:=.rel ⟨Eng,fun e=>[.bref e.ts],fun e=>.int .i64 (ndE e),b36⟩
def c5F(e:Eng):Nat->Ann
 |0=>.one {i:Nat//i<=e.txs.length} (fun x=>⟨[(0,.bref e.ts),(3,.int .i64 (ndS e.s.log e.txs x.1)),(9,v8 e.txs),(10,.int .i64 e.txs.length),(11,.int .i64 x.1)],[]⟩) (fun x=>e.txs.length-x.1) [] [] (fun _=>Z0)
 |_=>.none
noncomputable def c5j:Code:=Tryz.f179.body.getD .skip
theorem b0X:Z8 Tryz.prog 179:=⟨_,Tryz.func179,by kernel_rfl,by kernel_rfl⟩
theorem c6s(e:Eng)(h:
  (∃(x:{i:Nat//i<=e.txs.length}),(O3 (fun(x:Nat)=>none) (T.bref e.ts) (T.bref e.ts)/\(0:Int)=(↑(ndS e.s.log e.txs x.val):Int)/\(Y3 X9 e.txs e.txs)/\(e.txs.length:Int)=(e.txs.length:Int)/\(0:Int)=
  (x.val:Int)/\True)/\True)/\∀(x:{i:Nat//i<=e.txs.length}),(decide ((x.val:Int)<(e.txs.length:Int))=true->W7 (x.val:Int) e.txs.length/\∃(x_1:(Sto×Int)),(((EqS e.s x_1.fst)/\(e.txs.getD (x.val:Int).toNat
  default).last=x_1.snd/\True)/\a2M x_1.fst.log x_1.snd)/\X6 .i64 ((↑(ndS e.s.log e.txs x.val):Int)+(↑(1+und x_1.fst.log 61 x_1.snd):Int))/\X6 .i64 ((x.val:Int)+(1:Int))/\∃(y:{i:Nat//i<=e.txs.length
  }),((O3 (fun(x:Nat)=>none) (T.bref e.ts) (T.bref e.ts)/\(↑(ndS e.s.log e.txs x.val):Int)+(↑(1+und x_1.fst.log 61 x_1.snd):Int)=(↑(ndS e.s.log e.txs y.val):Int)/\(Y3 X9 e.txs e.txs)/\(e.txs.length:Int)=
  (e.txs.length:Int)/\(x.val:Int)+(1:Int)=(y.val:Int)/\True)/\True)/\Lt (e.txs.length-y.val) (e.txs.length-x.val))/\(decide ((x.val:Int)<(e.txs.length:Int))=false->(↑(ndS e.s.log e.txs x.val):Int)=(↑(ndE e):
  Int))):
  Z1 Tryz.prog 179 [.bref e.ts] (.int .i64 (ndE e)):=
 T7 (code:=c5j) (gC c0U b01 gN) Tryz.func179 (by kernel_rfl) (by kernel_rfl) (c5F e) h (by kernel_rfl)
theorem b2g{L:List Rec}{T:List Txn}{i:Nat}:((ndS L T i:Nat):Int)+((1+und L 61 (T.getD i default).last:Nat):Int)=(ndS L T (i+1):Nat):=by
 conv=>rhs;unfold ndS
 omega
theorem c0a:Z2 Tryz.prog 179 c8K:=by
 rintro(e:Eng) ⟨hL,h10,hb⟩;refine c6s e ⟨⟨⟨0,Nat.zero_le _⟩,⟨T6 _,rfl,⟨rfl,Z9 _ _⟩,rfl,rfl,trivial⟩,trivial⟩,fun x=>⟨fun hc=> ?_,fun hc=> ?_⟩⟩
 ·have hlt:=Y6 hc;have h1:=a7Z e.s.log e.txs x.val;have h2:=a82 e.s.log 61 (e.txs.getD x.val default).last;refine⟨Y8 hlt,(e.s,(e.txs.getD x.val default).last),⟨⟨(eqS _),rfl,trivial⟩,hL,hb _ hlt⟩,Z5 (by dsimp only;omega),W8 hlt (by omega),⟨x.val+1,hlt⟩,⟨⟨T6 _,b2g,⟨rfl,Z9 _ _⟩,rfl,by dsimp only;omega,trivial⟩,trivial⟩,W5.ext_lt hlt⟩
 ·have hx:x.val=e.txs.length:=by have:=x.2;have:=Y2 hc;omega
  rw[hx];rfl
def b8O:Con:=.rel ⟨Eng×Int,fun x=>[.bref x.1.ts,.int .i64 x.2],fun x=>.bool (decide ((x.1.s.log.length:Int)+ndE x.1+x.2<=60)),fun x=>b36 x.1/\A5 x.2⟩
noncomputable def c0J:Code:=Tryz.f110.body.getD .skip
theorem a7H:Z8 Tryz.prog 110:=⟨_,Tryz.func110,by kernel_rfl,by kernel_rfl⟩
theorem b8S(e:Eng)(m:Int)(h:
  ∃(x:Eng),(((u2 e x)/\True)/\b36 x)/\X6 .i64 ((e.s.log.length:Int)+(↑(ndE x):Int))/\X6 .i64 ((e.s.log.length:Int)+(↑(ndE x):Int)+m)/\decide ((e.s.log.length:Int)+(↑(ndE x):Int)+m<=(60:Int))=decide
  ((e.s.log.length:Int)+(↑(ndE e):Int)+m<=(60:Int))):
  Z1 Tryz.prog 110 [.bref e.ts,.int .i64 m] (.bool (decide ((e.s.log.length:Int)+ndE e+m<=60))):=
 T7 (code:=c0J) (gC c0a b0X gN) Tryz.func110 (by kernel_rfl) (by kernel_rfl) Z0 h (by kernel_rfl)
theorem b3a:Z2 Tryz.prog 110 b8O:=by
 rintro⟨e,m⟩ ⟨hn,h1,h2⟩;dsimp only at hn h1 h2;have hb:=a7Z e.s.log e.txs e.txs.length;have hb2:=hn.2.1;have hb3:=hn.1.1;have he:ndE e=ndS e.s.log e.txs e.txs.length:=rfl;exact b8S e m ⟨e,⟨⟨(y8 _),trivial⟩,hn⟩,Z5 (by omega),Z5 (by omega),rfl⟩
def a8s:Con:=.rel ⟨Eng,fun e=>[.agg e.ts],fun e=>.int .i64 (ndE e),b36⟩
def a8w(e:Eng):Nat->Ann
 |0=>.one {i:Nat//i<=e.txs.length} (fun x=>⟨[(1,.ref 0 0 0),(3,.int .i64 (ndS e.s.log e.txs x.1)),(4,.int .i64 x.1)],[a2H e]⟩) (fun x=>e.txs.length-x.1) [.box 0] [.box 0] (fun _=>Z0)
 |_=>.none
noncomputable def a7u:Code:=Tryz.f77.body.getD .skip
theorem a3H:Z8 Tryz.prog 77:=⟨_,Tryz.func77,by kernel_rfl,by kernel_rfl⟩
theorem a8v(e:Eng)(h:
  (∃(x:{i:Nat//i<=e.txs.length}),((0=0/\0=0)/\(0:Int)=(↑(ndS e.s.log e.txs x.val):Int)/\(0:Int)=(x.val:Int)/\True)/\(1=1/\1=1/\u2 e e)/\True)/\∀(x:{i:Nat//i<=e.txs.length}),(decide
  ((x.val:Int)<(e.txs.length:Int))=true->W7 (x.val:Int) e.txs.length/\∃(x_1:(Sto×Int)),(((EqS e.s x_1.fst)/\(e.txs.getD (x.val:Int).toNat default).last=x_1.snd/\True)/\a2M x_1.fst.log x_1.snd)/\X6 .i64 ((↑(ndS
  e.s.log e.txs x.val):Int)+(↑(1+und x_1.fst.log 61 x_1.snd):Int))/\X6 .i64 ((x.val:Int)+(1:Int))/\∃(y:{i:Nat//i<=e.txs.length}),(((0=0/\0=0)/\(↑(ndS e.s.log e.txs x.val):Int)+(↑(1+und
  x_1.fst.log 61 x_1.snd):Int)=(↑(ndS e.s.log e.txs y.val):Int)/\(x.val:Int)+(1:Int)=(y.val:Int)/\True)/\(1=1/\1=1/\u2 e e)/\True)/\Lt (e.txs.length-y.val) (e.txs.length-x.val))/\(decide ((x.val:Int)<
  (e.txs.length:Int))=false->(↑(ndS e.s.log e.txs x.val):Int)=(↑(ndE e):Int))):
  Z1 Tryz.prog 77 [.agg e.ts] (.int .i64 (ndE e)):=
 T7 (code:=a7u) (gC b4V a69 gN) Tryz.func77 (by kernel_rfl) (by kernel_rfl) (a8w e) h (by kernel_rfl)
theorem a55:Z2 Tryz.prog 77 a8s:=by
 rintro(e:Eng) ⟨hL,h10,hb⟩;refine a8v e ⟨⟨⟨0,Nat.zero_le _⟩,⟨⟨rfl,rfl⟩,rfl,rfl,trivial⟩,⟨rfl,rfl,y8 _⟩,trivial⟩,fun x=>⟨fun hc=> ?_,fun hc=> ?_⟩⟩
 ·have hlt:=Y6 hc;have h1:=a7Z e.s.log e.txs x.val;have h2:=a82 e.s.log 61 (e.txs.getD x.val default).last;refine⟨Y8 hlt,(e.s,(e.txs.getD x.val default).last),⟨⟨(eqS _),rfl,trivial⟩,hL,hb _ hlt⟩,Z5 (by dsimp only;omega),W8 hlt (by omega),⟨x.val+1,hlt⟩,⟨⟨⟨rfl,rfl⟩,b2g,by dsimp only;omega,trivial⟩,⟨rfl,rfl,y8 _⟩,trivial⟩,W5.ext_lt hlt⟩
 ·have hx:x.val=e.txs.length:=by have:=x.2;have:=Y2 hc;omega
  rw[hx];rfl
def a44(L:List Rec)(r:Rec):Bool:=decide (r.n>0)&&((X0 L r.n).t==r.t)&&decide ((X0 L r.n).k<=3)
def b9j:Con:=.rel ⟨Sto×Rec,fun x=>[.agg x.1.ts,.agg x.2.ts],fun x=>.bool (a44 x.1.log x.2),fun x=>x.2.n<=(x.1.log.length:Int)/\N8 x.1.log.length⟩
noncomputable def c0Q:Code:=Tryz.f75.body.getD .skip
theorem a8U:Z8 Tryz.prog 75:=⟨_,Tryz.func75,by kernel_rfl,by kernel_rfl⟩
theorem b9P(s:Sto)(r:Rec)(h:
  (decide (r.n>(0:Int))=true->X6 .i64 (r.n- (1:Int)))/\(decide (r.n>(0:Int))=true->W7 (r.n- (1:Int)) s.log.length)/\((decide (r.n>(0:Int))&&(s.log.getD (r.n- (1:Int)).toNat default).t==r.t)=true
  ->X6 .i64 (r.n- (1:Int)))/\((decide (r.n>(0:Int))&&(s.log.getD (r.n- (1:Int)).toNat default).t==r.t)=true->W7 (r.n- (1:Int)) s.log.length)/\(decide (r.n>(0:Int))&&(s.log.getD (r.n- (1:Int)).toNat
  default).t==r.t&&decide ((s.log.getD (r.n- (1:Int)).toNat default).k<=(3:Int)))=a44 s.log r):
  Z1 Tryz.prog 75 [.agg s.ts,.agg r.ts] (.bool (a44 s.log r)):=
 T7 (code:=c0Q) gN Tryz.func75 (by kernel_rfl) (by kernel_rfl) Z0 h (by kernel_rfl)
theorem b3F:Z2 Tryz.prog 75 b9j:=by
 rintro⟨s,r⟩ ⟨h1,h2⟩;have h2:s.log.length<1000000000000:=h2;dsimp only at h1;have k1:decide (r.n>(0:Int))=true->X6 .i64 (r.n-1)/\W7 (r.n-1) s.log.length:=fun h=>by
  have h:=of_decide_eq_true h;exact⟨Z5 (by omega),by omega,by omega⟩
 exact b9P s r ⟨fun h=>(k1 h).1,fun h=>(k1 h).2,fun h=>(k1 (Bool.and_eq_true_iff.1 h).1).1,fun h=>(k1 (Bool.and_eq_true_iff.1 h).1).2,rfl⟩
def o5(e:Eng)(i:Nat):Bool:=decide (V5 e.txs (e.lk.held.getD i default).tx<0)
def F7(e:Eng)(i:Nat):Bool:=decide (V5 e.txs (e.lk.waits.getD i default).tx<0)||decide (V5 e.txs (e.lk.waits.getD i default).fo<0)
def TxL(e:Eng):Prop:=N8 e.txs.length
def b0c:Con:=.rel ⟨Eng×Lck,fun x=>[.agg x.2.ts,.bref [.bref x.1.ts]],fun x=>.bool (decide (V5 x.1.txs x.2.tx<0)),fun x=>TxL x.1⟩
noncomputable def b0M:Code:=Tryz.f159.body.getD .skip
theorem a4P:Z8 Tryz.prog 159:=⟨_,Tryz.func159,by kernel_rfl,by kernel_rfl⟩
theorem b1L(e:Eng)(l:Lck)(h:
  ∃(x:(Eng×Int)),(((u2 e x.fst)/\l.tx=x.snd/\True)/\N8 x.fst.txs.length)/\decide (V5 x.fst.txs x.snd<(0:Int))=decide (V5 e.txs l.tx<(0:Int))):
  Z1 Tryz.prog 159 [.agg l.ts,.bref [.bref e.ts]] (.bool (decide (V5 e.txs l.tx<0))):=
 T7 (code:=b0M) (gC a2u d5 gN) Tryz.func159 (by kernel_rfl) (by kernel_rfl) Z0 h (by kernel_rfl)
theorem a8g:Z2 Tryz.prog 159 b0c:=fun x h=>b1L x.1 x.2 ⟨(x.1,x.2.tx),⟨⟨(y8 _),rfl,trivial⟩,h⟩,rfl⟩
def b0K:Con:=.rel ⟨Eng×Wt,fun x=>[.agg x.2.ts,.bref [.bref x.1.ts]],fun x=>.bool (decide (V5 x.1.txs x.2.tx<0)||decide (V5 x.1.txs x.2.fo<0)),fun x=>TxL x.1⟩
noncomputable def b03:Code:=Tryz.f161.body.getD .skip
theorem a4X:Z8 Tryz.prog 161:=⟨_,Tryz.func161,by kernel_rfl,by kernel_rfl⟩
theorem b2c(e:Eng)(l:Wt)(h:
  ∃(x:(Eng×Int)),(((u2 e x.fst)/\l.tx=x.snd/\True)/\N8 x.fst.txs.length)/\∃(x_1:(Eng×Int)),(decide (V5 x.fst.txs x.snd<(0:Int))=false->((u2 e x_1.fst)/\l.fo=x_1.snd/\True)/\N8 x_1.fst.txs.length)
  /\(decide (V5 x.fst.txs x.snd<(0:Int))||decide (V5 x_1.fst.txs x_1.snd<(0:Int)))=(decide (V5 e.txs l.tx<(0:Int))||decide (V5 e.txs l.fo<(0:Int)))):
  Z1 Tryz.prog 161 [.agg l.ts,.bref [.bref e.ts]] (.bool (decide (V5 e.txs l.tx<0)||decide (V5 e.txs l.fo<0))):=
 T7 (code:=b03) (gC a2u d5 gN) Tryz.func161 (by kernel_rfl) (by kernel_rfl) Z0 h (by kernel_rfl)
theorem a7G:Z2 Tryz.prog 161 b0K:=fun x h=>b2c x.1 x.2 ⟨(x.1,x.2.tx),⟨⟨(y8 _),rfl,trivial⟩,h⟩,(x.1,x.2.fo),fun _=>⟨⟨(y8 _),rfl,trivial⟩,h⟩,rfl⟩
def eF1(e:Eng):T:=.fn (.func 159) [.bref [.bref e.ts]]
def eF2(e:Eng):T:=.fn (.func 161) [.bref [.bref e.ts]]
def HlL(e:Eng):Prop:=TxL e/\N8 e.lk.held.length/\N8 e.lk.waits.length
def c1i:Con:=.rel ⟨Eng,fun e=>[D4 e.lk.held,eF1 e],fun e=>.int .i64 (T4 e.lk.held.length (o5 e)),HlL⟩
def c20(e:Eng):Nat->Ann
 |0=>.one (W5 e.lk.held.length (o5 e)) (fun x=>⟨[(0,D4 e.lk.held),(1,eF1 e),(7,.int .i64 e.lk.held.length),(8,.int .i64 x.1)],[]⟩) (fun x=>e.lk.held.length-x.1) [] [] (fun _=>Z0)
 |_=>.none
noncomputable def c0h:Code:=Tryz.f223.body.getD .skip
theorem a7J:Z8 Tryz.prog 223:=⟨_,Tryz.func223,by kernel_rfl,by kernel_rfl⟩
theorem c0N(e:Eng)(h:
  (∃(x:W5 e.lk.held.length (o5 e)),((Y3 Y9 e.lk.held e.lk.held)/\(Fn.func 159=Fn.func 159/\O3 (fun(x:Nat)=>none) (T.bref [T.bref e.ts]) (T.bref [T.bref e.ts])/\True)/\(e.lk.held.length:Int)=
  (e.lk.held.length:Int)/\(0:Int)=(x.val:Int)/\True)/\True)/\∀(x:W5 e.lk.held.length (o5 e)),(decide ((x.val:Int)<(e.lk.held.length:Int))=true->W7 (x.val:Int) e.lk.held.length/\∃(x_1:(Eng×Lck)),
  ((((e.lk.held.getD (x.val:Int).toNat default).tx=x_1.snd.tx/\(e.lk.held.getD (x.val:Int).toNat default).ta=x_1.snd.ta/\(e.lk.held.getD (x.val:Int).toNat default).row=x_1.snd.row/\(e.lk.held.getD (x.val:Int).toNat
  default).mo=x_1.snd.mo/\True)/\((u2 e x_1.fst)/\True)/\True)/\TxL x_1.fst)/\(decide (V5 x_1.fst.txs x_1.snd.tx<(0:Int))=true->(x.val:Int)=T4 e.lk.held.length (o5 e))/\(decide (V5 x_1.fst.txs x_1.snd.tx<
  (0:Int))=false->X6 .i64 ((x.val:Int)+(1:Int))/\∃(y:W5 e.lk.held.length (o5 e)),(((Y3 Y9 e.lk.held e.lk.held)/\(Fn.func 159=Fn.func 159/\O3 (fun(x:Nat)=>none) (T.bref [T.bref e.ts]) (T.bref [T.bref
  e.ts])/\True)/\(e.lk.held.length:Int)=(e.lk.held.length:Int)/\(x.val:Int)+(1:Int)=(y.val:Int)/\True)/\True)/\Lt (e.lk.held.length-y.val) (e.lk.held.length-x.val)))/\(decide ((x.val:Int)<(e.lk.held.length:Int))
  =false->(-1:Int)=T4 e.lk.held.length (o5 e))):
  Z1 Tryz.prog 223 [D4 e.lk.held,eF1 e] (.int .i64 (T4 e.lk.held.length (o5 e))):=
 T7 (code:=c0h) (gC a8g a4P gN) Tryz.func223 (by kernel_rfl) (by kernel_rfl) (c20 e) h (by kernel_rfl)
theorem b6I:Z2 Tryz.prog 223 c1i:=by
 rintro(e:Eng) ⟨ht,h1,h2⟩;have h1:e.lk.held.length<1000000000000:=h1;have h2:e.lk.waits.length<1000000000000:=h2;refine c0N e ⟨⟨I5,⟨⟨rfl,Z9 _ _⟩,⟨rfl,T6 _,trivial⟩,rfl,rfl,trivial⟩,trivial⟩,fun x=>⟨fun hc=> ?_,fun hc=> ?_⟩⟩
 ·have hlt:=Y6 hc;refine⟨Y8 hlt,(e,e.lk.held.getD x.val default),⟨⟨⟨rfl,rfl,rfl,rfl,trivial⟩,⟨(y8 _),trivial⟩,trivial⟩,ht⟩,fun hp=>(N9 hlt hp x.2.2).symm,fun hp=>⟨W8 hlt (by omega),x.succ hlt hp,⟨⟨⟨rfl,Z9 _ _⟩,⟨rfl,T6 _,trivial⟩,rfl,by simp only[W5.succ];omega,trivial⟩,trivial⟩,W5.ext_lt hlt⟩⟩
 ·have hge:=Y2 hc;exact(M1 fun j hj=>x.2.2 j (Nat.lt_of_lt_of_le hj hge)).symm
def c15:Con:=.rel ⟨Eng,fun e=>[D4 e.lk.held,eF1 e],fun e=>.bool (anyI e.lk.held.length (o5 e)),HlL⟩
noncomputable def c2F:Code:=Tryz.f158.body.getD .skip
theorem a8N:Z8 Tryz.prog 158:=⟨_,Tryz.func158,by kernel_rfl,by kernel_rfl⟩
theorem b9l(e:Eng)(h:
  ∃(x:Eng),(((Y3 Y9 e.lk.held x.lk.held)/\(Fn.func 159=Fn.func 159/\((u2 e x)/\True)/\True)/\True)/\HlL x)/\decide (T4 x.lk.held.length (o5 x)≥(0:Int))=anyI e.lk.held.length (o5 e)):
  Z1 Tryz.prog 158 [D4 e.lk.held,eF1 e] (.bool (anyI e.lk.held.length (o5 e))):=
 T7 (code:=c2F) (gC b6I a7J gN) Tryz.func158 (by kernel_rfl) (by kernel_rfl) Z0 h (by kernel_rfl)
theorem b5c:Z2 Tryz.prog 158 c15:=fun(e:Eng) h=>b9l e ⟨e,⟨⟨⟨rfl,Z9 _ _⟩,⟨rfl,⟨(y8 _),trivial⟩,trivial⟩,trivial⟩,h⟩,A3 _ _⟩
def c4S:Con:=.rel ⟨Eng,fun e=>[wtS e.lk.waits,eF2 e],fun e=>.int .i64 (T4 e.lk.waits.length (F7 e)),HlL⟩
def c5x(e:Eng):Nat->Ann
 |0=>.one (W5 e.lk.waits.length (F7 e)) (fun x=>⟨[(0,wtS e.lk.waits),(1,eF2 e),(7,.int .i64 e.lk.waits.length),(8,.int .i64 x.1)],[]⟩) (fun x=>e.lk.waits.length-x.1) [] [] (fun _=>Z0)
 |_=>.none
noncomputable def c8Y:Code:=Tryz.f224.body.getD .skip
theorem b2D:Z8 Tryz.prog 224:=⟨_,Tryz.func224,by kernel_rfl,by kernel_rfl⟩
theorem c4j(e:Eng)(h:
  (∃(x:W5 e.lk.waits.length (F7 e)),((Y3 Y1 e.lk.waits e.lk.waits)/\(Fn.func 161=Fn.func 161/\O3 (fun(x:Nat)=>none) (T.bref [T.bref e.ts]) (T.bref [T.bref e.ts])/\True)/\(e.lk.waits.length:Int)=
  (e.lk.waits.length:Int)/\(0:Int)=(x.val:Int)/\True)/\True)/\∀(x:W5 e.lk.waits.length (F7 e)),(decide ((x.val:Int)<(e.lk.waits.length:Int))=true->W7 (x.val:Int) e.lk.waits.length/\∃(x_1:(Eng×Wt)),
  ((((e.lk.waits.getD (x.val:Int).toNat default).tx=x_1.snd.tx/\(e.lk.waits.getD (x.val:Int).toNat default).fo=x_1.snd.fo/\True)/\((u2 e x_1.fst)/\True)/\True)/\TxL x_1.fst)/\((decide (V5 x_1.fst.txs x_1.snd.tx<(0:
  Int))||decide (V5 x_1.fst.txs x_1.snd.fo<(0:Int)))=true->(x.val:Int)=T4 e.lk.waits.length (F7 e))/\((decide (V5 x_1.fst.txs x_1.snd.tx<(0:Int))||decide (V5 x_1.fst.txs x_1.snd.fo<(0:Int)))=false
  ->X6 .i64 ((x.val:Int)+(1:Int))/\∃(y:W5 e.lk.waits.length (F7 e)),(((Y3 Y1 e.lk.waits e.lk.waits)/\(Fn.func 161=Fn.func 161/\O3 (fun(x:Nat)=>none) (T.bref [T.bref e.ts]) (T.bref [T.bref e.ts])/\True)/\
  (e.lk.waits.length:Int)=(e.lk.waits.length:Int)/\(x.val:Int)+(1:Int)=(y.val:Int)/\True)/\True)/\Lt (e.lk.waits.length-y.val) (e.lk.waits.length-x.val)))/\(decide ((x.val:Int)<(e.lk.waits.length:Int))=false->
  (-1:Int)=T4 e.lk.waits.length (F7 e))):
  Z1 Tryz.prog 224 [wtS e.lk.waits,eF2 e] (.int .i64 (T4 e.lk.waits.length (F7 e))):=
 T7 (code:=c8Y) (gC a7G a4X gN) Tryz.func224 (by kernel_rfl) (by kernel_rfl) (c5x e) h (by kernel_rfl)
theorem c3r:Z2 Tryz.prog 224 c4S:=by
 rintro(e:Eng) ⟨ht,h1,h2⟩;have h1:e.lk.held.length<1000000000000:=h1;have h2:e.lk.waits.length<1000000000000:=h2;refine c4j e ⟨⟨I5,⟨⟨rfl,Z9 _ _⟩,⟨rfl,T6 _,trivial⟩,rfl,rfl,trivial⟩,trivial⟩,fun x=>⟨fun hc=> ?_,fun hc=> ?_⟩⟩
 ·have hlt:=Y6 hc;refine⟨Y8 hlt,(e,e.lk.waits.getD x.val default),⟨⟨⟨rfl,rfl,trivial⟩,⟨(y8 _),trivial⟩,trivial⟩,ht⟩,fun hp=>(N9 hlt hp x.2.2).symm,fun hp=>⟨W8 hlt (by omega),x.succ hlt hp,⟨⟨⟨rfl,Z9 _ _⟩,⟨rfl,T6 _,trivial⟩,rfl,by simp only[W5.succ];omega,trivial⟩,trivial⟩,W5.ext_lt hlt⟩⟩
 ·have hge:=Y2 hc;exact(M1 fun j hj=>x.2.2 j (Nat.lt_of_lt_of_le hj hge)).symm
def c36:Con:=.rel ⟨Eng,fun e=>[wtS e.lk.waits,eF2 e],fun e=>.bool (anyI e.lk.waits.length (F7 e)),HlL⟩
noncomputable def c4p:Code:=Tryz.f160.body.getD .skip
theorem b06:Z8 Tryz.prog 160:=⟨_,Tryz.func160,by kernel_rfl,by kernel_rfl⟩
theorem c8j(e:Eng)(h:
  ∃(x:Eng),(((Y3 Y1 e.lk.waits x.lk.waits)/\(Fn.func 161=Fn.func 161/\((u2 e x)/\True)/\True)/\True)/\HlL x)/\decide (T4 x.lk.waits.length (F7 x)≥(0:Int))=anyI e.lk.waits.length (F7 e)):
  Z1 Tryz.prog 160 [wtS e.lk.waits,eF2 e] (.bool (anyI e.lk.waits.length (F7 e))):=
 T7 (code:=c4p) (gC c3r b2D gN) Tryz.func160 (by kernel_rfl) (by kernel_rfl) Z0 h (by kernel_rfl)
theorem c29:Z2 Tryz.prog 160 c36:=fun(e:Eng) h=>c8j e ⟨e,⟨⟨⟨rfl,Z9 _ _⟩,⟨rfl,⟨(y8 _),trivial⟩,trivial⟩,trivial⟩,h⟩,A3 _ _⟩
def I0(e:Eng)(i:Nat):Bool:= !W9 (e.txs.getD i default).id 1 (e.next-1)||(decide ((i:Int)>0)&&decide ((e.txs.getD (i-1) default).id≥(e.txs.getD i default).id))|| !a2b e.s.log (e.txs.getD i default)
def i3(e:Eng):Bool:=decide (e.txs.length<=10)&&W9 e.next 1 61&&L8 e.lk
def b2M(e:Eng):Bool:=decide (e.txs.length+e.lk.held.length+e.lk.waits.length+e.s.fr.length=0)
def upE(e:Eng):Bool:= !anyI e.txs.length (I0 e)&& !anyI e.lk.held.length (o5 e)&& !anyI e.lk.waits.length (F7 e)&&decide (e.s.log.length+ndE e<=60)
def a0V(e:Eng):Bool:=i3 e&&(if e.up then upE e else b2M e)
def d6e(e:Eng):Prop:=a0d e.s.log/\c8b e.lk/\N8 e.txs.length/\N8 e.s.fr.length
def b3c:Con:=.rel ⟨Eng,fun e=>[.bref e.ts],fun e=>.bool (a0V e),d6e⟩
def d44(e:Eng):Option Ob:=some (.arr true 1000000 1 1 fun _=>[.bref e.ts])
def b33(e:Eng):Nat->Ann
 |0=>.one (W5 e.txs.length (I0 e)) (fun x=>⟨[(1,.ref 0 0 0),(62,v8 e.txs),(63,.int .i64 e.txs.length),(64,.int .i64 x.1)],[d44 e]⟩) (fun x=>e.txs.length-x.1) [.box 0] [.box 0] (fun _=>Z0)
 |_=>.none
noncomputable def b4I:Code:=Tryz.f88.body.getD .skip
theorem a5D:Z8 Tryz.prog 88:=⟨_,Tryz.func88,by kernel_rfl,by kernel_rfl⟩
theorem b40(e:Eng)(h:
  ∃(x:a1j.ι),((decide ((e.txs.length:Int)>(10:Int))|| !W9 e.next (1:Int) (61:Int))=false->(((Y3 Y9 e.lk.held x.held)/\(Y3 Y1 e.lk.waits x.waits)/\True)/\True)/\c8b x)/\((decide
  ((e.txs.length:Int)>(10:Int))|| !W9 e.next (1:Int) (61:Int)|| !L8 x)=true->false=a0V e)/\((decide ((e.txs.length:Int)>(10:Int))|| !W9 e.next (1:Int) (61:Int)|| !L8 x)=false->((!e.up)=true->
  X6 .i64 ((e.txs.length:Int)+(e.lk.held.length:Int))/\X6 .i64 ((e.txs.length:Int)+(e.lk.held.length:Int)+(e.lk.waits.length:Int))/\X6 .i64 ((e.txs.length:Int)+(e.lk.held.length:Int)+(e.lk.waits.length:Int)+
  (e.s.fr.length:Int))/\((e.txs.length:Int)+(e.lk.held.length:Int)+(e.lk.waits.length:Int)+(e.s.fr.length:Int)==(0:Int))=a0V e)/\((!e.up)=false->(∃(x:W5 e.txs.length (I0 e)),((0=0/\0=0)/\(Y3 X9
  e.txs e.txs)/\(e.txs.length:Int)=(e.txs.length:Int)/\(0:Int)=(x.val:Int)/\True)/\(1=1/\1=1/\O3 (y4 [some 0]) (T.bref e.ts) (T.bref e.ts)/\True)/\True)/\∀(x:W5 e.txs.length (I0 e)),(decide ((x.val:Int)
  <(e.txs.length:Int))=true->W7 (x.val:Int) e.txs.length/\X6 .i64 (e.next- (1:Int))/\((!W9 (e.txs.getD (x.val:Int).toNat default).id (1:Int) (e.next- (1:Int)))=false->decide ((x.val:Int)>(0:Int))=true->X6
  .i64 ((x.val:Int)- (1:Int)))/\((!W9 (e.txs.getD (x.val:Int).toNat default).id (1:Int) (e.next- (1:Int)))=false->decide ((x.val:Int)>(0:Int))=true->W7 ((x.val:Int)- (1:Int)) e.txs.length)/\∃(x_1:(Sto×
  Txn)),((!W9 (e.txs.getD (x.val:Int).toNat default).id (1:Int) (e.next- (1:Int))||decide ((x.val:Int)>(0:Int))&&decide ((e.txs.getD ((x.val:Int)- (1:Int)).toNat default).id≥(e.txs.getD (x.val:Int).toNat
  default).id))=false->((EqS e.s x_1.fst)/\((e.txs.getD (x.val:Int).toNat default).id=x_1.snd.id/\(e.txs.getD (x.val:Int).toNat default).last=x_1.snd.last/\True)/\True)/\a0d x_1.fst.log)/\((!W9 (e.txs.getD
  (x.val:Int).toNat default).id (1:Int) (e.next- (1:Int))||decide ((x.val:Int)>(0:Int))&&decide ((e.txs.getD ((x.val:Int)- (1:Int)).toNat default).id≥(e.txs.getD (x.val:Int).toNat default).id)|| !a2b x_1.fst.log
  x_1.snd)=true->false=a0V e)/\((!W9 (e.txs.getD (x.val:Int).toNat default).id (1:Int) (e.next- (1:Int))||decide ((x.val:Int)>(0:Int))&&decide ((e.txs.getD ((x.val:Int)- (1:Int)).toNat default).id≥
  (e.txs.getD (x.val:Int).toNat default).id)|| !a2b x_1.fst.log x_1.snd)=false->X6 .i64 ((x.val:Int)+(1:Int))/\∃(y:W5 e.txs.length (I0 e)),(((0=0/\0=0)/\(Y3 X9 e.txs e.txs)/\(e.txs.length:Int)=
  (e.txs.length:Int)/\(x.val:Int)+(1:Int)=(y.val:Int)/\True)/\(1=1/\1=1/\O3 (y4 [some 0]) (T.bref e.ts) (T.bref e.ts)/\True)/\True)/\Lt (e.txs.length-y.val) (e.txs.length-x.val)))/\(decide ((x.val:Int)<
  (e.txs.length:Int))=false->∃(x:Eng),(((Y3 Y9 e.lk.held x.lk.held)/\(Fn.func 159=Fn.func 159/\((u2 e x)/\True)/\True)/\True)/\HlL x)/\∃(x_1:Eng),(anyI x.lk.held.length (o5 x)=false->((Y3 Y1
  e.lk.waits x_1.lk.waits)/\(Fn.func 161=Fn.func 161/\((u2 e x_1)/\True)/\True)/\True)/\HlL x_1)/\((anyI x.lk.held.length (o5 x)||anyI x_1.lk.waits.length (F7 x_1))=true->false=a0V e)/\((anyI x.lk.held.length
  (o5 x)||anyI x_1.lk.waits.length (F7 x_1))=false->∃(x:(Eng×Int)),(((u2 e x.fst)/\(0:Int)=x.snd/\True)/\b36 x.fst/\A5 x.snd)/\decide ((x.fst.s.log.length:Int)+(↑(ndE x.fst):Int)+x.snd<=(60:
  Int))=a0V e))))):
  Z1 Tryz.prog 88 [.bref e.ts] (.bool (a0V e)):=
 T7 (code:=b4I) (gC P4 S0 (gC b2i a57 (gC b25 a89 (gC b5c a8N (gC c29 b06 (gC b3a a7H gN)))))) Tryz.func88 (by kernel_rfl) (by kernel_rfl) (b33 e) h (by kernel_rfl)
theorem c6Y(e:Eng):(decide ((e.txs.length:Int)>10)|| !W9 e.next 1 61|| !L8 e.lk)= !i3 e:=by
 unfold i3;rw[Bool.not_and,Bool.not_and,←decide_not];congr 2
 exact decide_eq_decide.2 (by omega)
theorem b7A{e:Eng}(h:i3 e=false):a0V e=false:=by unfold a0V;rw[h];rfl
theorem b8y{e:Eng}(h:i3 e=true)(hu:e.up=true):a0V e=upE e:=by unfold a0V;rw[h,if_pos hu];rfl
theorem b7u{e:Eng}(h:i3 e=true)(hu:e.up=false):a0V e=b2M e:=by unfold a0V;rw[h,hu];rfl
theorem b3j{e:Eng}{i:Nat}(hi:i<e.txs.length)(h:I0 e i=true):upE e=false:=by
 have:anyI e.txs.length (I0 e)=true:=Q1.2 ⟨i,hi,h⟩;unfold upE;rw[this];rfl
theorem d4R{e:Eng}{i:Nat}(hi:i<e.lk.held.length)(h:o5 e i=true):upE e=false:=by
 have:anyI e.lk.held.length (o5 e)=true:=Q1.2 ⟨i,hi,h⟩;unfold upE;rw[this];simp
theorem d4p{e:Eng}{i:Nat}(hi:i<e.lk.waits.length)(h:F7 e i=true):upE e=false:=by
 have:anyI e.lk.waits.length (F7 e)=true:=Q1.2 ⟨i,hi,h⟩;unfold upE;rw[this];simp
theorem o7{e:Eng}(h:i3 e=true):e.txs.length<=10/\1<=e.next/\e.next<=61/\L8 e.lk=true:=by
 unfold i3 at h;simp only[Bool.and_eq_true,decide_eq_true_eq,N3] at h;exact⟨h.1.1,h.1.2.1,h.1.2.2,h.2⟩
theorem d3w{e:Eng}(hL:a0d e.s.log)(h:i3 e=true)(hb:∀i,i<e.txs.length->I0 e i=false):b36 e:=by
 refine⟨hL,(o7 h).1,fun i hi=> ?_⟩
 have:=hb i hi;unfold I0 at this;simp only[Bool.or_eq_false_iff,Bool.not_eq_false'] at this;have:=this.2;unfold a2b at this;simp only[Bool.and_eq_true,N3] at this;exact this.1.2
theorem a91:Z2 Tryz.prog 88 b3c:=by
 rintro(e:Eng) ⟨hL,hk,ht,hf⟩;have ht:e.txs.length<1000000000000:=ht;have hf:e.s.fr.length<1000000000000:=hf;have hk1:e.lk.held.length<1000000000000:=hk.1;have hk2:e.lk.waits.length<1000000000000:=hk.2;refine b40 e ⟨e.lk,fun _=>⟨⟨⟨⟨rfl,Z9 _ _⟩,⟨rfl,Z9 _ _⟩,trivial⟩,trivial⟩,hk⟩,fun hb=> ?_,fun hb=>⟨fun hu=> ?_,fun hu=> ?_⟩⟩
 ·rw[c6Y] at hb;rw[b7A (by simpa using hb)]
 ·rw[c6Y] at hb;rw[b7u (by simpa using hb) (by simpa using hu)]
  refine⟨Z5 (by omega),Z5 (by omega),Z5 (by omega),?_⟩
  unfold b2M;rw[Bool.eq_iff_iff,beq_iff_eq,decide_eq_true_eq];omega
 ·rw[c6Y] at hb;have hh:i3 e=true:=by simpa using hb
  have hu':e.up=true:=by simpa using hu
  obtain⟨q1,q2,q3,q4⟩:=o7 hh;rw[b8y hh hu'];refine⟨⟨I5,⟨⟨rfl,rfl⟩,⟨rfl,Z9 _ _⟩,rfl,rfl,trivial⟩,⟨rfl,rfl,T6 _,trivial⟩,trivial⟩,fun x=>⟨fun hc=> ?_,fun hc=> ?_⟩⟩
  ·have hlt:=Y6 hc;refine⟨Y8 hlt,Z5 (by omega),fun _ _=>Z5 (by omega),fun _ h0=>⟨by have:=of_decide_eq_true h0;omega,by omega⟩,(e.s,e.txs.getD x.val default),fun _=>⟨⟨(eqS _),⟨rfl,rfl,trivial⟩,trivial⟩,hL⟩,fun hq=> ?_,fun hq=> ?_⟩
   ·rw[Int.toNat_natCast,show((x.val:Int)-1).toNat=x.val-1 by omega] at hq
    exact(b3j hlt hq).symm
   ·rw[Int.toNat_natCast,show((x.val:Int)-1).toNat=x.val-1 by omega] at hq
    exact⟨W8 hlt (by omega),x.succ hlt hq,⟨⟨⟨rfl,rfl⟩,⟨rfl,Z9 _ _⟩,rfl,by simp only[W5.succ];omega,trivial⟩,⟨rfl,rfl,T6 _,trivial⟩,trivial⟩,W5.ext_lt hlt⟩
  ·have hge:=Y2 hc;have hno:∀i,i<e.txs.length->I0 e i=false:=fun i hi=>x.2.2 i (Nat.lt_of_lt_of_le hi hge)
   have hn:=d3w hL hh hno;have e1:anyI e.txs.length (I0 e)=false:=L5.2 hno;refine⟨e,⟨⟨⟨rfl,Z9 _ _⟩,⟨rfl,⟨(y8 _),trivial⟩,trivial⟩,trivial⟩,ht,hk1,hk2⟩,e,fun _=>⟨⟨⟨rfl,Z9 _ _⟩,⟨rfl,⟨(y8 _),trivial⟩,trivial⟩,trivial⟩,ht,hk1,hk2⟩,fun hq=> ?_,fun hq=>⟨(e,0),⟨⟨(y8 _),rfl,trivial⟩,hn,by unfold A5;dsimp only;omega⟩,?_⟩⟩
   ·unfold upE;rw[e1];simp only[Bool.or_eq_true] at hq;rcases hq with hq|hq<;>rw[hq]<;>simp
   ·simp only[Bool.or_eq_false_iff] at hq;unfold upE;rw[e1,hq.1,hq.2];simp only[Bool.not_false,Bool.true_and];exact decide_eq_decide.2 (by omega)
noncomputable def P1(e:Eng):Bool:=M9 e.s&&a0V e
def a46(e:Eng):Prop:=c3D e.s/\c8b e.lk/\N8 e.txs.length
noncomputable def a0x:Rl:=⟨Eng,fun e=>[.agg e.ts],fun e=>.bool (P1 e),a46⟩
noncomputable def b0Q:Con:=.rel a0x
noncomputable def b2q:Con:=.rel a0x
noncomputable def a9G:Code:=Tryz.f41.body.getD .skip
theorem a5c:Z8 Tryz.prog 41:=⟨_,Tryz.func41,by kernel_rfl,by kernel_rfl⟩
theorem b1s(e:Eng)(h:
  ∃(x:a1b.ι),(((EqS e.s x)/\True)/\c3D x)/\∃(x_1:Eng),(M9 x=true->((u2 e x_1)/\True)/\d6e x_1)/\(M9 x&&a0V x_1)=P1 e):
  Z1 Tryz.prog 41 [.agg e.ts] (.bool (P1 e)):=
 T7 (code:=a9G) (gC b1F a5V (gC a91 a5D gN)) Tryz.func41 (by kernel_rfl) (by kernel_rfl) Z0 h (by kernel_rfl)
theorem a3M{s:Sto}(h:M9 s=true):a0d s.log:=by
 obtain⟨⟨h1,h2,_⟩,_⟩:=(G7 s).1 h;exact⟨((d8 s).1 h1).2.2.2.2,fun i hi=>by
  obtain⟨a,b⟩:=a2S.1 h2 i hi;exact⟨(Q8 _).1 a,b⟩⟩
theorem a7F:Z2 Tryz.prog 41 b0Q:=by
 rintro(e:Eng) ⟨h1,h2,h3⟩;exact b1s e ⟨e.s,⟨⟨(eqS _),trivial⟩,h1⟩,e,fun hs=>⟨⟨(y8 _),trivial⟩,a3M hs,h2,h3,h1.2.2.1.1⟩,rfl⟩
def Chs(L:List Rec)(t:Txn):Type:={x:Nat×Int//(decide (x.2<=0)||chn L t.id x.1 x.2)=a2b L t/\x.2<=(L.length:Int)/\x.2.toNat<x.1}
def b1G(e:Eng):Nat->Ann
 |0=>.one (W5 e.txs.length (I0 e)) (fun x=>⟨[(1,.ref 0 0 0),(3,.int .i64 x.1)],[a2H e]⟩) (fun x=>e.txs.length-x.1) [.box 0] [.box 0] (fun x=>fun
  |1=>.one (Chs e.s.log (e.txs.getD x.1 default)) (fun y=>⟨[(1,.ref 0 0 0),(3,.int .i64 x.1),(4,.ref 1 0 0),(5,.int .i64 y.1.2)],[a2H e,c7q (e.txs.getD x.1 default)]⟩) (fun y=>y.1.1) [.box 0,.box 1] [.box 0,.box 1] (fun _=>Z0)
  |2=>.one (W5 e.lk.held.length (o5 e)) (fun y=>⟨[(1,.ref 0 0 0),(7,.int .i64 y.1)],[a2H e]⟩) (fun y=>e.lk.held.length-y.1) [.box 0] [.box 0] (fun _=>fun
   |3=>.one (W5 e.lk.waits.length (F7 e)) (fun z=>⟨[(1,.ref 0 0 0),(8,.int .i64 z.1)],[a2H e]⟩) (fun z=>e.lk.waits.length-z.1) [.box 0] [.box 0] (fun _=>Z0)
   |_=>.none)
  |_=>.none)
 |_=>.none
noncomputable def a9H:Code:=Tryz.f35.body.getD .skip
theorem a4g:Z8 Tryz.prog 35:=⟨_,Tryz.func35,by kernel_rfl,by kernel_rfl⟩
theorem a90(e:Eng)(h:
  ∃(x:a1b.ι),(((EqS e.s x)/\True)/\c3D x)/\∃(x_1:a1j.ι),((!M9 x||decide ((e.txs.length:Int)>(10:Int)))=false->(((Y3 Y9 e.lk.held x_1.held)/\(Y3 Y1 e.lk.waits x_1.waits)/\True)/\True)/\
  c8b x_1)/\((!M9 x||decide ((e.txs.length:Int)>(10:Int))|| !L8 x_1|| !W9 e.next (1:Int) (61:Int))=true->false=P1 e)/\((!M9 x||decide ((e.txs.length:Int)>(10:Int))|| !L8 x_1|| !W9 e.next
  (1:Int) (61:Int))=false->((!e.up)=true->((e.txs.length:Int)==(0:Int)&&(e.lk.held.length:Int)==(0:Int)&&(e.lk.waits.length:Int)==(0:Int)&&(e.s.fr.length:Int)==(0:Int))=P1 e)/\((!e.up)=false->
  (∃(x:W5 e.txs.length (I0 e)),((0=0/\0=0)/\(0:Int)=(x.val:Int)/\True)/\(1=1/\1=1/\u2 e e)/\True)/\∀(x:W5 e.txs.length (I0 e)),(decide ((x.val:Int)<(e.txs.length:Int))=true->W7 (x.val:Int)
  e.txs.length/\X6 .i64 (e.next- (1:Int))/\((!W9 (e.txs.getD (x.val:Int).toNat default).id (1:Int) (e.next- (1:Int)))=false->decide ((x.val:Int)>(0:Int))=true->X6 .i64 ((x.val:Int)- (1:Int)))/\((!W9
  (e.txs.getD (x.val:Int).toNat default).id (1:Int) (e.next- (1:Int)))=false->decide ((x.val:Int)>(0:Int))=true->W7 ((x.val:Int)- (1:Int)) e.txs.length)/\((!W9 (e.txs.getD (x.val:Int).toNat default).id (1:Int)
  (e.next- (1:Int))||decide ((x.val:Int)>(0:Int))&&decide ((e.txs.getD ((x.val:Int)- (1:Int)).toNat default).id≥(e.txs.getD (x.val:Int).toNat default).id)|| !W9 (e.txs.getD (x.val:Int).toNat default).last (1:Int)
  (e.s.log.length:Int))=true->false=P1 e)/\((!W9 (e.txs.getD (x.val:Int).toNat default).id (1:Int) (e.next- (1:Int))||decide ((x.val:Int)>(0:Int))&&decide ((e.txs.getD ((x.val:Int)- (1:Int)).toNat
  default).id≥(e.txs.getD (x.val:Int).toNat default).id)|| !W9 (e.txs.getD (x.val:Int).toNat default).last (1:Int) (e.s.log.length:Int))=false->(∃(x_2:Chs e.s.log (e.txs.getD x.val default)),((0=0/\0=0)/\
  (x.val:Int)=(x.val:Int)/\(0=0/\0=0)/\(e.txs.getD (x.val:Int).toNat default).last=x_2.val.snd/\True)/\(1=1/\1=1/\u2 e e)/\(1=1/\1=1/\(e.txs.getD (x.val:Int).toNat default).id=(e.txs.getD x.val
  default).id/\(e.txs.getD (x.val:Int).toNat default).last=(e.txs.getD x.val default).last/\True)/\True)/\∀(x_2:Chs e.s.log (e.txs.getD x.val default)),(decide (x_2.val.snd>(0:Int))=true->X6 .i64 (x_2.val.snd- (1
  :Int))/\W7 (x_2.val.snd- (1:Int)) e.s.log.length/\∃(x_3:(Sto×Rec)),(((e.s.log.getD (x_2.val.snd- (1:Int)).toNat default).t !=(e.txs.getD x.val default).id||(e.s.log.getD (x_2.val.snd- (1:Int)).toNat
  default).k==(4:Int)||(e.s.log.getD (x_2.val.snd- (1:Int)).toNat default).k==(5:Int)||(e.s.log.getD (x_2.val.snd- (1:Int)).toNat default).k==(6:Int))=false->((e.s.log.getD (x_2.val.snd- (1:Int)).toNat
  default).k==(3:Int))=true->((EqS e.s x_3.fst)/\((e.s.log.getD (x_2.val.snd- (1:Int)).toNat default).e=x_3.snd.e/\(e.s.log.getD (x_2.val.snd- (1:Int)).toNat default).l=x_3.snd.l/\(e.s.log.getD (x_2.val.snd- (1
  :Int)).toNat default).t=x_3.snd.t/\(e.s.log.getD (x_2.val.snd- (1:Int)).toNat default).k=x_3.snd.k/\(e.s.log.getD (x_2.val.snd- (1:Int)).toNat default).p=x_3.snd.p/\(e.s.log.getD (x_2.val.snd- (1:Int)).toNat
  default).n=x_3.snd.n/\(e.s.log.getD (x_2.val.snd- (1:Int)).toNat default).g=x_3.snd.g/\(e.s.log.getD (x_2.val.snd- (1:Int)).toNat default).s=x_3.snd.s/\(e.s.log.getD (x_2.val.snd- (1:Int)).toNat default).b=
  x_3.snd.b/\(e.s.log.getD (x_2.val.snd- (1:Int)).toNat default).a=x_3.snd.a/\True)/\True)/\x_3.snd.n<=(x_3.fst.log.length:Int)/\N8 x_3.fst.log.length)/\(((e.s.log.getD (x_2.val.snd- (1:Int)).toNat default).t !=
  (e.txs.getD x.val default).id||(e.s.log.getD (x_2.val.snd- (1:Int)).toNat default).k==(4:Int)||(e.s.log.getD (x_2.val.snd- (1:Int)).toNat default).k==(5:Int)||(e.s.log.getD (x_2.val.snd- (1:Int)).toNat
  default).k==(6:Int)||(e.s.log.getD (x_2.val.snd- (1:Int)).toNat default).k==(3:Int)&& !a44 x_3.fst.log x_3.snd)=true->false=P1 e)/\(((e.s.log.getD (x_2.val.snd- (1:Int)).toNat default).t !=(e.txs.getD
  x.val default).id||(e.s.log.getD (x_2.val.snd- (1:Int)).toNat default).k==(4:Int)||(e.s.log.getD (x_2.val.snd- (1:Int)).toNat default).k==(5:Int)||(e.s.log.getD (x_2.val.snd- (1:Int)).toNat default).k==(6
  :Int)||(e.s.log.getD (x_2.val.snd- (1:Int)).toNat default).k==(3:Int)&& !a44 x_3.fst.log x_3.snd)=false->X6 .i64 (x_2.val.snd- (1:Int))/\W7 (x_2.val.snd- (1:Int)) e.s.log.length/\∃(y:Chs e.s.log
  (e.txs.getD x.val default)),(((0=0/\0=0)/\(x.val:Int)=(x.val:Int)/\(0=0/\0=0)/\(e.s.log.getD (x_2.val.snd- (1:Int)).toNat default).p=y.val.snd/\True)/\(1=1/\1=1/\u2 e e)/\(1=1/\1=1/\(e.txs.getD
  x.val default).id=(e.txs.getD x.val default).id/\(e.txs.getD x.val default).last=(e.txs.getD x.val default).last/\True)/\True)/\Lt y.val.fst x_2.val.fst))/\(decide (x_2.val.snd>(0:Int))=false->X6 .i64 ((x.val:Int)
  +(1:Int))/\∃(y:W5 e.txs.length (I0 e)),(((0=0/\0=0)/\(x.val:Int)+(1:Int)=(y.val:Int)/\True)/\(1=1/\1=1/\u2 e e)/\True)/\Lt (e.txs.length-y.val) (e.txs.length-x.val))))/\(decide ((x.val:Int)
  <(e.txs.length:Int))=false->(∃(x:W5 e.lk.held.length (o5 e)),((0=0/\0=0)/\(0:Int)=(x.val:Int)/\True)/\(1=1/\1=1/\u2 e e)/\True)/\∀(x:W5 e.lk.held.length (o5 e)),(decide ((x.val:Int)<
  (e.lk.held.length:Int))=true->W7 (x.val:Int) e.lk.held.length/\∃(x_2:(Eng×Int)),(((u2 e x_2.fst)/\(e.lk.held.getD (x.val:Int).toNat default).tx=x_2.snd/\True)/\N8 x_2.fst.txs.length)/\(decide (V5 x_2.fst.txs
  x_2.snd<(0:Int))=true->false=P1 e)/\(decide (V5 x_2.fst.txs x_2.snd<(0:Int))=false->X6 .i64 ((x.val:Int)+(1:Int))/\∃(y:W5 e.lk.held.length (o5 e)),(((0=0/\0=0)/\(x.val:Int)+(1:Int)=
  (y.val:Int)/\True)/\(1=1/\1=1/\u2 e e)/\True)/\Lt (e.lk.held.length-y.val) (e.lk.held.length-x.val)))/\(decide ((x.val:Int)<(e.lk.held.length:Int))=false->(∃(x:W5 e.lk.waits.length (F7 e)),((0=0/\0
  =0)/\(0:Int)=(x.val:Int)/\True)/\(1=1/\1=1/\u2 e e)/\True)/\∀(x:W5 e.lk.waits.length (F7 e)),(decide ((x.val:Int)<(e.lk.waits.length:Int))=true->W7 (x.val:Int) e.lk.waits.length/\∃(x_2:(Eng×
  Int)),(((u2 e x_2.fst)/\(e.lk.waits.getD (x.val:Int).toNat default).tx=x_2.snd/\True)/\N8 x_2.fst.txs.length)/\(decide (V5 x_2.fst.txs x_2.snd<(0:Int))=false->W7 (x.val:Int) e.lk.waits.length)/\∃(x_3:(Eng×
  Int)),(decide (V5 x_2.fst.txs x_2.snd<(0:Int))=false->((u2 e x_3.fst)/\(e.lk.waits.getD (x.val:Int).toNat default).fo=x_3.snd/\True)/\N8 x_3.fst.txs.length)/\((decide (V5 x_2.fst.txs x_2.snd<(0:Int))||
  decide (V5 x_3.fst.txs x_3.snd<(0:Int)))=true->false=P1 e)/\((decide (V5 x_2.fst.txs x_2.snd<(0:Int))||decide (V5 x_3.fst.txs x_3.snd<(0:Int)))=false->X6 .i64 ((x.val:Int)+(1:Int))/\∃(y:W5
  e.lk.waits.length (F7 e)),(((0=0/\0=0)/\(x.val:Int)+(1:Int)=(y.val:Int)/\True)/\(1=1/\1=1/\u2 e e)/\True)/\Lt (e.lk.waits.length-y.val) (e.lk.waits.length-x.val)))/\(decide ((x.val:Int)<
  (e.lk.waits.length:Int))=false->∃(x:Eng),(((u2 e x)/\True)/\b36 x)/\X6 .i64 ((e.s.log.length:Int)+(↑(ndE x):Int))/\decide ((e.s.log.length:Int)+(↑(ndE x):Int)<=(60:Int))=P1 e)))))):
  Z1 Tryz.prog 35 [.agg e.ts] (.bool (P1 e)):=
 T7 (code:=a9H) (gC b1d a5Y (gC b2t a5H (gC A7 I3 (gC b3F a8U (gC b0h a5b (gC a55 a3H gN)))))) Tryz.func35 (by kernel_rfl) (by kernel_rfl) (b1G e) h (by kernel_rfl)
theorem d7k{L:List Rec}(hL:a0d L)(id:Int){at_:Int}(h1:1<=at_)(h2:at_<=L.length):
  ((X0 L at_).t !=id||(X0 L at_).k==4||(X0 L at_).k==5||(X0 L at_).k==6||(X0 L at_).k==3&& !a44 L (X0 L at_))= !okR L id at_:=by
 obtain⟨hr,hl⟩:=hL.at h1 h2;obtain⟨p1,p2,p3,p4⟩:=hL.prev h1 h2;obtain⟨_,_,_,_,k1,k2,_⟩:=hr;unfold okR ownR;rw[N3.2 ⟨h1,h2⟩,Bool.true_and];by_cases ht:(X0 L at_).t=id
 ·rw[show((X0 L at_).t !=id)=false by simpa using ht,show((X0 L at_).t==id)=true by simpa using ht,Bool.false_or,Bool.true_and]
  by_cases hk:(X0 L at_).k<=3
  ·rw[N3.2 ⟨k1,hk⟩,show((X0 L at_).k==4)=false by rw[beq_eq_false_iff_ne];omega,show((X0 L at_).k==5)=false by rw[beq_eq_false_iff_ne];omega,show((X0 L at_).k==6)=false by rw[beq_eq_false_iff_ne];omega]
   simp only[Bool.false_or,Bool.true_and];by_cases h3:(X0 L at_).k=3
   ·rw[show((X0 L at_).k==3)=true by simpa using h3,show((X0 L at_).k !=3)=false by simpa using h3,Bool.true_and,Bool.false_or]
    congr 1
    unfold a44;by_cases hn:(X0 L at_).n>0
    ·obtain⟨hr2,_⟩:=hL.at (show 1<=(X0 L at_).n by omega) (by omega)
     have k3:1<=(X0 L (X0 L at_).n).k:=hr2.2.2.2.2.1;rw[decide_eq_true hn,N3.2 (show 1<=(X0 L at_).n/\(X0 L at_).n<=(L.length:Int) by omega),Bool.true_and,Bool.true_and,ht]
     congr 1
     unfold W9;rw[decide_eq_true k3,Bool.true_and]
    ·rw[decide_eq_false hn,show W9 (X0 L at_).n 1 L.length=false from Bool.eq_false_iff.2 fun h=>by have:=N3.1 h;omega]
     rfl
   ·rw[show((X0 L at_).k==3)=false by simpa using h3,show((X0 L at_).k !=3)=true by simpa using h3]
    rfl
  ·rw[show W9 (X0 L at_).k 1 3=false from Bool.eq_false_iff.2 fun h=>by have:=N3.1 h;omega]
   simp only[Bool.false_and,Bool.not_false,Bool.or_eq_true,beq_iff_eq];exact .inl (by omega)
 ·rw[show((X0 L at_).t !=id)=true by simpa using ht,show((X0 L at_).t==id)=false by simpa using ht]
  rfl
theorem c7M(e:Eng):(!M9 e.s||decide ((e.txs.length:Int)>10)|| !L8 e.lk|| !W9 e.next 1 61)= !(M9 e.s&&i3 e):=by
 unfold i3;rw[show decide ((e.txs.length:Int)>10)= !decide (e.txs.length<=10) by rw[←decide_not];exact decide_eq_decide.2 (by omega)]
 cases M9 e.s<;>cases decide (e.txs.length<=10)<;>cases L8 e.lk<;>cases W9 e.next 1 61<;>rfl
theorem a7b:Z2 Tryz.prog 35 b2q:=by
 rintro(e:Eng) ⟨hS,hk,ht⟩;have ht:e.txs.length<1000000000000:=ht;have hk1:e.lk.held.length<1000000000000:=hk.1;have hk2:e.lk.waits.length<1000000000000:=hk.2;refine a90 e ⟨e.s,⟨⟨(eqS _),trivial⟩,hS⟩,e.lk,fun _=>⟨⟨⟨⟨rfl,Z9 _ _⟩,⟨rfl,Z9 _ _⟩,trivial⟩,trivial⟩,hk⟩,fun hb=> ?_,fun hb=> ?_⟩
 ·rw[c7M] at hb;unfold P1;cases h1:M9 e.s
  ·rfl
  ·rw[h1] at hb;rw[b7A (by simpa using hb)]
   rfl
 rw[c7M] at hb;simp only[Bool.not_eq_false',Bool.and_eq_true] at hb;obtain⟨hs,hh⟩:=hb;have hL:=a3M hs;have h60:=hL.1;obtain⟨q1,q2,q3,q4⟩:=o7 hh;have eo:P1 e=a0V e:=by unfold P1;rw[hs,Bool.true_and]
 refine⟨fun hu=> ?_,fun hu=> ?_⟩
 ·rw[eo,b7u hh (by simpa using hu)]
  unfold b2M;rw[Bool.eq_iff_iff];simp only[Bool.and_eq_true,beq_iff_eq,decide_eq_true_eq];omega
 ·have hu':e.up=true:=by simpa using hu
  rw[eo,b8y hh hu'];refine⟨⟨I5,⟨⟨rfl,rfl⟩,rfl,trivial⟩,⟨rfl,rfl,y8 _⟩,trivial⟩,fun x=>⟨fun hc=> ?_,fun hc=> ?_⟩⟩
  ·have hlt:=Y6 hc;rw[Int.toNat_natCast,show((x.val:Int)-1).toNat=x.val-1 by omega]
   refine⟨Y8 hlt,Z5 (by omega),fun _ _=>Z5 (by omega),fun _ h0=>⟨by have:=of_decide_eq_true h0;omega,by omega⟩,fun hq=> ?_,fun hq=> ?_⟩
   ·refine(b3j hlt ?_).symm
    unfold I0 a2b;rw[Bool.not_and,←Bool.or_assoc,hq];rfl
   ·simp only[Bool.or_eq_false_iff,Bool.not_eq_false'] at hq;obtain⟨⟨r1,r2⟩,r3⟩:=hq;obtain⟨l1,l2⟩:=N3.1 r3;refine⟨⟨⟨(61,(e.txs.getD x.val default).last),?_,l2,by dsimp only;omega⟩,⟨⟨rfl,rfl⟩,rfl,⟨rfl,rfl⟩,rfl,trivial⟩,⟨rfl,rfl,y8 _⟩,⟨rfl,rfl,rfl,rfl,trivial⟩,trivial⟩,fun y=> ?_⟩
    ·dsimp only;unfold a2b;rw[decide_eq_false (by omega),r3]
     rfl
    obtain⟨⟨f,at_⟩,he,hle,hf⟩:=y;dsimp only at he hle hf ⊢;refine⟨fun hy=> ?_,fun hy=> ?_⟩
    ·have h0:at_>0:=of_decide_eq_true hy;have h1:1<=at_:=by omega
     obtain⟨p1,p2,p3,p4⟩:=hL.prev h1 hle;rw[decide_eq_false (by omega),Bool.false_or,a4p _ _ (by omega) h1] at he
     have es:=d7k hL (e.txs.getD x.val default).id h1 hle;refine⟨Z5 (by omega),⟨by omega,by omega⟩,(e.s,X0 e.s.log at_),fun _ _=>⟨⟨(eqS _),⟨rfl,rfl,rfl,rfl,rfl,rfl,rfl,rfl,rfl,rfl,trivial⟩,trivial⟩,by dsimp only;omega,by unfold N8;dsimp only;omega⟩,fun hq=> ?_,fun hq=> ?_⟩
     ·have hq:=es.symm.trans hq;refine(b3j hlt ?_).symm
      rw[show okR e.s.log (e.txs.getD x.val default).id at_=false by simpa using hq] at he
      unfold I0;rw[←he];simp
     ·have hq:=es.symm.trans hq;rw[show okR e.s.log (e.txs.getD x.val default).id at_=true by simpa using hq,Bool.true_and] at he
      refine⟨Z5 (by omega),⟨by omega,by omega⟩,⟨(f-1,(X0 e.s.log at_).p),?_,by dsimp only;omega,by dsimp only;omega⟩,⟨⟨⟨rfl,rfl⟩,rfl,⟨rfl,rfl⟩,rfl,trivial⟩,⟨rfl,rfl,y8 _⟩,⟨rfl,rfl,rfl,rfl,trivial⟩,trivial⟩,show f-1<f by omega⟩
      dsimp only;rw[←he];by_cases hp:(X0 e.s.log at_).p<=0
      ·rw[a9y _ _ _ hp,Bool.or_true]
      ·rw[decide_eq_false hp,Bool.false_or]
    ·have h0:at_<=0:=by have:=of_decide_eq_false hy;omega
     rw[decide_eq_true h0,Bool.true_or] at he;exact⟨W8 hlt (by omega),x.succ hlt (by unfold I0;rw[←he,r1,r2];rfl),⟨⟨⟨rfl,rfl⟩,by simp only[W5.succ];omega,trivial⟩,⟨rfl,rfl,y8 _⟩,trivial⟩,W5.ext_lt hlt⟩
  ·have hge:=Y2 hc;have hno:∀i,i<e.txs.length->I0 e i=false:=fun i hi=>x.2.2 i (Nat.lt_of_lt_of_le hi hge)
   have hn:=d3w hL hh hno;refine⟨⟨I5,⟨⟨rfl,rfl⟩,rfl,trivial⟩,⟨rfl,rfl,y8 _⟩,trivial⟩,fun y=>⟨fun hy=> ?_,fun hy=>⟨⟨I5,⟨⟨rfl,rfl⟩,rfl,trivial⟩,⟨rfl,rfl,y8 _⟩,trivial⟩,fun z=>⟨fun hz=> ?_,fun hz=> ?_⟩⟩⟩⟩
   ·have hlt:=Y6 hy;exact⟨Y8 hlt,(e,(e.lk.held.getD y.val default).tx),⟨⟨(y8 _),rfl,trivial⟩,ht⟩,fun hq=>(d4R hlt hq).symm,fun hq=>⟨W8 hlt (by omega),y.succ hlt hq,⟨⟨⟨rfl,rfl⟩,by simp only[W5.succ];omega,trivial⟩,⟨rfl,rfl,y8 _⟩,trivial⟩,W5.ext_lt hlt⟩⟩
   ·have hlt:=Y6 hz;exact⟨Y8 hlt,(e,(e.lk.waits.getD z.val default).tx),⟨⟨(y8 _),rfl,trivial⟩,ht⟩,fun _=>Y8 hlt,(e,(e.lk.waits.getD z.val default).fo),fun _=>⟨⟨(y8 _),rfl,trivial⟩,ht⟩,fun hq=>(d4p hlt hq).symm,fun hq=>⟨W8 hlt (by omega),z.succ hlt hq,⟨⟨⟨rfl,rfl⟩,by simp only[W5.succ];omega,trivial⟩,⟨rfl,rfl,y8 _⟩,trivial⟩,W5.ext_lt hlt⟩⟩
   ·have g1:=Y2 hy;have g2:=Y2 hz;have hb:=a7Z e.s.log e.txs e.txs.length;have he:ndE e=ndS e.s.log e.txs e.txs.length:=rfl;refine⟨e,⟨⟨(y8 _),trivial⟩,hn⟩,Z5 (by omega),?_⟩
    have e1:anyI e.txs.length (I0 e)=false:=L5.2 hno;have e2:anyI e.lk.held.length (o5 e)=false:=L5.2 fun i hi=>y.2.2 i (Nat.lt_of_lt_of_le hi g1)
    have e3:anyI e.lk.waits.length (F7 e)=false:=L5.2 fun i hi=>z.2.2 i (Nat.lt_of_lt_of_le hi g2)
    unfold upE;rw[e1,e2,e3];simp only[Bool.not_false,Bool.true_and];exact decide_eq_decide.2 (by omega)
end Go.Proofs.YtokaojbaacnngaaGreat

