/- A part of the proof. -/
import Derived.Test.YtokaojbaacnngaaGreatU17
import Derived.Test.YtokaojbaacnngaaGreatU3U4U5
import Derived.Test.YtokaojbaacnngaaGreatX11X11rX12X13X14
import Derived.Test.YtokaojbaacnngaaGreatU10
namespace Go.Proofs.YtokaojbaacnngaaGreat
open Go.SS Go.RowKit

def a6y(o o':Ob):Prop:=o=o'∨∃cl ty sz n n' row row',o= .arr cl ty sz n row/\o'= .arr cl ty sz n' row'/\n'<=n/\∀i,i<n'->row' i=row i
def d3Z(H H':Y5):Prop:=H'.length=H.length/\∀k o',Z4 H' k=some o'->∃o,Z4 H k=some o/\a6y o o'
theorem a6y.blk{E:Env}{k:Nat}{o o':Ob}{b:Nat}(h:a6y o o')(hb:J9 E k o' b):J9 E k o b:=by
 rcases h with rfl|⟨cl,ty,sz,n,n',row,row',rfl,rfl,_,_⟩
 ·exact hb
 ·exact .inl (hb.arr rfl)
theorem a6y.ok{E:Env}{w:World}{k:Nat}{o o':Ob}(h:a6y o o')(ho:A0 E w k o):A0 E w k o':=by
 rcases h with rfl|⟨cl,ty,sz,n,n',row,row',rfl,rfl,hn,hr⟩
 ·exact ho
 ·obtain⟨e1,e2,e3,e4,e5,cs,tyb,e6,e7,e8⟩:=(show U9 E w k ⟨cl,ty,sz,n,row⟩ from ho)
  dsimp only at e1 e2 e3 e4 e5 e7 e8;refine(show U9 E w k ⟨cl,ty,sz,n',row'⟩ from⟨e1,Nat.le_trans hn e2,fun i hi=> ?_,fun i t hi ht=> ?_,fun hc i t hi ht=> ?_,cs,tyb,e6,e7,fun i j t hi hj=> ?_⟩)
  ·have hi:i<n':=hi;show(row' i).length=sz;rw[hr i hi];exact e3 i (by omega)
  ·have hi:i<n':=hi;have ht:t ∈ row' i:=ht;rw[hr i hi] at ht;exact e4 i t (by omega) ht
  ·have hi:i<n':=hi;have ht:t ∈ row' i:=ht;rw[hr i hi] at ht;exact e5 hc i t (by omega) ht
  ·have hi:i<n':=hi;have hj:(row' i)[j]? =some t:=hj;rw[hr i hi] at hj;exact e8 i j t (by omega) hj
theorem b7J{P:Program}{f:FuncId}{args:List T}{H H1 H2:Y5}{res:T}(h:V7 P f args H res H1)(hc:d3Z H1 H2):V7 P f args H res H2:=by
 intro E w vs hH hN hr;refine(h E w vs hH hN hr).mono ?_
 rintro e w' ⟨v,E',rfl,hI,hs,hr'⟩;refine⟨v,E',rfl,⟨⟨fun k o hk=> ?_,fun k k' o o' b hk hk' hb hb'=> ?_,fun k hk=>by rw[hc.1];exact hI.heap.lt k hk,hI.heap.l2,fun k o v hk hv=> ?_⟩,hI.nlt,hI.nnew,fun k o b hk hb=> ?_,hI.fr,hI.keep⟩,hs,hr'⟩
 ·obtain⟨o0,h0,hcut⟩:=hc.2 k o hk;obtain⟨a1,a2,a3⟩:=hI.heap.live k o0 h0;exact⟨a1,hcut.ok a2,fun b hb=>a3 b (hcut.blk hb)⟩
 ·obtain⟨o0,h0,hcut⟩:=hc.2 k o hk;obtain⟨o1,h1,hcut'⟩:=hc.2 k' o' hk';exact hI.heap.inj k k' o0 o1 b h0 h1 (hcut.blk hb) (hcut'.blk hb')
 ·obtain⟨o0,h0,hcut⟩:=hc.2 k o hk;obtain⟨v0,ty,sz,n,row,rfl,hle⟩:=hI.heap.cur k o0 v h0 hv;rcases hcut with rfl|⟨_,_,_,_,_,_,_,e,_⟩
  ·exact⟨v0,ty,sz,n,row,rfl,hle⟩
  ·cases e
 ·obtain⟨o0,h0,hcut⟩:=hc.2 k o hk;exact hI.bnew k o0 b h0 (hcut.blk hb)
theorem d2V{a b c:Option Ob}(h:∀o',c=some o'->∃o,a=some o/\a6y o o'):d3Z [a,b] [c,b]:=by
 refine⟨rfl,fun k o' hk=> ?_⟩
 match k,hk with
 |0,hk=>exact h o' hk
 |1,hk=>exact⟨o',hk,.inl rfl⟩
 |k+2,hk=>simp[Z4] at hk

def F6{α:Type}[Inhabited α](f:α->Bool)(L:List α)(j:Nat):List α:=X7 f L j++L.drop (X7 f L j).length
theorem d3D{α:Type}[Inhabited α]{f:α->Bool}{L:List α}{j q:Nat}(hq:(X7 f L j).length<=q):(F6 f L j).getD q default=L.getD q default:=by
 unfold F6;rw[List.getD_eq_getElem?_getD,List.getElem?_append_right hq,List.getElem?_drop,←List.getD_eq_getElem?_getD]
 congr 1
 omega
theorem d6A{α:Type}[Inhabited α]{f:α->Bool}{L:List α}{j q:Nat}(hq:q<(X7 f L j).length):(F6 f L j).getD q default=(X7 f L j).getD q default:=by
 unfold F6;rw[List.getD_eq_getElem?_getD,List.getElem?_append_left hq,←List.getD_eq_getElem?_getD]
theorem d1h{α:Type}[Inhabited α]{f:α->Bool}{L:List α}{j:Nat}(h:f (L.getD j default)=false):F6 f L (j+1)=F6 f L j:=by
 unfold F6;rw[a4c h]
theorem d7i{α:Type}[Inhabited α]{f:α->Bool}{L:List α}{j:Nat}(h:f (L.getD j default)=true)(q:Nat):(F6 f L (j+1)).getD q default=if q=(X7 f L j).length then L.getD j default else(F6 f L j).getD q default:=by
 have e1:F6 f L (j+1)=X7 f L j++(L.getD j default::L.drop ((X7 f L j).length+1)):=by
  unfold F6;rw[b0O h,List.length_append,List.length_singleton,List.append_assoc];rfl
 rw[e1];unfold F6;generalize X7 f L j=A;generalize L.getD j default=x;rcases Nat.lt_trichotomy q A.length with h1|h1|h1
 ·rw[if_neg (by omega),List.getD_eq_getElem?_getD,List.getD_eq_getElem?_getD,List.getElem?_append_left h1,List.getElem?_append_left h1]
 ·rw[if_pos h1,List.getD_eq_getElem?_getD,h1,List.getElem?_append_right (Nat.le_refl _),Nat.sub_self]
  rfl
 ·rw[if_neg (by omega),List.getD_eq_getElem?_getD,List.getD_eq_getElem?_getD,List.getElem?_append_right (by omega),List.getElem?_append_right (by omega)]
  obtain⟨d,hd⟩:∃d,q-A.length=d+1:=⟨q-A.length-1,by omega⟩
  rw[hd,List.getElem?_cons_succ,List.getElem?_drop,List.getElem?_drop]
  congr 2
  omega
theorem b8n{α:Type}[Inhabited α]{f:α->Bool}{L:List α}:∀j,j<=L.length->(∀q,q<j->f (L.getD q default)=true)->X7 f L j=L.take j
 |0,_,_=>by simp[X7]
 |j+1,hj,h=>by
  rw[b0O (h j (by omega)),b8n j (by omega) fun q hq=>h q (by omega),List.take_add_one,List.getD_eq_getElem?_getD,List.getElem?_eq_getElem (show j<L.length by omega)]
  rfl
theorem a9b{α:Type}[Inhabited α]{f:α->Bool}{L:List α}{j:Nat}(hj:j<=L.length)(h:∀q,q<j->f (L.getD q default)=true):(X7 f L j).length=j/\F6 f L j=L:=by
 have e:=b8n j hj h;have hl:(L.take j).length=j:=by rw[List.length_take];omega
 unfold F6;rw[e,hl];exact⟨rfl,List.take_append_drop j L⟩
end Go.Proofs.YtokaojbaacnngaaGreat

namespace Go.Proofs.YtokaojbaacnngaaGreat
set_option maxRecDepth 100000
open Go.SS Go.RowKit

def a54(n:Int):Option Ob:=some (.arr true 1000000 1 1 fun _=>[.int .i64 n])
def c9V:Con:=.rel ⟨Lck×Int,fun x=>[.agg x.1.ts,.bref [.int .i64 x.2]],fun x=>.bool (x.1.tx==x.2),fun _=>True⟩
noncomputable def d2X:Code:=Tryz.f238.body.getD .skip
theorem a4i:Z8 Tryz.prog 238:=⟨_,Tryz.func238,by kernel_rfl,by kernel_rfl⟩
theorem d0V(x:Lck)(tx:Int)(h:
  (x.tx==tx)=(x.tx==tx)):
  Z1 Tryz.prog 238 [.agg x.ts,.bref [.int .i64 tx]] (.bool (x.tx==tx)):=
 T7 (code:=d2X) gN Tryz.func238 (by kernel_rfl) (by kernel_rfl) Z0 h (by kernel_rfl)
theorem b13:Z2 Tryz.prog 238 c9V:=fun x _=>d0V x.1 x.2 rfl
def d00:Con:=.rel ⟨Wt×Int,fun x=>[.agg x.1.ts,.bref [.int .i64 x.2]],fun x=>.bool (x.1.tx==x.2||x.1.fo==x.2),fun _=>True⟩
noncomputable def d05:Code:=Tryz.f240.body.getD .skip
theorem a35:Z8 Tryz.prog 240:=⟨_,Tryz.func240,by kernel_rfl,by kernel_rfl⟩
theorem d1n(x:Wt)(tx:Int)(h:
  (x.tx==tx||x.fo==tx)=(x.tx==tx||x.fo==tx)):
  Z1 Tryz.prog 240 [.agg x.ts,.bref [.int .i64 tx]] (.bool (x.tx==tx||x.fo==tx)):=
 T7 (code:=d05) gN Tryz.func240 (by kernel_rfl) (by kernel_rfl) Z0 h (by kernel_rfl)
theorem b1Y:Z2 Tryz.prog 240 d00:=fun x _=>d1n x.1 x.2 rfl
def d37(tx:Int):T:=.fn (.func 238) [.bref [.int .i64 tx]]
def d5B(tx:Int):T:=.fn (.func 240) [.bref [.int .i64 tx]]
def d1(L:List Lck)(tx:Int)(i:Nat):Bool:=(L.getD i default).tx==tx
def d2(L:List Wt)(tx:Int)(i:Nat):Bool:=(L.getD i default).tx==tx||(L.getD i default).fo==tx
def c2j:Con:=.rel ⟨List Lck×Int,fun x=>[D4 x.1,d37 x.2],fun x=>.int .i64 (T4 x.1.length (d1 x.1 x.2)),fun x=>N8 x.1.length⟩
def b91(L:List Lck)(tx:Int):Nat->Ann
 |0=>.one (W5 L.length (d1 L tx)) (fun x=>⟨[(0,D4 L),(1,d37 tx),(7,.int .i64 L.length),(8,.int .i64 x.1)],[]⟩) (fun x=>L.length-x.1) [] [] (fun _=>Z0)
 |_=>.none
noncomputable def c2g:Code:=Tryz.f223.body.getD .skip
theorem a8y:Z8 Tryz.prog 223:=⟨_,Tryz.func223,by kernel_rfl,by kernel_rfl⟩
theorem b9r(L:List Lck)(tx:Int)(h:
  (∃(x:W5 L.length (d1 L tx)),((Y3 Y9 L L)/\(Fn.func 238=Fn.func 238/\O3 (fun(x:Nat)=>none) (T.bref [T.int .i64 tx]) (T.bref [T.int .i64 tx])/\True)/\(L.length:Int)=(L.length:Int)/\(0:Int)=(x.val:Int)/\
  True)/\True)/\∀(x:W5 L.length (d1 L tx)),(decide ((x.val:Int)<(L.length:Int))=true->W7 (x.val:Int) L.length/\∃(x_1:(Lck×Int)),((((L.getD (x.val:Int).toNat default).tx=x_1.fst.tx/\(L.getD (x.val:Int).toNat
  default).ta=x_1.fst.ta/\(L.getD (x.val:Int).toNat default).row=x_1.fst.row/\(L.getD (x.val:Int).toNat default).mo=x_1.fst.mo/\True)/\(tx=x_1.snd/\True)/\True)/\True)/\((x_1.fst.tx==x_1.snd)=true->(x.val:Int)=
  T4 L.length (d1 L tx))/\((x_1.fst.tx==x_1.snd)=false->X6 .i64 ((x.val:Int)+(1:Int))/\∃(y:W5 L.length (d1 L tx)),(((Y3 Y9 L L)/\(Fn.func 238=Fn.func 238/\O3 (fun(x:Nat)=>none) (T.bref [T.int .i64
  tx]) (T.bref [T.int .i64 tx])/\True)/\(L.length:Int)=(L.length:Int)/\(x.val:Int)+(1:Int)=(y.val:Int)/\True)/\True)/\Lt (L.length-y.val) (L.length-x.val)))/\(decide ((x.val:Int)<(L.length:Int))=false->(-1:
  Int)=T4 L.length (d1 L tx))):
  Z1 Tryz.prog 223 [D4 L,d37 tx] (.int .i64 (T4 L.length (d1 L tx))):=
 T7 (code:=c2g) (gC b13 a4i gN) Tryz.func223 (by kernel_rfl) (by kernel_rfl) (b91 L tx) h (by kernel_rfl)
theorem b5i:Z2 Tryz.prog 223 c2j:=by
 rintro⟨L,tx⟩ (hL:L.length<1000000000000);refine b9r L tx ⟨⟨I5,⟨⟨rfl,Z9 _ _⟩,⟨rfl,T6 _,trivial⟩,rfl,rfl,trivial⟩,trivial⟩,fun x=>⟨fun hc=> ?_,fun hc=> ?_⟩⟩
 ·have hlt:=Y6 hc;refine⟨Y8 hlt,(L.getD x.val default,tx),⟨⟨⟨rfl,rfl,rfl,rfl,trivial⟩,⟨rfl,trivial⟩,trivial⟩,trivial⟩,fun hp=>(N9 hlt hp x.2.2).symm,fun hp=>⟨W8 hlt (by omega),x.succ hlt hp,⟨⟨⟨rfl,Z9 _ _⟩,⟨rfl,T6 _,trivial⟩,rfl,by simp only[W5.succ];omega,trivial⟩,trivial⟩,W5.ext_lt hlt⟩⟩
 ·have hge:=Y2 hc;exact(M1 fun j hj=>x.2.2 j (Nat.lt_of_lt_of_le hj hge)).symm
def c6c:Con:=.rel ⟨List Wt×Int,fun x=>[wtS x.1,d5B x.2],fun x=>.int .i64 (T4 x.1.length (d2 x.1 x.2)),fun x=>N8 x.1.length⟩
def c3W(L:List Wt)(tx:Int):Nat->Ann
 |0=>.one (W5 L.length (d2 L tx)) (fun x=>⟨[(0,wtS L),(1,d5B tx),(7,.int .i64 L.length),(8,.int .i64 x.1)],[]⟩) (fun x=>L.length-x.1) [] [] (fun _=>Z0)
 |_=>.none
noncomputable def c74:Code:=Tryz.f224.body.getD .skip
theorem b2X:Z8 Tryz.prog 224:=⟨_,Tryz.func224,by kernel_rfl,by kernel_rfl⟩
theorem c5r(L:List Wt)(tx:Int)(h:
  (∃(x:W5 L.length (d2 L tx)),((Y3 Y1 L L)/\(Fn.func 240=Fn.func 240/\O3 (fun(x:Nat)=>none) (T.bref [T.int .i64 tx]) (T.bref [T.int .i64 tx])/\True)/\(L.length:Int)=(L.length:Int)/\(0:Int)=(x.val:Int)/\
  True)/\True)/\∀(x:W5 L.length (d2 L tx)),(decide ((x.val:Int)<(L.length:Int))=true->W7 (x.val:Int) L.length/\∃(x_1:(Wt×Int)),((((L.getD (x.val:Int).toNat default).tx=x_1.fst.tx/\(L.getD (x.val:Int).toNat
  default).fo=x_1.fst.fo/\True)/\(tx=x_1.snd/\True)/\True)/\True)/\((x_1.fst.tx==x_1.snd||x_1.fst.fo==x_1.snd)=true->(x.val:Int)=T4 L.length (d2 L tx))/\((x_1.fst.tx==x_1.snd||x_1.fst.fo==x_1.snd)=
  false->X6 .i64 ((x.val:Int)+(1:Int))/\∃(y:W5 L.length (d2 L tx)),(((Y3 Y1 L L)/\(Fn.func 240=Fn.func 240/\O3 (fun(x:Nat)=>none) (T.bref [T.int .i64 tx]) (T.bref [T.int .i64 tx])/\True)/\(L.length:Int)=
  (L.length:Int)/\(x.val:Int)+(1:Int)=(y.val:Int)/\True)/\True)/\Lt (L.length-y.val) (L.length-x.val)))/\(decide ((x.val:Int)<(L.length:Int))=false->(-1:Int)=T4 L.length (d2 L tx))):
  Z1 Tryz.prog 224 [wtS L,d5B tx] (.int .i64 (T4 L.length (d2 L tx))):=
 T7 (code:=c74) (gC b1Y a35 gN) Tryz.func224 (by kernel_rfl) (by kernel_rfl) (c3W L tx) h (by kernel_rfl)
theorem c2J:Z2 Tryz.prog 224 c6c:=by
 rintro⟨L,tx⟩ (hL:L.length<1000000000000);refine c5r L tx ⟨⟨I5,⟨⟨rfl,Z9 _ _⟩,⟨rfl,T6 _,trivial⟩,rfl,rfl,trivial⟩,trivial⟩,fun x=>⟨fun hc=> ?_,fun hc=> ?_⟩⟩
 ·have hlt:=Y6 hc;refine⟨Y8 hlt,(L.getD x.val default,tx),⟨⟨⟨rfl,rfl,trivial⟩,⟨rfl,trivial⟩,trivial⟩,trivial⟩,fun hp=>(N9 hlt hp x.2.2).symm,fun hp=>⟨W8 hlt (by omega),x.succ hlt hp,⟨⟨⟨rfl,Z9 _ _⟩,⟨rfl,T6 _,trivial⟩,rfl,by simp only[W5.succ];omega,trivial⟩,trivial⟩,W5.ext_lt hlt⟩⟩
 ·have hge:=Y2 hc;exact(M1 fun j hj=>x.2.2 j (Nat.lt_of_lt_of_le hj hge)).symm
def d6P:List T:=[.int .i64 0,.int .i64 0,.int .i64 0,.int .i64 0]
def zWt:List T:=[.int .i64 0,.int .i64 0]
def d6X(L:List Lck)(tx:Int):Option Ob:=some (.arr true 0 4 L.length (O1 (Y9 (F6 (hF tx) L L.length)) (X7 (hF tx) L L.length).length (L.length- (X7 (hF tx) L L.length).length) d6P))
def d7h(L:List Wt)(tx:Int):Option Ob:=some (.arr true 0 2 L.length (O1 (Y1 (F6 (wF tx) L L.length)) (X7 (wF tx) L L.length).length (L.length- (X7 (wF tx) L L.length).length) zWt))
def c8X:Con:=.reff ⟨List Lck×Int,fun x=>[.osl 0 0 x.1.length,.fn (.func 238) [.ref 1 0 0]],fun x=>[a0E x.1,a54 x.2],fun x=>.osl 0 0 (X7 (hF x.2) x.1 x.1.length).length,fun x=>[a0E (X7 (hF x.2) x.1 x.1.length),a54 x.2],fun x=>x.1.length<=1048576⟩
def c3I(L:List Lck)(tx:Int):Nat->Ann
 |0=>.one {j:Nat//j<=L.length} (fun x=>⟨[(0,.osl 0 0 L.length),(1,.fn (.func 238) [.ref 1 0 0]),(5,.int .i64 (X7 (hF tx) L x.1).length),(6,.int .i64 x.1)],[some (.arr true 0 4 L.length (Y9 (F6 (hF tx) L x.1))),a54 tx]⟩) (fun x=>L.length-x.1) [.arr 0,.box 1] [.arr 0,.box 1] (fun _=>Z0)
 |_=>.none
noncomputable def c4N:Code:=Tryz.f237.body.getD .skip
theorem b2z:Z8 Tryz.prog 237:=⟨_,Tryz.func237,by kernel_rfl,by kernel_rfl⟩
theorem c4q(L:List Lck)(tx:Int)(h:
  ∃(x:(List Lck×Int)),(Le (0+L.length) L.length/\((Y3 Y9 L x.fst)/\(Fn.func 238=Fn.func 238/\(tx=x.snd/\True)/\True)/\True)/\N8 x.fst.length)/\((T4 x.fst.length (d1 x.fst x.snd)==(-1:Int))=true->((0=0/\L.length=(X7 (hF tx) L L.length).length)/\True)/\(L.length=L.length/\Z7 L.length (Y9 L) fun(j:Nat)=>match(X7 (hF tx) L L.length).length.ble j&&j.blt ((X7 (hF tx) L L.length).length+(L.length- (X7 (hF tx) L L.length).length)) with|true=>[T.int .i64 (0:Int),T.int .i64 (0:Int),T.int .i64 (0:Int),T.int .i64 (0:Int)]|false=>[T.int .i64 ((F6 (hF tx) L L.length).getD j default).tx,T.int .i64 ((F6 (hF tx) L L.length).getD j default).ta,T.int .i64 ((F6 (hF tx) L L.length).getD j default).row,T.int .i64 ((F6 (hF tx) L L.length).getD j default).mo])/\(1=1/\1=1/\tx=tx/\True)/\True)/\((T4 x.fst.length (d1 x.fst x.snd)==(-1:Int))=false->X6 .i64 (T4 x.fst.length (d1 x.fst x.snd)+(1:Int))/\(∃(x_1:{j:Nat//j<=L.length}),((0=0/\L.length=L.length)/\(Fn.func 238=Fn.func 238/\(0=0/\0=0)/\True)/\T4 x.fst.length (d1 x.fst x.snd)=(↑(X7 (hF tx) L x_1.val).length:Int)/\T4 x.fst.length (d1 x.fst x.snd)+(1:Int)=(x_1.val:Int)/\True)/\(L.length=L.length/\Z7 L.length (Y9 L) (Y9 (F6 (hF tx) L x_1.val)))/\(1=1/\1=1/\tx=tx/\True)/\True)/\∀(x:{j:Nat//j<=L.length}),(decide ((x.val:Int)<(L.length:Int))=true->W7 (x.val:Int) L.length/\Lt (0+(x.val:Int).toNat) L.length/\∃(x_1:(Lck×Int)),(((((F6 (hF tx) L x.val).getD (0+(x.val:Int).toNat) default).tx=x_1.fst.tx/\((F6 (hF tx) L x.val).getD (0+(x.val:Int).toNat) default).ta=x_1.fst.ta/\((F6 (hF tx) L x.val).getD (0+(x.val:Int).toNat) default).row=x_1.fst.row/\((F6 (hF tx) L x.val).getD (0+(x.val:Int).toNat) default).mo=x_1.fst.mo/\True)/\(tx=x_1.snd/\True)/\True)/\True)/\((!x_1.fst.tx==x_1.snd)=true->W7 (↑(X7 (hF tx) L x.val).length:Int) L.length/\Lt (0+(↑(X7 (hF tx) L x.val).length:Int).toNat) L.length/\X6 .i64 ((↑(X7 (hF tx) L x.val).length:Int)+(1:Int))/\X6 .i64 ((x.val:Int)+(1:Int))/\∃(y:{j:Nat//j<=L.length}),(((0=0/\L.length=L.length)/\(Fn.func 238=Fn.func 238/\(0=0/\0=0)/\True)/\(↑(X7 (hF tx) L x.val).length:Int)+(1:Int)=(↑(X7 (hF tx) L y.val).length:Int)/\(x.val:Int)+(1:Int)=(y.val:Int)/\True)/\(L.length=L.length/\Z7 L.length (setRow (Y9 (F6 (hF tx) L x.val)) (0+(↑(X7 (hF tx) L x.val).length:Int).toNat) 0 [T.int .i64 ((F6 (hF tx) L x.val).getD (0+(x.val:Int).toNat) default).tx,T.int .i64 ((F6 (hF tx) L x.val).getD (0+(x.val:Int).toNat) default).ta,T.int .i64 ((F6 (hF tx) L x.val).getD (0+(x.val:Int).toNat) default).row,T.int .i64 ((F6 (hF tx) L x.val).getD (0+(x.val:Int).toNat) default).mo]) (Y9 (F6 (hF tx) L y.val)))/\(1=1/\1=1/\tx=tx/\True)/\True)/\Lt (L.length-y.val) (L.length-x.val))/\((!x_1.fst.tx==x_1.snd)=false->X6 .i64 ((x.val:Int)+(1:Int))/\∃(y:{j:Nat//j<=L.length}),(((0=0/\L.length=L.length)/\(Fn.func 238=Fn.func 238/\(0=0/\0=0)/\True)/\(↑(X7 (hF tx) L x.val).length:Int)=(↑(X7 (hF tx) L y.val).length:Int)/\(x.val:Int)+(1:Int)=(y.val:Int)/\True)/\(L.length=L.length/\Z7 L.length (Y9 (F6 (hF tx) L x.val)) (Y9 (F6 (hF tx) L y.val)))/\(1=1/\1=1/\tx=tx/\True)/\True)/\Lt (L.length-y.val) (L.length-x.val)))/\(decide ((x.val:Int)<(L.length:Int))=false->InC (↑(X7 (hF tx) L x.val).length:Int) L.length/\Le (0+(↑(X7 (hF tx) L x.val).length:Int).toNat+(L.length- (↑(X7 (hF tx) L x.val).length:Int).toNat)) L.length/\InC (↑(X7 (hF tx) L x.val).length:Int) L.length/\((0=0/\(↑(X7 (hF tx) L x.val).length:Int).toNat=(X7 (hF tx) L L.length).length)/\True)/\(L.length=L.length/\Z7 L.length (fun(j:Nat)=>match(0+(↑(X7 (hF tx) L x.val).length:Int).toNat).ble j&&j.blt (0+(↑(X7 (hF tx) L x.val).length:Int).toNat+(L.length- (↑(X7 (hF tx) L x.val).length:Int).toNat)) with|true=>[T.int .i64 (0:Int),T.int .i64 (0:Int),T.int .i64 (0:Int),T.int .i64 (0:Int)]|false=>[T.int .i64 ((F6 (hF tx) L x.val).getD j default).tx,T.int .i64 ((F6 (hF tx) L x.val).getD j default).ta,T.int .i64 ((F6 (hF tx) L x.val).getD j default).row,T.int .i64 ((F6 (hF tx) L x.val).getD j default).mo]) fun(j:Nat)=>match(X7 (hF tx) L L.length).length.ble j&&j.blt ((X7 (hF tx) L L.length).length+(L.length- (X7 (hF tx) L L.length).length)) with|true=>[T.int .i64 (0:Int),T.int .i64 (0:Int),T.int .i64 (0:Int),T.int .i64 (0:Int)]|false=>[T.int .i64 ((F6 (hF tx) L L.length).getD j default).tx,T.int .i64 ((F6 (hF tx) L L.length).getD j default).ta,T.int .i64 ((F6 (hF tx) L L.length).getD j default).row,T.int .i64 ((F6 (hF tx) L L.length).getD j default).mo])/\(1=1/\1=1/\tx=tx/\True)/\True))):
  V7 Tryz.prog 237 [.osl 0 0 L.length,.fn (.func 238) [.ref 1 0 0]] [a0E L,a54 tx] (.osl 0 0 (X7 (hF tx) L L.length).length) [d6X L tx,a54 tx]:=
 C4 (code:=c4N) (gC b5i a8y (gC b13 a4i gN)) Tryz.func237 (by kernel_rfl) (by kernel_rfl) (c3I L tx) [[.arr 0,.box 1]] h (by kernel_rfl)
def d19:Con:=.reff ⟨List Wt×Int,fun x=>[.osl 0 0 x.1.length,.fn (.func 240) [.ref 1 0 0]],fun x=>[wtA x.1,a54 x.2],fun x=>.osl 0 0 (X7 (wF x.2) x.1 x.1.length).length,fun x=>[wtA (X7 (wF x.2) x.1 x.1.length),a54 x.2],fun x=>x.1.length<=1048576⟩
def d03(L:List Wt)(tx:Int):Nat->Ann
 |0=>.one {j:Nat//j<=L.length} (fun x=>⟨[(0,.osl 0 0 L.length),(1,.fn (.func 240) [.ref 1 0 0]),(5,.int .i64 (X7 (wF tx) L x.1).length),(6,.int .i64 x.1)],[some (.arr true 0 2 L.length (Y1 (F6 (wF tx) L x.1))),a54 tx]⟩) (fun x=>L.length-x.1) [.arr 0,.box 1] [.arr 0,.box 1] (fun _=>Z0)
 |_=>.none
noncomputable def d2O:Code:=Tryz.f239.body.getD .skip
theorem b5d:Z8 Tryz.prog 239:=⟨_,Tryz.func239,by kernel_rfl,by kernel_rfl⟩
theorem c9I(L:List Wt)(tx:Int)(h:
  ∃(x:(List Wt×Int)),(Le (0+L.length) L.length/\((Y3 Y1 L x.fst)/\(Fn.func 240=Fn.func 240/\(tx=x.snd/\True)/\True)/\True)/\N8 x.fst.length)/\((T4 x.fst.length (d2 x.fst x.snd)==(-1:Int))=true->((0=0/\L.length=(X7 (wF tx) L L.length).length)/\True)/\(L.length=L.length/\Z7 L.length (Y1 L) fun(j:Nat)=>match(X7 (wF tx) L L.length).length.ble j&&j.blt ((X7 (wF tx) L L.length).length+(L.length- (X7 (wF tx) L L.length).length)) with|true=>[T.int .i64 (0:Int),T.int .i64 (0:Int)]|false=>[T.int .i64 ((F6 (wF tx) L L.length).getD j default).tx,T.int .i64 ((F6 (wF tx) L L.length).getD j default).fo])/\(1=1/\1=1/\tx=tx/\True)/\True)/\((T4 x.fst.length (d2 x.fst x.snd)==(-1:Int))=false->X6 .i64 (T4 x.fst.length (d2 x.fst x.snd)+(1:Int))/\(∃(x_1:{j:Nat//j<=L.length}),((0=0/\L.length=L.length)/\(Fn.func 240=Fn.func 240/\(0=0/\0=0)/\True)/\T4 x.fst.length (d2 x.fst x.snd)=(↑(X7 (wF tx) L x_1.val).length:Int)/\T4 x.fst.length (d2 x.fst x.snd)+(1:Int)=(x_1.val:Int)/\True)/\(L.length=L.length/\Z7 L.length (Y1 L) (Y1 (F6 (wF tx) L x_1.val)))/\(1=1/\1=1/\tx=tx/\True)/\True)/\∀(x:{j:Nat//j<=L.length}),(decide ((x.val:Int)<(L.length:Int))=true->W7 (x.val:Int) L.length/\Lt (0+(x.val:Int).toNat) L.length/\∃(x_1:(Wt×Int)),(((((F6 (wF tx) L x.val).getD (0+(x.val:Int).toNat) default).tx=x_1.fst.tx/\((F6 (wF tx) L x.val).getD (0+(x.val:Int).toNat) default).fo=x_1.fst.fo/\True)/\(tx=x_1.snd/\True)/\True)/\True)/\((!(x_1.fst.tx==x_1.snd||x_1.fst.fo==x_1.snd))=true->W7 (↑(X7 (wF tx) L x.val).length:Int) L.length/\Lt (0+(↑(X7 (wF tx) L x.val).length:Int).toNat) L.length/\X6 .i64 ((↑(X7 (wF tx) L x.val).length:Int)+(1:Int))/\X6 .i64 ((x.val:Int)+(1:Int))/\∃(y:{j:Nat//j<=L.length}),(((0=0/\L.length=L.length)/\(Fn.func 240=Fn.func 240/\(0=0/\0=0)/\True)/\(↑(X7 (wF tx) L x.val).length:Int)+(1:Int)=(↑(X7 (wF tx) L y.val).length:Int)/\(x.val:Int)+(1:Int)=(y.val:Int)/\True)/\(L.length=L.length/\Z7 L.length (setRow (Y1 (F6 (wF tx) L x.val)) (0+(↑(X7 (wF tx) L x.val).length:Int).toNat) 0 [T.int .i64 ((F6 (wF tx) L x.val).getD (0+(x.val:Int).toNat) default).tx,T.int .i64 ((F6 (wF tx) L x.val).getD (0+(x.val:Int).toNat) default).fo]) (Y1 (F6 (wF tx) L y.val)))/\(1=1/\1=1/\tx=tx/\True)/\True)/\Lt (L.length-y.val) (L.length-x.val))/\((!(x_1.fst.tx==x_1.snd||x_1.fst.fo==x_1.snd))=false->X6 .i64 ((x.val:Int)+(1:Int))/\∃(y:{j:Nat//j<=L.length}),(((0=0/\L.length=L.length)/\(Fn.func 240=Fn.func 240/\(0=0/\0=0)/\True)/\(↑(X7 (wF tx) L x.val).length:Int)=(↑(X7 (wF tx) L y.val).length:Int)/\(x.val:Int)+(1:Int)=(y.val:Int)/\True)/\(L.length=L.length/\Z7 L.length (Y1 (F6 (wF tx) L x.val)) (Y1 (F6 (wF tx) L y.val)))/\(1=1/\1=1/\tx=tx/\True)/\True)/\Lt (L.length-y.val) (L.length-x.val)))/\(decide ((x.val:Int)<(L.length:Int))=false->InC (↑(X7 (wF tx) L x.val).length:Int) L.length/\Le (0+(↑(X7 (wF tx) L x.val).length:Int).toNat+(L.length- (↑(X7 (wF tx) L x.val).length:Int).toNat)) L.length/\InC (↑(X7 (wF tx) L x.val).length:Int) L.length/\((0=0/\(↑(X7 (wF tx) L x.val).length:Int).toNat=(X7 (wF tx) L L.length).length)/\True)/\(L.length=L.length/\Z7 L.length (fun(j:Nat)=>match(0+(↑(X7 (wF tx) L x.val).length:Int).toNat).ble j&&j.blt (0+(↑(X7 (wF tx) L x.val).length:Int).toNat+(L.length- (↑(X7 (wF tx) L x.val).length:Int).toNat)) with|true=>[T.int .i64 (0:Int),T.int .i64 (0:Int)]|false=>[T.int .i64 ((F6 (wF tx) L x.val).getD j default).tx,T.int .i64 ((F6 (wF tx) L x.val).getD j default).fo]) fun(j:Nat)=>match(X7 (wF tx) L L.length).length.ble j&&j.blt ((X7 (wF tx) L L.length).length+(L.length- (X7 (wF tx) L L.length).length)) with|true=>[T.int .i64 (0:Int),T.int .i64 (0:Int)]|false=>[T.int .i64 ((F6 (wF tx) L L.length).getD j default).tx,T.int .i64 ((F6 (wF tx) L L.length).getD j default).fo])/\(1=1/\1=1/\tx=tx/\True)/\True))):
  V7 Tryz.prog 239 [.osl 0 0 L.length,.fn (.func 240) [.ref 1 0 0]] [wtA L,a54 tx] (.osl 0 0 (X7 (wF tx) L L.length).length) [d7h L tx,a54 tx]:=
 C4 (code:=d2O) (gC c2J b2X (gC b1Y a35 gN)) Tryz.func239 (by kernel_rfl) (by kernel_rfl) (d03 L tx) [[.arr 0,.box 1]] h (by kernel_rfl)
theorem b7O{n:Nat}{p:Nat->Bool}(h:T4 n p= -1):∀q,q<n->p q=false:=by
 intro q;induction q using Nat.strongRecOn with
 |ind q ih=>
  intro hq;cases hp:p q with
  |false=>rfl
  |true=>
   have:=N9 hq hp fun j hj=>ih j hj (by omega)
   rw[this] at h;omega
theorem b1e{n:Nat}{p:Nat->Bool}(h:(T4 n p==(-1:Int))=false):∃i,i<n/\p i=true/\(∀j,j<i->p j=false)/\T4 n p=(i:Int):=by
 refine a3I fun hn=> ?_
 cases ha:anyI n p with
 |false=>
  rw[M1 (L5.1 ha)] at h;cases h
 |true=>
  obtain⟨i,hi,hp⟩:=Q1.1 ha;have hf:∃i,i<n/\p i=true/\∀j,j<i->p j=false:=by
   induction i using Nat.strongRecOn with
   |ind i ih=>
    by_cases hj:∃j,j<i/\p j=true
    ·obtain⟨j,hj,hpj⟩:=hj;exact ih j hj (by omega) hpj
    ·refine⟨i,hi,hp,fun j hj'=> ?_⟩
     cases hpj:p j with
     |false=>rfl
     |true=>exact absurd ⟨j,hj',hpj⟩ hj
  obtain⟨i,hi,hp,hl⟩:=hf;rw[N9 hi hp hl] at hn;omega
theorem b7B{α:Type}[Inhabited α]{ts:α->List T}{m:Nat}(hm:∀a,(ts a).length=m){f:α->Bool}{L:List α}{j:Nat}(h:f (L.getD j default)=true):Z7 L.length (setRow (fun i=>ts ((F6 f L j).getD i default)) (X7 f L j).length 0 (ts (L.getD j default))) fun i=>ts ((F6 f L (j+1)).getD i default):=fun i _=>by
 rw[z9 (by rw[hm,hm])]
 dsimp only;rw[d7i h];cases hb:Nat.beq i (X7 f L j).length with
 |true=>
  rw[if_pos (Nat.eq_of_beq_eq_true hb)]
 |false=>
  rw[if_neg fun e=>by rw[e,Nat.beq_refl] at hb;cases hb]
theorem b1n{row row':Nat->List T}{n m:Nat}{z:List T}(he:∀i,i<n->row i=row' i)(hm:n<=m):Z7 n row (O1 row' m (n-m) z):=fun i hi=>by
 unfold O1;cases hb:Nat.ble m i with
 |true=>exact absurd (Nat.le_of_ble_eq_true hb) (by omega)
 |false=>exact he i hi
theorem b8p{α:Type}[Inhabited α]{ts:α->List T}{sz:Nat}{f:α->Bool}{L:List α}{z:List T}{b:Option Ob}(h:(X7 f L L.length).length<=L.length):d3Z [some (.arr true 0 sz L.length (O1 (fun i=>ts ((F6 f L L.length).getD i default)) (X7 f L L.length).length (L.length- (X7 f L L.length).length) z)),b] [some (.arr true 0 sz (X7 f L L.length).length (fun i=>ts ((X7 f L L.length).getD i default))),b]:=d2V fun o' ho=>by
 simp only[Option.some.injEq] at ho;subst ho;refine⟨_,rfl,.inr ⟨_,_,_,_,_,_,_,rfl,rfl,h,fun i hi=> ?_⟩⟩
 unfold O1;cases hb:Nat.ble (X7 f L L.length).length i with
 |true=>exact absurd (Nat.le_of_ble_eq_true hb) (by omega)
 |false=>exact(congrArg ts (d6A hi)).symm
theorem c0f:Z2 Tryz.prog 237 c8X:=by
 rintro⟨L,tx⟩ (hL:L.length<=1048576);have hfl:=a0j (hF tx) L L.length;refine b7J (c4q L tx ⟨(L,tx),⟨T3 _,⟨⟨rfl,Z9 _ _⟩,⟨rfl,⟨rfl,trivial⟩,trivial⟩,trivial⟩,by unfold N8;dsimp only;omega⟩,fun hn=> ?_,fun hn=> ?_⟩) (b8p (ts:=Lck.ts) hfl)
 ·obtain⟨e1,e2⟩:=a9b (f:=hF tx) (Nat.le_refl L.length) fun q hq=>by
   have:=b7O (beq_iff_eq.1 hn) q hq;unfold d1 at this;unfold hF bne;rw[this];rfl
  refine⟨⟨⟨rfl,e1.symm⟩,trivial⟩,⟨rfl,?_⟩,⟨rfl,rfl,rfl,trivial⟩,trivial⟩
  exact b1n (row:=Y9 L) (row':=Y9 (F6 (hF tx) L L.length)) (z:=d6P) (fun i _=>by rw[e2]) (Nat.le_of_eq e1.symm)
 ·obtain⟨i,hi,hp,hl,he⟩:=b1e hn;have hi:i<L.length:=hi;obtain⟨e1,e2⟩:=a9b (f:=hF tx) (L:=L) (j:=i) (by omega) fun q hq=>by
   have:=hl q hq;unfold d1 at this;unfold hF bne;rw[this];rfl
  have hfi:hF tx (L.getD i default)=false:=by
   unfold d1 at hp;unfold hF bne;rw[hp];rfl
  have e3:(X7 (hF tx) L (i+1)).length=i:=by rw[a4c hfi];exact e1
  have e4:F6 (hF tx) L (i+1)=L:=by rw[d1h hfi];exact e2
  have he:T4 L.length (d1 L tx)=(i:Int):=he;refine⟨?_,⟨⟨i+1,hi⟩,⟨⟨rfl,rfl⟩,⟨rfl,⟨rfl,rfl⟩,trivial⟩,?_,?_,trivial⟩,⟨rfl,?_⟩,⟨rfl,rfl,rfl,trivial⟩,trivial⟩,fun x=>⟨fun hc=> ?_,fun hc=> ?_⟩⟩
  ·dsimp only;rw[he];exact Z5 (by omega)
  ·dsimp only;rw[he,e3]
  ·dsimp only;rw[he];omega
  ·dsimp only;rw[e4];exact Z9 _ _
  ·have hlt:=Y6 hc;have hle:=a0j (hF tx) L x.val;have e0:(F6 (hF tx) L x.val).getD x.val default=L.getD x.val default:=d3D hle;rw[Int.toNat_natCast,Int.toNat_natCast,Nat.zero_add,Nat.zero_add,e0];refine⟨Y8 hlt,hlt,(L.getD x.val default,tx),⟨⟨⟨rfl,rfl,rfl,rfl,trivial⟩,⟨rfl,trivial⟩,trivial⟩,trivial⟩,fun hd=> ?_,fun hd=> ?_⟩
   ·have hd:hF tx (L.getD x.val default)=true:=by
     exact hd
    exact⟨Y8 (by omega),by unfold Lt;omega,Z5 (by omega),Z5 (by omega),⟨x.val+1,hlt⟩,⟨⟨⟨rfl,rfl⟩,⟨rfl,⟨rfl,rfl⟩,trivial⟩,congrArg Int.ofNat (a3J hd),by dsimp only;omega,trivial⟩,⟨rfl,b7B (m:=4) (ts:=Lck.ts) (fun _=>rfl) hd⟩,⟨rfl,rfl,rfl,trivial⟩,trivial⟩,W5.ext_lt hlt⟩
   ·have hd:hF tx (L.getD x.val default)=false:=by
     exact hd
    refine⟨Z5 (by omega),⟨x.val+1,hlt⟩,⟨⟨⟨rfl,rfl⟩,⟨rfl,⟨rfl,rfl⟩,trivial⟩,?_,by dsimp only;omega,trivial⟩,⟨rfl,?_⟩,⟨rfl,rfl,rfl,trivial⟩,trivial⟩,W5.ext_lt hlt⟩
    ·dsimp only;rw[a4c hd]
    ·dsimp only;rw[d1h hd];exact Z9 _ _
  ·have hx:x.val=L.length:=by have:=x.2;have:=Y2 hc;omega
   rw[hx,Int.toNat_natCast,Nat.zero_add];exact⟨⟨by omega,by omega⟩,by unfold Le;omega,⟨by omega,by omega⟩,⟨⟨rfl,rfl⟩,trivial⟩,⟨rfl,Z9 _ _⟩,⟨rfl,rfl,rfl,trivial⟩,trivial⟩
theorem c6R:Z2 Tryz.prog 239 d19:=by
 rintro⟨L,tx⟩ (hL:L.length<=1048576);have hfl:=a0j (wF tx) L L.length;refine b7J (c9I L tx ⟨(L,tx),⟨T3 _,⟨⟨rfl,Z9 _ _⟩,⟨rfl,⟨rfl,trivial⟩,trivial⟩,trivial⟩,by unfold N8;dsimp only;omega⟩,fun hn=> ?_,fun hn=> ?_⟩) (b8p (ts:=Wt.ts) hfl)
 ·obtain⟨e1,e2⟩:=a9b (f:=wF tx) (Nat.le_refl L.length) fun q hq=>by
   have:=b7O (beq_iff_eq.1 hn) q hq;unfold d2 at this;unfold wF bne;rw[←Bool.not_or,this];rfl
  refine⟨⟨⟨rfl,e1.symm⟩,trivial⟩,⟨rfl,?_⟩,⟨rfl,rfl,rfl,trivial⟩,trivial⟩
  exact b1n (row:=Y1 L) (row':=Y1 (F6 (wF tx) L L.length)) (z:=zWt) (fun i _=>by rw[e2]) (Nat.le_of_eq e1.symm)
 ·obtain⟨i,hi,hp,hl,he⟩:=b1e hn;have hi:i<L.length:=hi;obtain⟨e1,e2⟩:=a9b (f:=wF tx) (L:=L) (j:=i) (by omega) fun q hq=>by
   have:=hl q hq;unfold d2 at this;unfold wF bne;rw[←Bool.not_or,this];rfl
  have hfi:wF tx (L.getD i default)=false:=by
   unfold d2 at hp;unfold wF bne;rw[←Bool.not_or,hp];rfl
  have e3:(X7 (wF tx) L (i+1)).length=i:=by rw[a4c hfi];exact e1
  have e4:F6 (wF tx) L (i+1)=L:=by rw[d1h hfi];exact e2
  have he:T4 L.length (d2 L tx)=(i:Int):=he;refine⟨?_,⟨⟨i+1,hi⟩,⟨⟨rfl,rfl⟩,⟨rfl,⟨rfl,rfl⟩,trivial⟩,?_,?_,trivial⟩,⟨rfl,?_⟩,⟨rfl,rfl,rfl,trivial⟩,trivial⟩,fun x=>⟨fun hc=> ?_,fun hc=> ?_⟩⟩
  ·dsimp only;rw[he];exact Z5 (by omega)
  ·dsimp only;rw[he,e3]
  ·dsimp only;rw[he];omega
  ·dsimp only;rw[e4];exact Z9 _ _
  ·have hlt:=Y6 hc;have hle:=a0j (wF tx) L x.val;have e0:(F6 (wF tx) L x.val).getD x.val default=L.getD x.val default:=d3D hle;rw[Int.toNat_natCast,Int.toNat_natCast,Nat.zero_add,Nat.zero_add,e0];refine⟨Y8 hlt,hlt,(L.getD x.val default,tx),⟨⟨⟨rfl,rfl,trivial⟩,⟨rfl,trivial⟩,trivial⟩,trivial⟩,fun hd=> ?_,fun hd=> ?_⟩
   ·have hd:wF tx (L.getD x.val default)=true:=by
     unfold wF bne;rw[←Bool.not_or];exact hd
    exact⟨Y8 (by omega),by unfold Lt;omega,Z5 (by omega),Z5 (by omega),⟨x.val+1,hlt⟩,⟨⟨⟨rfl,rfl⟩,⟨rfl,⟨rfl,rfl⟩,trivial⟩,congrArg Int.ofNat (a3J hd),by dsimp only;omega,trivial⟩,⟨rfl,b7B (m:=2) (ts:=Wt.ts) (fun _=>rfl) hd⟩,⟨rfl,rfl,rfl,trivial⟩,trivial⟩,W5.ext_lt hlt⟩
   ·have hd:wF tx (L.getD x.val default)=false:=by
     unfold wF bne;rw[←Bool.not_or];exact hd
    refine⟨Z5 (by omega),⟨x.val+1,hlt⟩,⟨⟨⟨rfl,rfl⟩,⟨rfl,⟨rfl,rfl⟩,trivial⟩,?_,by dsimp only;omega,trivial⟩,⟨rfl,?_⟩,⟨rfl,rfl,rfl,trivial⟩,trivial⟩,W5.ext_lt hlt⟩
    ·dsimp only;rw[a4c hd]
    ·dsimp only;rw[d1h hd];exact Z9 _ _
  ·have hx:x.val=L.length:=by have:=x.2;have:=Y2 hc;omega
   rw[hx,Int.toNat_natCast,Nat.zero_add];exact⟨⟨by omega,by omega⟩,by unfold Le;omega,⟨by omega,by omega⟩,⟨⟨rfl,rfl⟩,trivial⟩,⟨rfl,Z9 _ _⟩,⟨rfl,rfl,rfl,trivial⟩,trivial⟩
end Go.Proofs.YtokaojbaacnngaaGreat

namespace Go.Proofs.YtokaojbaacnngaaGreat
set_option maxRecDepth 100000
open Go.SS Go.RowKit

def frE(e:Eng)(tx:Int):Eng:={e with lk:=frK e.lk tx}
def d5q:Con:=.reff ⟨Eng×Int×Nat,fun x=>[.ref 0 0 11,.int .i64 x.2.1],fun x=>x.1.bx x.2.2,fun _=>.tup [],fun x=>(frE x.1 x.2.1).nx x.2.2,fun x=>x.1.lk.held.length<=1048576/\x.1.lk.waits.length<=1048576⟩
noncomputable def d59:Code:=Tryz.f189.body.getD .skip
theorem c13:Z8 Tryz.prog 189:=⟨_,Tryz.func189,by kernel_rfl,by kernel_rfl⟩
theorem d48(e:Eng)(tx:Int)(v:Nat)(h:
  ∃(x:(List Lck×Int)),(((0=0/\e.lk.held.length=x.fst.length)/\(Fn.func 238=Fn.func 238/\(0=0/\0=0)/\True)/\True)/\((Y3 Y9 e.lk.held x.fst)/\(1=1/\Z7 1 (fun(x:Nat)=>[T.int .i64 tx]) fun(x_1:
  Nat)=>[T.int .i64 x.snd])/\True)/\x.fst.length<=1048576)/\∃(x_1:(List Wt×Int)),(((0=0/\e.lk.waits.length=x_1.fst.length)/\(Fn.func 240=Fn.func 240/\(0=0/\0=0)/\True)/\True)/\((Y3 Y1 e.lk.waits
  x_1.fst)/\(1=1/\Z7 1 (fun(x_2:Nat)=>[T.int .i64 x.snd]) fun(x:Nat)=>[T.int .i64 x_1.snd])/\True)/\x_1.fst.length<=1048576)/\(True/\True)/\(1=1/\1=1/\(0=0/\e.s.d.sec.length=e.s.d.sec.length)/\(0
  =0/\e.s.d.cache.length=e.s.d.cache.length)/\e.s.d.armed=e.s.d.armed/\(0=0/\e.s.d.keep.length=e.s.d.keep.length)/\e.s.ep=e.s.ep/\(0=0/\e.s.log.length=e.s.log.length)/\e.s.sure=e.s.sure/\(0=0/\
  e.s.fr.length=e.s.fr.length)/\e.s.hand=e.s.hand/\e.up=e.up/\(0=0/\e.txs.length=e.txs.length)/\(0=0/\(X7 (hF x.snd) x.fst x.fst.length).length=(X7 (hF tx) e.lk.held e.lk.held.length).length)/\(0=0/\(X7
  (wF x_1.snd) x_1.fst x_1.fst.length).length=(X7 (wF tx) e.lk.waits e.lk.waits.length).length)/\e.next=e.next/\True)/\True/\True/\True/\True/\True/\True/\True/\True/\(Y3 Z6 e.s.d.sec e.s.d.sec)/\(Y3 Z3
  e.s.d.cache e.s.d.cache)/\(Y3 Y7 e.s.d.keep e.s.d.keep)/\(Y3 Y4 e.s.log e.s.log)/\(v=v/\e.s.fr.length=e.s.fr.length/\T9 e.s.fr.length (Y0 e.s.fr) (Y0 e.s.fr))/\(Y3 X9 e.txs e.txs)/\(Y3 Y9
  (X7 (hF x.snd) x.fst x.fst.length) (X7 (hF tx) e.lk.held e.lk.held.length))/\(Y3 Y1 (X7 (wF x_1.snd) x_1.fst x_1.fst.length) (X7 (wF tx) e.lk.waits e.lk.waits.length))/\True):
  V7 Tryz.prog 189 [.ref 0 0 11,.int .i64 tx] (e.bx v) (.tup []) ((frE e tx).nx v):=
 C4 (code:=d59) (gC c0f b2z (gC c6R b5d gN)) Tryz.func189 (by kernel_rfl) (by kernel_rfl) Z0 [[.box 0,.arr 1,.arr 2,.arr 3,.arr 4,.arr 5,.arr 6,.arr 7,.arr 8,.cel 0 0,.cel 0 1,.cel 0 3,.cel 0 5,.cel 0 7,.cel 0 10,.cel 0 11,.cel 0 12]] h (by kernel_rfl)
theorem c9j:Z2 Tryz.prog 189 d5q:=by
 rintro⟨e,tx,v⟩ ⟨h1,h2⟩;dsimp only at h1 h2;exact d48 e tx v ⟨(e.lk.held,tx),⟨⟨⟨rfl,rfl⟩,⟨rfl,⟨rfl,rfl⟩,trivial⟩,trivial⟩,⟨⟨rfl,Z9 _ _⟩,⟨rfl,Z9 _ _⟩,trivial⟩,h1⟩,(e.lk.waits,tx),⟨⟨⟨rfl,rfl⟩,⟨rfl,⟨rfl,rfl⟩,trivial⟩,trivial⟩,⟨⟨rfl,Z9 _ _⟩,⟨rfl,Z9 _ _⟩,trivial⟩,h2⟩,⟨trivial,trivial⟩,⟨rfl,rfl,⟨rfl,rfl⟩,⟨rfl,rfl⟩,rfl,⟨rfl,rfl⟩,rfl,⟨rfl,rfl⟩,rfl,⟨rfl,rfl⟩,rfl,rfl,⟨rfl,rfl⟩,⟨rfl,rfl⟩,⟨rfl,rfl⟩,rfl,trivial⟩,trivial,trivial,trivial,trivial,trivial,trivial,trivial,trivial,⟨rfl,Z9 _ _⟩,⟨rfl,Z9 _ _⟩,⟨rfl,Z9 _ _⟩,⟨rfl,Z9 _ _⟩,⟨rfl,rfl,U4 _⟩,⟨rfl,Z9 _ _⟩,⟨rfl,Z9 _ _⟩,⟨rfl,Z9 _ _⟩,trivial⟩
def OvB(e:Eng)(tx:Int)(k:Nat):Prop:=V5 e.txs tx=k/\k<e.txs.length/\(e.txs.getD k default).id=tx/\e.txs.length<=1000/\e.lk.held.length<=1048576/\e.lk.waits.length<=1048576
def d34:Con:=.reff ⟨Eng×Int×Nat×Nat,fun x=>[.ref 0 0 0,.int .i64 x.2.1],fun x=>x.1.bx x.2.2.2,fun _=>.tup [],fun x=>(b0a x.1 x.2.2.1).nx x.2.2.2,fun x=>OvB x.1 x.2.1 x.2.2.1⟩
noncomputable def d5Q:Code:=Tryz.f119.body.getD .skip
theorem b8X:Z8 Tryz.prog 119:=⟨_,Tryz.func119,by kernel_rfl,by kernel_rfl⟩
theorem d5V(e:Eng)(tx:Int)(k v:Nat)(h:
  ∃(x:(Eng×Int)),((LeG e)/\((a3F e x.fst)/\tx=x.snd/\True)/\N8 x.fst.txs.length)/\X6 .i64 (V5 x.fst.txs x.snd+(1:Int))/\∃(x_1:(List Txn×Nat)),(((0=0/\e.txs.length=x_1.fst.length)/\V5 x.fst.txs
  x.snd=(x_1.snd:Int)/\V5 x.fst.txs x.snd+(1:Int)=(↑(x_1.snd+1):Int)/\True)/\((Y3 X9 e.txs x_1.fst)/\True)/\x_1.snd<x_1.fst.length)/\∃(x:(Eng×Int×Nat)),(((0=0/\11=11)/\tx=x.snd.fst/\True)
  /\((1=1/\1=1/\(0=0/\e.s.d.sec.length=x.fst.s.d.sec.length)/\(0=0/\e.s.d.cache.length=x.fst.s.d.cache.length)/\e.s.d.armed=x.fst.s.d.armed/\(0=0/\e.s.d.keep.length=x.fst.s.d.keep.length)/\e.s.ep=
  x.fst.s.ep/\(0=0/\e.s.log.length=x.fst.s.log.length)/\e.s.sure=x.fst.s.sure/\(0=0/\e.s.fr.length=x.fst.s.fr.length)/\e.s.hand=x.fst.s.hand/\e.up=x.fst.up/\(0=0/\(v5 x_1.fst x_1.snd).length=
  x.fst.txs.length)/\(0=0/\e.lk.held.length=x.fst.lk.held.length)/\(0=0/\e.lk.waits.length=x.fst.lk.waits.length)/\e.next=x.fst.next/\True)/\(Y3 Z6 e.s.d.sec x.fst.s.d.sec)/\(Y3 Z3 e.s.d.cache
  x.fst.s.d.cache)/\(Y3 Y7 e.s.d.keep x.fst.s.d.keep)/\(Y3 Y4 e.s.log x.fst.s.log)/\(v=x.snd.snd/\e.s.fr.length=x.fst.s.fr.length/\T9 e.s.fr.length (Y0 e.s.fr) (Y0 x.fst.s.fr))/\(Y3 X9 (v5
  x_1.fst x_1.snd) x.fst.txs)/\(Y3 Y9 e.lk.held x.fst.lk.held)/\(Y3 Y1 e.lk.waits x.fst.lk.waits)/\True)/\x.fst.lk.held.length<=1048576/\x.fst.lk.waits.length<=1048576)/\(True/\True)/\(1=1/\1=1/\(0=0/\
  x.fst.s.d.sec.length=e.s.d.sec.length)/\(0=0/\x.fst.s.d.cache.length=e.s.d.cache.length)/\x.fst.s.d.armed=e.s.d.armed/\(0=0/\x.fst.s.d.keep.length=e.s.d.keep.length)/\x.fst.s.ep=e.s.ep/\(0=0/\
  x.fst.s.log.length=e.s.log.length)/\x.fst.s.sure=e.s.sure/\(0=0/\x.fst.s.fr.length=e.s.fr.length)/\x.fst.s.hand=e.s.hand/\x.fst.up=e.up/\(0=0/\x.fst.txs.length=(List.take k e.txs++List.drop (k+1)
  e.txs).length)/\(0=0/\(X7 (hF x.snd.fst) x.fst.lk.held x.fst.lk.held.length).length=(X7 (hF (e.txs.getD k default).id) e.lk.held e.lk.held.length).length)/\(0=0/\(X7 (wF x.snd.fst) x.fst.lk.waits
  x.fst.lk.waits.length).length=(X7 (wF (e.txs.getD k default).id) e.lk.waits e.lk.waits.length).length)/\x.fst.next=e.next/\True)/\True/\True/\True/\True/\True/\True/\True/\True/\(Y3 Z6 x.fst.s.d.sec
  e.s.d.sec)/\(Y3 Z3 x.fst.s.d.cache e.s.d.cache)/\(Y3 Y7 x.fst.s.d.keep e.s.d.keep)/\(Y3 Y4 x.fst.s.log e.s.log)/\(x.snd.snd=v/\x.fst.s.fr.length=e.s.fr.length/\T9 x.fst.s.fr.length (Y0 x.fst.s.fr)
  (Y0 e.s.fr))/\(Y3 X9 x.fst.txs (List.take k e.txs++List.drop (k+1) e.txs))/\(Y3 Y9 (X7 (hF x.snd.fst) x.fst.lk.held x.fst.lk.held.length) (X7 (hF (e.txs.getD k default).id) e.lk.held e.lk.held.length))/\
  (Y3 Y1 (X7 (wF x.snd.fst) x.fst.lk.waits x.fst.lk.waits.length) (X7 (wF (e.txs.getD k default).id) e.lk.waits e.lk.waits.length))/\True):
  V7 Tryz.prog 119 [.ref 0 0 0,.int .i64 tx] (e.bx v) (.tup []) ((b0a e k).nx v):=
 C4 (code:=d5Q) (gC a2u d5 (gC b9I b1Z (gC c9j c13 gN))) Tryz.func119 (by kernel_rfl) (by kernel_rfl) Z0 [[.box 0,.arr 1,.arr 2,.arr 3,.arr 4,.arr 5,.arr 6,.arr 7,.arr 8,.cel 0 0,.cel 0 1,.cel 0 3,.cel 0 5,.cel 0 7,.cel 0 10,.cel 0 11,.cel 0 12]] h (by kernel_rfl)
theorem c9u:Z2 Tryz.prog 119 d34:=by
 rintro⟨e,tx,k,v⟩ ⟨ha,hk,hi,h1,h2,h3⟩;dsimp only at ha hk hi h1 h2 h3;subst hi;refine d5V e _ k v ⟨(e,_),⟨⟨T3 _,T3 _,T3 _,T3 _,T3 _,T3 _,T3 _,T3 _⟩,⟨⟨⟨rfl,Z9 _ _⟩,⟨rfl,Z9 _ _⟩,rfl,⟨rfl,Z9 _ _⟩,rfl,⟨rfl,Z9 _ _⟩,rfl,⟨rfl,fun _ _=>rfl⟩,rfl,rfl,⟨rfl,Z9 _ _⟩,⟨rfl,Z9 _ _⟩,⟨rfl,Z9 _ _⟩,rfl,trivial⟩,rfl,trivial⟩,by unfold N8;dsimp only;omega⟩,by rw[ha];exact Z5 (by omega),(e.txs,k),⟨⟨⟨rfl,rfl⟩,ha,by rw[ha];rfl,trivial⟩,⟨⟨rfl,Z9 _ _⟩,trivial⟩,hk⟩,({e with txs:=v5 e.txs k},_,v),⟨⟨⟨rfl,rfl⟩,rfl,trivial⟩,⟨⟨rfl,rfl,⟨rfl,rfl⟩,⟨rfl,rfl⟩,rfl,⟨rfl,rfl⟩,rfl,⟨rfl,rfl⟩,rfl,⟨rfl,rfl⟩,rfl,rfl,⟨rfl,rfl⟩,⟨rfl,rfl⟩,⟨rfl,rfl⟩,rfl,trivial⟩,⟨rfl,Z9 _ _⟩,⟨rfl,Z9 _ _⟩,⟨rfl,Z9 _ _⟩,⟨rfl,Z9 _ _⟩,⟨rfl,rfl,U4 _⟩,⟨rfl,Z9 _ _⟩,⟨rfl,Z9 _ _⟩,⟨rfl,Z9 _ _⟩,trivial⟩,h2,h3⟩,⟨trivial,trivial⟩,⟨rfl,rfl,⟨rfl,rfl⟩,⟨rfl,rfl⟩,rfl,⟨rfl,rfl⟩,rfl,⟨rfl,rfl⟩,rfl,⟨rfl,rfl⟩,rfl,rfl,⟨rfl,rfl⟩,⟨rfl,rfl⟩,⟨rfl,rfl⟩,rfl,trivial⟩,trivial,trivial,trivial,trivial,trivial,trivial,trivial,trivial,⟨rfl,Z9 _ _⟩,⟨rfl,Z9 _ _⟩,⟨rfl,Z9 _ _⟩,⟨rfl,Z9 _ _⟩,⟨rfl,rfl,U4 _⟩,⟨rfl,Z9 _ _⟩,⟨rfl,Z9 _ _⟩,⟨rfl,Z9 _ _⟩,trivial⟩
def c7m:Con:=.rel ⟨Eng×Int,fun x=>[.bref x.1.ts,.int .i64 x.2],fun x=>.int .i64 (T2 x.1 x.2).2,fun x=>N8 x.1.txs.length⟩
noncomputable def c8i:Code:=Tryz.f65.body.getD .skip
theorem a9C:Z8 Tryz.prog 65:=⟨_,Tryz.func65,by kernel_rfl,by kernel_rfl⟩
theorem c5v(e:Eng)(tx:Int)(h:
  ((!e.up)=true->(15:Int)=(T2 e tx).snd)/\((!e.up)=false->∃(x:(Eng×Int)),(((u2 e x.fst)/\tx=x.snd/\True)/\N8 x.fst.txs.length)/\(decide (V5 x.fst.txs x.snd<(0:Int))=true->(19:Int)=(T2 e
  tx).snd)/\(decide (V5 x.fst.txs x.snd<(0:Int))=false->(0:Int)=(T2 e tx).snd))):
  Z1 Tryz.prog 65 [.bref e.ts,.int .i64 tx] (.int .i64 (T2 e tx).2):=
 T7 (code:=c8i) (gC a2u d5 gN) Tryz.func65 (by kernel_rfl) (by kernel_rfl) Z0 h (by kernel_rfl)
theorem c2n:Z2 Tryz.prog 65 c7m:=by
 rintro⟨e,tx⟩ (hL:N8 e.txs.length);refine c5v e tx ⟨fun hu=>by rw[d6T hu],fun hu=>⟨(e,tx),⟨⟨y8 _,rfl,trivial⟩,hL⟩,fun hq=>by rw[d6M hu hq],fun hq=>by rw[d6G hu hq]⟩⟩
noncomputable def c6m:Con:=.reff ⟨Eng×Int,fun x=>[.ref 0 0 0,.int .i64 x.2],fun x=>x.1.bx 0,fun x=>.int .i64 (V8 x.1 x.2).2,fun x=>(V8 x.1 x.2).1.nx 0,fun x=>P1 x.1=true/\a46 x.1⟩
noncomputable def c8E:Code:=Tryz.f59.body.getD .skip
theorem b0g:Z8 Tryz.prog 59:=⟨_,Tryz.func59,by kernel_rfl,by kernel_rfl⟩
theorem c8g(e:Eng)(tx:Int)(h:
  ∃(x:(Eng×Int)),((LeG e)/\((a3F e x.fst)/\tx=x.snd/\True)/\N8 x.fst.txs.length)/\(((T2 x.fst x.snd).snd !=(0:Int))=true->((T2 x.fst x.snd).snd=(V8 e tx).snd/\True)/\(1=1/\1=1/\b9Q e (V8 e
  tx).fst)/\True/\True/\True/\True/\True/\True/\True/\True/\b88 (0) (0) e (V8 e tx).fst)/\(((T2 x.fst x.snd).snd !=(0:Int))=false->∃(x:(Eng×Int×Rec×Nat×Nat)),(((0=0/\0=0)/\tx=x.snd.fst/\((0
  :Int)=x.snd.snd.fst.e/\(0:Int)=x.snd.snd.fst.l/\(0:Int)=x.snd.snd.fst.t/\(4:Int)=x.snd.snd.fst.k/\(0:Int)=x.snd.snd.fst.p/\(0:Int)=x.snd.snd.fst.n/\(0:Int)=x.snd.snd.fst.g/\(0:Int)=
  x.snd.snd.fst.s/\[]=x.snd.snd.fst.b/\[]=x.snd.snd.fst.a/\True)/\True)/\((1=1/\1=1/\b9Q e x.fst)/\b88 (0) (x.snd.snd.snd.snd) e x.fst)/\AddB x.fst x.snd.fst x.snd.snd.snd.fst x.snd.snd.fst)/\∃(x_1:(Sto×Int
  ×Nat)),(((0=0/\0=0)/\(x.fst.s.log.length:Int)+(1:Int)=x_1.snd.fst/\True)/\((1=1/\1=1/\(0=0/\x.fst.s.d.sec.length=x_1.fst.d.sec.length)/\(0=0/\x.fst.s.d.cache.length=x_1.fst.d.cache.length)/\
  x.fst.s.d.armed=x_1.fst.d.armed/\(0=0/\x.fst.s.d.keep.length=x_1.fst.d.keep.length)/\x.fst.s.ep=x_1.fst.ep/\(0=0/\(x.fst.s.log++[K9 x.fst.s (a0G x.fst x.snd.snd.snd.fst x.snd.snd.fst)]).length=
  x_1.fst.log.length)/\x.fst.s.sure=x_1.fst.sure/\(0=0/\x.fst.s.fr.length=x_1.fst.fr.length)/\x.fst.s.hand=x_1.fst.hand/\True)/\(Y3 Z6 x.fst.s.d.sec x_1.fst.d.sec)/\(Y3 Z3 x.fst.s.d.cache x_1.fst.d.cache)/\
  (Y3 Y7 x.fst.s.d.keep x_1.fst.d.keep)/\(Y3 Y4 (x.fst.s.log++[K9 x.fst.s (a0G x.fst x.snd.snd.snd.fst x.snd.snd.fst)]) x_1.fst.log)/\(x.snd.snd.snd.snd=x_1.snd.snd/\x.fst.s.fr.length=x_1.fst.fr.length/\T9
  x.fst.s.fr.length (Y0 x.fst.s.fr) (Y0 x_1.fst.fr))/\True)/\a3D x_1.fst x_1.snd.fst)/\((!(W2 x_1.fst x_1.snd.fst).snd)=true->∃(x_2:(Eng×Nat)),(((0=0/\0=0)/\True)/\((1=1/\1=1/\(0=0/\(W2
  x_1.fst x_1.snd.fst).fst.d.sec.length=x_2.fst.s.d.sec.length)/\(0=0/\(W2 x_1.fst x_1.snd.fst).fst.d.cache.length=x_2.fst.s.d.cache.length)/\(W2 x_1.fst x_1.snd.fst).fst.d.armed=x_2.fst.s.d.armed/\(0=0/\(W2
  x_1.fst x_1.snd.fst).fst.d.keep.length=x_2.fst.s.d.keep.length)/\(W2 x_1.fst x_1.snd.fst).fst.ep=x_2.fst.s.ep/\(0=0/\(W2 x_1.fst x_1.snd.fst).fst.log.length=x_2.fst.s.log.length)/\(W2 x_1.fst
  x_1.snd.fst).fst.sure=x_2.fst.s.sure/\(0=0/\(W2 x_1.fst x_1.snd.fst).fst.fr.length=x_2.fst.s.fr.length)/\(W2 x_1.fst x_1.snd.fst).fst.hand=x_2.fst.s.hand/\x.fst.up=x_2.fst.up/\(0=0/\(x.fst.txs.set
  x.snd.snd.snd.fst (Txn.mk (x.fst.txs.getD x.snd.snd.snd.fst default).id ((x.fst.s.log.length:Int)+(1:Int)))).length=x_2.fst.txs.length)/\(0=0/\x.fst.lk.held.length=x_2.fst.lk.held.length)/\(0=0/\
  x.fst.lk.waits.length=x_2.fst.lk.waits.length)/\x.fst.next=x_2.fst.next/\True)/\(Y3 Z6 (W2 x_1.fst x_1.snd.fst).fst.d.sec x_2.fst.s.d.sec)/\(Y3 Z3 (W2 x_1.fst x_1.snd.fst).fst.d.cache x_2.fst.s.d.cache)/\
  (Y3 Y7 (W2 x_1.fst x_1.snd.fst).fst.d.keep x_2.fst.s.d.keep)/\(Y3 Y4 (W2 x_1.fst x_1.snd.fst).fst.log x_2.fst.s.log)/\(x_1.snd.snd=x_2.snd/\(W2 x_1.fst x_1.snd.fst).fst.fr.length=x_2.fst.s.fr.length/\T9
  (W2 x_1.fst x_1.snd.fst).fst.fr.length (Y0 (W2 x_1.fst x_1.snd.fst).fst.fr) (Y0 x_2.fst.s.fr))/\(Y3 X9 (x.fst.txs.set x.snd.snd.snd.fst (Txn.mk (x.fst.txs.getD x.snd.snd.snd.fst default).id
  ((x.fst.s.log.length:Int)+(1:Int)))) x_2.fst.txs)/\(Y3 Y9 x.fst.lk.held x_2.fst.lk.held)/\(Y3 Y1 x.fst.lk.waits x_2.fst.lk.waits)/\True)/\C7 x_2.fst.s.d)/\((15:Int)=(V8 e tx).snd/\True)/\(1=1/\1=1
  /\(0=0/\x_2.fst.s.d.sec.length=(V8 e tx).fst.s.d.sec.length)/\(0=0/\x_2.fst.s.d.cache.length=(V8 e tx).fst.s.d.cache.length)/\x_2.fst.s.d.armed=(V8 e tx).fst.s.d.armed/\(0=0/\x_2.fst.s.d.keep.length=(V8
  e tx).fst.s.d.keep.length)/\x_2.fst.s.ep=(V8 e tx).fst.s.ep/\(0=0/\(C5 x_2.fst.s.d (lgM x_2.fst.s.d x_2.fst.s.ep)).length=(V8 e tx).fst.s.log.length)/\(↑(lgM x_2.fst.s.d x_2.fst.s.ep):Int)=(V8 e tx).fst.s.sure
  /\(0=0/\0=(V8 e tx).fst.s.fr.length)/\(0:Int)=(V8 e tx).fst.s.hand/\false=(V8 e tx).fst.up/\(0=0/\0=(V8 e tx).fst.txs.length)/\(0=0/\0=(V8 e tx).fst.lk.held.length)/\(0=0/\0=(V8 e
  tx).fst.lk.waits.length)/\x_2.fst.next=(V8 e tx).fst.next/\True)/\True/\True/\True/\True/\True/\True/\True/\True/\(Y3 Z6 x_2.fst.s.d.sec (V8 e tx).fst.s.d.sec)/\(Y3 Z3 x_2.fst.s.d.cache (V8 e
  tx).fst.s.d.cache)/\(Y3 Y7 x_2.fst.s.d.keep (V8 e tx).fst.s.d.keep)/\(Y3 Y4 (C5 x_2.fst.s.d (lgM x_2.fst.s.d x_2.fst.s.ep)) (V8 e tx).fst.s.log)/\(0=0/\0=(V8 e tx).fst.s.fr.length/\T9 0 (Y0 [])
  (Y0 (V8 e tx).fst.s.fr))/\(0=(V8 e tx).fst.txs.length/\Z7 0 (X9 []) (X9 (V8 e tx).fst.txs))/\(0=(V8 e tx).fst.lk.held.length/\Z7 0 (Y9 []) (Y9 (V8 e tx).fst.lk.held))/\(0=(V8 e
  tx).fst.lk.waits.length/\Z7 0 (Y1 []) (Y1 (V8 e tx).fst.lk.waits))/\True)/\((!(W2 x_1.fst x_1.snd.fst).snd)=false->∃(x_2:(Eng×Int×Nat×Nat)),(((0=0/\0=0)/\tx=x_2.snd.fst/\True)/\((1=1/\1=
  1/\(0=0/\(W2 x_1.fst x_1.snd.fst).fst.d.sec.length=x_2.fst.s.d.sec.length)/\(0=0/\(W2 x_1.fst x_1.snd.fst).fst.d.cache.length=x_2.fst.s.d.cache.length)/\(W2 x_1.fst x_1.snd.fst).fst.d.armed=x_2.fst.s.d.armed/\
  (0=0/\(W2 x_1.fst x_1.snd.fst).fst.d.keep.length=x_2.fst.s.d.keep.length)/\(W2 x_1.fst x_1.snd.fst).fst.ep=x_2.fst.s.ep/\(0=0/\(W2 x_1.fst x_1.snd.fst).fst.log.length=x_2.fst.s.log.length)/\(W2 x_1.fst
  x_1.snd.fst).fst.sure=x_2.fst.s.sure/\(0=0/\(W2 x_1.fst x_1.snd.fst).fst.fr.length=x_2.fst.s.fr.length)/\(W2 x_1.fst x_1.snd.fst).fst.hand=x_2.fst.s.hand/\x.fst.up=x_2.fst.up/\(0=0/\(x.fst.txs.set
  x.snd.snd.snd.fst (Txn.mk (x.fst.txs.getD x.snd.snd.snd.fst default).id ((x.fst.s.log.length:Int)+(1:Int)))).length=x_2.fst.txs.length)/\(0=0/\x.fst.lk.held.length=x_2.fst.lk.held.length)/\(0=0/\
  x.fst.lk.waits.length=x_2.fst.lk.waits.length)/\x.fst.next=x_2.fst.next/\True)/\(Y3 Z6 (W2 x_1.fst x_1.snd.fst).fst.d.sec x_2.fst.s.d.sec)/\(Y3 Z3 (W2 x_1.fst x_1.snd.fst).fst.d.cache x_2.fst.s.d.cache)/\
  (Y3 Y7 (W2 x_1.fst x_1.snd.fst).fst.d.keep x_2.fst.s.d.keep)/\(Y3 Y4 (W2 x_1.fst x_1.snd.fst).fst.log x_2.fst.s.log)/\(x_1.snd.snd=x_2.snd.snd.snd/\(W2 x_1.fst x_1.snd.fst).fst.fr.length=x_2.fst.s.fr.length
  /\T9 (W2 x_1.fst x_1.snd.fst).fst.fr.length (Y0 (W2 x_1.fst x_1.snd.fst).fst.fr) (Y0 x_2.fst.s.fr))/\(Y3 X9 (x.fst.txs.set x.snd.snd.snd.fst (Txn.mk (x.fst.txs.getD x.snd.snd.snd.fst default).id
  ((x.fst.s.log.length:Int)+(1:Int)))) x_2.fst.txs)/\(Y3 Y9 x.fst.lk.held x_2.fst.lk.held)/\(Y3 Y1 x.fst.lk.waits x_2.fst.lk.waits)/\True)/\OvB x_2.fst x_2.snd.fst x_2.snd.snd.fst)/\((0:Int)=(V8 e tx).snd/\
  True)/\(1=1/\1=1/\(0=0/\x_2.fst.s.d.sec.length=(V8 e tx).fst.s.d.sec.length)/\(0=0/\x_2.fst.s.d.cache.length=(V8 e tx).fst.s.d.cache.length)/\x_2.fst.s.d.armed=(V8 e tx).fst.s.d.armed/\(0=0/\
  x_2.fst.s.d.keep.length=(V8 e tx).fst.s.d.keep.length)/\x_2.fst.s.ep=(V8 e tx).fst.s.ep/\(0=0/\x_2.fst.s.log.length=(V8 e tx).fst.s.log.length)/\x_2.fst.s.sure=(V8 e tx).fst.s.sure/\(0=0/\
  x_2.fst.s.fr.length=(V8 e tx).fst.s.fr.length)/\x_2.fst.s.hand=(V8 e tx).fst.s.hand/\x_2.fst.up=(V8 e tx).fst.up/\(0=0/\(List.take x_2.snd.snd.fst x_2.fst.txs++List.drop (x_2.snd.snd.fst+1)
  x_2.fst.txs).length=(V8 e tx).fst.txs.length)/\(0=0/\(X7 (hF (x_2.fst.txs.getD x_2.snd.snd.fst default).id) x_2.fst.lk.held x_2.fst.lk.held.length).length=(V8 e tx).fst.lk.held.length)/\(0=0/\(X7 (wF
  (x_2.fst.txs.getD x_2.snd.snd.fst default).id) x_2.fst.lk.waits x_2.fst.lk.waits.length).length=(V8 e tx).fst.lk.waits.length)/\x_2.fst.next=(V8 e tx).fst.next/\True)/\True/\True/\True/\True/\True/\True/\True/\
  True/\(Y3 Z6 x_2.fst.s.d.sec (V8 e tx).fst.s.d.sec)/\(Y3 Z3 x_2.fst.s.d.cache (V8 e tx).fst.s.d.cache)/\(Y3 Y7 x_2.fst.s.d.keep (V8 e tx).fst.s.d.keep)/\(Y3 Y4 x_2.fst.s.log (V8 e tx).fst.s.log)/\
  (x_2.snd.snd.snd=0/\x_2.fst.s.fr.length=(V8 e tx).fst.s.fr.length/\T9 x_2.fst.s.fr.length (Y0 x_2.fst.s.fr) (Y0 (V8 e tx).fst.s.fr))/\(Y3 X9 (List.take x_2.snd.snd.fst x_2.fst.txs++List.drop
  (x_2.snd.snd.fst+1) x_2.fst.txs) (V8 e tx).fst.txs)/\(Y3 Y9 (X7 (hF (x_2.fst.txs.getD x_2.snd.snd.fst default).id) x_2.fst.lk.held x_2.fst.lk.held.length) (V8 e tx).fst.lk.held)/\(Y3 Y1 (X7 (wF
  (x_2.fst.txs.getD x_2.snd.snd.fst default).id) x_2.fst.lk.waits x_2.fst.lk.waits.length) (V8 e tx).fst.lk.waits)/\True))):
  V7 Tryz.prog 59 [.ref 0 0 0,.int .i64 tx] (e.bx 0) (.int .i64 (V8 e tx).2) ((V8 e tx).1.nx 0):=
 C4 (code:=c8E) (gC c2n a9C (gC d4X c6f (gC c6Z b3N (gC d1r b9A (gC c9u b8X gN))))) Tryz.func59 (by kernel_rfl) (by kernel_rfl) Z0 [[.box 0,.arr 1,.arr 2,.arr 3,.arr 4,.arr 5,.arr 6,.arr 7,.arr 8,.cel 0 0,.cel 0 1,.cel 0 3,.cel 0 5,.cel 0 7,.cel 0 10,.cel 0 11,.cel 0 12]] h (by kernel_rfl)
theorem c5s{L:List Txn}{id n:Int}{k:Nat}(hk:k<L.length)(ha:V5 L id=k):V5 (L.set k ⟨(L.getD k default).id,n⟩) id=k:=by
 have h0:¬T4 L.length (A9 L id)<0:=by
  have:T4 L.length (A9 L id)=k:=ha;omega
 obtain⟨i,hi,hp,hl,he⟩:=a3I h0;have hik:i=k:=by
  have:T4 L.length (A9 L id)=k:=ha;omega
 subst hik;have e:∀j,A9 (L.set i ⟨(L.getD i default).id,n⟩) id j=A9 L id j:=fun j=>by
  unfold A9;by_cases h:j=i
  ·subst h;rw[List.getD_eq_getElem?_getD (l:=L.set j _),List.getElem?_set_self hk]
   rfl
  ·rw[List.getD_eq_getElem?_getD (l:=L.set i _),List.getElem?_set_ne (Ne.symm h),←List.getD_eq_getElem?_getD]
 unfold V5;rw[List.length_set];exact N9 hi (by rw[e];exact hp) fun j hj=>by rw[e];exact hl j hj
theorem d4b{L:List Txn}{n:Int}{k:Nat}(hk:k<L.length):((L.set k ⟨(L.getD k default).id,n⟩).getD k default).id=(L.getD k default).id:=by
 rw[List.getD_eq_getElem?_getD (l:=L.set k _),List.getElem?_set_self hk]
 rfl
theorem c2r:Z2 Tryz.prog 59 c6m:=by
 rintro⟨e,tx⟩ ⟨ho,hB⟩;dsimp only at ho hB;have hC:=d3p tx ho;refine c8g e tx ⟨(e,tx),⟨⟨T3 _,T3 _,T3 _,T3 _,T3 _,T3 _,T3 _,T3 _⟩,⟨⟨⟨rfl,Z9 _ _⟩,⟨rfl,Z9 _ _⟩,rfl,⟨rfl,Z9 _ _⟩,rfl,⟨rfl,Z9 _ _⟩,rfl,⟨rfl,fun _ _=>rfl⟩,rfl,rfl,⟨rfl,Z9 _ _⟩,⟨rfl,Z9 _ _⟩,⟨rfl,Z9 _ _⟩,rfl,trivial⟩,rfl,trivial⟩,hC.1⟩,fun hq=> ?_,fun hq=> ?_⟩
 ·have h0:¬ (T2 e tx).2=0:=by simpa using hq
  have e0:V8 e tx=(e,(T2 e tx).2):=by unfold V8;rw[if_neg h0]
  rw[e0];exact⟨⟨rfl,trivial⟩,⟨rfl,rfl,⟨rfl,rfl⟩,⟨rfl,rfl⟩,rfl,⟨rfl,rfl⟩,rfl,⟨rfl,rfl⟩,rfl,⟨rfl,rfl⟩,rfl,rfl,⟨rfl,rfl⟩,⟨rfl,rfl⟩,⟨rfl,rfl⟩,rfl,trivial⟩,trivial,trivial,trivial,trivial,trivial,trivial,trivial,trivial,⟨rfl,Z9 _ _⟩,⟨rfl,Z9 _ _⟩,⟨rfl,Z9 _ _⟩,⟨rfl,Z9 _ _⟩,⟨rfl,rfl,U4 _⟩,⟨rfl,Z9 _ _⟩,⟨rfl,Z9 _ _⟩,⟨rfl,Z9 _ _⟩,trivial⟩
 ·have h0:(T2 e tx).2=0:=by simpa using hq
  obtain⟨hu,k,e1,hk,hi,ha⟩:=b6L h0;obtain⟨a1,a2,a3,a4⟩:=o7 (G8 ho).2.1;obtain⟨l1,l2⟩:=b4a a4;have hA:=(d3B ho hu ha hk hi (c5R hk)).1;obtain⟨hL,hf,hd,h69⟩:=a8L ho hu ha hk hi;refine⟨(e,tx,c40,k,0),⟨⟨⟨rfl,rfl⟩,rfl,⟨rfl,rfl,rfl,rfl,rfl,rfl,rfl,rfl,rfl,rfl,trivial⟩,trivial⟩,⟨⟨rfl,rfl,⟨rfl,rfl⟩,⟨rfl,rfl⟩,rfl,⟨rfl,rfl⟩,rfl,⟨rfl,rfl⟩,rfl,⟨rfl,rfl⟩,rfl,rfl,⟨rfl,rfl⟩,⟨rfl,rfl⟩,⟨rfl,rfl⟩,rfl,trivial⟩,⟨rfl,Z9 _ _⟩,⟨rfl,Z9 _ _⟩,⟨rfl,Z9 _ _⟩,⟨rfl,Z9 _ _⟩,⟨rfl,rfl,U4 _⟩,⟨rfl,Z9 _ _⟩,⟨rfl,Z9 _ _⟩,⟨rfl,Z9 _ _⟩,trivial⟩,hA⟩,((a2D e k).s,(e.s.log.length+1:Nat),0),⟨⟨⟨rfl,rfl⟩,rfl,trivial⟩,⟨⟨rfl,rfl,⟨rfl,rfl⟩,⟨rfl,rfl⟩,rfl,⟨rfl,rfl⟩,rfl,⟨rfl,rfl⟩,rfl,⟨rfl,rfl⟩,rfl,trivial⟩,⟨rfl,Z9 _ _⟩,⟨rfl,Z9 _ _⟩,⟨rfl,Z9 _ _⟩,⟨rfl,Z9 _ _⟩,⟨rfl,rfl,U4 _⟩,trivial⟩,hf⟩,fun hy=> ?_,fun hy=> ?_⟩
  ·have hy:¬ (o6 e k).2=true:=fun h=>by
    have hy:(!(o6 e k).2)=true:=hy;rw[h] at hy;cases hy
   have e0:V8 e tx=(a7f (b9 e k),15):=by unfold V8;rw[if_pos h0,e1,Int.toNat_natCast,if_neg hy]
   rw[e0];exact⟨(b9 e k,0),⟨⟨⟨rfl,rfl⟩,trivial⟩,⟨⟨rfl,rfl,⟨rfl,rfl⟩,⟨rfl,rfl⟩,rfl,⟨rfl,rfl⟩,rfl,⟨rfl,rfl⟩,rfl,⟨rfl,rfl⟩,rfl,rfl,⟨rfl,rfl⟩,⟨rfl,rfl⟩,⟨rfl,rfl⟩,rfl,trivial⟩,⟨rfl,Z9 _ _⟩,⟨rfl,Z9 _ _⟩,⟨rfl,Z9 _ _⟩,⟨rfl,Z9 _ _⟩,⟨rfl,rfl,U4 _⟩,⟨rfl,Z9 _ _⟩,⟨rfl,Z9 _ _⟩,⟨rfl,Z9 _ _⟩,trivial⟩,hd⟩,⟨rfl,trivial⟩,⟨rfl,rfl,⟨rfl,rfl⟩,⟨rfl,rfl⟩,rfl,⟨rfl,rfl⟩,rfl,⟨rfl,rfl⟩,rfl,⟨rfl,rfl⟩,rfl,rfl,⟨rfl,rfl⟩,⟨rfl,rfl⟩,⟨rfl,rfl⟩,rfl,trivial⟩,trivial,trivial,trivial,trivial,trivial,trivial,trivial,trivial,⟨rfl,Z9 _ _⟩,⟨rfl,Z9 _ _⟩,⟨rfl,Z9 _ _⟩,⟨rfl,Z9 _ _⟩,⟨rfl,rfl,U4 _⟩,⟨rfl,Z9 _ _⟩,⟨rfl,Z9 _ _⟩,⟨rfl,Z9 _ _⟩,trivial⟩
  ·have hy:(o6 e k).2=true:=by
    have hy:(!(o6 e k).2)=false:=hy
    simpa using hy
   have e0:V8 e tx=(b0a (b9 e k) k,0):=by unfold V8;rw[if_pos h0,e1,Int.toNat_natCast,if_pos hy]
   have hlen:(b9 e k).txs.length=e.txs.length:=List.length_set;rw[e0];exact⟨(b9 e k,tx,k,0),⟨⟨⟨rfl,rfl⟩,rfl,trivial⟩,⟨⟨rfl,rfl,⟨rfl,rfl⟩,⟨rfl,rfl⟩,rfl,⟨rfl,rfl⟩,rfl,⟨rfl,rfl⟩,rfl,⟨rfl,rfl⟩,rfl,rfl,⟨rfl,rfl⟩,⟨rfl,rfl⟩,⟨rfl,rfl⟩,rfl,trivial⟩,⟨rfl,Z9 _ _⟩,⟨rfl,Z9 _ _⟩,⟨rfl,Z9 _ _⟩,⟨rfl,Z9 _ _⟩,⟨rfl,rfl,U4 _⟩,⟨rfl,Z9 _ _⟩,⟨rfl,Z9 _ _⟩,⟨rfl,Z9 _ _⟩,trivial⟩,c5s hk ha,by dsimp only;omega,(d4b hk).trans hi,by dsimp only;omega,by show e.lk.held.length<=_;omega,by show e.lk.waits.length<=_;omega⟩,⟨rfl,trivial⟩,⟨rfl,rfl,⟨rfl,rfl⟩,⟨rfl,rfl⟩,rfl,⟨rfl,rfl⟩,rfl,⟨rfl,rfl⟩,rfl,⟨rfl,rfl⟩,rfl,rfl,⟨rfl,rfl⟩,⟨rfl,rfl⟩,⟨rfl,rfl⟩,rfl,trivial⟩,trivial,trivial,trivial,trivial,trivial,trivial,trivial,trivial,⟨rfl,Z9 _ _⟩,⟨rfl,Z9 _ _⟩,⟨rfl,Z9 _ _⟩,⟨rfl,Z9 _ _⟩,⟨rfl,rfl,U4 _⟩,⟨rfl,Z9 _ _⟩,⟨rfl,Z9 _ _⟩,⟨rfl,Z9 _ _⟩,trivial⟩
noncomputable def a8o:Rle:=⟨Eng×Int,fun x=>[.agg x.1.ts,.int .i64 x.2],fun _=>[],fun x=>.tup [.agg ((X3 x.1 x.2).1.tm 0),.int .i64 (X3 x.1 x.2).2],fun x=>(X3 x.1 x.2).1.hp 0,fun x=>a46 x.1/\L9 x.1⟩
noncomputable def c5b:Con:=.rmk a8o
noncomputable def c37:Code:=Tryz.f25.body.getD .skip
theorem b0d:Z8 Tryz.prog 25:=⟨_,Tryz.func25,by kernel_rfl,by kernel_rfl⟩
theorem c8N(e:Eng)(tx:Int)(h:
  ∃(x:a0x.ι),(((u2 e x)/\True)/\a46 x)/\((!P1 x)=true->((((0=0/\0=(X3 e tx).fst.s.d.sec.length)/\(0=0/\0=(X3 e tx).fst.s.d.cache.length)/\false=(X3 e tx).fst.s.d.armed/\(0=0/\0=(X3 e
  tx).fst.s.d.keep.length)/\(0:Int)=(X3 e tx).fst.s.ep/\(0=0/\0=(X3 e tx).fst.s.log.length)/\(0:Int)=(X3 e tx).fst.s.sure/\(0=0/\0=(X3 e tx).fst.s.fr.length)/\(0:Int)=(X3 e tx).fst.s.hand/\false
  =(X3 e tx).fst.up/\(0=0/\0=(X3 e tx).fst.txs.length)/\(0=0/\0=(X3 e tx).fst.lk.held.length)/\(0=0/\0=(X3 e tx).fst.lk.waits.length)/\(0:Int)=(X3 e tx).fst.next/\True)/\(1:Int)=(X3 e
  tx).snd/\True)/\True)/\(0=(X3 e tx).fst.s.d.sec.length/\Z7 0 (fun(x:Nat)=>[]) (Z6 (X3 e tx).fst.s.d.sec))/\(0=(X3 e tx).fst.s.d.cache.length/\Z7 0 (fun(x:Nat)=>[]) (Z3 (X3 e
  tx).fst.s.d.cache))/\(0=(X3 e tx).fst.s.d.keep.length/\Z7 0 (fun(x:Nat)=>[]) (Y7 (X3 e tx).fst.s.d.keep))/\(0=(X3 e tx).fst.s.log.length/\Z7 0 (fun(x:Nat)=>[]) (Y4 (X3 e tx).fst.s.log))/\
  (0=0/\0=(X3 e tx).fst.s.fr.length/\T9 0 (fun(x:Nat)=>[]) (Y0 (X3 e tx).fst.s.fr))/\(0=(X3 e tx).fst.txs.length/\Z7 0 (fun(x:Nat)=>[]) (X9 (X3 e tx).fst.txs))/\(0=(X3 e
  tx).fst.lk.held.length/\Z7 0 (fun(x:Nat)=>[]) (Y9 (X3 e tx).fst.lk.held))/\(0=(X3 e tx).fst.lk.waits.length/\Z7 0 (fun(x:Nat)=>[]) (Y1 (X3 e tx).fst.lk.waits))/\True)/\((!P1 x)=false->∃
  (x:Eng),(((u2 e x)/\True)/\L9 x)/\∃(x_1:(Eng×Int)),(((0=0/\0=0)/\tx=x_1.snd/\True)/\((1=1/\1=1/\b9Q x x_1.fst)/\b88 (0) (0) x x_1.fst)/\P1 x_1.fst=true/\a46 x_1.fst)/\∃(x:Eng),((LeG
  (V8 x_1.fst x_1.snd).fst)/\((a3F (V8 x_1.fst x_1.snd).fst x)/\True)/\L9 x)/\(((b9Q x (X3 e tx).fst)/\(V8 x_1.fst x_1.snd).snd=(X3 e tx).snd/\True)/\True)/\b88 (0) (0) x (X3 e tx).fst)):
  V7 Tryz.prog 25 [.agg e.ts,.int .i64 tx] [] (.tup [.agg ((X3 e tx).1.tm 0),.int .i64 (X3 e tx).2]) ((X3 e tx).1.hp 0):=
 C4 (code:=c37) (gC a7F a5c (gC c6J b5Z (gC c2r b0g gN))) Tryz.func25 (by kernel_rfl) (by kernel_rfl) Z0 [[.nilS 0 [0,0] 0 1,.nilS 0 [0,1] 0 2,.nilS 0 [0,3] 0 1,.nilS 0 [0,5] 0 10,.nilS 0 [0,7] 0 5,.nilS 0 [0,10] 0 2,.nilS 0 [0,11] 0 4,.nilS 0 [0,12] 0 2,.fav 0 [0,7],.vl 0 [0,0],.vl 0 [0,1],.vl 0 [0,3],.vl 0 [0,5],.vl 0 [0,7],.vl 0 [0,10],.vl 0 [0,11],.vl 0 [0,12]],[.vl 0 [0,0],.vl 0 [0,1],.vl 0 [0,3],.vl 0 [0,5],.vl 0 [0,7],.vl 0 [0,10],.vl 0 [0,11],.vl 0 [0,12]]] h (by kernel_rfl)
theorem c3v:Z2 Tryz.prog 25 c5b:=by
 rintro⟨e,tx⟩ ⟨h1,h2⟩;dsimp only at h1 h2;refine⟨c8N e tx ⟨e,⟨⟨y8 _,trivial⟩,h1⟩,fun hq=> ?_,fun hq=> ?_⟩,rfl,a2K _ 0⟩
 ·rw[d6z hq];exact⟨⟨⟨⟨⟨rfl,rfl⟩,⟨rfl,rfl⟩,rfl,⟨rfl,rfl⟩,rfl,⟨rfl,rfl⟩,rfl,⟨rfl,rfl⟩,rfl,rfl,⟨rfl,rfl⟩,⟨rfl,rfl⟩,⟨rfl,rfl⟩,rfl,trivial⟩,rfl,trivial⟩,trivial⟩,⟨rfl,V0⟩,⟨rfl,V0⟩,⟨rfl,V0⟩,⟨rfl,V0⟩,⟨rfl,rfl,fun i hi=>absurd hi (Nat.not_lt_zero _)⟩,⟨rfl,V0⟩,⟨rfl,V0⟩,⟨rfl,V0⟩,trivial⟩
 ·have ho:P1 e=true:=by simpa using hq
  rw[d6x hq];exact⟨e,⟨⟨y8 _,trivial⟩,h2⟩,(e,tx),⟨⟨⟨rfl,rfl⟩,rfl,trivial⟩,⟨⟨rfl,rfl,⟨rfl,rfl⟩,⟨rfl,rfl⟩,rfl,⟨rfl,rfl⟩,rfl,⟨rfl,rfl⟩,rfl,⟨rfl,rfl⟩,rfl,rfl,⟨rfl,rfl⟩,⟨rfl,rfl⟩,⟨rfl,rfl⟩,rfl,trivial⟩,⟨rfl,Z9 _ _⟩,⟨rfl,Z9 _ _⟩,⟨rfl,Z9 _ _⟩,⟨rfl,Z9 _ _⟩,⟨rfl,rfl,U4 _⟩,⟨rfl,Z9 _ _⟩,⟨rfl,Z9 _ _⟩,⟨rfl,Z9 _ _⟩,trivial⟩,ho,h1⟩,(V8 e tx).1,⟨⟨T3 _,T3 _,T3 _,T3 _,T3 _,T3 _,T3 _,T3 _⟩,⟨⟨⟨rfl,Z9 _ _⟩,⟨rfl,Z9 _ _⟩,rfl,⟨rfl,Z9 _ _⟩,rfl,⟨rfl,Z9 _ _⟩,rfl,⟨rfl,fun _ _=>rfl⟩,rfl,rfl,⟨rfl,Z9 _ _⟩,⟨rfl,Z9 _ _⟩,⟨rfl,Z9 _ _⟩,rfl,trivial⟩,trivial⟩,a7O h2 ho⟩,⟨⟨⟨⟨rfl,rfl⟩,⟨rfl,rfl⟩,rfl,⟨rfl,rfl⟩,rfl,⟨rfl,rfl⟩,rfl,⟨rfl,rfl⟩,rfl,rfl,⟨rfl,rfl⟩,⟨rfl,rfl⟩,⟨rfl,rfl⟩,rfl,trivial⟩,rfl,trivial⟩,trivial⟩,⟨rfl,Z9 _ _⟩,⟨rfl,Z9 _ _⟩,⟨rfl,Z9 _ _⟩,⟨rfl,Z9 _ _⟩,⟨rfl,rfl,U4 _⟩,⟨rfl,Z9 _ _⟩,⟨rfl,Z9 _ _⟩,⟨rfl,Z9 _ _⟩,trivial⟩
end Go.Proofs.YtokaojbaacnngaaGreat

