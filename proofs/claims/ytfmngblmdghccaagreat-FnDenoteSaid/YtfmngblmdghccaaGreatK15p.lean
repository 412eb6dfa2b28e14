/- A part of the proof. -/
import Derived.Test.YtfmngblmdghccaaGreatK13
import Derived.Test.YtfmngblmdghccaaGreatK8
namespace Go.Proofs.YtfmngblmdghccaaGreat
open Go.SS Go.RowKit

def dnJ(s:Stm)(L:List Rw):Nat->Nat
 |0=>0
 |i+1=>if(dnN s L (i+1)).x≠0 then dnJ s L i else dnJ s L i+1
def tbN(s:Stm)(L:List Rw)(i:Nat):List Rw:=(dnN s L i).o++L.drop (dnJ s L i)
theorem dn_suc(s:Stm)(L:List Rw)(i:Nat):dnN s L (i+1)=dnS s (L.getD i default) (dnN s L i):=rfl
theorem dn_stop{s:Stm}{r:Rw}{d:Dn}(h:d.x≠0):dnS s r d=d:=by
 unfold dnS;rw[if_pos h]
theorem dn_back{s:Stm}{L:List Rw}{i:Nat}(h:(dnN s L i).x≠0):∀j,dnN s L (i+j)=dnN s L i/\dnJ s L (i+j)=dnJ s L i
 |0=>⟨rfl,rfl⟩
 |j+1=>by
  obtain⟨h1,h2⟩:=dn_back h j;have e:dnN s L (i+(j+1))=dnN s L i:=by
   rw[show i+(j+1)=i+j+1 by omega,dn_suc,h1,dn_stop h]
  refine⟨e,?_⟩
  rw[show i+(j+1)=i+j+1 by omega] at e ⊢
  show(if(dnN s L (i+j+1)).x≠0 then dnJ s L (i+j) else dnJ s L (i+j)+1)=_
  rw[e,if_pos h,h2]
theorem dn_far{s:Stm}{L:List Rw}{i:Nat}(h:(dnN s L i).x≠0){n:Nat}(hn:i<=n):dnN s L n=dnN s L i/\dnJ s L n=dnJ s L i:=by
 have:=dn_back h (n-i)
 rwa [show i+(n-i)=n by omega] at this
theorem dnJ_ok{s:Stm}{L:List Rw}:∀i,(dnN s L i).x=0->dnJ s L i=i
 |0,_=>rfl
 |i+1,h=>by
  have h0:(dnN s L i).x=0:=by
   by_cases h0:(dnN s L i).x=0
   ·exact h0
   ·rw[dn_suc,dn_stop h0] at h;exact absurd h h0
  show(if(dnN s L (i+1)).x≠0 then dnJ s L i else dnJ s L i+1)=_
  rw[if_neg (fun hh=>hh h),dnJ_ok i h0]
theorem drop_at{L:List Rw}{i:Nat}(hi:i<L.length):L.drop i=L.getD i default::L.drop (i+1):=by
 rw[List.drop_eq_getElem_cons hi,List.getD_eq_getElem?_getD,List.getElem?_eq_getElem hi]
 rfl
theorem gd_app{O D:List Rw}{q:Nat}:(O++D).getD q default=if q<O.length then O.getD q default else D.getD (q-O.length) default:=by
 rw[List.getD_eq_getElem?_getD,List.getElem?_append]
 split<;>rw[List.getD_eq_getElem?_getD]
theorem pw_gd{O:List Rw}(h:O.Pairwise fun a b=>a.id<b.id){i j:Nat}(hij:i<j)(hj:j<O.length):(O.getD i default).id<(O.getD j default).id:=by
 rw[List.pairwise_iff_getElem] at h;have:=h i j (by omega) hj hij
 rw[List.getD_eq_getElem?_getD,List.getElem?_eq_getElem (by omega),List.getD_eq_getElem?_getD,List.getElem?_eq_getElem hj]
 exact this
theorem gd_mem{O:List Rw}{q:Nat}(h:q<O.length):O.getD q default ∈ O:=by
 rw[List.getD_eq_getElem?_getD,List.getElem?_eq_getElem h]
 exact List.getElem_mem h
theorem tb_at{s:Stm}{L:List Rw}(hS:SrtI L)(hR:∀i,i<L.length->rowOKb (L.getD i default)=true){i:Nat}(hi:i<L.length)(h0:(dnN s L i).x=0):
  tbN s L i=(dnN s L i).o++L.getD i default::L.drop (i+1)/\SrtI (tbN s L i)/\(tbN s L i).length<=L.length/\lowN (tbN s L i) (L.getD i default).id=(dnN s L i).o.length/\isRw (tbN s L i) (L.getD i default).id=true:=by
 obtain⟨p1,p2,_,_,p5,_,_⟩:=dn_P (s:=s) hS hR i (by omega)
 have e:tbN s L i=(dnN s L i).o++L.getD i default::L.drop (i+1):=by
  unfold tbN;rw[dnJ_ok i h0,drop_at hi]
 have hlen:(tbN s L i).length=(dnN s L i).o.length+(L.length-i):=by
  rw[e,List.length_append,List.length_cons,List.length_drop];omega
 have hgd:∀q,(tbN s L i).getD q default=if q<(dnN s L i).o.length then(dnN s L i).o.getD q default else L.getD (i+(q- (dnN s L i).o.length)) default:=fun q=>by
  unfold tbN;rw[dnJ_ok i h0,gd_app];split
  ·rfl
  ·rw[List.getD_eq_getElem?_getD,List.getElem?_drop,List.getD_eq_getElem?_getD]
 have hlt:∀q,q<(dnN s L i).o.length->((dnN s L i).o.getD q default).id<(L.getD i default).id:=fun q hq=>by
  obtain⟨_,j,hj,e⟩:=p1 _ (gd_mem hq);rw[e];exact hS j i hj hi
 have hlow:lowN (tbN s L i) (L.getD i default).id=(dnN s L i).o.length:=by
  refine low_eq (by omega) (fun q hq=> ?_) (fun q h1 h2=> ?_)
  ·rw[hgd,if_pos hq];exact hlt q hq
  ·rw[hgd,if_neg (by omega)]
   by_cases h3:q=(dnN s L i).o.length
   ·rw[h3,Nat.sub_self,Nat.add_zero];exact Int.le_refl _
   ·exact Int.le_of_lt (hS i _ (by omega) (by omega))
 refine⟨e,fun a b hab hb=> ?_,by omega,hlow,?_⟩
 ·rw[hgd,hgd];by_cases h1:b<(dnN s L i).o.length
  ·rw[if_pos h1,if_pos (by omega)]
   exact pw_gd p2 hab h1
  ·rw[if_neg h1];by_cases h2:a<(dnN s L i).o.length
   ·rw[if_pos h2];have:=hlt a h2;by_cases h3:b=(dnN s L i).o.length
    ·rw[h3,Nat.sub_self,Nat.add_zero];exact this
    ·have:=hS i (i+(b- (dnN s L i).o.length)) (by omega) (by omega)
     omega
   ·rw[if_neg h2];exact hS _ _ (by omega) (by omega)
 ·unfold isRw;rw[hlow,hgd,if_neg (Nat.lt_irrefl _),Nat.sub_self,Nat.add_zero,decide_eq_true (by omega)]
  simp
theorem tb_put{s:Stm}{L:List Rw}(hS:SrtI L)(hR:∀i,i<L.length->rowOKb (L.getD i default)=true){i:Nat}(hi:i<L.length)(h0:(dnN s L i).x=0){r:Rw}(hr:r.id=(L.getD i default).id):
  (tbN s L i).set (lowN (tbN s L i) r.id) r=(dnN s L i).o++r::L.drop (i+1):=by
 obtain⟨e,_,_,hl,_⟩:=tb_at hS hR hi h0;rw[hr,hl,e,List.set_append_right _ _ (Nat.le_refl _),Nat.sub_self];rfl
theorem tb_cut{s:Stm}{L:List Rw}(hS:SrtI L)(hR:∀i,i<L.length->rowOKb (L.getD i default)=true){i:Nat}(hi:i<L.length)(h0:(dnN s L i).x=0):
  cutL (tbN s L i) (lowN (tbN s L i) (L.getD i default).id)=(dnN s L i).o++L.drop (i+1):=by
 obtain⟨e,_,_,hl,_⟩:=tb_at hS hR hi h0;rw[hl,e];unfold cutL;rw[List.take_left',List.drop_append,show(dnN s L i).o.length+1- (dnN s L i).o.length=1 by omega,List.drop_of_length_le (by omega)]
 ·rfl
 ·rfl
theorem tb_next{s:Stm}{L:List Rw}{i:Nat}(h:(dnN s L (i+1)).x=0):tbN s L (i+1)=(dnN s L (i+1)).o++L.drop (i+1):=by
 unfold tbN;rw[dnJ_ok _ h]
theorem tb_full{s:Stm}{L:List Rw}(h:(dnN s L L.length).x=0):tbN s L L.length=(dnN s L L.length).o:=by
 unfold tbN;rw[dnJ_ok _ h,List.drop_length,List.append_nil]
end Go.Proofs.YtfmngblmdghccaaGreat

namespace Go.Proofs.YtfmngblmdghccaaGreat
set_option maxRecDepth 100000
open Go.SS Go.RowKit

noncomputable def ansR(s:Stm)(L:List Rw):List Rw:=if(dnN s L L.length).x≠0 then[] else srtR s.ord s.down (dnN s L L.length).q (dnN s L L.length).q.length
def ansN(s:Stm)(L:List Rw):Nat:=if(dnN s L L.length).x≠0 then 0 else(dnN s L L.length).n
def StE(s:Stm)(L:List Rw):Prop:=stmE s/\(s.k=3->NdL s.set/\0<s.set.length/\s.set.length<=40)/\SrtI L/\(∀i,i<L.length->rowOKb (L.getD i default)=true)/\L.length<=1000/\0<=s.ord/\s.ord<=2
noncomputable abbrev doT(k:Nat):T:=.ifp 91 k (msOf Tryz.prog 91)
noncomputable def k_each:Con:=.reff ⟨Stm×List Rw,fun x=>[.agg x.1.ts,rwS x.2,doT 0],fun x=>[tabB 1 x.2.length,rwsA x.2],fun x=>.tup [.agg [.osl 2 0 (ansR x.1 x.2).length,.int .i64 (ansN x.1 x.2)],.int .i64 (dnN x.1 x.2 x.2.length).x],fun x=>[tabB 1 (tbN x.1 x.2 x.2.length).length,rwsA (tbN x.1 x.2 x.2.length),rwsA (ansR x.1 x.2)],fun x=>StE x.1 x.2⟩
def ansB(k n:Nat)(c:Int):Option Ob:=some (.arr false 36 2 1 fun _=>[.osl k 0 n,.int .i64 c])
def ansZ:Option Ob:=some (.arr true 36 2 1 fun _=>[.v (.slice none 0 0),.int .i64 0])
def stmBx(s:Stm):Option Ob:=some (.arr true 33 14 1 fun _=>s.ts)
noncomputable def A_each(s:Stm)(L:List Rw):Nat->Ann
 |0=>.one {i:Nat//i<=L.length/\(dnN s L i).x=0} (fun x=>⟨[(1,rwS L),(2,doT 0),(3,.ref 2 0 0),(6,.ref 3 0 0),(8,.ref 4 0 0),(16,rwS L),(17,.int .i64 L.length),(18,.int .i64 x.1)],[tabB 1 (tbN s L x.1).length,rwsA (tbN s L x.1),stmBx s,ansZ,ansB 5 (dnN s L x.1).q.length (dnN s L x.1).n,rwsA (dnN s L x.1).q]⟩) (fun x=>L.length-x.1) [.nilC 4 0 28 7,.box 0,.arr 1,.box 2,.box 3,.box 4,.cel 4 0] [.box 0,.arr 1,.box 2,.box 3,.box 4,.cel 4 0] (fun _=>noAnn)
 |_=>.none
noncomputable def b_each:Code:=Tryz.f54.body.getD .skip
theorem call_each:Callable Tryz.prog 54:=⟨_,Tryz.func54,by kernel_rfl,by kernel_rfl⟩
theorem v_each(s:Stm)(L:List Rw)(M T:List Rw)(c:Nat)(x:Int)(h:
  (∃(x:{i:Nat//i<=L.length/\(dnN s L i).x=(0:Int)}),((EqL rwRow L L)/\(91=91/\msOf Tryz.prog 91=msOf Tryz.prog 91)/\(0=0/\0=0)/\(0=0/\0=0)/\(0=0/\0=0)/\(EqL rwRow L L)/\(L.length:Int)=
  (L.length:Int)/\(0:Int)=(x.val:Int)/\True)/\(1=1/\1=1/\(0=0/\L.length=(tbN s L x.val).length)/\True)/\(EqL rwRow L (tbN s L x.val))/\(1=1/\1=1/\s.k=s.k/\s.ta=s.ta/\s.row.id=s.row.id/\s.row.n.k=
  s.row.n.k/\s.row.n.n=s.row.n.n/\s.row.n.t=s.row.n.t/\s.row.name.k=s.row.name.k/\s.row.name.n=s.row.name.n/\s.row.name.t=s.row.name.t/\s.c=s.c/\(EqL ndRow s.set s.set)/\(EqL ndRow s.whr s.whr)/\s.ord=s.ord/\
  s.down=s.down/\True)/\(1=1/\1=1/\Value.slice none 0 0=Value.slice none 0 0/\(0:Int)=(0:Int)/\True)/\(1=1/\1=1/\(0=0/\0=(dnN s L x.val).q.length)/\(0:Int)=(↑(dnN s L x.val).n:Int)/\True)/\(0
  =(dnN s L x.val).q.length/\RowsEq 0 (fun(x:Nat)=>[]) (rwRow (dnN s L x.val).q))/\True)/\∀(x_1:{i:Nat//i<=L.length/\(dnN s L i).x=(0:Int)}),(decide ((x_1.val:Int)<(L.length:Int))=true->InB
  (x_1.val:Int) L.length/\Lt 0 1/\∃(x_2:(Stm×Rw)),(((s.k=x_2.fst.k/\s.ta=x_2.fst.ta/\s.row.id=x_2.fst.row.id/\s.row.n.k=x_2.fst.row.n.k/\s.row.n.n=x_2.fst.row.n.n/\s.row.n.t=x_2.fst.row.n.t/\s.row.name.k=
  x_2.fst.row.name.k/\s.row.name.n=x_2.fst.row.name.n/\s.row.name.t=x_2.fst.row.name.t/\s.c=x_2.fst.c/\(EqL ndRow s.set x_2.fst.set)/\(EqL ndRow s.whr x_2.fst.whr)/\s.ord=x_2.fst.ord/\s.down=x_2.fst.down/\True)/\
  ((L.getD (x_1.val:Int).toNat default).id=x_2.snd.id/\(L.getD (x_1.val:Int).toNat default).n.k=x_2.snd.n.k/\(L.getD (x_1.val:Int).toNat default).n.n=x_2.snd.n.n/\(L.getD (x_1.val:Int).toNat default).n.t=x_2.snd.n.t/\
  (L.getD (x_1.val:Int).toNat default).name.k=x_2.snd.name.k/\(L.getD (x_1.val:Int).toNat default).name.n=x_2.snd.name.n/\(L.getD (x_1.val:Int).toNat default).name.t=x_2.snd.name.t/\True)/\True)/\stmE x_2.fst/\rowOKb
  x_2.snd=true)/\(((mea x_2.fst x_2.snd).snd !=(0:Int))=true->Lt 0 1/\Lt 0 1/\((((0=0/\0=M.length)/\(0:Int)=(c:Int)/\True)/\(mea x_2.fst x_2.snd).snd=x/\True)/\True)/\(1=1/\1=1/\(0=0/\(tbN s L
  x_1.val).length=T.length)/\True)/\(EqL rwRow (tbN s L x_1.val) T)/\(0=M.length/\RowsEq 0 (fun(x:Nat)=>[]) (rwRow M))/\True)/\(((mea x_2.fst x_2.snd).snd !=(0:Int))=false->((!(mea x_2.fst x_2.snd).fst)=true->
  Rng .i64 ((x_1.val:Int)+(1:Int))/\∃(y:{i:Nat//i<=L.length/\(dnN s L i).x=(0:Int)}),(((EqL rwRow L L)/\(91=91/\msOf Tryz.prog 91=msOf Tryz.prog 91)/\(0=0/\0=0)/\(0=0/\0=0)/\(0=0/\0=0)/\
  (EqL rwRow L L)/\(L.length:Int)=(L.length:Int)/\(x_1.val:Int)+(1:Int)=(y.val:Int)/\True)/\(1=1/\1=1/\(0=0/\(tbN s L x_1.val).length=(tbN s L y.val).length)/\True)/\(EqL rwRow (tbN s L x_1.val) (tbN s L
  y.val))/\(1=1/\1=1/\s.k=s.k/\s.ta=s.ta/\s.row.id=s.row.id/\s.row.n.k=s.row.n.k/\s.row.n.n=s.row.n.n/\s.row.n.t=s.row.n.t/\s.row.name.k=s.row.name.k/\s.row.name.n=s.row.name.n/\s.row.name.t=
  s.row.name.t/\s.c=s.c/\(EqL ndRow s.set s.set)/\(EqL ndRow s.whr s.whr)/\s.ord=s.ord/\s.down=s.down/\True)/\(1=1/\1=1/\Value.slice none 0 0=Value.slice none 0 0/\(0:Int)=(0:Int)/\True)/\(1=1/\1=1
  /\(0=0/\(dnN s L x_1.val).q.length=(dnN s L y.val).q.length)/\(↑(dnN s L x_1.val).n:Int)=(↑(dnN s L y.val).n:Int)/\True)/\(EqL rwRow (dnN s L x_1.val).q (dnN s L y.val).q)/\True)/\Lt (L.length-y.val) (L.length-
  x_1.val))/\((!(mea x_2.fst x_2.snd).fst)=false->Lt 0 1/\Rng .i64 ((↑(dnN s L x_1.val).n:Int)+(1:Int))/\Lt 0 1/\Lt 0 1/\((s.k==(1:Int))=true->Lt 0 1/\(Le 1 1/\Le (dnN s L x_1.val).q.length (dnN s L
  x_1.val).q.length/\AppB (dnN s L x_1.val).q.length 1 72)/\Lt 0 1/\(((mea x_2.fst x_2.snd).snd !=(0:Int))=true->Lt 0 1/\Lt 0 1/\((((0=0/\0=M.length)/\(0:Int)=(c:Int)/\True)/\(mea x_2.fst x_2.snd).snd=x/\
  True)/\True)/\(1=1/\1=1/\(0=0/\(tbN s L x_1.val).length=T.length)/\True)/\(EqL rwRow (tbN s L x_1.val) T)/\(0=M.length/\RowsEq 0 (fun(x:Nat)=>[]) (rwRow M))/\True)/\(((mea x_2.fst x_2.snd).snd !=(0:
  Int))=false->Rng .i64 ((x_1.val:Int)+(1:Int))/\∃(y:{i:Nat//i<=L.length/\(dnN s L i).x=(0:Int)}),(((EqL rwRow L L)/\(91=91/\msOf Tryz.prog 91=msOf Tryz.prog 91)/\(0=0/\0=0)/\(0=0/\0=0)/\(0
  =0/\0=0)/\(EqL rwRow L L)/\(L.length:Int)=(L.length:Int)/\(x_1.val:Int)+(1:Int)=(y.val:Int)/\True)/\(1=1/\1=1/\(0=0/\(tbN s L x_1.val).length=(tbN s L y.val).length)/\True)/\(EqL rwRow (tbN s L
  x_1.val) (tbN s L y.val))/\(1=1/\1=1/\s.k=s.k/\s.ta=s.ta/\s.row.id=s.row.id/\s.row.n.k=s.row.n.k/\s.row.n.n=s.row.n.n/\s.row.n.t=s.row.n.t/\s.row.name.k=s.row.name.k/\s.row.name.n=s.row.name.n/\
  s.row.name.t=s.row.name.t/\s.c=s.c/\(EqL ndRow s.set s.set)/\(EqL ndRow s.whr s.whr)/\s.ord=s.ord/\s.down=s.down/\True)/\(1=1/\1=1/\Value.slice none 0 0=Value.slice none 0 0/\(0:Int)=(0:Int)/\True)/\
  (1=1/\1=1/\(0=0/\(dnN s L x_1.val).q.length+1=(dnN s L y.val).q.length)/\(↑(dnN s L x_1.val).n:Int)+(1:Int)=(↑(dnN s L y.val).n:Int)/\True)/\((dnN s L x_1.val).q.length+1=(dnN s L y.val).q.length/\
  RowsEq ((dnN s L x_1.val).q.length+1) (appRow (rwRow (dnN s L x_1.val).q) (dnN s L x_1.val).q.length fun(k:Nat)=>List.take 7 (List.drop (k*7) [SS.T.int .i64 (L.getD (x_1.val:Int).toNat default).id,SS.T.int .i64 (L.getD
  (x_1.val:Int).toNat default).n.k,SS.T.int .i64 (L.getD (x_1.val:Int).toNat default).n.n,SS.T.str (L.getD (x_1.val:Int).toNat default).n.t,SS.T.int .i64 (L.getD (x_1.val:Int).toNat default).name.k,SS.T.int .i64 (L.getD
  (x_1.val:Int).toNat default).name.n,SS.T.str (L.getD (x_1.val:Int).toNat default).name.t])) (rwRow (dnN s L y.val).q))/\True)/\Lt (L.length-y.val) (L.length-x_1.val)))/\((s.k==(1:Int))=false->((s.k==(3:Int))=
  true->Lt 0 1/\∃(x_3:(Stm×Rw)),(((s.k=x_3.fst.k/\s.ta=x_3.fst.ta/\s.row.id=x_3.fst.row.id/\s.row.n.k=x_3.fst.row.n.k/\s.row.n.n=x_3.fst.row.n.n/\s.row.n.t=x_3.fst.row.n.t/\s.row.name.k=x_3.fst.row.name.k
  /\s.row.name.n=x_3.fst.row.name.n/\s.row.name.t=x_3.fst.row.name.t/\s.c=x_3.fst.c/\(EqL ndRow s.set x_3.fst.set)/\(EqL ndRow s.whr x_3.fst.whr)/\s.ord=x_3.fst.ord/\s.down=x_3.fst.down/\True)/\((L.getD
  (x_1.val:Int).toNat default).id=x_3.snd.id/\(L.getD (x_1.val:Int).toNat default).n.k=x_3.snd.n.k/\(L.getD (x_1.val:Int).toNat default).n.n=x_3.snd.n.n/\(L.getD (x_1.val:Int).toNat default).n.t=x_3.snd.n.t/\(L.getD
  (x_1.val:Int).toNat default).name.k=x_3.snd.name.k/\(L.getD (x_1.val:Int).toNat default).name.n=x_3.snd.name.n/\(L.getD (x_1.val:Int).toNat default).name.t=x_3.snd.name.t/\True)/\True)/\(NdL x_3.fst.set/\0<
  x_3.fst.set.length/\x_3.fst.set.length<=40)/\rowOKb x_3.snd=true)/\(((updZ x_3.fst x_3.snd).snd==(0:Int))=true->∃(x_4:(List Rw×Rw)),(((0=0/\0=0)/\((updZ x_3.fst x_3.snd).fst.id=x_4.snd.id/\(updZ x_3.fst
  x_3.snd).fst.n.k=x_4.snd.n.k/\(updZ x_3.fst x_3.snd).fst.n.n=x_4.snd.n.n/\(updZ x_3.fst x_3.snd).fst.n.t=x_4.snd.n.t/\(updZ x_3.fst x_3.snd).fst.name.k=x_4.snd.name.k/\(updZ x_3.fst x_3.snd).fst.name.n=x_4.snd.name.n
  /\(updZ x_3.fst x_3.snd).fst.name.t=x_4.snd.name.t/\True)/\True)/\((1=1/\1=1/\(0=0/\(tbN s L x_1.val).length=x_4.fst.length)/\True)/\(EqL rwRow (tbN s L x_1.val) x_4.fst)/\True)/\SrtI x_4.fst/\x_4.fst.length<=
  1000/\isRw x_4.fst x_4.snd.id=true)/\(false=true->Lt 0 1/\Lt 0 1/\((((0=0/\0=M.length)/\(0:Int)=(c:Int)/\True)/\(0:Int)=x/\True)/\True)/\(1=1/\1=1/\(0=0/\x_4.fst.length=T.length)/\True)/\
  (EqL rwRow (x_4.fst.set (lowN x_4.fst x_4.snd.id) x_4.snd) T)/\(0=M.length/\RowsEq 0 (fun(x:Nat)=>[]) (rwRow M))/\True)/\(false=false->Rng .i64 ((x_1.val:Int)+(1:Int))/\∃(y:
  {i:Nat//i<=L.length/\(dnN s L i).x=(0:Int)}),(((EqL rwRow L L)/\(91=91/\msOf Tryz.prog 91=msOf Tryz.prog 91)/\(0=0/\0=0)/\(0=0/\0=0)/\(0=0/\0=0)/\(EqL rwRow L L)/\(L.length:Int)=
  (L.length:Int)/\(x_1.val:Int)+(1:Int)=(y.val:Int)/\True)/\(1=1/\1=1/\(0=0/\x_4.fst.length=(tbN s L y.val).length)/\True)/\(EqL rwRow (x_4.fst.set (lowN x_4.fst x_4.snd.id) x_4.snd) (tbN s L y.val))/\(1=1/\
  1=1/\s.k=s.k/\s.ta=s.ta/\s.row.id=s.row.id/\s.row.n.k=s.row.n.k/\s.row.n.n=s.row.n.n/\s.row.n.t=s.row.n.t/\s.row.name.k=s.row.name.k/\s.row.name.n=s.row.name.n/\s.row.name.t=s.row.name.t/\s.c=s.c/\
  (EqL ndRow s.set s.set)/\(EqL ndRow s.whr s.whr)/\s.ord=s.ord/\s.down=s.down/\True)/\(1=1/\1=1/\Value.slice none 0 0=Value.slice none 0 0/\(0:Int)=(0:Int)/\True)/\(1=1/\1=1/\(0=0/\(dnN s L
  x_1.val).q.length=(dnN s L y.val).q.length)/\(↑(dnN s L x_1.val).n:Int)+(1:Int)=(↑(dnN s L y.val).n:Int)/\True)/\(EqL rwRow (dnN s L x_1.val).q (dnN s L y.val).q)/\True)/\Lt (L.length-y.val) (L.length-
  x_1.val)))/\(((updZ x_3.fst x_3.snd).snd==(0:Int))=false->(((updZ x_3.fst x_3.snd).snd !=(0:Int))=true->Lt 0 1/\Lt 0 1/\((((0=0/\0=M.length)/\(0:Int)=(c:Int)/\True)/\(updZ x_3.fst x_3.snd).snd=x/\
  True)/\True)/\(1=1/\1=1/\(0=0/\(tbN s L x_1.val).length=T.length)/\True)/\(EqL rwRow (tbN s L x_1.val) T)/\(0=M.length/\RowsEq 0 (fun(x:Nat)=>[]) (rwRow M))/\True)/\(((updZ x_3.fst x_3.snd).snd !=(0:
  Int))=false->Rng .i64 ((x_1.val:Int)+(1:Int))/\∃(y:{i:Nat//i<=L.length/\(dnN s L i).x=(0:Int)}),(((EqL rwRow L L)/\(91=91/\msOf Tryz.prog 91=msOf Tryz.prog 91)/\(0=0/\0=0)/\(0=0/\0=0)/\(0
  =0/\0=0)/\(EqL rwRow L L)/\(L.length:Int)=(L.length:Int)/\(x_1.val:Int)+(1:Int)=(y.val:Int)/\True)/\(1=1/\1=1/\(0=0/\(tbN s L x_1.val).length=(tbN s L y.val).length)/\True)/\(EqL rwRow (tbN s L
  x_1.val) (tbN s L y.val))/\(1=1/\1=1/\s.k=s.k/\s.ta=s.ta/\s.row.id=s.row.id/\s.row.n.k=s.row.n.k/\s.row.n.n=s.row.n.n/\s.row.n.t=s.row.n.t/\s.row.name.k=s.row.name.k/\s.row.name.n=s.row.name.n/\
  s.row.name.t=s.row.name.t/\s.c=s.c/\(EqL ndRow s.set s.set)/\(EqL ndRow s.whr s.whr)/\s.ord=s.ord/\s.down=s.down/\True)/\(1=1/\1=1/\Value.slice none 0 0=Value.slice none 0 0/\(0:Int)=(0:Int)/\True)/\
  (1=1/\1=1/\(0=0/\(dnN s L x_1.val).q.length=(dnN s L y.val).q.length)/\(↑(dnN s L x_1.val).n:Int)+(1:Int)=(↑(dnN s L y.val).n:Int)/\True)/\(EqL rwRow (dnN s L x_1.val).q (dnN s L y.val).q)/\True)/\Lt
  (L.length-y.val) (L.length-x_1.val))))/\((s.k==(3:Int))=false->∃(x_3:(List Rw×Rw)),(((0=0/\0=0)/\((L.getD (x_1.val:Int).toNat default).id=x_3.snd.id/\(L.getD (x_1.val:Int).toNat default).n.k=
  x_3.snd.n.k/\(L.getD (x_1.val:Int).toNat default).n.n=x_3.snd.n.n/\(L.getD (x_1.val:Int).toNat default).n.t=x_3.snd.n.t/\(L.getD (x_1.val:Int).toNat default).name.k=x_3.snd.name.k/\(L.getD (x_1.val:Int).toNat
  default).name.n=x_3.snd.name.n/\(L.getD (x_1.val:Int).toNat default).name.t=x_3.snd.name.t/\True)/\True)/\((1=1/\1=1/\(0=0/\(tbN s L x_1.val).length=x_3.fst.length)/\True)/\(EqL rwRow (tbN s L x_1.val)
  x_3.fst)/\True)/\SrtI x_3.fst/\x_3.fst.length<=1000/\isRw x_3.fst x_3.snd.id=true)/\(false=true->Lt 0 1/\Lt 0 1/\((((0=0/\0=M.length)/\(0:Int)=(c:Int)/\True)/\(0:Int)=x/\True)/\True)/\(1=1/\1=1
  /\(0=0/\(cutL x_3.fst (lowN x_3.fst x_3.snd.id)).length=T.length)/\True)/\(EqL rwRow (cutL x_3.fst (lowN x_3.fst x_3.snd.id)) T)/\(0=M.length/\RowsEq 0 (fun(x:Nat)=>[]) (rwRow M))/\True)/\(false=false->Rng
  .i64 ((x_1.val:Int)+(1:Int))/\∃(y:{i:Nat//i<=L.length/\(dnN s L i).x=(0:Int)}),(((EqL rwRow L L)/\(91=91/\msOf Tryz.prog 91=msOf Tryz.prog 91)/\(0=0/\0=0)/\(0=0/\0=0)/\(0=0/\0=0)/\(EqL
  rwRow L L)/\(L.length:Int)=(L.length:Int)/\(x_1.val:Int)+(1:Int)=(y.val:Int)/\True)/\(1=1/\1=1/\(0=0/\(cutL x_3.fst (lowN x_3.fst x_3.snd.id)).length=(tbN s L y.val).length)/\True)/\(EqL rwRow (cutL
  x_3.fst (lowN x_3.fst x_3.snd.id)) (tbN s L y.val))/\(1=1/\1=1/\s.k=s.k/\s.ta=s.ta/\s.row.id=s.row.id/\s.row.n.k=s.row.n.k/\s.row.n.n=s.row.n.n/\s.row.n.t=s.row.n.t/\s.row.name.k=s.row.name.k/\
  s.row.name.n=s.row.name.n/\s.row.name.t=s.row.name.t/\s.c=s.c/\(EqL ndRow s.set s.set)/\(EqL ndRow s.whr s.whr)/\s.ord=s.ord/\s.down=s.down/\True)/\(1=1/\1=1/\Value.slice none 0 0=Value.slice none 0 0/\
  (0:Int)=(0:Int)/\True)/\(1=1/\1=1/\(0=0/\(dnN s L x_1.val).q.length=(dnN s L y.val).q.length)/\(↑(dnN s L x_1.val).n:Int)+(1:Int)=(↑(dnN s L y.val).n:Int)/\True)/\(EqL rwRow (dnN s L x_1.val).q (dnN
  s L y.val).q)/\True)/\Lt (L.length-y.val) (L.length-x_1.val)))))))/\(decide ((x_1.val:Int)<(L.length:Int))=false->Lt 0 1/\Lt 0 1/\Lt 0 1/\∃(x_2:(List Rw×Int×Bool)),(Le (0+(dnN s L x_1.val).q.length) (dnN s
  L x_1.val).q.length/\((EqL rwRow (dnN s L x_1.val).q x_2.fst)/\s.ord=x_2.snd.fst/\s.down=x_2.snd.snd/\True)/\x_2.fst.length<=1048576/\DisI x_2.fst/\(0:Int)<=x_2.snd.fst/\x_2.snd.fst<=(2:Int))/\Lt 0 1/\Lt 0 1/\
  Lt 0 1/\Lt 0 1/\((((0=0/\x_2.fst.length=M.length)/\(↑(dnN s L x_1.val).n:Int)=(c:Int)/\True)/\(0:Int)=x/\True)/\True)/\(1=1/\1=1/\(0=0/\(tbN s L x_1.val).length=T.length)/\True)/\(EqL rwRow (tbN s
  L x_1.val) T)/\(EqL rwRow (srtR x_2.snd.fst x_2.snd.snd x_2.fst x_2.fst.length) M)/\True)):
  EffFn Tryz.prog 54 [.agg s.ts,rwS L,doT 0] [tabB 1 L.length,rwsA L] (.tup [.agg [.osl 2 0 M.length,.int .i64 c],.int .i64 x]) [tabB 1 T.length,rwsA T,rwsA M]:=
 vcG (code:=b_each) (gC means_ok call_means (gC updat_ok call_updat (gC tPutS_ok call_tPutS (gC tDrop_ok call_tDrop (gC sortRw_ok call_sortRw gN))))) Tryz.func54 (by kernel_rfl) (by kernel_rfl) (A_each s L) [[.box 0,.arr 1,.nilS 0 [0,0] 0 7,.vl 0 [0,0]],[.box 0,.arr 1,.vl 0 [0,0]]] h (by kernel_rfl)
theorem er_x{s:Stm}{L:List Rw}{i:Nat}{e:Int}(hi:i<L.length)(h0:(dnN s L i).x=0)(hx:dnN s L (i+1)={dnN s L i with x:=e})(he:e≠0):ansR s L=[]/\ansN s L=0/\tbN s L L.length=tbN s L i/\(dnN s L L.length).x=e:=by
 have h1:(dnN s L (i+1)).x≠0:=by rw[hx];exact he
 obtain⟨f1,f2⟩:=dn_far h1 (n:=L.length) (by omega)
 have hxx:(dnN s L L.length).x=e:=by rw[f1,hx]
 have hj:dnJ s L (i+1)=dnJ s L i:=by
  show(if(dnN s L (i+1)).x≠0 then dnJ s L i else dnJ s L i+1)=_
  rw[if_pos h1]
 refine⟨?_,?_,?_,hxx⟩
 ·rw[ansR,if_pos (by rw[hxx];exact he)]
 ·rw[ansN,if_pos (by rw[hxx];exact he)]
 ·unfold tbN;rw[f1,f2,hj,hx]
theorem dis_pw{Q:List Rw}(h:Q.Pairwise fun a b=>a.id<b.id):DisI Q:=fun a b ha hb e=>by
 obtain⟨i,hi,rfl⟩:=List.getElem_of_mem ha;obtain⟨j,hj,rfl⟩:=List.getElem_of_mem hb;rw[List.pairwise_iff_getElem] at h;rcases Nat.lt_trichotomy i j with h1|h1|h1
 ·have:=h i j hi hj h1;omega
 ·subst h1;rfl
 ·have:=h j i hj hi h1;omega
theorem cons_app{O D:List Rw}{r:Rw}:O++r::D=(O++[r])++D:=by rw[List.append_assoc];rfl
theorem each_ok:ConOk Tryz.prog 54 k_each:=by
 rintro⟨s,L⟩ ⟨hE,hU,hS,hR,hL,ho0,ho2⟩;dsimp only at hE hU hS hR hL ho0 ho2;refine v_each s L (ansR s L) (tbN s L L.length) (ansN s L) (dnN s L L.length).x ⟨⟨⟨0,Nat.zero_le _,rfl⟩,(by repeat' first|exact rfl|exact trivial|exact rowsR _ _|exact(fun i hi=>absurd hi (Nat.not_lt_zero _))|exact Int.natCast_add _ _|apply And.intro)⟩,fun x=>⟨fun hc=> ?_,fun hc=> ?_⟩⟩
 ·obtain⟨i,hi,h0⟩:=x;have hlt:i<L.length:=lt_of_dec hc;clear hc;dsimp only;rw[Int.toNat_natCast];have hr:=hR i hlt;have hds:=dn_suc s L i;obtain⟨hT,hTs,hTl,hlow,his⟩:=tb_at (s:=s) hS hR hlt h0;have hput:=fun(r:Rw) (h:r.id=(L.getD i default).id)=>tb_put (s:=s) hS hR hlt h0 h
  have hcut:=tb_cut (s:=s) hS hR hlt h0;obtain⟨_,_,_,_,pO,pQ,pN⟩:=dn_P (s:=s) hS hR i hi;have her:=fun(e:Int)=>er_x (s:=s) (e:=e) hlt h0
  have hnx:=fun h=>tb_next (s:=s) (L:=L) (i:=i) h
  generalize hrr:L.getD i default=r at*;refine⟨inB_nat hlt,Nat.zero_lt_one,(s,r),⟨⟨⟨rfl,rfl,rfl,rfl,rfl,rfl,rfl,rfl,rfl,rfl,⟨rfl,rowsR _ _⟩,⟨rfl,rowsR _ _⟩,rfl,rfl,trivial⟩,⟨rfl,rfl,rfl,rfl,rfl,rfl,rfl,trivial⟩,trivial⟩,hE,hr⟩,fun h1=> ?_,fun h1=>⟨fun h2=> ?_,fun h2=>⟨Nat.zero_lt_one,i64_rng (by omega),Nat.zero_lt_one,Nat.zero_lt_one,fun h3=> ?_,fun h3=>⟨fun h4=> ?_,fun h4=> ?_⟩⟩⟩⟩
  ·have h1:(mea s r).2≠0:=by simpa using h1
   obtain⟨r1,r2,r3,r4⟩:=her _ (by rw[hds,dnS,if_neg (fun h=>h h0),if_pos h1]) h1
   rw[r1,r2,r3,r4];exact⟨Nat.zero_lt_one,Nat.zero_lt_one,(by repeat' first|exact rfl|exact trivial|exact rowsR _ _|exact(fun i hi=>absurd hi (Nat.not_lt_zero _))|exact Int.natCast_add _ _|apply And.intro)⟩
  ·have h1:¬ (mea s r).2≠0:=by simpa using h1
   have h2:(mea s r).1=false:=by simpa using h2
   have hd:dnN s L (i+1)={dnN s L i with o:=(dnN s L i).o++[r]}:=by rw[hds,dnS,if_neg (fun h=>h h0),if_neg h1,if_pos h2]
   have hx:(dnN s L (i+1)).x=0:=by rw[hd];exact h0
   have ht:tbN s L (i+1)=tbN s L i:=by rw[hnx hx,hT,hd];exact cons_app.symm
   refine⟨add_rng hlt (by omega),⟨i+1,hlt,hx⟩,?_,by unfold Lt;dsimp only;omega⟩
   dsimp only;rw[ht,hd];exact(by repeat' first|exact rfl|exact trivial|exact rowsR _ _|exact(fun i hi=>absurd hi (Nat.not_lt_zero _))|exact Int.natCast_add _ _|apply And.intro)
  ·have h1:¬ (mea s r).2≠0:=by simpa using h1
   have h2:¬ (mea s r).1=false:=by simpa using h2
   have h3:s.k=1:=by simpa using h3
   have hd:dnN s L (i+1)=⟨(dnN s L i).o++[r],(dnN s L i).q++[r],(dnN s L i).n+1,0⟩:=by rw[hds,dnS,if_neg (fun h=>h h0),if_neg h1,if_neg h2,if_pos h3]
   have hx:(dnN s L (i+1)).x=0:=by rw[hd]
   have ht:tbN s L (i+1)=tbN s L i:=by rw[hnx hx,hT,hd];exact cons_app.symm
   refine⟨Nat.zero_lt_one,⟨Nat.le_refl _,Nat.le_refl _,by unfold AppB;omega⟩,Nat.zero_lt_one,fun h=>absurd (by simpa using h) h1,fun _=>⟨add_rng hlt (by omega),⟨i+1,hlt,hx⟩,?_,by unfold Lt;dsimp only;omega⟩⟩
   dsimp only;rw[ht,hd];exact⟨(by repeat' first|exact rfl|exact trivial|exact rowsR _ _|exact(fun i hi=>absurd hi (Nat.not_lt_zero _))|exact Int.natCast_add _ _|apply And.intro),(by repeat' first|exact rfl|exact trivial|exact rowsR _ _|exact(fun i hi=>absurd hi (Nat.not_lt_zero _))|exact Int.natCast_add _ _|apply And.intro),⟨rfl,rowsR _ _⟩,(by repeat' first|exact rfl|exact trivial|exact rowsR _ _|exact(fun i hi=>absurd hi (Nat.not_lt_zero _))|exact Int.natCast_add _ _|apply And.intro),(by repeat' first|exact rfl|exact trivial|exact rowsR _ _|exact(fun i hi=>absurd hi (Nat.not_lt_zero _))|exact Int.natCast_add _ _|apply And.intro),⟨rfl,rfl,⟨rfl,by rw[List.length_append];rfl⟩,by dsimp only;omega,trivial⟩,⟨by rw[List.length_append];rfl,app_rows Rw.ts 7 (fun _=>rfl) _ r⟩,trivial⟩
  ·have h1:¬ (mea s r).2≠0:=by simpa using h1
   have h2:¬ (mea s r).1=false:=by simpa using h2
   have h3:¬s.k=1:=by simpa using h3
   have h4:s.k=3:=by simpa using h4
   refine⟨Nat.zero_lt_one,(s,r),⟨⟨⟨rfl,rfl,rfl,rfl,rfl,rfl,rfl,rfl,rfl,rfl,⟨rfl,rowsR _ _⟩,⟨rfl,rowsR _ _⟩,rfl,rfl,trivial⟩,⟨rfl,rfl,rfl,rfl,rfl,rfl,rfl,trivial⟩,trivial⟩,hU h4,hr⟩,fun h5=> ?_,fun h5=>⟨fun h6=> ?_,fun h6=> ?_⟩⟩
   ·have h5:(updZ s r).2=0:=by simpa using h5
    have h6:¬ (upd s r).2≠0:=fun h=>by rw[updZ,if_pos h] at h5;exact h h5
    have hz:updZ s r=upd s r:=by rw[updZ,if_neg h6]
    have hid:(updZ s r).1.id=r.id:=by rw[hz];exact upd_id s r
    have hd:dnN s L (i+1)=⟨(dnN s L i).o++[(updZ s r).1],(dnN s L i).q,(dnN s L i).n+1,0⟩:=by rw[hds,dnS,if_neg (fun h=>h h0),if_neg h1,if_neg h2,if_neg h3,if_pos h4,if_neg h6,hz]
    have hx:(dnN s L (i+1)).x=0:=by rw[hd]
    have ht:tbN s L (i+1)=(tbN s L i).set (lowN (tbN s L i) (updZ s r).1.id) (updZ s r).1:=by rw[hnx hx,hput _ hid,hd];exact cons_app.symm
    refine⟨(tbN s L i,(updZ s r).1),⟨⟨⟨rfl,rfl⟩,⟨rfl,rfl,rfl,rfl,rfl,rfl,rfl,trivial⟩,trivial⟩,⟨⟨rfl,rfl,⟨rfl,rfl⟩,trivial⟩,⟨rfl,rowsR _ _⟩,trivial⟩,hTs,by dsimp only;omega,by rw[hid];exact his⟩,fun h=>(by cases h),fun _=>⟨add_rng hlt (by omega),⟨i+1,hlt,hx⟩,?_,by unfold Lt;dsimp only;omega⟩⟩
    dsimp only;rw[ht,hd];exact⟨(by repeat' first|exact rfl|exact trivial|exact rowsR _ _|exact(fun i hi=>absurd hi (Nat.not_lt_zero _))|exact Int.natCast_add _ _|apply And.intro),⟨rfl,rfl,⟨rfl,List.length_set.symm⟩,trivial⟩,(by repeat' first|exact rfl|exact trivial|exact rowsR _ _|exact(fun i hi=>absurd hi (Nat.not_lt_zero _))|exact Int.natCast_add _ _|apply And.intro)⟩
   ·have h6:(updZ s r).2≠0:=by simpa using h6
    have h7:(upd s r).2≠0:=fun h=>h6 (by rw[updZ,if_neg (fun hh=>hh h)];exact h)
    have hz:(updZ s r).2=(upd s r).2:=by rw[updZ,if_pos h7]
    obtain⟨r1,r2,r3,r4⟩:=her (upd s r).2 (by rw[hds,dnS,if_neg (fun h=>h h0),if_neg h1,if_neg h2,if_neg h3,if_pos h4,if_pos h7]) h7
    rw[r1,r2,r3,r4];exact⟨Nat.zero_lt_one,Nat.zero_lt_one,⟨⟨(by repeat' first|exact rfl|exact trivial|exact rowsR _ _|exact(fun i hi=>absurd hi (Nat.not_lt_zero _))|exact Int.natCast_add _ _|apply And.intro),hz,trivial⟩,trivial⟩,(by repeat' first|exact rfl|exact trivial|exact rowsR _ _|exact(fun i hi=>absurd hi (Nat.not_lt_zero _))|exact Int.natCast_add _ _|apply And.intro)⟩
   ·rw[beq_eq_false_iff_ne] at h5;exact absurd (by simpa using h6) h5
  ·have h1:¬ (mea s r).2≠0:=by simpa using h1
   have h2:¬ (mea s r).1=false:=by simpa using h2
   have h3:¬s.k=1:=by simpa using h3
   have h4:¬s.k=3:=by simpa using h4
   have hd:dnN s L (i+1)=⟨(dnN s L i).o,(dnN s L i).q,(dnN s L i).n+1,0⟩:=by rw[hds,dnS,if_neg (fun h=>h h0),if_neg h1,if_neg h2,if_neg h3,if_neg h4]
   have hx:(dnN s L (i+1)).x=0:=by rw[hd]
   have ht:tbN s L (i+1)=cutL (tbN s L i) (lowN (tbN s L i) r.id):=by rw[hnx hx,hcut,hd]
   refine⟨(tbN s L i,r),⟨⟨⟨rfl,rfl⟩,⟨rfl,rfl,rfl,rfl,rfl,rfl,rfl,trivial⟩,trivial⟩,⟨⟨rfl,rfl,⟨rfl,rfl⟩,trivial⟩,⟨rfl,rowsR _ _⟩,trivial⟩,hTs,by dsimp only;omega,his⟩,fun h=>(by cases h),fun _=>⟨add_rng hlt (by omega),⟨i+1,hlt,hx⟩,?_,by unfold Lt;dsimp only;omega⟩⟩
   dsimp only;rw[ht,hd];exact(by repeat' first|exact rfl|exact trivial|exact rowsR _ _|exact(fun i hi=>absurd hi (Nat.not_lt_zero _))|exact Int.natCast_add _ _|apply And.intro)
 ·obtain⟨i,hi,h0⟩:=x;have hge:=le_of_not hc;obtain rfl:i=L.length:=by dsimp only at hge;omega
  obtain⟨_,_,_,pq,_,plq,_⟩:=dn_P (s:=s) hS hR L.length (Nat.le_refl _);have r1:ansR s L=srtR s.ord s.down (dnN s L L.length).q (dnN s L L.length).q.length:=by rw[ansR,if_neg (fun h=>h h0)]
  have r2:ansN s L=(dnN s L L.length).n:=by rw[ansN,if_neg (fun h=>h h0)]
  have hl:=srt_len (c:=s.ord) (w:=s.down) (dnN s L L.length).q;dsimp only;rw[r1,r2];exact⟨Nat.zero_lt_one,Nat.zero_lt_one,Nat.zero_lt_one,((dnN s L L.length).q,s.ord,s.down),⟨Nat.le_of_eq (Nat.zero_add _),⟨⟨rfl,rowsR _ _⟩,rfl,rfl,trivial⟩,by dsimp only;omega,dis_pw pq,ho0,ho2⟩,Nat.zero_lt_one,Nat.zero_lt_one,Nat.zero_lt_one,Nat.zero_lt_one,⟨⟨⟨⟨rfl,hl.symm⟩,rfl,trivial⟩,h0.symm,trivial⟩,trivial⟩,(by repeat' first|exact rfl|exact trivial|exact rowsR _ _|exact(fun i hi=>absurd hi (Nat.not_lt_zero _))|exact Int.natCast_add _ _|apply And.intro)⟩
end Go.Proofs.YtfmngblmdghccaaGreat

namespace Go.Proofs.YtfmngblmdghccaaGreat
open Go.SS Go.RowKit

def CutOb(o o':Ob):Prop:=o=o'∨∃cl ty sz n n' row row',o= .arr cl ty sz n row/\o'= .arr cl ty sz n' row'/\n'<=n/\∀i,i<n'->row' i=row i
def CutH(H H':Heap):Prop:=H'.length=H.length/\∀k o',getOb H' k=some o'->∃o,getOb H k=some o/\CutOb o o'
theorem CutOb.blk{E:Env}{k:Nat}{o o':Ob}{b:Nat}(h:CutOb o o')(hb:Blk E k o' b):Blk E k o b:=by
 rcases h with rfl|⟨cl,ty,sz,n,n',row,row',rfl,rfl,_,_⟩
 ·exact hb
 ·exact .inl (hb.arr rfl)
theorem CutOb.ok{E:Env}{w:World}{k:Nat}{o o':Ob}(h:CutOb o o')(ho:ObOk E w k o):ObOk E w k o':=by
 rcases h with rfl|⟨cl,ty,sz,n,n',row,row',rfl,rfl,hn,hr⟩
 ·exact ho
 ·obtain⟨e1,e2,e3,e4,e5,cs,tyb,e6,e7,e8⟩:=(show ArrOk E w k ⟨cl,ty,sz,n,row⟩ from ho)
  dsimp only at e1 e2 e3 e4 e5 e7 e8;refine(show ArrOk E w k ⟨cl,ty,sz,n',row'⟩ from⟨e1,Nat.le_trans hn e2,fun i hi=> ?_,fun i t hi ht=> ?_,fun hc i t hi ht=> ?_,cs,tyb,e6,e7,fun i j t hi hj=> ?_⟩)
  ·have hi:i<n':=hi;show(row' i).length=sz;rw[hr i hi];exact e3 i (by omega)
  ·have hi:i<n':=hi;have ht:t ∈ row' i:=ht;rw[hr i hi] at ht;exact e4 i t (by omega) ht
  ·have hi:i<n':=hi;have ht:t ∈ row' i:=ht;rw[hr i hi] at ht;exact e5 hc i t (by omega) ht
  ·have hi:i<n':=hi;have hj:(row' i)[j]? =some t:=hj;rw[hr i hi] at hj;exact e8 i j t (by omega) hj
theorem eff_cut{P:Program}{f:FuncId}{args:List T}{H H1 H2:Heap}{res:T}(h:EffFn P f args H res H1)(hc:CutH H1 H2):EffFn P f args H res H2:=by
 intro E w vs hH hN hr;refine(h E w vs hH hN hr).mono ?_
 rintro e w' ⟨v,E',rfl,hI,hs,hr'⟩;refine⟨v,E',rfl,⟨⟨fun k o hk=> ?_,fun k k' o o' b hk hk' hb hb'=> ?_,fun k hk=>by rw[hc.1];exact hI.heap.lt k hk,hI.heap.l2,fun k o v hk hv=> ?_⟩,hI.nlt,hI.nnew,fun k o b hk hb=> ?_,hI.fr,hI.keep⟩,hs,hr'⟩
 ·obtain⟨o0,h0,hcut⟩:=hc.2 k o hk;obtain⟨a1,a2,a3⟩:=hI.heap.live k o0 h0;exact⟨a1,hcut.ok a2,fun b hb=>a3 b (hcut.blk hb)⟩
 ·obtain⟨o0,h0,hcut⟩:=hc.2 k o hk;obtain⟨o1,h1,hcut'⟩:=hc.2 k' o' hk';exact hI.heap.inj k k' o0 o1 b h0 h1 (hcut.blk hb) (hcut'.blk hb')
 ·obtain⟨o0,h0,hcut⟩:=hc.2 k o hk;obtain⟨v0,ty,sz,n,row,rfl,hle⟩:=hI.heap.cur k o0 v h0 hv;rcases hcut with rfl|⟨_,_,_,_,_,_,_,e,_⟩
  ·exact⟨v0,ty,sz,n,row,rfl,hle⟩
  ·cases e
 ·obtain⟨o0,h0,hcut⟩:=hc.2 k o hk;exact hI.bnew k o0 b h0 (hcut.blk hb)
end Go.Proofs.YtfmngblmdghccaaGreat

namespace Go.Proofs.YtfmngblmdghccaaGreat
set_option maxRecDepth 100000
open Go.SS Go.RowKit

def stkB(k n:Nat):Option Ob:=some (.arr false 0 1 1 fun _=>[.osl k 0 n])
def k_pop:Con:=.reff ⟨List Pt×Int,fun x=>[.int .i64 x.2,.ref 0 0 0],fun x=>[stkB 1 x.1.length,ptA x.1],fun x=>.tup [.int .i64 (popD x.1 x.2),.bool (popB x.1 x.2)],fun x=>[stkB 1 (popL x.1 x.2).length,ptA (popL x.1 x.2)],fun x=>x.1.length<=1000⟩
noncomputable def b_pop:Code:=Tryz.f92.body.getD .skip
theorem call_pop:Callable Tryz.prog 92:=⟨_,Tryz.func92,by kernel_rfl,by kernel_rfl⟩
theorem v_pop(S:List Pt)(w:Int)(h:
  Lt 0 1/\Rng .i64 ((S.length:Int)- (1:Int))/\(decide ((S.length:Int)- (1:Int)<(0:Int))=false->Lt 0 1)/\(decide ((S.length:Int)- (1:Int)<(0:Int))=false->InB ((S.length:Int)- (1:Int)) S.length)/\(decide
  ((S.length:Int)- (1:Int)<(0:Int))=false->Lt (0+((S.length:Int)- (1:Int)).toNat) S.length)/\((decide ((S.length:Int)- (1:Int)<(0:Int))||(S.getD (0+((S.length:Int)- (1:Int)).toNat) default).p !=w)=
  true->(((0:Int)=popD S w/\false=popB S w/\True)/\True)/\(1=1/\1=1/\(0=0/\S.length=(popL S w).length)/\True)/\(EqL ptRow S S)/\True)/\((decide ((S.length:Int)- (1:Int)<(0:Int))||(S.getD (0+
  ((S.length:Int)- (1:Int)).toNat) default).p !=w)=false->Lt 0 1/\InB ((S.length:Int)- (1:Int)) S.length/\Lt (0+((S.length:Int)- (1:Int)).toNat) S.length/\Lt 0 1/\InC ((S.length:Int)- (1:Int)) S.length/\Lt 0 1
  /\(((S.getD (0+((S.length:Int)- (1:Int)).toNat) default).d=popD S w/\true=popB S w/\True)/\True)/\(1=1/\1=1/\(0=0/\((S.length:Int)- (1:Int)).toNat=(popL S w).length)/\True)/\(EqL ptRow S S)/\True)):
  EffFn Tryz.prog 92 [.int .i64 w,.ref 0 0 0] [stkB 1 S.length,ptA S] (.tup [.int .i64 (popD S w),.bool (popB S w)]) [stkB 1 (popL S w).length,ptA S]:=
 vcG (code:=b_pop) gN Tryz.func92 (by kernel_rfl) (by kernel_rfl) noAnn [[.box 0,.arr 1]] h (by kernel_rfl)
theorem cut_pop{S:List Pt}{w:Int}{b:Option Ob}:CutH [b,ptA S] [b,ptA (popL S w)]:=by
 refine⟨rfl,fun k o' hk=> ?_⟩
 match k,hk with
 |0,hk=>exact⟨o',hk,.inl rfl⟩
 |1,hk=>
  obtain rfl:Ob.arr true 0 2 (popL S w).length (ptRow (popL S w))=o':=Option.some.inj hk;refine⟨_,rfl,.inr ⟨_,_,_,_,_,_,_,rfl,rfl,?_,fun i hi=> ?_⟩⟩
  ·unfold popL;split
   ·rw[List.length_take];omega
   ·exact Nat.le_refl _
  ·unfold popL at hi ⊢;split
   ·rename_i h;rw[if_pos h,List.length_take] at hi;unfold ptRow;rw[List.getD_eq_getElem?_getD,List.getElem?_take_of_lt (by omega),←List.getD_eq_getElem?_getD]
   ·rfl
 |k+2,hk=>simp[getOb] at hk
theorem pop_ok:ConOk Tryz.prog 92 k_pop:=by
 rintro⟨S,w⟩ (hS:S.length<=1000);dsimp only;refine eff_cut (v_pop S w ?_) cut_pop
 have hcond:∀b:Bool,(decide ((S.length:Int)-1<0)||(S.getD (0+((S.length:Int)-1).toNat) default).p !=w)=b->popB S w= !b:=fun b hb=>by
  rw[←hb,show 0+((S.length:Int)-1).toNat=S.length-1 by omega]
  unfold popB;rw[Bool.not_or,show(!((S.getD (S.length-1) default).p !=w))=((S.getD (S.length-1) default).p==w) from Bool.not_not _]
  congr 1
  rw[←decide_not];exact decide_eq_decide.2 (by omega)
 refine⟨Nat.zero_lt_one,i64_rng (by omega),fun _=>Nat.zero_lt_one,fun h=> ?_,fun h=> ?_,fun h=> ?_,fun h=> ?_⟩
 ·have:=of_decide_eq_false h;exact⟨by omega,by omega⟩
 ·have:=of_decide_eq_false h;unfold Lt;omega
 ·have hb:popB S w=false:=hcond _ h;have h1:popL S w=S:=by unfold popL;rw[if_neg (by rw[hb];decide)]
  have h2:popD S w=0:=by unfold popD;rw[if_neg (by rw[hb];decide)]
  rw[h1,h2,hb];exact⟨⟨⟨rfl,rfl,trivial⟩,trivial⟩,⟨rfl,rfl,⟨rfl,rfl⟩,trivial⟩,⟨rfl,rowsR _ _⟩,trivial⟩
 ·have hb:popB S w=true:=hcond _ h;have h0:0<S.length:=by
   have hb2:=hb;unfold popB at hb2;rw[Bool.and_eq_true] at hb2;exact of_decide_eq_true hb2.1
  have h1:(popL S w).length=S.length-1:=by unfold popL;rw[if_pos hb,List.length_take];omega
  have h2:popD S w=(S.getD (S.length-1) default).d:=by unfold popD;rw[if_pos hb]
  have e:0+((S.length:Int)-1).toNat=S.length-1:=by omega
  rw[h1,h2,hb,e];exact⟨Nat.zero_lt_one,⟨by omega,by omega⟩,by unfold Lt;omega,Nat.zero_lt_one,⟨by omega,by omega⟩,Nat.zero_lt_one,⟨⟨rfl,rfl,trivial⟩,trivial⟩,⟨rfl,rfl,⟨rfl,by omega⟩,trivial⟩,⟨rfl,rowsR _ _⟩,trivial⟩
def k_depthOf:Con:=.rel ⟨List Nd,fun L=>[ndS L],fun L=>.int .i64 (dpO L),fun L=>L.length<=1000/\∀i,i<L.length->StB (L.getD i default).v.t⟩
def StkI(L:List Nd):Type:={x:Nat×List Pt//x.1<=L.length/\dpN L x.1=some x.2}
def A_depthOf(L:List Nd):Nat->Ann
 |0=>.one (StkI L) (fun x=>⟨[(3,.ref 0 0 0),(4,.fn (.func 92) [.ref 0 0 0]),(15,ndS L),(16,.int .i64 L.length),(17,.int .i64 x.1.1)],[stkB 1 x.1.2.length,ptA x.1.2]⟩) (fun x=>L.length-x.1.1) [.box 1,.arr 0] [.box 0,.cel 0 0] (fun _=>noAnn)
 |_=>.none
noncomputable def b_depthOf:Code:=Tryz.f74.body.getD .skip
theorem call_depthOf:Callable Tryz.prog 74:=⟨_,Tryz.func74,by kernel_rfl,by kernel_rfl⟩
theorem v_depthOf(L:List Nd)(Z:Int)(h:
  (∃(x:StkI L),((0=0/\0=0)/\(Fn.func 92=Fn.func 92/\(0=0/\0=0)/\True)/\(EqL ndRow L L)/\(L.length:Int)=(L.length:Int)/\(0:Int)=(x.val.fst:Int)/\True)/\(1=1/\1=1/\(0=0/\0=x.val.snd.length)/\
  True)/\(0=x.val.snd.length/\RowsEq 0 (fun(k:Nat)=>List.take 2 (List.drop (k*2) [])) (ptRow x.val.snd))/\True)/\∀(x:StkI L),(decide ((x.val.fst:Int)<(L.length:Int))=true->InB (x.val.fst:Int) L.length/\
  (((L.getD (x.val.fst:Int).toNat default).op==(1:Int))=true->∃(x_1:r_ValueOK.ι),(((L.getD (x.val.fst:Int).toNat default).a==(0:Int)&&(L.getD (x.val.fst:Int).toNat default).b==(0:Int)&&(L.getD
  (x.val.fst:Int).toNat default).c==(0:Int))=true->(((L.getD (x.val.fst:Int).toNat default).v.k=x_1.k/\(L.getD (x.val.fst:Int).toNat default).v.n=x_1.n/\(L.getD (x.val.fst:Int).toNat default).v.t=x_1.t/\True)/\True)
  /\StB x_1.t)/\((!((L.getD (x.val.fst:Int).toNat default).a==(0:Int)&&(L.getD (x.val.fst:Int).toNat default).b==(0:Int)&&(L.getD (x.val.fst:Int).toNat default).c==(0:Int)&&valOK x_1))=true->(0:Int)=Z)/\
  ((!((L.getD (x.val.fst:Int).toNat default).a==(0:Int)&&(L.getD (x.val.fst:Int).toNat default).b==(0:Int)&&(L.getD (x.val.fst:Int).toNat default).c==(0:Int)&&valOK x_1))=false->Lt 0 1/\Rng .i64 (1:Int)/\(Le
  1 1/\Le x.val.snd.length x.val.snd.length/\AppB x.val.snd.length 1 16)/\Lt 0 1/\Rng .i64 ((x.val.fst:Int)+(1:Int))/\∃(y:StkI L),(((0=0/\0=0)/\(Fn.func 92=Fn.func 92/\(0=0/\0=0)/\True)/\(EqL ndRow L L)
  /\(L.length:Int)=(L.length:Int)/\(x.val.fst:Int)+(1:Int)=(y.val.fst:Int)/\True)/\(1=1/\1=1/\(0=0/\x.val.snd.length+1=y.val.snd.length)/\True)/\(x.val.snd.length+1=y.val.snd.length/\RowsEq
  (x.val.snd.length+1) (appRow (ptRow x.val.snd) x.val.snd.length fun(k:Nat)=>List.take 2 (List.drop (k*2) [T.int .i64 (x.val.fst:Int),T.int .i64 (1:Int)])) (ptRow y.val.snd))/\True)/\Lt (L.length-y.val.fst)
  (L.length-x.val.fst)))/\(((L.getD (x.val.fst:Int).toNat default).op==(1:Int))=false->(((L.getD (x.val.fst:Int).toNat default).op==(2:Int))=true->(((L.getD (x.val.fst:Int).toNat default).a==(0:Int)&&(L.getD
  (x.val.fst:Int).toNat default).b==(0:Int))=true->Small (3:Int))/\((!((L.getD (x.val.fst:Int).toNat default).a==(0:Int)&&(L.getD (x.val.fst:Int).toNat default).b==(0:Int)&&(decide ((0:Int)<=(L.getD
  (x.val.fst:Int).toNat default).c)&&decide ((L.getD (x.val.fst:Int).toNat default).c<(3:Int)))&&((L.getD (x.val.fst:Int).toNat default).v.k==(0:Int)&&((L.getD (x.val.fst:Int).toNat default).v.n==(0:Int)&&
  ((L.getD (x.val.fst:Int).toNat default).v.t==[]&&true)))))=true->(0:Int)=Z)/\((!((L.getD (x.val.fst:Int).toNat default).a==(0:Int)&&(L.getD (x.val.fst:Int).toNat default).b==(0:Int)&&(decide ((0:Int)<=
  (L.getD (x.val.fst:Int).toNat default).c)&&decide ((L.getD (x.val.fst:Int).toNat default).c<(3:Int)))&&((L.getD (x.val.fst:Int).toNat default).v.k==(0:Int)&&((L.getD (x.val.fst:Int).toNat default).v.n==(0:Int)&&
  ((L.getD (x.val.fst:Int).toNat default).v.t==[]&&true)))))=false->Lt 0 1/\Rng .i64 (1:Int)/\(Le 1 1/\Le x.val.snd.length x.val.snd.length/\AppB x.val.snd.length 1 16)/\Lt 0 1/\Rng .i64 ((x.val.fst:Int)+(1:Int))
  /\∃(y:StkI L),(((0=0/\0=0)/\(Fn.func 92=Fn.func 92/\(0=0/\0=0)/\True)/\(EqL ndRow L L)/\(L.length:Int)=(L.length:Int)/\(x.val.fst:Int)+(1:Int)=(y.val.fst:Int)/\True)/\(1=1/\1=1/\(0=0/\
  x.val.snd.length+1=y.val.snd.length)/\True)/\(x.val.snd.length+1=y.val.snd.length/\RowsEq (x.val.snd.length+1) (appRow (ptRow x.val.snd) x.val.snd.length fun(k:Nat)=>List.take 2 (List.drop (k*2) [T.int .i64
  (x.val.fst:Int),T.int .i64 (1:Int)])) (ptRow y.val.snd))/\True)/\Lt (L.length-y.val.fst) (L.length-x.val.fst)))/\(((L.getD (x.val.fst:Int).toNat default).op==(2:Int))=false->∃(x_1:Int),(((L.getD
  (x.val.fst:Int).toNat default).op=x_1/\True)/\True)/\(inR x_1 (3:Int) (5:Int)=true->∃(x_2:(List Pt×Int)),(((L.getD (x.val.fst:Int).toNat default).a=x_2.snd/\(0=0/\0=0)/\True)/\((1=1/\1=1/\(0=0/\
  x.val.snd.length=x_2.fst.length)/\True)/\(EqL ptRow x.val.snd x_2.fst)/\True)/\x_2.fst.length<=1000)/\((!(popB x_2.fst x_2.snd&&(L.getD (x.val.fst:Int).toNat default).b==(0:Int)&&(L.getD (x.val.fst:Int).toNat
  default).c==(0:Int)&&((L.getD (x.val.fst:Int).toNat default).v.k==(0:Int)&&((L.getD (x.val.fst:Int).toNat default).v.n==(0:Int)&&((L.getD (x.val.fst:Int).toNat default).v.t==[]&&true)))))=true->(0:Int)=
  Z)/\((!(popB x_2.fst x_2.snd&&(L.getD (x.val.fst:Int).toNat default).b==(0:Int)&&(L.getD (x.val.fst:Int).toNat default).c==(0:Int)&&((L.getD (x.val.fst:Int).toNat default).v.k==(0:Int)&&((L.getD
  (x.val.fst:Int).toNat default).v.n==(0:Int)&&((L.getD (x.val.fst:Int).toNat default).v.t==[]&&true)))))=false->Lt 0 1/\Rng .i64 (popD x_2.fst x_2.snd+(1:Int))/\(Le 1 1/\Le (popL x_2.fst x_2.snd).length (popL
  x_2.fst x_2.snd).length/\AppB (popL x_2.fst x_2.snd).length 1 16)/\Lt 0 1/\Rng .i64 ((x.val.fst:Int)+(1:Int))/\∃(y:StkI L),(((0=0/\0=0)/\(Fn.func 92=Fn.func 92/\(0=0/\0=0)/\True)/\(EqL ndRow L L)/\
  (L.length:Int)=(L.length:Int)/\(x.val.fst:Int)+(1:Int)=(y.val.fst:Int)/\True)/\(1=1/\1=1/\(0=0/\(popL x_2.fst x_2.snd).length+1=y.val.snd.length)/\True)/\((popL x_2.fst x_2.snd).length+1=
  y.val.snd.length/\RowsEq ((popL x_2.fst x_2.snd).length+1) (appRow (ptRow (popL x_2.fst x_2.snd)) (popL x_2.fst x_2.snd).length fun(k:Nat)=>List.take 2 (List.drop (k*2) [T.int .i64 (x.val.fst:Int),T.int .i64 (popD
  x_2.fst x_2.snd+(1:Int))])) (ptRow y.val.snd))/\True)/\Lt (L.length-y.val.fst) (L.length-x.val.fst)))/\(inR x_1 (3:Int) (5:Int)=false->∃(x_2:Int),(((L.getD (x.val.fst:Int).toNat default).op=x_2/\True)/\
  True)/\(inR x_2 (6:Int) (13:Int)=true->∃(x_3:(List Pt×Int)),(((L.getD (x.val.fst:Int).toNat default).b=x_3.snd/\(0=0/\0=0)/\True)/\((1=1/\1=1/\(0=0/\x.val.snd.length=x_3.fst.length)/\True)/\
  (EqL ptRow x.val.snd x_3.fst)/\True)/\x_3.fst.length<=1000)/\∃(x_4:(List Pt×Int)),(((L.getD (x.val.fst:Int).toNat default).a=x_4.snd/\(0=0/\0=0)/\True)/\((1=1/\1=1/\(0=0/\(popL x_3.fst x_3.snd).length
  =x_4.fst.length)/\True)/\(EqL ptRow (popL x_3.fst x_3.snd) x_4.fst)/\True)/\x_4.fst.length<=1000)/\((!(popB x_3.fst x_3.snd&&popB x_4.fst x_4.snd&&(L.getD (x.val.fst:Int).toNat default).c==(0:Int)&&((L.getD
  (x.val.fst:Int).toNat default).v.k==(0:Int)&&((L.getD (x.val.fst:Int).toNat default).v.n==(0:Int)&&((L.getD (x.val.fst:Int).toNat default).v.t==[]&&true)))))=true->(0:Int)=Z)/\((!(popB x_3.fst x_3.snd&&
  popB x_4.fst x_4.snd&&(L.getD (x.val.fst:Int).toNat default).c==(0:Int)&&((L.getD (x.val.fst:Int).toNat default).v.k==(0:Int)&&((L.getD (x.val.fst:Int).toNat default).v.n==(0:Int)&&((L.getD
  (x.val.fst:Int).toNat default).v.t==[]&&true)))))=false->Lt 0 1/\Rng .i64 ((if popD x_3.fst x_3.snd>popD x_4.fst x_4.snd then popD x_3.fst x_3.snd else popD x_4.fst x_4.snd)+(1:Int))/\(Le 1 1/\Le (popL x_4.fst
  x_4.snd).length (popL x_4.fst x_4.snd).length/\AppB (popL x_4.fst x_4.snd).length 1 16)/\Lt 0 1/\Rng .i64 ((x.val.fst:Int)+(1:Int))/\∃(y:StkI L),(((0=0/\0=0)/\(Fn.func 92=Fn.func 92/\(0=0/\0=0)/\True)/\
  (EqL ndRow L L)/\(L.length:Int)=(L.length:Int)/\(x.val.fst:Int)+(1:Int)=(y.val.fst:Int)/\True)/\(1=1/\1=1/\(0=0/\(popL x_4.fst x_4.snd).length+1=y.val.snd.length)/\True)/\((popL x_4.fst x_4.snd).length+
  1=y.val.snd.length/\RowsEq ((popL x_4.fst x_4.snd).length+1) (appRow (ptRow (popL x_4.fst x_4.snd)) (popL x_4.fst x_4.snd).length fun(k:Nat)=>List.take 2 (List.drop (k*2) [T.int .i64 (x.val.fst:Int),T.int .i64 ((if
  popD x_3.fst x_3.snd>popD x_4.fst x_4.snd then popD x_3.fst x_3.snd else popD x_4.fst x_4.snd)+(1:Int))])) (ptRow y.val.snd))/\True)/\Lt (L.length-y.val.fst) (L.length-x.val.fst)))/\(inR x_2 (6:Int) (13:Int)=
  false->(true=true->(0:Int)=Z)/\(true=false->Lt 0 1/\Rng .i64 (1:Int)/\(Le 1 1/\Le x.val.snd.length x.val.snd.length/\AppB x.val.snd.length 1 16)/\Lt 0 1/\Rng .i64 ((x.val.fst:Int)+(1:Int))/\∃(y:StkI L),
  (((0=0/\0=0)/\(Fn.func 92=Fn.func 92/\(0=0/\0=0)/\True)/\(EqL ndRow L L)/\(L.length:Int)=(L.length:Int)/\(x.val.fst:Int)+(1:Int)=(y.val.fst:Int)/\True)/\(1=1/\1=1/\(0=0/\x.val.snd.length+1=
  y.val.snd.length)/\True)/\(x.val.snd.length+1=y.val.snd.length/\RowsEq (x.val.snd.length+1) (appRow (ptRow x.val.snd) x.val.snd.length fun(k:Nat)=>List.take 2 (List.drop (k*2) [T.int .i64 (x.val.fst:Int),T.int
  .i64 (1:Int)])) (ptRow y.val.snd))/\True)/\Lt (L.length-y.val.fst) (L.length-x.val.fst)))))))/\(decide ((x.val.fst:Int)<(L.length:Int))=false->Lt 0 1/\(((x.val.snd.length:Int) !=(1:Int))=true->(0:Int)=Z)/\
  (((x.val.snd.length:Int) !=(1:Int))=false->Lt 0 1/\InB (0:Int) x.val.snd.length/\Lt 0 x.val.snd.length/\(x.val.snd.getD 0 default).d=Z))):
  PureFn Tryz.prog 74 [ndS L] (.int .i64 Z):=
 vcR (code:=b_depthOf) (gC pop_ok call_pop (gC ValueOKi_ok call_ValueOKi (gC isPlace_ok call_isPlace (gC isUn_ok call_isUn (gC isBi_ok call_isBi gN))))) Tryz.func74 (by kernel_rfl) (by kernel_rfl) (A_depthOf L) h (by kernel_rfl)
def StkD(S:List Pt)(n:Int):Prop:=∀x,x ∈ S->0<=x.d/\x.d<=n
theorem popL_sub{S:List Pt}{w:Int}{x:Pt}(h:x ∈ popL S w):x ∈ S:=by
 unfold popL at h;split at h
 ·exact List.mem_of_mem_take h
 ·exact h
theorem popL_le(S:List Pt)(w:Int):(popL S w).length<=S.length:=by
 unfold popL;split
 ·rw[List.length_take];omega
 ·exact Nat.le_refl _
theorem popD_bd{S:List Pt}{w n:Int}(hn:0<=n)(h:StkD S n):0<=popD S w/\popD S w<=n:=by
 unfold popD;split
 ·rename_i hb;have h0:0<S.length:=by
   unfold popB at hb;rw[Bool.and_eq_true] at hb;exact of_decide_eq_true hb.1
  refine h _ ?_
  rw[List.getD_eq_getElem?_getD,List.getElem?_eq_getElem (by omega)]
  exact List.getElem_mem _
 ·exact⟨Int.le_refl _,hn⟩
theorem stkD_app{S:List Pt}{n d p:Int}(h:StkD S n)(h0:0<=d)(h1:d<=n+1):StkD (S++[⟨p,d⟩]) (n+1):=fun x hx=>by
 rcases List.mem_append.1 hx with hx|hx
 ·have:=h x hx;omega
 ·rw[List.mem_singleton] at hx;subst hx;exact⟨h0,h1⟩
theorem dp_bd{L:List Nd}:∀(i:Nat) (S:List Pt),dpN L i=some S->S.length<=i/\StkD S i
 |0,S,h=>by
  obtain rfl:[]=S:=Option.some.inj h;exact⟨Nat.le_refl _,fun x hx=>absurd hx List.not_mem_nil⟩
 |i+1,S,h=>by
  replace h:(dpN L i).bind (dpS (L.getD i default) i)=some S:=h;cases hq:dpN L i with
  |none=>rw[hq] at h;cases h
  |some Q=>
   rw[hq] at h;replace h:dpS (L.getD i default) i Q=some S:=h;obtain⟨l1,l2⟩:=dp_bd i Q hq;have hn:(0:Int)<=(i:Int):=by omega
   have sub:∀w,StkD (popL Q w) i:=fun w x hx=>l2 x (popL_sub hx)
   have sub2:∀w v,StkD (popL (popL Q w) v) i:=fun w v x hx=>l2 x (popL_sub (popL_sub hx))
   have ll:∀(Q':List Pt) (p d:Int),Q'.length<=i->(Q'++[Pt.mk p d]).length<=i+1:=fun Q' p d hq=>by
    rw[List.length_append,List.length_singleton];omega
   have e1:((i+1:Nat):Int)=(i:Int)+1:=by omega
   rw[e1];unfold dpS at h;split at h
   ·split at h
    ·obtain rfl:=Option.some.inj h;exact⟨ll _ _ _ l1,stkD_app l2 (by omega) (by omega)⟩
    ·cases h
   ·split at h
    ·split at h
     ·obtain rfl:=Option.some.inj h;exact⟨ll _ _ _ l1,stkD_app l2 (by omega) (by omega)⟩
     ·cases h
    ·split at h
     ·split at h
      ·obtain rfl:=Option.some.inj h;have:=popD_bd (w:=(L.getD i default).a) hn l2;exact⟨ll _ _ _ (Nat.le_trans (popL_le _ _) l1),stkD_app (sub _) (by omega) (by omega)⟩
      ·cases h
     ·split at h
      ·split at h
       ·obtain rfl:=Option.some.inj h;have a1:=popD_bd (w:=(L.getD i default).b) hn l2;have a2:=popD_bd (w:=(L.getD i default).a) hn (sub (L.getD i default).b);exact⟨ll _ _ _ (Nat.le_trans (popL_le _ _) (Nat.le_trans (popL_le _ _) l1)),stkD_app (sub2 _ _) (by omega) (by omega)⟩
       ·cases h
      ·cases h
theorem dp_none{L:List Nd}{i:Nat}(h:dpN L i=none):∀j,dpN L (i+j)=none
 |0=>h
 |j+1=>by
  show(dpN L (i+j)).bind _=_;rw[dp_none h j];rfl
theorem dpO_none{L:List Nd}{i:Nat}(hi:i<=L.length)(h:dpN L i=none):dpO L=0:=by
 have:=dp_none h (L.length-i);rw[show i+(L.length-i)=L.length by omega] at this
 unfold dpO;rw[this]
theorem inR3(c:Int):(decide ((0:Int)<=c)&&decide (c<(3:Int)))=inR c 0 2:=by
 unfold inR;congr 1
 exact decide_eq_decide.2 (by omega)
theorem dep_go{L:List Nd}{i:Nat}{S:List Pt}{d:Int}(hlt:i<L.length)(hs:dpN L (i+1)=some (S++[⟨i,d⟩])):∃y:StkI L,(((0=0/\0=0)/\(Fn.func 92=Fn.func 92/\(0=0/\0=0)/\True)/\(EqL ndRow L L)/\(L.length:Int)=(L.length:Int)/\(i:Int)+(1:Int)=(y.val.fst:Int)/\True)/\(1=1/\1=1/\(0=0/\S.length+1=y.val.snd.length)/\True)/\(S.length+1=y.val.snd.length/\RowsEq (S.length+1) (appRow (ptRow S) S.length fun(k:Nat)=>List.take 2 (List.drop (k*2) [T.int .i64 (i:Int),T.int .i64 d])) (ptRow y.val.snd))/\True)/\Lt (L.length-y.val.fst) (L.length-i):=
 ⟨⟨(i+1,S++[Pt.mk (i:Int) d]),hlt,hs⟩,⟨⟨⟨rfl,rfl⟩,⟨rfl,⟨rfl,rfl⟩,trivial⟩,⟨rfl,rowsR _ _⟩,rfl,by dsimp only;omega,trivial⟩,⟨rfl,rfl,⟨rfl,by rw[List.length_append];rfl⟩,trivial⟩,⟨by rw[List.length_append];rfl,app_rows Pt.ts 2 (fun _=>rfl) S (Pt.mk (i:Int) d)⟩,trivial⟩,by unfold Lt;dsimp only;omega⟩
theorem depthOf_ok:ConOk Tryz.prog 74 k_depthOf:=by
 rintro L ⟨hL,hB⟩;refine v_depthOf L (dpO L) ⟨⟨⟨(0,[]),Nat.zero_le _,rfl⟩,⟨⟨rfl,rfl⟩,⟨rfl,⟨rfl,rfl⟩,trivial⟩,⟨rfl,rowsR _ _⟩,rfl,rfl,trivial⟩,⟨rfl,rfl,⟨rfl,rfl⟩,trivial⟩,⟨rfl,fun i hi=>absurd hi (Nat.not_lt_zero _)⟩,trivial⟩,fun x=>⟨fun hc=> ?_,fun hc=> ?_⟩⟩
 ·obtain⟨⟨i,S⟩,hi,hS⟩:=x;dsimp only at hi hS hc ⊢;have hlt:i<L.length:=lt_of_dec hc;clear hc;rw[Int.toNat_natCast];obtain⟨b1,b2⟩:=dp_bd i S hS;have hn:(0:Int)<=(i:Int):=by omega
  have hBv:=hB i hlt;have hst:dpN L (i+1)=dpS (L.getD i default) i S:=by
   show(dpN L i).bind _=_;rw[hS];rfl
  have hno:=fun(h:dpN L (i+1)=none)=>(dpO_none hlt h).symm
  generalize L.getD i default=N at*;have rg:Rng .i64 ((i:Int)+1):=i64_rng (by omega)
  have ap:∀Q:List Pt,Q.length<=S.length->Le 1 1/\Le Q.length Q.length/\AppB Q.length 1 16:=fun Q hq=>⟨Nat.le_refl _,Nat.le_refl _,by unfold AppB;omega⟩
  refine⟨inB_nat hlt,fun h1=>⟨N.v,fun _=>⟨⟨⟨rfl,rfl,rfl,trivial⟩,trivial⟩,hBv⟩,fun h2=>hno ?_,fun h2=>⟨Nat.zero_lt_one,i64_rng (by omega),ap S (Nat.le_refl _),Nat.zero_lt_one,rg,dep_go hlt ?_⟩⟩,fun h1=>⟨fun h2=>⟨fun _=>by unfold Small;omega,fun h3=>hno ?_,fun h3=>⟨Nat.zero_lt_one,i64_rng (by omega),ap S (Nat.le_refl _),Nat.zero_lt_one,rg,dep_go hlt ?_⟩⟩,fun h2=>⟨N.op,⟨⟨rfl,trivial⟩,trivial⟩,fun h3=>⟨(S,N.a),⟨⟨rfl,⟨rfl,rfl⟩,trivial⟩,⟨⟨rfl,rfl,⟨rfl,rfl⟩,trivial⟩,⟨rfl,rowsR _ _⟩,trivial⟩,by dsimp only;omega⟩,fun h4=>hno ?_,fun h4=> ?_⟩,fun h3=>⟨N.op,⟨⟨rfl,trivial⟩,trivial⟩,fun h4=> ?_,fun h4=>⟨fun _=>hno ?_,fun h=>(by cases h)⟩⟩⟩⟩⟩
  ·have h2:¬dpK N=true:=fun h=>by
    unfold dpK at h;rw[h] at h2;cases h2
   rw[hst,dpS,if_pos (by simpa using h1),if_neg h2]
  ·have h2:dpK N=true:=by
    rw[Bool.not_eq_false'] at h2;exact h2
   rw[hst,dpS,if_pos (by simpa using h1),if_pos h2]
  ·rw[eqV0,inR3] at h3;have h3:¬dpC N=true:=fun h=>by
    unfold dpC at h;rw[h] at h3;cases h3
   rw[hst,dpS,if_neg (by simpa using h1),if_pos (by simpa using h2),if_neg h3]
  ·rw[eqV0,inR3] at h3;have h3:dpC N=true:=by
    unfold dpC;rw[Bool.not_eq_false'] at h3;exact h3
   rw[hst,dpS,if_neg (by simpa using h1),if_pos (by simpa using h2),if_pos h3]
  ·dsimp only at h4;rw[eqV0] at h4;have h4:¬ (popB S N.a&&dpU N)=true:=fun h=>by
    unfold dpU at h;rw[Bool.and_assoc,Bool.and_assoc] at h4;rw[Bool.and_assoc] at h;rw[h] at h4;cases h4
   rw[hst,dpS,if_neg (by simpa using h1),if_neg (by simpa using h2),if_pos h3,if_neg h4]
  ·dsimp only at h4 ⊢;rw[eqV0] at h4;have h4:(popB S N.a&&dpU N)=true:=by
    unfold dpU;rw[Bool.not_eq_false',Bool.and_assoc,Bool.and_assoc] at h4;rw[Bool.and_assoc];exact h4
   have hd:=popD_bd (w:=N.a) hn b2;exact⟨Nat.zero_lt_one,i64_rng (by omega),ap _ (popL_le _ _),Nat.zero_lt_one,rg,dep_go hlt (by rw[hst,dpS,if_neg (by simpa using h1),if_neg (by simpa using h2),if_pos h3,if_pos h4])⟩
  ·refine⟨(S,N.b),⟨⟨rfl,⟨rfl,rfl⟩,trivial⟩,⟨⟨rfl,rfl,⟨rfl,rfl⟩,trivial⟩,⟨rfl,rowsR _ _⟩,trivial⟩,by dsimp only;omega⟩,(popL S N.b,N.a),⟨⟨rfl,⟨rfl,rfl⟩,trivial⟩,⟨⟨rfl,rfl,⟨rfl,rfl⟩,trivial⟩,⟨rfl,rowsR _ _⟩,trivial⟩,by have:=popL_le S N.b;dsimp only;omega⟩,fun h5=>hno ?_,fun h5=> ?_⟩
   ·dsimp only at h5;rw[eqV0] at h5;have h5:¬ (popB S N.b&&popB (popL S N.b) N.a&&dpB N)=true:=fun h=>by
     unfold dpB at h;rw[Bool.and_assoc] at h5;rw[h] at h5;cases h5
    rw[hst,dpS,if_neg (by simpa using h1),if_neg (by simpa using h2),if_neg (by rw[h3];exact Bool.false_ne_true),if_pos h4,if_neg h5]
   ·dsimp only at h5 ⊢;rw[eqV0] at h5;have h5:(popB S N.b&&popB (popL S N.b) N.a&&dpB N)=true:=by
     unfold dpB;rw[Bool.not_eq_false',Bool.and_assoc] at h5;exact h5
    have a1:=popD_bd (w:=N.b) hn b2;have a2:=popD_bd (w:=N.a) hn (fun x hx=>b2 x (popL_sub (w:=N.b) hx))
    have em:(if popD S N.b>popD (popL S N.b) N.a then popD S N.b else popD (popL S N.b) N.a)=max (popD (popL S N.b) N.a) (popD S N.b):=by
     split<;>omega
    rw[em];exact⟨Nat.zero_lt_one,i64_rng (by omega),ap _ (Nat.le_trans (popL_le _ _) (popL_le _ _)),Nat.zero_lt_one,rg,dep_go hlt (by rw[hst,dpS,if_neg (by simpa using h1),if_neg (by simpa using h2),if_neg (by rw[h3];exact Bool.false_ne_true),if_pos h4,if_pos h5])⟩
  ·rw[hst,dpS,if_neg (by simpa using h1),if_neg (by simpa using h2),if_neg (by rw[h3];exact Bool.false_ne_true),if_neg (by rw[h4];exact Bool.false_ne_true)]
 ·obtain⟨⟨i,S⟩,hi,hS⟩:=x;dsimp only at hi hS hc ⊢;have hge:=le_of_not hc;obtain rfl:i=L.length:=by omega
  refine⟨Nat.zero_lt_one,fun h=> ?_,fun h=> ?_⟩
  ·have h:S.length≠1:=by
    intro e;rw[e] at h;simp at h
   unfold dpO;rw[hS]
   match S,h with
   | [],_=>rfl
   |_::_::_,_=>rfl
  ·have h:S.length=1:=by
    rw[bne_eq_false_iff_eq] at h;omega
   refine⟨Nat.zero_lt_one,⟨by omega,by omega⟩,by unfold Lt;omega,?_⟩
   unfold dpO;rw[hS]
   match S,h with
   | [x],_=>rfl
end Go.Proofs.YtfmngblmdghccaaGreat

namespace Go.Proofs.YtfmngblmdghccaaGreat
set_option maxRecDepth 100000
open Go.SS Go.RowKit

def k_ExprOKi:Con:=.rel ⟨List Nd,fun L=>[.agg [ndS L]],fun L=>.bool (exOK L),NdB⟩
noncomputable def b_ExprOKi:Code:=Tryz.f48.body.getD .skip
theorem call_ExprOKi:Callable Tryz.prog 48:=⟨_,Tryz.func48,by kernel_rfl,by kernel_rfl⟩
theorem v_ExprOKi(L:List Nd)(h:
  ∃(x:(List Nd)),(inR (L.length:Int) (1:Int) (40:Int)=true->((EqL ndRow L x)/\True)/\x.length<=1000/\∀(i:Nat),i<x.length->StB (List.getD x i default).v.t)/\(inR (L.length:Int) (1:Int) (40:Int)&&inR (dpO
  x) (1:Int) (12:Int))=exOK L):
  PureFn Tryz.prog 48 [.agg [ndS L]] (.bool (exOK L)):=
 vcR (code:=b_ExprOKi) (gC inRange_ok call_inRange (gC depthOf_ok call_depthOf gN)) Tryz.func48 (by kernel_rfl) (by kernel_rfl) noAnn h (by kernel_rfl)
theorem ExprOKi_ok:ConOk Tryz.prog 48 k_ExprOKi:=by
 intro(L:List Nd) hB;refine v_ExprOKi L ⟨L,fun h=>⟨⟨⟨rfl,rowsR _ _⟩,trivial⟩,?_,hB.2⟩,rfl⟩
 have:=inR_b.1 h;omega
def k_areRows:Con:=.rel ⟨List Rw,fun L=>[rwS L],fun L=>.bool (rwsOK L),RwsB⟩
def A_areRows(L:List Rw):Nat->Ann
 |0=>.one (Cnt L.length (badRw L)) (fun x=>⟨[(0,rwS L),(5,rwS L),(6,.int .i64 L.length),(7,.int .i64 x.1)],[]⟩) (fun x=>L.length-x.1) [] [] (fun _=>noAnn)
 |_=>.none
noncomputable def b_areRows:Code:=Tryz.f26.body.getD .skip
theorem call_areRows:Callable Tryz.prog 26:=⟨_,Tryz.func26,by kernel_rfl,by kernel_rfl⟩
theorem v_areRows(L:List Rw)(h:
  (∃(x:Cnt L.length (badRw L)),((EqL rwRow L L)/\(EqL rwRow L L)/\(L.length:Int)=(L.length:Int)/\(0:Int)=(x.val:Int)/\True)/\True)/\∀(x:Cnt L.length (badRw L)),(decide ((x.val:Int)<(L.length:Int))=true->InB
  (x.val:Int) L.length/\∃(x_1:r_rowOK.ι),((((L.getD (x.val:Int).toNat default).id=x_1.id/\(L.getD (x.val:Int).toNat default).n.k=x_1.n.k/\(L.getD (x.val:Int).toNat default).n.n=x_1.n.n/\(L.getD (x.val:Int).toNat
  default).n.t=x_1.n.t/\(L.getD (x.val:Int).toNat default).name.k=x_1.name.k/\(L.getD (x.val:Int).toNat default).name.n=x_1.name.n/\(L.getD (x.val:Int).toNat default).name.t=x_1.name.t/\True)/\True)/\RwB x_1)/\
  ((!rowOKb x_1)=false->decide ((x.val:Int)>(0:Int))=true->Rng .i64 ((x.val:Int)- (1:Int)))/\((!rowOKb x_1)=false->decide ((x.val:Int)>(0:Int))=true->InB ((x.val:Int)- (1:Int)) L.length)/\((!rowOKb x_1||
  decide ((x.val:Int)>(0:Int))&&decide ((L.getD ((x.val:Int)- (1:Int)).toNat default).id≥(L.getD (x.val:Int).toNat default).id))=true->false=rwsOK L)/\((!rowOKb x_1||decide ((x.val:Int)>(0:Int))&&decide
  ((L.getD ((x.val:Int)- (1:Int)).toNat default).id≥(L.getD (x.val:Int).toNat default).id))=false->Rng .i64 ((x.val:Int)+(1:Int))/\∃(y:Cnt L.length (badRw L)),(((EqL rwRow L L)/\(EqL rwRow L L)/\(L.length:Int)=
  (L.length:Int)/\(x.val:Int)+(1:Int)=(y.val:Int)/\True)/\True)/\Lt (L.length-y.val) (L.length-x.val)))/\(decide ((x.val:Int)<(L.length:Int))=false->true=rwsOK L)):
  PureFn Tryz.prog 26 [rwS L] (.bool (rwsOK L)):=
 vcR (code:=b_areRows) (gC rowOK_ok call_rowOK gN) Tryz.func26 (by kernel_rfl) (by kernel_rfl) (A_areRows L) h (by kernel_rfl)
theorem areRows_ok:ConOk Tryz.prog 26 k_areRows:=by
 rintro L ⟨hL,hB⟩;refine v_areRows L ⟨⟨cnt0,⟨⟨rfl,rowsR _ _⟩,⟨rfl,rowsR _ _⟩,rfl,rfl,trivial⟩,trivial⟩,fun x=>⟨fun hc=> ?_,fun hc=> ?_⟩⟩
 ·have hlt:=lt_of_dec hc;rw[Int.toNat_natCast];refine⟨inB_nat hlt,L.getD x.val default,⟨⟨⟨rfl,rfl,rfl,rfl,rfl,rfl,rfl,trivial⟩,trivial⟩,hB _ hlt⟩,fun _ _=>i64_rng (by omega),fun _ h=> ?_,fun h=> ?_,fun h=>⟨add_rng hlt (by omega),x.succ hlt ?_,⟨⟨⟨rfl,rowsR _ _⟩,⟨rfl,rowsR _ _⟩,rfl,by simp only[Cnt.succ];omega,trivial⟩,trivial⟩,Cnt.ext_lt hlt⟩⟩
  ·have:=of_decide_eq_true h;exact⟨by omega,by omega⟩
  ·have hb:badRw L x.val=true:=by
    unfold badRw;rw[show x.val-1=((x.val:Int)-1).toNat by omega]
    exact h
   have:anyI L.length (badRw L)=true:=anyI_iff.2 ⟨x.val,hlt,hb⟩;unfold rwsOK;rw[this];rfl
  ·unfold badRw;rw[show x.val-1=((x.val:Int)-1).toNat by omega]
   exact h
 ·have hge:=le_of_not hc;have:anyI L.length (badRw L)=false:=anyI_no.2 fun i hi=>x.2.2 i (Nat.lt_of_lt_of_le hi hge)
  unfold rwsOK;rw[this];rfl
def k_StmtOKi:Con:=.rel ⟨Stm,fun s=>[.agg s.ts],fun s=>.bool (stmOK s),StmB⟩
noncomputable def b_StmtOKi:Code:=Tryz.f27.body.getD .skip
theorem call_StmtOKi:Callable Tryz.prog 27:=⟨_,Tryz.func27,by kernel_rfl,by kernel_rfl⟩
theorem v_StmtOKi(s:Stm)(Z:Bool)(h:
  ∃(x:(List Nd)),((((EqL ndRow s.whr x)/\True)/\True)/\True)/\∃(x_1:(List Nd)),(List.isEmpty x=false->(((EqL ndRow s.whr x_1)/\True)/\True)/\NdB x_1)/\∃(x_2:Int),((s.ta=x_2/\True)/\True)/\((!inR x_2 (1:
  Int) (3:Int)|| !(List.isEmpty x||exOK x_1))=true->false=Z)/\((!inR x_2 (1:Int) (3:Int)|| !(List.isEmpty x||exOK x_1))=false->((s.k==(1:Int))=true->∃(x:(List Nd)),((s.row.id==(0:Int)&&
  (s.row.n.k==(0:Int)&&(s.row.n.n==(0:Int)&&(s.row.n.t==[]&&true))&&(s.row.name.k==(0:Int)&&(s.row.name.n==(0:Int)&&(s.row.name.t==[]&&true))&&true))&&s.c==(0:Int))=true->(((EqL ndRow
  s.set x)/\True)/\True)/\True)/\((s.row.id==(0:Int)&&(s.row.n.k==(0:Int)&&(s.row.n.n==(0:Int)&&(s.row.n.t==[]&&true))&&(s.row.name.k==(0:Int)&&(s.row.name.n==(0:Int)&&(s.row.name.t==[]&&
  true))&&true))&&s.c==(0:Int)&&List.isEmpty x)=true->Small (3:Int))/\(s.row.id==(0:Int)&&(s.row.n.k==(0:Int)&&(s.row.n.n==(0:Int)&&(s.row.n.t==[]&&true))&&(s.row.name.k==(0:Int)&&
  (s.row.name.n==(0:Int)&&(s.row.name.t==[]&&true))&&true))&&s.c==(0:Int)&&List.isEmpty x&&(decide ((0:Int)<=s.ord)&&decide (s.ord<(3:Int))))=Z)/\((s.k==(1:Int))=false->((s.k==(2:Int))=
  true->∃(x:r_rowOK.ι),(((s.row.id=x.id/\s.row.n.k=x.n.k/\s.row.n.n=x.n.n/\s.row.n.t=x.n.t/\s.row.name.k=x.name.k/\s.row.name.n=x.name.n/\s.row.name.t=x.name.t/\True)/\True)/\RwB x)/\∃(x_3:(List Nd)),
  ((rowOKb x&&s.c==(0:Int))=true->(((EqL ndRow s.set x_3)/\True)/\True)/\True)/\∃(x_4:(List Nd)),((rowOKb x&&s.c==(0:Int)&&List.isEmpty x_3)=true->(((EqL ndRow s.whr x_4)/\True)/\True)/\True)/\(rowOKb
  x&&s.c==(0:Int)&&List.isEmpty x_3&&List.isEmpty x_4&& !(s.ord !=(0:Int)||s.down))=Z)/\((s.k==(2:Int))=false->((s.k==(3:Int))=true->∃(x:(List Nd)),((s.row.id==(0:Int)&&(s.row.n.k==(0:
  Int)&&(s.row.n.n==(0:Int)&&(s.row.n.t==[]&&true))&&(s.row.name.k==(0:Int)&&(s.row.name.n==(0:Int)&&(s.row.name.t==[]&&true))&&true))&&inR s.c (1:Int) (2:Int))=true->(((EqL ndRow s.set x)/\
  True)/\True)/\NdB x)/\(s.row.id==(0:Int)&&(s.row.n.k==(0:Int)&&(s.row.n.n==(0:Int)&&(s.row.n.t==[]&&true))&&(s.row.name.k==(0:Int)&&(s.row.name.n==(0:Int)&&(s.row.name.t==[]&&true))&&
  true))&&inR s.c (1:Int) (2:Int)&&exOK x&& !(s.ord !=(0:Int)||s.down))=Z)/\((s.k==(3:Int))=false->∃(x:(List Nd)),((s.k==(4:Int)&&(s.row.id==(0:Int)&&(s.row.n.k==(0:Int)&&(s.row.n.n==
  (0:Int)&&(s.row.n.t==[]&&true))&&(s.row.name.k==(0:Int)&&(s.row.name.n==(0:Int)&&(s.row.name.t==[]&&true))&&true)))&&s.c==(0:Int))=true->(((EqL ndRow s.set x)/\True)/\True)/\True)/\(s.k==
  (4:Int)&&(s.row.id==(0:Int)&&(s.row.n.k==(0:Int)&&(s.row.n.n==(0:Int)&&(s.row.n.t==[]&&true))&&(s.row.name.k==(0:Int)&&(s.row.name.n==(0:Int)&&(s.row.name.t==[]&&true))&&true)))&&s.c
  ==(0:Int)&&List.isEmpty x&& !(s.ord !=(0:Int)||s.down))=Z))))):
  PureFn Tryz.prog 27 [.agg s.ts] (.bool Z):=
 vcR (code:=b_StmtOKi) (gC hasN_ok call_hasN (gC ExprOKi_ok call_ExprOKi (gC isTable_ok call_isTable (gC isPlace_ok call_isPlace (gC rowOK_ok call_rowOK (gC inRange_ok call_inRange gN)))))) Tryz.func27 (by kernel_rfl) (by kernel_rfl) noAnn h (by kernel_rfl)
theorem StmtOKi_ok:ConOk Tryz.prog 27 k_StmtOKi:=by
 rintro s ⟨hR,hS,hW⟩;refine v_StmtOKi s (stmOK s) ⟨s.whr,⟨⟨⟨⟨rfl,rowsR _ _⟩,trivial⟩,trivial⟩,trivial⟩,s.whr,fun _=>⟨⟨⟨⟨rfl,rowsR _ _⟩,trivial⟩,trivial⟩,hW⟩,s.ta,⟨⟨rfl,trivial⟩,trivial⟩,fun h=> ?_,fun h=> ?_⟩
 ·unfold stmOK;cases h1:inR s.ta 1 3 with
  |false=>rfl
  |true=>
   rw[h1,Bool.not_true,Bool.false_or,Bool.not_eq_true'] at h;rw[h];rfl
 ·rw[Bool.or_eq_false_iff,Bool.not_eq_false',Bool.not_eq_false'] at h;obtain⟨h1,h2⟩:=h;have e:∀b,stmOK s=b↔(if s.k=1 then eqRwB s.row rwZ&&(s.c==0)&&s.set.isEmpty&&inR s.ord 0 2
    else if s.k=2 then rowOKb s.row&&(s.c==0)&&s.set.isEmpty&&s.whr.isEmpty&&(s.ord==0)&& !s.down
    else if s.k=3 then eqRwB s.row rwZ&&inR s.c 1 2&&exOK s.set&&(s.ord==0)&& !s.down
    else(s.k==4)&&eqRwB s.row rwZ&&(s.c==0)&&s.set.isEmpty&&(s.ord==0)&& !s.down)=b:=fun b=>by
   unfold stmOK;rw[h1,h2,Bool.true_and,Bool.true_and]
  refine⟨fun k1=>⟨s.set,fun _=>⟨⟨⟨⟨rfl,rowsR _ _⟩,trivial⟩,trivial⟩,trivial⟩,fun _=>by unfold Small;omega,?_⟩,fun k1=>⟨fun k2=>⟨s.row,⟨⟨⟨rfl,rfl,rfl,rfl,rfl,rfl,rfl,trivial⟩,trivial⟩,hR⟩,s.set,fun _=>⟨⟨⟨⟨rfl,rowsR _ _⟩,trivial⟩,trivial⟩,trivial⟩,s.whr,fun _=>⟨⟨⟨⟨rfl,rowsR _ _⟩,trivial⟩,trivial⟩,trivial⟩,?_⟩,fun k2=>⟨fun k3=>⟨s.set,fun _=>⟨⟨⟨⟨rfl,rowsR _ _⟩,trivial⟩,trivial⟩,hS⟩,?_⟩,fun k3=>⟨s.set,fun _=>⟨⟨⟨⟨rfl,rowsR _ _⟩,trivial⟩,trivial⟩,trivial⟩,?_⟩⟩⟩⟩
  ·refine Eq.symm ((e _).2 ?_)
   rw[if_pos (by simpa using k1),eqRw0,inR3]
  ·refine Eq.symm ((e _).2 ?_)
   rw[if_neg (by simpa using k1),if_pos (by simpa using k2),noSort]
  ·refine Eq.symm ((e _).2 ?_)
   rw[if_neg (by simpa using k1),if_neg (by simpa using k2),if_pos (by simpa using k3),eqRw0,noSort]
  ·refine Eq.symm ((e _).2 ?_)
   rw[if_neg (by simpa using k1),if_neg (by simpa using k2),if_neg (by simpa using k3),eqRw0,noSort]
structure DR where
 r:List Rw
 a:List Rw
 n:Nat
 x:Int
noncomputable def denR(s:Stm)(L:List Rw):DR:=
 if s.k=2 then(if isRw L s.row.id=true then⟨L,[],0,17⟩ else⟨insL L (lowN L s.row.id) s.row,[],1,0⟩)
 else if(dnN s L L.length).x≠0 then⟨L,[],0,(dnN s L L.length).x⟩ else⟨(dnN s L L.length).o,ansR s L,(dnN s L L.length).n,0⟩
def StD(s:Stm)(L:List Rw):Prop:=SrtI L/\L.length<=1000/\(s.k≠2->StE s L)
noncomputable def k_denote:Con:=.rmk ⟨List Rw×Stm,fun x=>[rwS x.1,.agg x.2.ts],fun _=>[],fun x=>.tup [.osl 0 0 (denR x.2 x.1).r.length,.agg [.osl 1 0 (denR x.2 x.1).a.length,.int .i64 (denR x.2 x.1).n],.int .i64 (denR x.2 x.1).x],fun x=>[rwsA (denR x.2 x.1).r,rwsA (denR x.2 x.1).a],fun x=>StD x.2 x.1⟩
noncomputable def b_denote:Code:=Tryz.f28.body.getD .skip
theorem call_denote:Callable Tryz.prog 28:=⟨_,Tryz.func28,by kernel_rfl,by kernel_rfl⟩
theorem v_denote(L:List Rw)(s:Stm)(R M:List Rw)(c:Nat)(x:Int)(h:
  ∃(x_1:(List Rw)),(((EqL rwRow L x_1)/\True)/\x_1.length<=1048576)/\((s.k==(2:Int))=true->∃(x_2:(List Rw×Int)),(((EqL rwRow L x_2.fst)/\s.row.id=x_2.snd/\True)/\SrtI x_2.fst/\x_2.fst.length<=1000)/\
  (isRw x_2.fst x_2.snd=true->(((0=0/\x_1.length=R.length)/\((0=0/\0=M.length)/\(0:Int)=(c:Int)/\True)/\(17:Int)=x/\True)/\True)/\(x_1.length=R.length/\RowsEq (x_1.length) (rwRow x_1) (rwRow R))/\(0=
  M.length/\RowsEq 0 (fun(x:Nat)=>[]) (rwRow M))/\True)/\(isRw x_2.fst x_2.snd=false->∃(x_3:(List Rw×Rw)),(((0=0/\0=0)/\(s.row.id=x_3.snd.id/\s.row.n.k=x_3.snd.n.k/\s.row.n.n=x_3.snd.n.n/\s.row.n.t=
  x_3.snd.n.t/\s.row.name.k=x_3.snd.name.k/\s.row.name.n=x_3.snd.name.n/\s.row.name.t=x_3.snd.name.t/\True)/\True)/\((1=1/\1=1/\(0=0/\x_1.length=x_3.fst.length)/\True)/\(x_1.length=x_3.fst.length/\RowsEq
  (x_1.length) (rwRow x_1) (rwRow x_3.fst))/\True)/\SrtI x_3.fst/\x_3.fst.length<=1000/\isRw x_3.fst x_3.snd.id=false)/\Lt 0 1/\(((0=0/\x_3.fst.length+1=R.length)/\((0=0/\0=M.length)/\(1:Int)=(c:Int)/\
  True)/\(0:Int)=x/\True)/\True)/\(EqL rwRow (insL x_3.fst (lowN x_3.fst x_3.snd.id) x_3.snd) R)/\(0=M.length/\RowsEq 0 (fun(x:Nat)=>[]) (rwRow M))/\True))/\((s.k==(2:Int))=false->∃(x_2:(Stm×List Rw)),
  (((s.k=x_2.fst.k/\s.ta=x_2.fst.ta/\s.row.id=x_2.fst.row.id/\s.row.n.k=x_2.fst.row.n.k/\s.row.n.n=x_2.fst.row.n.n/\s.row.n.t=x_2.fst.row.n.t/\s.row.name.k=x_2.fst.row.name.k/\s.row.name.n=x_2.fst.row.name.n/\
  s.row.name.t=x_2.fst.row.name.t/\s.c=x_2.fst.c/\(EqL ndRow s.set x_2.fst.set)/\(EqL ndRow s.whr x_2.fst.whr)/\s.ord=x_2.fst.ord/\s.down=x_2.fst.down/\True)/\(EqL rwRow L x_2.snd)/\(91=91/\msOf Tryz.prog 91=
  msOf Tryz.prog 91)/\True)/\((1=1/\1=1/\(0=0/\x_1.length=x_2.snd.length)/\True)/\(x_1.length=x_2.snd.length/\RowsEq (x_1.length) (rwRow x_1) (rwRow x_2.snd))/\True)/\StE x_2.fst x_2.snd)/\(((dnN x_2.fst x_2.snd
  x_2.snd.length).x !=(0:Int))=true->∃(x_3:(List Rw)),(((EqL rwRow L x_3)/\True)/\x_3.length<=1048576)/\(((0=0/\x_3.length=R.length)/\((0=0/\0=M.length)/\(0:Int)=(c:Int)/\True)/\(dnN x_2.fst x_2.snd
  x_2.snd.length).x=x/\True)/\True)/\(x_3.length=R.length/\RowsEq (x_3.length) (rwRow x_3) (rwRow R))/\(0=M.length/\RowsEq 0 (fun(x:Nat)=>[]) (rwRow M))/\True)/\(((dnN x_2.fst x_2.snd x_2.snd.length).x !=(0:
  Int))=false->Lt 0 1/\∃(x_3:(List Rw)),(Le (0+(tbN x_2.fst x_2.snd x_2.snd.length).length) (tbN x_2.fst x_2.snd x_2.snd.length).length/\((EqL rwRow (tbN x_2.fst x_2.snd x_2.snd.length) x_3)/\True)/\x_3.length<=
  1048576)/\(((0=0/\x_3.length=R.length)/\((0=0/\(ansR x_2.fst x_2.snd).length=M.length)/\(↑(ansN x_2.fst x_2.snd):Int)=(c:Int)/\True)/\(0:Int)=x/\True)/\True)/\(x_3.length=R.length/\RowsEq (x_3.length)
  (rwRow x_3) (rwRow R))/\(EqL rwRow (ansR x_2.fst x_2.snd) M)/\True))):
  EffFn Tryz.prog 28 [rwS L,.agg s.ts] [] (.tup [.osl 0 0 R.length,.agg [.osl 1 0 M.length,.int .i64 c],.int .i64 x]) [rwsA R,rwsA M]:=
 vcG (code:=b_denote) (gC clRw_ok call_clRw (gC rowAt_ok call_rowAt (gC tPutI_ok call_tPutI (gC each_ok call_each gN)))) Tryz.func28 (by kernel_rfl) (by kernel_rfl) noAnn [[.nilS 0 [1,0] 0 7,.vl 0 [0],.vl 0 [1,0]],[.vl 0 [0],.vl 0 [1,0]]] h (by kernel_rfl)
theorem plain_rows(L:List Rw):PlainOb (.arr true 28 7 L.length (rwRow L)):=fun i _ t ht=>by
 have ht:t ∈ (L.getD i default).ts:=ht;unfold Rw.ts at ht;simp only[List.mem_cons,List.not_mem_nil,or_false] at ht;rcases ht with rfl|rfl|rfl|rfl|rfl|rfl|rfl<;>rfl
theorem denote_ok:ConOk Tryz.prog 28 k_denote:=by
 rintro⟨L,s⟩ ⟨hS,hL,hE⟩;dsimp only at hS hL hE;refine⟨?_,rfl,plain_cons (plain_rows _) (plain_rws _)⟩
 refine v_denote L s (denR s L).r (denR s L).a (denR s L).n (denR s L).x ⟨L,⟨⟨⟨rfl,rowsR _ _⟩,trivial⟩,by omega⟩,fun h=>⟨(L,s.row.id),⟨⟨⟨rfl,rowsR _ _⟩,rfl,trivial⟩,hS,hL⟩,fun h1=> ?_,fun h1=>⟨(L,s.row),⟨⟨⟨rfl,rfl⟩,⟨rfl,rfl,rfl,rfl,rfl,rfl,rfl,trivial⟩,trivial⟩,⟨⟨rfl,rfl,⟨rfl,rfl⟩,trivial⟩,⟨rfl,rowsR _ _⟩,trivial⟩,hS,hL,h1⟩,?_⟩⟩,fun h=>⟨(s,L),⟨⟨⟨rfl,rfl,rfl,rfl,rfl,rfl,rfl,rfl,rfl,rfl,⟨rfl,rowsR _ _⟩,⟨rfl,rowsR _ _⟩,rfl,rfl,trivial⟩,⟨rfl,rowsR _ _⟩,⟨rfl,rfl⟩,trivial⟩,⟨⟨rfl,rfl,⟨rfl,rfl⟩,trivial⟩,⟨rfl,rowsR _ _⟩,trivial⟩,hE (by simpa using h)⟩,fun h1=>⟨L,⟨⟨⟨rfl,rowsR _ _⟩,trivial⟩,by omega⟩,?_⟩,fun h1=>⟨Nat.zero_lt_one,tbN s L L.length,⟨Nat.le_of_eq (Nat.zero_add _),⟨⟨rfl,rowsR _ _⟩,trivial⟩,?_⟩,?_⟩⟩⟩
 ·have e:denR s L=⟨L,[],0,17⟩:=by rw[denR,if_pos (by simpa using h),if_pos h1]
  rw[e];exact(by repeat' first|exact rfl|exact trivial|exact rowsR _ _|exact(fun i hi=>absurd hi (Nat.not_lt_zero _))|exact Int.natCast_add _ _|apply And.intro)
 ·have e:denR s L=⟨insL L (lowN L s.row.id) s.row,[],1,0⟩:=by
   rw[denR,if_pos (by simpa using h),if_neg (by dsimp only at h1;rw[h1];exact Bool.false_ne_true)]
  rw[e];exact⟨Nat.zero_lt_one,⟨⟨⟨rfl,(ins_len (low_le _ _)).symm⟩,(by repeat' first|exact rfl|exact trivial|exact rowsR _ _|exact(fun i hi=>absurd hi (Nat.not_lt_zero _))|exact Int.natCast_add _ _|apply And.intro),rfl,trivial⟩,trivial⟩,(by repeat' first|exact rfl|exact trivial|exact rowsR _ _|exact(fun i hi=>absurd hi (Nat.not_lt_zero _))|exact Int.natCast_add _ _|apply And.intro)⟩
 ·have e:denR s L=⟨L,[],0,(dnN s L L.length).x⟩:=by rw[denR,if_neg (by simpa using h),if_pos (by simpa using h1)]
  rw[e];exact(by repeat' first|exact rfl|exact trivial|exact rowsR _ _|exact(fun i hi=>absurd hi (Nat.not_lt_zero _))|exact Int.natCast_add _ _|apply And.intro)
 ·obtain⟨_,_,hS',hR',hL',_,_⟩:=hE (by simpa using h)
  have h0:(dnN s L L.length).x=0:=by simpa using h1
  have:=(dn_P (s:=s) hS' hR' L.length (Nat.le_refl _)).lo;rw[tb_full h0];omega
 ·have h0:(dnN s L L.length).x=0:=by simpa using h1
  have e:denR s L=⟨(dnN s L L.length).o,ansR s L,(dnN s L L.length).n,0⟩:=by rw[denR,if_neg (by simpa using h),if_neg (fun hh=>hh h0)]
  have ec:ansN s L=(dnN s L L.length).n:=by rw[ansN,if_neg (fun hh=>hh h0)]
  rw[e];dsimp only;rw[tb_full h0,ec];exact(by repeat' first|exact rfl|exact trivial|exact rowsR _ _|exact(fun i hi=>absurd hi (Nat.not_lt_zero _))|exact Int.natCast_add _ _|apply And.intro)
noncomputable def denA(s:Stm)(L:List Rw):DR:=
 if L.length>4096 then⟨[],[],0,2⟩ else if L.length>100 then⟨L,[],0,6⟩ else if(!rwsOK L|| !stmOK s)=true then⟨L,[],0,1⟩ else denR s L
noncomputable def k_Deni:Con:=.rmk ⟨List Rw×Stm,fun x=>[rwS x.1,.agg x.2.ts],fun _=>[],fun x=>.tup [.osl 0 0 (denA x.2 x.1).r.length,.agg [.osl 1 0 (denA x.2 x.1).a.length,.int .i64 (denA x.2 x.1).n],.int .i64 (denA x.2 x.1).x],fun x=>[rwsA (denA x.2 x.1).r,rwsA (denA x.2 x.1).a],fun x=>RwsB x.1/\StmB x.2⟩
noncomputable def b_Deni:Code:=Tryz.f7.body.getD .skip
theorem call_Deni:Callable Tryz.prog 7:=⟨_,Tryz.func7,by kernel_rfl,by kernel_rfl⟩
theorem v_Deni(L:List Rw)(s:Stm)(R M:List Rw)(c:Nat)(x:Int)(h:
  (decide ((L.length:Int)>(4096:Int))=true->(((0=0/\0=R.length)/\((0=0/\0=M.length)/\(0:Int)=(c:Int)/\True)/\(2:Int)=x/\True)/\True)/\(0=R.length/\RowsEq 0 (fun(x:Nat)=>[]) (rwRow R))/\(0=
  M.length/\RowsEq 0 (fun(x:Nat)=>[]) (rwRow M))/\True)/\(decide ((L.length:Int)>(4096:Int))=false->(decide ((L.length:Int)>(100:Int))=true->∃(x_1:(List Rw)),(((EqL rwRow L x_1)/\True)/\x_1.length<=
  1048576)/\(((0=0/\x_1.length=R.length)/\((0=0/\0=M.length)/\(0:Int)=(c:Int)/\True)/\(6:Int)=x/\True)/\True)/\(x_1.length=R.length/\RowsEq (x_1.length) (rwRow x_1) (rwRow R))/\(0=M.length/\RowsEq 0
  (fun(x:Nat)=>[]) (rwRow M))/\True)/\(decide ((L.length:Int)>(100:Int))=false->∃(x_1:(List Rw)),(((EqL rwRow L x_1)/\True)/\RwsB x_1)/\∃(x_2:Stm),((!rwsOK x_1)=false->((s.k=x_2.k/\s.ta=x_2.ta/\
  s.row.id=x_2.row.id/\s.row.n.k=x_2.row.n.k/\s.row.n.n=x_2.row.n.n/\s.row.n.t=x_2.row.n.t/\s.row.name.k=x_2.row.name.k/\s.row.name.n=x_2.row.name.n/\s.row.name.t=x_2.row.name.t/\s.c=x_2.c/\(EqL ndRow s.set
  x_2.set)/\(EqL ndRow s.whr x_2.whr)/\s.ord=x_2.ord/\s.down=x_2.down/\True)/\True)/\StmB x_2)/\((!rwsOK x_1|| !stmOK x_2)=true->∃(x_3:(List Rw)),(((EqL rwRow L x_3)/\True)/\x_3.length<=1048576)/\(((0=0/\
  x_3.length=R.length)/\((0=0/\0=M.length)/\(0:Int)=(c:Int)/\True)/\(1:Int)=x/\True)/\True)/\(x_3.length=R.length/\RowsEq (x_3.length) (rwRow x_3) (rwRow R))/\(0=M.length/\RowsEq 0 (fun(x:Nat)=>[])
  (rwRow M))/\True)/\((!rwsOK x_1|| !stmOK x_2)=false->∃(x_3:(List Rw×Stm)),(((EqL rwRow L x_3.fst)/\(s.k=x_3.snd.k/\s.ta=x_3.snd.ta/\s.row.id=x_3.snd.row.id/\s.row.n.k=x_3.snd.row.n.k/\s.row.n.n=
  x_3.snd.row.n.n/\s.row.n.t=x_3.snd.row.n.t/\s.row.name.k=x_3.snd.row.name.k/\s.row.name.n=x_3.snd.row.name.n/\s.row.name.t=x_3.snd.row.name.t/\s.c=x_3.snd.c/\(EqL ndRow s.set x_3.snd.set)/\(EqL ndRow s.whr
  x_3.snd.whr)/\s.ord=x_3.snd.ord/\s.down=x_3.snd.down/\True)/\True)/\StD x_3.snd x_3.fst)/\(((0=0/\(denR x_3.snd x_3.fst).r.length=R.length)/\((0=0/\(denR x_3.snd x_3.fst).a.length=M.length)/\(↑(denR x_3.snd
  x_3.fst).n:Int)=(c:Int)/\True)/\(denR x_3.snd x_3.fst).x=x/\True)/\True)/\(EqL rwRow (denR x_3.snd x_3.fst).r R)/\(EqL rwRow (denR x_3.snd x_3.fst).a M)/\True)))):
  EffFn Tryz.prog 7 [rwS L,.agg s.ts] [] (.tup [.osl 0 0 R.length,.agg [.osl 1 0 M.length,.int .i64 c],.int .i64 x]) [rwsA R,rwsA M]:=
 vcG (code:=b_Deni) (gC clRw_ok call_clRw (gC areRows_ok call_areRows (gC StmtOKi_ok call_StmtOKi (gC denote_ok call_denote gN)))) Tryz.func7 (by kernel_rfl) (by kernel_rfl) noAnn [[.nilS 0 [0] 0 7,.nilS 0 [1,0] 0 7,.vl 0 [0],.vl 0 [1,0]],[.nilS 0 [1,0] 0 7,.vl 0 [0],.vl 0 [1,0]],[.vl 0 [0],.vl 0 [1,0]]] h (by kernel_rfl)
theorem stm_E{s:Stm}(h:stmOK s=true)(hk:s.k≠2):stmE s/\(s.k=3->NdL s.set/\0<s.set.length/\s.set.length<=40)/\0<=s.ord/\s.ord<=2:=by
 unfold stmOK at h;rw[Bool.and_eq_true,Bool.and_eq_true] at h;obtain⟨⟨_,h2⟩,h3⟩:=h;refine⟨?_,fun k3=> ?_,?_⟩
 ·rw[Bool.or_eq_true] at h2;rcases h2 with h2|h2
  ·exact .inl (List.isEmpty_iff.1 h2)
  ·exact .inr (ex_nd h2)
 ·rw[if_neg (by omega),if_neg hk,if_pos k3,Bool.and_eq_true,Bool.and_eq_true,Bool.and_eq_true] at h3
  exact ex_nd h3.1.1.2
 ·split at h3
  ·rw[Bool.and_eq_true] at h3;exact inR_b.1 h3.2
  ·have ho:s.ord=0:=by
    split at h3
    ·rw[Bool.and_eq_true,Bool.and_eq_true] at h3
     simpa using h3.1.2
    ·rw[Bool.and_eq_true,Bool.and_eq_true] at h3
     simpa using h3.1.2
   omega
theorem std_of{s:Stm}{L:List Rw}(h1:rwsOK L=true)(h2:stmOK s=true)(hL:L.length<=100):StD s L:=by
 obtain⟨a,b⟩:=rws_ok h1;refine⟨a,by omega,fun hk=> ?_⟩
 obtain⟨c,d,e⟩:=stm_E h2 hk;exact⟨c,d,a,b,by omega,e⟩
theorem Deni_ok:ConOk Tryz.prog 7 k_Deni:=by
 rintro⟨L,s⟩ ⟨hL,hs⟩;dsimp only at hL hs;refine⟨?_,rfl,plain_cons (plain_rows _) (plain_rws _)⟩
 refine v_Deni L s (denA s L).r (denA s L).a (denA s L).n (denA s L).x ⟨fun h=> ?_,fun h=>⟨fun h1=>⟨L,⟨⟨⟨rfl,rowsR _ _⟩,trivial⟩,hL.1⟩,?_⟩,fun h1=>⟨L,⟨⟨⟨rfl,rowsR _ _⟩,trivial⟩,hL⟩,s,fun _=>⟨⟨⟨rfl,rfl,rfl,rfl,rfl,rfl,rfl,rfl,rfl,rfl,⟨rfl,rowsR _ _⟩,⟨rfl,rowsR _ _⟩,rfl,rfl,trivial⟩,trivial⟩,hs⟩,fun h2=>⟨L,⟨⟨⟨rfl,rowsR _ _⟩,trivial⟩,hL.1⟩,?_⟩,fun h2=>⟨(L,s),⟨⟨⟨rfl,rowsR _ _⟩,⟨rfl,rfl,rfl,rfl,rfl,rfl,rfl,rfl,rfl,rfl,⟨rfl,rowsR _ _⟩,⟨rfl,rowsR _ _⟩,rfl,rfl,trivial⟩,trivial⟩,?_⟩,?_⟩⟩⟩⟩
 ·have h:=of_decide_eq_true h;have e:denA s L=⟨[],[],0,2⟩:=by rw[denA,if_pos (by omega)]
  rw[e];exact(by repeat' first|exact rfl|exact trivial|exact rowsR _ _|exact(fun i hi=>absurd hi (Nat.not_lt_zero _))|exact Int.natCast_add _ _|apply And.intro)
 ·have h:=of_decide_eq_false h;have h1:=of_decide_eq_true h1;have e:denA s L=⟨L,[],0,6⟩:=by rw[denA,if_neg (by omega),if_pos (by omega)]
  rw[e];exact(by repeat' first|exact rfl|exact trivial|exact rowsR _ _|exact(fun i hi=>absurd hi (Nat.not_lt_zero _))|exact Int.natCast_add _ _|apply And.intro)
 ·have h:=of_decide_eq_false h;have h1:=of_decide_eq_false h1;have e:denA s L=⟨L,[],0,1⟩:=by rw[denA,if_neg (by omega),if_neg (by omega),if_pos h2]
  rw[e];exact(by repeat' first|exact rfl|exact trivial|exact rowsR _ _|exact(fun i hi=>absurd hi (Nat.not_lt_zero _))|exact Int.natCast_add _ _|apply And.intro)
 ·have h1:=of_decide_eq_false h1;rw[Bool.or_eq_false_iff,Bool.not_eq_false',Bool.not_eq_false'] at h2;exact std_of h2.1 h2.2 (by dsimp only;omega)
 ·have h:=of_decide_eq_false h;have h1:=of_decide_eq_false h1;have e:denA s L=denR s L:=by rw[denA,if_neg (by omega),if_neg (by omega),if_neg (by rw[h2];exact Bool.false_ne_true)]
  rw[e];exact(by repeat' first|exact rfl|exact trivial|exact rowsR _ _|exact(fun i hi=>absurd hi (Nat.not_lt_zero _))|exact Int.natCast_add _ _|apply And.intro)
end Go.Proofs.YtfmngblmdghccaaGreat

