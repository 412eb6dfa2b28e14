/- A part of the proof. -/
import Derived.Test.YtfmngblmdghccaaGreatK8
import Derived.Test.YtfmngblmdghccaaGreatK15p
namespace Go.Proofs.YtfmngblmdghccaaGreat
set_option maxRecDepth 100000
open Go.SS Go.RowKit

def k_tmpK:Con:=.tmp
theorem call_tmpK:Callable Tryz.prog 6:=⟨_,Tryz.func6,by kernel_rfl,by kernel_rfl⟩
theorem tmpK_ok:ConOk Tryz.prog 6 k_tmpK:=trivial
noncomputable def k_sortS:Con:=.rfz ⟨List Rw×Int×Bool,fun x=>[rwS x.1,.int .i64 x.2.1,.bool x.2.2],fun x=>rwS (srtR x.2.1 x.2.2 x.1 x.1.length),fun x=>x.1.length<=1000⟩
noncomputable def B_sortS(L:List Rw)(c:Int)(w:Bool)(i:Nat):Nat->Ann
 |1=>.one {k:Nat//k<=i/\posR c w (srtR c w L i) (L.getD i default) i=posR c w (srtR c w L i) (L.getD i default) k} (fun x=>⟨[(0,rwS L),(1,.int .i64 c),(2,.bool w),(7,.osl 0 0 i),(8,.int .i64 i),(9,.int .i64 x.1)],[rwsA (srtR c w L i)]⟩) (fun x=>x.1) [.arr 0] [.arr 0] (fun _=>noAnn)
 |_=>.none
noncomputable def A_sortS(L:List Rw)(c:Int)(w:Bool):Nat->Ann
 |0=>.one {i:Nat//i<=L.length} (fun x=>⟨[(0,rwS L),(1,.int .i64 c),(2,.bool w),(7,.osl 0 0 x.1),(8,.int .i64 x.1)],[rwsA (srtR c w L x.1)]⟩) (fun x=>L.length-x.1) [.vl 7 []] [.vl 7 []] (fun x=>B_sortS L c w x.1)
 |_=>.none
noncomputable def b_sortS:Code:=Tryz.f61.body.getD .skip
theorem call_sortS:Callable Tryz.prog 61:=⟨_,Tryz.func61,by kernel_rfl,by kernel_rfl⟩
theorem v_sortS(L:List Rw)(c:Int)(w:Bool)(h:
  (∃(x:{i:Nat//i<=L.length}),((EqL rwRow L L)/\c=c/\w=w/\(0=0/\0=x.val)/\(0:Int)=(x.val:Int)/\True)/\(0=(srtR c w L x.val).length/\RowsEq 0 (fun(k:Nat)=>List.take 7 (List.drop (k*7) [])) (rwRow (srtR c w L x.val)))/\True)/\∀(x:{i:Nat//i<=L.length}),(decide ((x.val:Int)<(L.length:Int))=true->(∃(x_1:{k:Nat//k<=x.val/\posR c w (srtR c w L x.val) (L.getD x.val default) x.val=posR c w (srtR c w L x.val) (L.getD x.val default) k}),((EqL rwRow L L)/\c=c/\w=w/\(0=0/\x.val=x.val)/\(x.val:Int)=(x.val:Int)/\(x.val:Int)=(x_1.val:Int)/\True)/\(EqL rwRow (srtR c w L x.val) (srtR c w L x.val))/\True)/\∀(x_1:{k:Nat//k<=x.val/\posR c w (srtR c w L x.val) (L.getD x.val default) x.val=posR c w (srtR c w L x.val) (L.getD x.val default) k}),(decide ((x_1.val:Int)>(0:Int))=true->Rng .i64 ((x_1.val:Int)- (1:Int))/\InB ((x_1.val:Int)- (1:Int)) x.val/\Lt (0+((x_1.val:Int)- (1:Int)).toNat) (srtR c w L x.val).length/\∃(x_2:(Rw×Int)),(((((srtR c w L x.val).getD (0+((x_1.val:Int)- (1:Int)).toNat) default).id=x_2.fst.id/\((srtR c w L x.val).getD (0+((x_1.val:Int)- (1:Int)).toNat) default).n.k=x_2.fst.n.k/\((srtR c w L x.val).getD (0+((x_1.val:Int)- (1:Int)).toNat) default).n.n=x_2.fst.n.n/\((srtR c w L x.val).getD (0+((x_1.val:Int)- (1:Int)).toNat) default).n.t=x_2.fst.n.t/\((srtR c w L x.val).getD (0+((x_1.val:Int)- (1:Int)).toNat) default).name.k=x_2.fst.name.k/\((srtR c w L x.val).getD (0+((x_1.val:Int)- (1:Int)).toNat) default).name.n=x_2.fst.name.n/\((srtR c w L x.val).getD (0+((x_1.val:Int)- (1:Int)).toNat) default).name.t=x_2.fst.name.t/\True)/\c=x_2.snd/\True)/\True)/\InB (x.val:Int) L.length/\∃(x_3:(Rw×Int)),((((L.getD (x.val:Int).toNat default).id=x_3.fst.id/\(L.getD (x.val:Int).toNat default).n.k=x_3.fst.n.k/\(L.getD (x.val:Int).toNat default).n.n=x_3.fst.n.n/\(L.getD (x.val:Int).toNat default).n.t=x_3.fst.n.t/\(L.getD (x.val:Int).toNat default).name.k=x_3.fst.name.k/\(L.getD (x.val:Int).toNat default).name.n=x_3.fst.name.n/\(L.getD (x.val:Int).toNat default).name.t=x_3.fst.name.t/\True)/\c=x_3.snd/\True)/\True)/\∃(x_4:(Val×Val)),((((colV x_2.fst x_2.snd).k=x_4.fst.k/\(colV x_2.fst x_2.snd).n=x_4.fst.n/\(colV x_2.fst x_2.snd).t=x_4.fst.t/\True)/\((colV x_3.fst x_3.snd).k=x_4.snd.k/\(colV x_3.fst x_3.snd).n=x_4.snd.n/\(colV x_3.fst x_3.snd).t=x_4.snd.t/\True)/\True)/\True)/\((cmpV x_4.fst x_4.snd==(0:Int))=true->Rng .i64 ((x_1.val:Int)- (1:Int))/\InB ((x_1.val:Int)- (1:Int)) x.val/\Lt (0+((x_1.val:Int)- (1:Int)).toNat) (srtR c w L x.val).length/\∃(x_5:Int),((((srtR c w L x.val).getD (0+((x_1.val:Int)- (1:Int)).toNat) default).id=x_5/\True)/\True)/\InB (x.val:Int) L.length/\∃(x_6:Int),(((L.getD (x.val:Int).toNat default).id=x_6/\True)/\True)/\∃(x_7:(Val×Val)),((((1:Int)=x_7.fst.k/\x_5=x_7.fst.n/\[]=x_7.fst.t/\True)/\((1:Int)=x_7.snd.k/\x_6=x_7.snd.n/\[]=x_7.snd.t/\True)/\True)/\True)/\(w=true->Rng .i64 ((0:Int)-cmpV x_7.fst x_7.snd)/\(decide ((0:Int)-cmpV x_7.fst x_7.snd<=(0:Int))=true->InC (x_1.val:Int) x.val/\(Le (0+(x_1.val:Int).toNat) (srtR c w L x.val).length/\Le 0 0/\AppB 0 (x_1.val:Int).toNat 72)/\InB (x.val:Int) L.length/\(Le (0+(x_1.val:Int).toNat) (0+(x_1.val:Int).toNat)/\AppB (0+(x_1.val:Int).toNat) 1 72)/\InC (x_1.val:Int) x.val/\(Le (0+(x_1.val:Int).toNat+(x.val- (x_1.val:Int).toNat)) (srtR c w L x.val).length/\Le (0+(x_1.val:Int).toNat+1) (0+(x_1.val:Int).toNat+1)/\AppB (0+(x_1.val:Int).toNat+1) (x.val- (x_1.val:Int).toNat) 72)/\Rng .i64 ((x.val:Int)+(1:Int))/\∃(y:{i:Nat//i<=L.length}),(((EqL rwRow L L)/\c=c/\w=w/\(0=0/\0+(x_1.val:Int).toNat+1+(x.val- (x_1.val:Int).toNat)=y.val)/\(x.val:Int)+(1:Int)=(y.val:Int)/\True)/\(0+(x_1.val:Int).toNat+1+(x.val- (x_1.val:Int).toNat)=(srtR c w L y.val).length/\RowsEq (0+(x_1.val:Int).toNat+1+(x.val- (x_1.val:Int).toNat)) (appRow (appRow (appRow (fun(k:Nat)=>List.take 7 (List.drop (k*7) [])) 0 (rwRow (srtR c w L x.val))) (0+(x_1.val:Int).toNat) fun(k:Nat)=>List.take 7 (List.drop (k*7) [T.int .i64 (L.getD (x.val:Int).toNat default).id,T.int .i64 (L.getD (x.val:Int).toNat default).n.k,T.int .i64 (L.getD (x.val:Int).toNat default).n.n,T.str (L.getD (x.val:Int).toNat default).n.t,T.int .i64 (L.getD (x.val:Int).toNat default).name.k,T.int .i64 (L.getD (x.val:Int).toNat default).name.n,T.str (L.getD (x.val:Int).toNat default).name.t])) (0+(x_1.val:Int).toNat+1) (match(motive:=Nat->Nat->List T) 0+(x_1.val:Int).toNat with|0=>rwRow (srtR c w L x.val)|off=>fun(i:Nat)=>[T.int .i64 ((srtR c w L x.val).getD (off+i) default).id,T.int .i64 ((srtR c w L x.val).getD (off+i) default).n.k,T.int .i64 ((srtR c w L x.val).getD (off+i) default).n.n,T.str ((srtR c w L x.val).getD (off+i) default).n.t,T.int .i64 ((srtR c w L x.val).getD (off+i) default).name.k,T.int .i64 ((srtR c w L x.val).getD (off+i) default).name.n,T.str ((srtR c w L x.val).getD (off+i) default).name.t])) (rwRow (srtR c w L y.val)))/\True)/\Lt (L.length-y.val) (L.length-x.val))/\(decide ((0:Int)-cmpV x_7.fst x_7.snd<=(0:Int))=false->Rng .i64 ((x_1.val:Int)- (1:Int))/\∃(y:{k:Nat//k<=x.val/\posR c w (srtR c w L x.val) (L.getD x.val default) x.val=posR c w (srtR c w L x.val) (L.getD x.val default) k}),(((EqL rwRow L L)/\c=c/\w=w/\(0=0/\x.val=x.val)/\(x.val:Int)=(x.val:Int)/\(x_1.val:Int)- (1:Int)=(y.val:Int)/\True)/\(EqL rwRow (srtR c w L x.val) (srtR c w L x.val))/\True)/\Lt y.val x_1.val))/\(w=false->(decide (cmpV x_7.fst x_7.snd<=(0:Int))=true->InC (x_1.val:Int) x.val/\(Le (0+(x_1.val:Int).toNat) (srtR c w L x.val).length/\Le 0 0/\AppB 0 (x_1.val:Int).toNat 72)/\InB (x.val:Int) L.length/\(Le (0+(x_1.val:Int).toNat) (0+(x_1.val:Int).toNat)/\AppB (0+(x_1.val:Int).toNat) 1 72)/\InC (x_1.val:Int) x.val/\(Le (0+(x_1.val:Int).toNat+(x.val- (x_1.val:Int).toNat)) (srtR c w L x.val).length/\Le (0+(x_1.val:Int).toNat+1) (0+(x_1.val:Int).toNat+1)/\AppB (0+(x_1.val:Int).toNat+1) (x.val- (x_1.val:Int).toNat) 72)/\Rng .i64 ((x.val:Int)+(1:Int))/\∃(y:{i:Nat//i<=L.length}),(((EqL rwRow L L)/\c=c/\w=w/\(0=0/\0+(x_1.val:Int).toNat+1+(x.val- (x_1.val:Int).toNat)=y.val)/\(x.val:Int)+(1:Int)=(y.val:Int)/\True)/\(0+(x_1.val:Int).toNat+1+(x.val- (x_1.val:Int).toNat)=(srtR c w L y.val).length/\RowsEq (0+(x_1.val:Int).toNat+1+(x.val- (x_1.val:Int).toNat)) (appRow (appRow (appRow (fun(k:Nat)=>List.take 7 (List.drop (k*7) [])) 0 (rwRow (srtR c w L x.val))) (0+(x_1.val:Int).toNat) fun(k:Nat)=>List.take 7 (List.drop (k*7) [T.int .i64 (L.getD (x.val:Int).toNat default).id,T.int .i64 (L.getD (x.val:Int).toNat default).n.k,T.int .i64 (L.getD (x.val:Int).toNat default).n.n,T.str (L.getD (x.val:Int).toNat default).n.t,T.int .i64 (L.getD (x.val:Int).toNat default).name.k,T.int .i64 (L.getD (x.val:Int).toNat default).name.n,T.str (L.getD (x.val:Int).toNat default).name.t])) (0+(x_1.val:Int).toNat+1) (match(motive:=Nat->Nat->List T) 0+(x_1.val:Int).toNat with|0=>rwRow (srtR c w L x.val)|off=>fun(i:Nat)=>[T.int .i64 ((srtR c w L x.val).getD (off+i) default).id,T.int .i64 ((srtR c w L x.val).getD (off+i) default).n.k,T.int .i64 ((srtR c w L x.val).getD (off+i) default).n.n,T.str ((srtR c w L x.val).getD (off+i) default).n.t,T.int .i64 ((srtR c w L x.val).getD (off+i) default).name.k,T.int .i64 ((srtR c w L x.val).getD (off+i) default).name.n,T.str ((srtR c w L x.val).getD (off+i) default).name.t])) (rwRow (srtR c w L y.val)))/\True)/\Lt (L.length-y.val) (L.length-x.val))/\(decide (cmpV x_7.fst x_7.snd<=(0:Int))=false->Rng .i64 ((x_1.val:Int)- (1:Int))/\∃(y:{k:Nat//k<=x.val/\posR c w (srtR c w L x.val) (L.getD x.val default) x.val=posR c w (srtR c w L x.val) (L.getD x.val default) k}),(((EqL rwRow L L)/\c=c/\w=w/\(0=0/\x.val=x.val)/\(x.val:Int)=(x.val:Int)/\(x_1.val:Int)- (1:Int)=(y.val:Int)/\True)/\(EqL rwRow (srtR c w L x.val) (srtR c w L x.val))/\True)/\Lt y.val x_1.val)))/\((cmpV x_4.fst x_4.snd==(0:Int))=false->(w=true->Rng .i64 ((0:Int)-cmpV x_4.fst x_4.snd)/\(decide ((0:Int)-cmpV x_4.fst x_4.snd<=(0:Int))=true->InC (x_1.val:Int) x.val/\(Le (0+(x_1.val:Int).toNat) (srtR c w L x.val).length/\Le 0 0/\AppB 0 (x_1.val:Int).toNat 72)/\InB (x.val:Int) L.length/\(Le (0+(x_1.val:Int).toNat) (0+(x_1.val:Int).toNat)/\AppB (0+(x_1.val:Int).toNat) 1 72)/\InC (x_1.val:Int) x.val/\(Le (0+(x_1.val:Int).toNat+(x.val- (x_1.val:Int).toNat)) (srtR c w L x.val).length/\Le (0+(x_1.val:Int).toNat+1) (0+(x_1.val:Int).toNat+1)/\AppB (0+(x_1.val:Int).toNat+1) (x.val- (x_1.val:Int).toNat) 72)/\Rng .i64 ((x.val:Int)+(1:Int))/\∃(y:{i:Nat//i<=L.length}),(((EqL rwRow L L)/\c=c/\w=w/\(0=0/\0+(x_1.val:Int).toNat+1+(x.val- (x_1.val:Int).toNat)=y.val)/\(x.val:Int)+(1:Int)=(y.val:Int)/\True)/\(0+(x_1.val:Int).toNat+1+(x.val- (x_1.val:Int).toNat)=(srtR c w L y.val).length/\RowsEq (0+(x_1.val:Int).toNat+1+(x.val- (x_1.val:Int).toNat)) (appRow (appRow (appRow (fun(k:Nat)=>List.take 7 (List.drop (k*7) [])) 0 (rwRow (srtR c w L x.val))) (0+(x_1.val:Int).toNat) fun(k:Nat)=>List.take 7 (List.drop (k*7) [T.int .i64 (L.getD (x.val:Int).toNat default).id,T.int .i64 (L.getD (x.val:Int).toNat default).n.k,T.int .i64 (L.getD (x.val:Int).toNat default).n.n,T.str (L.getD (x.val:Int).toNat default).n.t,T.int .i64 (L.getD (x.val:Int).toNat default).name.k,T.int .i64 (L.getD (x.val:Int).toNat default).name.n,T.str (L.getD (x.val:Int).toNat default).name.t])) (0+(x_1.val:Int).toNat+1) (match(motive:=Nat->Nat->List T) 0+(x_1.val:Int).toNat with|0=>rwRow (srtR c w L x.val)|off=>fun(i:Nat)=>[T.int .i64 ((srtR c w L x.val).getD (off+i) default).id,T.int .i64 ((srtR c w L x.val).getD (off+i) default).n.k,T.int .i64 ((srtR c w L x.val).getD (off+i) default).n.n,T.str ((srtR c w L x.val).getD (off+i) default).n.t,T.int .i64 ((srtR c w L x.val).getD (off+i) default).name.k,T.int .i64 ((srtR c w L x.val).getD (off+i) default).name.n,T.str ((srtR c w L x.val).getD (off+i) default).name.t])) (rwRow (srtR c w L y.val)))/\True)/\Lt (L.length-y.val) (L.length-x.val))/\(decide ((0:Int)-cmpV x_4.fst x_4.snd<=(0:Int))=false->Rng .i64 ((x_1.val:Int)- (1:Int))/\∃(y:{k:Nat//k<=x.val/\posR c w (srtR c w L x.val) (L.getD x.val default) x.val=posR c w (srtR c w L x.val) (L.getD x.val default) k}),(((EqL rwRow L L)/\c=c/\w=w/\(0=0/\x.val=x.val)/\(x.val:Int)=(x.val:Int)/\(x_1.val:Int)- (1:Int)=(y.val:Int)/\True)/\(EqL rwRow (srtR c w L x.val) (srtR c w L x.val))/\True)/\Lt y.val x_1.val))/\(w=false->(decide (cmpV x_4.fst x_4.snd<=(0:Int))=true->InC (x_1.val:Int) x.val/\(Le (0+(x_1.val:Int).toNat) (srtR c w L x.val).length/\Le 0 0/\AppB 0 (x_1.val:Int).toNat 72)/\InB (x.val:Int) L.length/\(Le (0+(x_1.val:Int).toNat) (0+(x_1.val:Int).toNat)/\AppB (0+(x_1.val:Int).toNat) 1 72)/\InC (x_1.val:Int) x.val/\(Le (0+(x_1.val:Int).toNat+(x.val- (x_1.val:Int).toNat)) (srtR c w L x.val).length/\Le (0+(x_1.val:Int).toNat+1) (0+(x_1.val:Int).toNat+1)/\AppB (0+(x_1.val:Int).toNat+1) (x.val- (x_1.val:Int).toNat) 72)/\Rng .i64 ((x.val:Int)+(1:Int))/\∃(y:{i:Nat//i<=L.length}),(((EqL rwRow L L)/\c=c/\w=w/\(0=0/\0+(x_1.val:Int).toNat+1+(x.val- (x_1.val:Int).toNat)=y.val)/\(x.val:Int)+(1:Int)=(y.val:Int)/\True)/\(0+(x_1.val:Int).toNat+1+(x.val- (x_1.val:Int).toNat)=(srtR c w L y.val).length/\RowsEq (0+(x_1.val:Int).toNat+1+(x.val- (x_1.val:Int).toNat)) (appRow (appRow (appRow (fun(k:Nat)=>List.take 7 (List.drop (k*7) [])) 0 (rwRow (srtR c w L x.val))) (0+(x_1.val:Int).toNat) fun(k:Nat)=>List.take 7 (List.drop (k*7) [T.int .i64 (L.getD (x.val:Int).toNat default).id,T.int .i64 (L.getD (x.val:Int).toNat default).n.k,T.int .i64 (L.getD (x.val:Int).toNat default).n.n,T.str (L.getD (x.val:Int).toNat default).n.t,T.int .i64 (L.getD (x.val:Int).toNat default).name.k,T.int .i64 (L.getD (x.val:Int).toNat default).name.n,T.str (L.getD (x.val:Int).toNat default).name.t])) (0+(x_1.val:Int).toNat+1) (match(motive:=Nat->Nat->List T) 0+(x_1.val:Int).toNat with|0=>rwRow (srtR c w L x.val)|off=>fun(i:Nat)=>[T.int .i64 ((srtR c w L x.val).getD (off+i) default).id,T.int .i64 ((srtR c w L x.val).getD (off+i) default).n.k,T.int .i64 ((srtR c w L x.val).getD (off+i) default).n.n,T.str ((srtR c w L x.val).getD (off+i) default).n.t,T.int .i64 ((srtR c w L x.val).getD (off+i) default).name.k,T.int .i64 ((srtR c w L x.val).getD (off+i) default).name.n,T.str ((srtR c w L x.val).getD (off+i) default).name.t])) (rwRow (srtR c w L y.val)))/\True)/\Lt (L.length-y.val) (L.length-x.val))/\(decide (cmpV x_4.fst x_4.snd<=(0:Int))=false->Rng .i64 ((x_1.val:Int)- (1:Int))/\∃(y:{k:Nat//k<=x.val/\posR c w (srtR c w L x.val) (L.getD x.val default) x.val=posR c w (srtR c w L x.val) (L.getD x.val default) k}),(((EqL rwRow L L)/\c=c/\w=w/\(0=0/\x.val=x.val)/\(x.val:Int)=(x.val:Int)/\(x_1.val:Int)- (1:Int)=(y.val:Int)/\True)/\(EqL rwRow (srtR c w L x.val) (srtR c w L x.val))/\True)/\Lt y.val x_1.val))))/\(decide ((x_1.val:Int)>(0:Int))=false->InC (x_1.val:Int) x.val/\(Le (0+(x_1.val:Int).toNat) (srtR c w L x.val).length/\Le 0 0/\AppB 0 (x_1.val:Int).toNat 72)/\InB (x.val:Int) L.length/\(Le (0+(x_1.val:Int).toNat) (0+(x_1.val:Int).toNat)/\AppB (0+(x_1.val:Int).toNat) 1 72)/\InC (x_1.val:Int) x.val/\(Le (0+(x_1.val:Int).toNat+(x.val- (x_1.val:Int).toNat)) (srtR c w L x.val).length/\Le (0+(x_1.val:Int).toNat+1) (0+(x_1.val:Int).toNat+1)/\AppB (0+(x_1.val:Int).toNat+1) (x.val- (x_1.val:Int).toNat) 72)/\Rng .i64 ((x.val:Int)+(1:Int))/\∃(y:{i:Nat//i<=L.length}),(((EqL rwRow L L)/\c=c/\w=w/\(0=0/\0+(x_1.val:Int).toNat+1+(x.val- (x_1.val:Int).toNat)=y.val)/\(x.val:Int)+(1:Int)=(y.val:Int)/\True)/\(0+(x_1.val:Int).toNat+1+(x.val- (x_1.val:Int).toNat)=(srtR c w L y.val).length/\RowsEq (0+(x_1.val:Int).toNat+1+(x.val- (x_1.val:Int).toNat)) (appRow (appRow (appRow (fun(k:Nat)=>List.take 7 (List.drop (k*7) [])) 0 (rwRow (srtR c w L x.val))) (0+(x_1.val:Int).toNat) fun(k:Nat)=>List.take 7 (List.drop (k*7) [T.int .i64 (L.getD (x.val:Int).toNat default).id,T.int .i64 (L.getD (x.val:Int).toNat default).n.k,T.int .i64 (L.getD (x.val:Int).toNat default).n.n,T.str (L.getD (x.val:Int).toNat default).n.t,T.int .i64 (L.getD (x.val:Int).toNat default).name.k,T.int .i64 (L.getD (x.val:Int).toNat default).name.n,T.str (L.getD (x.val:Int).toNat default).name.t])) (0+(x_1.val:Int).toNat+1) (match(motive:=Nat->Nat->List T) 0+(x_1.val:Int).toNat with|0=>rwRow (srtR c w L x.val)|off=>fun(i:Nat)=>[T.int .i64 ((srtR c w L x.val).getD (off+i) default).id,T.int .i64 ((srtR c w L x.val).getD (off+i) default).n.k,T.int .i64 ((srtR c w L x.val).getD (off+i) default).n.n,T.str ((srtR c w L x.val).getD (off+i) default).n.t,T.int .i64 ((srtR c w L x.val).getD (off+i) default).name.k,T.int .i64 ((srtR c w L x.val).getD (off+i) default).name.n,T.str ((srtR c w L x.val).getD (off+i) default).name.t])) (rwRow (srtR c w L y.val)))/\True)/\Lt (L.length-y.val) (L.length-x.val)))/\(decide ((x.val:Int)<(L.length:Int))=false->Le (0+x.val) (srtR c w L x.val).length/\x.val=(srtR c w L L.length).length/\RowsEq x.val (rwRow (srtR c w L x.val)) (rwRow (srtR c w L L.length)))):
  PureFn Tryz.prog 61 [rwS L,.int .i64 c,.bool w] (rwS (srtR c w L L.length)):=
 vcR (code:=b_sortS) (gC colS_ok call_colS (gC cmpS_ok call_cmpS (gC vInt_ok call_vInt (gC tmpK_ok call_tmpK gN)))) Tryz.func61 (by kernel_rfl) (by kernel_rfl) (A_sortS L c w) h (by kernel_rfl)
theorem srt_ln{c:Int}{w:Bool}{L:List Rw}{i:Nat}(hi:i<=L.length):(srtR c w L i).length=i:=by
 rw[(srt_sp (c:=c) (w:=w) i hi).2.length_eq,List.length_take];omega
theorem cmpV_vI(a b:Int):cmpV (vI a) (vI b)=cmpN a b:=by
 show(if cmpN 1 1≠0 then cmpN 1 1 else if cmpN a b≠0 then cmpN a b else cmpT [] [])=cmpN a b
 rw[if_neg (by decide)]
 by_cases h:cmpN a b=0
 ·rw[if_neg (fun g=>g h),h]
  rfl
 ·rw[if_pos h]
theorem cmpV_rng(a b:Val): -1<=cmpV a b/\cmpV a b<=1:=by
 rcases LtV.tri a b with h|h|h
 ·rw[cmpV_lt h];decide
 ·rw[h,cmpV_eq];decide
 ·rw[cmpV_gt h];decide
theorem gt_iff{c:Int}{w:Bool}{a r:Rw}:GtR c w a r↔¬ ((if w=true then 0-cmpR c a r else cmpR c a r)<=0):=by
 rcases LtR.tri c a r with h|h|h
 ·rw[cmpR_lt h];cases w with
  |true=>exact⟨fun _=>by decide,fun _=>h⟩
  |false=>exact⟨fun g=>absurd (h.tr g) (fun x=>x.irr),fun g=>absurd (show(if false=true then(0:Int)- -1 else-1)<=0 by decide) g⟩
 ·rw[cmpR_eq h];have h2:¬GtR c w a r:=fun g=>by
   cases w with
   |true=>exact(LtR.sub g h).irr
   |false=>exact(LtR.sub g ⟨h.1.symm,h.2.symm⟩).irr
  exact⟨fun g=>absurd g h2,fun g=>absurd (by cases w<;>decide) g⟩
 ·rw[cmpR_gt h];cases w with
  |true=>exact⟨fun g=>absurd (LtR.tr h g) (fun x=>x.irr),fun g=>absurd (show(if true=true then(0:Int)-1 else 1)<=0 by decide) g⟩
  |false=>exact⟨fun _=>by decide,fun _=>h⟩
theorem ins_rows(M:List Rw)(r:Rw)(p:Nat)(hp:p<=M.length)(Z:Nat->List T)(hZ:∀i,Z i=(M.getD (p+i) default).ts):RowsEq (0+p+1+(M.length-p)) (appRow (appRow (appRow (fun(k:Nat)=>List.take 7 (List.drop (k*7) [])) 0 (rwRow M)) (0+p) fun(k:Nat)=>List.take 7 (List.drop (k*7) r.ts)) (0+p+1) Z) (rwRow (M.take p++r::M.drop p)):=by
 intro i hi;have hl:(M.take p).length=p:=by rw[List.length_take];omega
 unfold appRow rwRow;rw[Nat.zero_add];by_cases h1:i<p+1
 ·rw[blt_t h1];dsimp only;by_cases h2:i<p
  ·rw[blt_t h2,blt_f (Nat.not_lt_zero i),Nat.sub_zero,List.getD_eq_getElem?_getD,List.getD_eq_getElem?_getD,List.getElem?_append_left (by omega),List.getElem?_take_of_lt h2]
  ·have:i=p:=by omega
   subst this;rw[blt_f h2,List.getD_eq_getElem?_getD (l:=_++_),List.getElem?_append_right (by omega),hl,Nat.sub_self,Nat.zero_mul,List.drop_zero]
   rfl
 ·rw[blt_f h1];dsimp only;rw[hZ,List.getD_eq_getElem?_getD (l:=_++_),List.getElem?_append_right (by omega),hl,show i-p=(i- (p+1))+1 by omega,List.getElem?_cons_succ,List.getElem?_drop,←List.getD_eq_getElem?_getD]
theorem sort_tail{L:List Rw}{c:Int}{w:Bool}{i k:Nat}(hL:L.length<=1000)(hi:i<L.length)(hp:posR c w (srtR c w L i) (L.getD i default) i=k):
  InC (k:Int) i/\(Le (0+(k:Int).toNat) (srtR c w L i).length/\Le 0 0/\AppB 0 (k:Int).toNat 72)/\InB (i:Int) L.length/\(Le (0+(k:Int).toNat) (0+(k:Int).toNat)/\AppB (0+(k:Int).toNat) 1 72)/\InC (k:Int) i/\(Le (0+(k:Int).toNat+(i- (k:Int).toNat)) (srtR c w L i).length/\Le (0+(k:Int).toNat+1) (0+(k:Int).toNat+1)/\AppB (0+(k:Int).toNat+1) (i- (k:Int).toNat) 72)/\Rng .i64 ((i:Int)+(1:Int))/\∃(y:{i:Nat//i<=L.length}),(((EqL rwRow L L)/\c=c/\w=w/\(0=0/\0+(k:Int).toNat+1+(i- (k:Int).toNat)=y.val)/\(i:Int)+(1:Int)=(y.val:Int)/\True)/\(0+(k:Int).toNat+1+(i- (k:Int).toNat)=(srtR c w L y.val).length/\RowsEq (0+(k:Int).toNat+1+(i- (k:Int).toNat)) (appRow (appRow (appRow (fun(k:Nat)=>List.take 7 (List.drop (k*7) [])) 0 (rwRow (srtR c w L i))) (0+(k:Int).toNat) fun(k:Nat)=>List.take 7 (List.drop (k*7) (L.getD (i:Int).toNat default).ts)) (0+(k:Int).toNat+1) (match(motive:=Nat->Nat->List T) 0+(k:Int).toNat with|0=>rwRow (srtR c w L i)|off=>fun(j:Nat)=>((srtR c w L i).getD (off+j) default).ts)) (rwRow (srtR c w L y.val)))/\True)/\Lt (L.length-y.val) (L.length-i):=by
 have hM:(srtR c w L i).length=i:=srt_ln (by omega)
 have hk:k<=i:=by
  have:=(pos_sp (c:=c) (w:=w) (L:=srtR c w L i) (r:=L.getD i default) i (by omega)).1
  omega
 have e:srtR c w L (i+1)=(srtR c w L i).take k++L.getD i default::(srtR c w L i).drop k:=by
  show insR c w (srtR c w L i) (L.getD i default)=_;unfold insR;rw[hM,hp]
 rw[Int.toNat_natCast,Int.toNat_natCast];refine⟨⟨by omega,by omega⟩,⟨by unfold Le;omega,Nat.le_refl _,by unfold AppB;omega⟩,inB_nat hi,⟨Nat.le_refl _,by unfold AppB;omega⟩,⟨by omega,by omega⟩,⟨by unfold Le;omega,Nat.le_refl _,by unfold AppB;omega⟩,i64_rng (by omega),⟨i+1,hi⟩,⟨⟨⟨rfl,rowsR _ _⟩,rfl,rfl,⟨rfl,by dsimp only;omega⟩,by dsimp only;omega,trivial⟩,⟨by dsimp only;rw[srt_ln (show i+1<=L.length by omega)];omega,?_⟩,trivial⟩,by unfold Lt;dsimp only;omega⟩
 dsimp only;rw[e];have h:=ins_rows (srtR c w L i) (L.getD i default) k (by omega) (match(motive:=Nat->Nat->List T) 0+k with|0=>rwRow (srtR c w L i)|off=>fun(j:Nat)=>((srtR c w L i).getD (off+j) default).ts) (fun j=>by
  rw[Nat.zero_add];cases k with
  |zero=>rw[Nat.zero_add];rfl
  |succ k=>rfl)
 rw[hM] at h;exact h
theorem sortS_ok:ConOk Tryz.prog 61 k_sortS:=by
 rintro⟨L,c,w⟩ (hL:L.length<=1000);refine v_sortS L c w ⟨⟨⟨0,Nat.zero_le _⟩,⟨⟨rfl,rowsR _ _⟩,rfl,rfl,⟨rfl,rfl⟩,rfl,trivial⟩,⟨rfl,fun i hi=>absurd hi (Nat.not_lt_zero _)⟩,trivial⟩,fun x=>⟨fun hc=> ?_,fun hc=> ?_⟩⟩
 ·obtain⟨i,hi⟩:=x;have hlt:i<L.length:=lt_of_dec hc;have hM:(srtR c w L i).length=i:=srt_ln hi;dsimp only;refine⟨⟨⟨i,Nat.le_refl _,rfl⟩,⟨⟨rfl,rowsR _ _⟩,rfl,rfl,⟨rfl,rfl⟩,rfl,rfl,trivial⟩,⟨rfl,rowsR _ _⟩,trivial⟩,fun y=>⟨fun hd=> ?_,fun hd=> ?_⟩⟩
  ·obtain⟨k,hk,hp⟩:=y;have hk0:=of_decide_eq_true hd;dsimp only at hk0 ⊢;rw[Int.toNat_natCast,show 0+((k:Int)-1).toNat=k-1 by omega]
   have ib:InB ((k:Int)-1) i:=⟨by omega,by omega⟩
   have lt:Lt (k-1) (srtR c w L i).length:=by unfold Lt;omega
   have hv:=cmpV_rng (colV ((srtR c w L i).getD (k-1) default) c) (colV (L.getD i default) c);have hu:=cmpV_rng (vI ((srtR c w L i).getD (k-1) default).id) (vI (L.getD i default).id);have stop:¬GtR c w ((srtR c w L i).getD (k-1) default) (L.getD i default)->posR c w (srtR c w L i) (L.getD i default) i=k:=fun h=>by
    rw[hp];obtain⟨q,rfl⟩:∃q,k=q+1:=⟨k-1,by omega⟩
    rw[Nat.add_sub_cancel] at h;unfold posR;rw[if_neg h]
   have go:GtR c w ((srtR c w L i).getD (k-1) default) (L.getD i default)->posR c w (srtR c w L i) (L.getD i default) i=posR c w (srtR c w L i) (L.getD i default) (k-1):=fun h=>by
    rw[hp];obtain⟨q,rfl⟩:∃q,k=q+1:=⟨k-1,by omega⟩
    rw[Nat.add_sub_cancel] at h ⊢;conv=>lhs;unfold posR
    rw[if_pos h]
   have gi:=gt_iff (c:=c) (w:=w) (a:=(srtR c w L i).getD (k-1) default) (r:=L.getD i default);refine⟨i64_rng (by omega),ib,lt,((srtR c w L i).getD (k-1) default,c),⟨⟨⟨rfl,rfl,rfl,rfl,rfl,rfl,rfl,trivial⟩,rfl,trivial⟩,trivial⟩,inB_nat hlt,(L.getD i default,c),⟨⟨⟨rfl,rfl,rfl,rfl,rfl,rfl,rfl,trivial⟩,rfl,trivial⟩,trivial⟩,(colV ((srtR c w L i).getD (k-1) default) c,colV (L.getD i default) c),⟨⟨⟨rfl,rfl,rfl,trivial⟩,⟨rfl,rfl,rfl,trivial⟩,trivial⟩,trivial⟩,fun he=> ?_,fun he=> ?_⟩
   ·have ec:cmpV (vI ((srtR c w L i).getD (k-1) default).id) (vI (L.getD i default).id)=cmpR c ((srtR c w L i).getD (k-1) default) (L.getD i default):=by
     rw[cmpR,if_neg (fun h=>h (by simpa using he)),cmpV_vI]
    refine⟨i64_rng (by omega),ib,lt,_,⟨⟨rfl,trivial⟩,trivial⟩,inB_nat hlt,_,⟨⟨rfl,trivial⟩,trivial⟩,(vI ((srtR c w L i).getD (k-1) default).id,vI (L.getD i default).id),⟨⟨⟨rfl,rfl,rfl,trivial⟩,⟨rfl,rfl,rfl,trivial⟩,trivial⟩,trivial⟩,fun hw=>⟨i64_rng (by dsimp only;omega),fun hz=> ?_,fun hz=>⟨i64_rng (by omega),⟨k-1,by omega,go (gi.2 ?_)⟩,⟨⟨⟨rfl,rowsR _ _⟩,rfl,rfl,⟨rfl,rfl⟩,rfl,by dsimp only;omega,trivial⟩,⟨rfl,rowsR _ _⟩,trivial⟩,by unfold Lt;dsimp only;omega⟩⟩,fun hw=>⟨fun hz=> ?_,fun hz=>⟨i64_rng (by omega),⟨k-1,by omega,go (gi.2 ?_)⟩,⟨⟨⟨rfl,rowsR _ _⟩,rfl,rfl,⟨rfl,rfl⟩,rfl,by dsimp only;omega,trivial⟩,⟨rfl,rowsR _ _⟩,trivial⟩,by unfold Lt;dsimp only;omega⟩⟩⟩
    ·refine sort_tail hL hlt (stop fun h=>gi.1 h ?_)
     rw[if_pos hw,←ec];exact of_decide_eq_true hz
    ·rw[if_pos hw,←ec];exact of_decide_eq_false hz
    ·refine sort_tail hL hlt (stop fun h=>gi.1 h ?_)
     rw[if_neg (by rw[hw];exact Bool.false_ne_true),←ec]
     exact of_decide_eq_true hz
    ·rw[if_neg (by rw[hw];exact Bool.false_ne_true),←ec]
     exact of_decide_eq_false hz
   ·have ec:cmpV (colV ((srtR c w L i).getD (k-1) default) c) (colV (L.getD i default) c)=cmpR c ((srtR c w L i).getD (k-1) default) (L.getD i default):=by
     rw[cmpR,if_pos (by simpa using he)]
    refine⟨fun hw=>⟨i64_rng (by dsimp only;omega),fun hz=> ?_,fun hz=>⟨i64_rng (by omega),⟨k-1,by omega,go (gi.2 ?_)⟩,⟨⟨⟨rfl,rowsR _ _⟩,rfl,rfl,⟨rfl,rfl⟩,rfl,by dsimp only;omega,trivial⟩,⟨rfl,rowsR _ _⟩,trivial⟩,by unfold Lt;dsimp only;omega⟩⟩,fun hw=>⟨fun hz=> ?_,fun hz=>⟨i64_rng (by omega),⟨k-1,by omega,go (gi.2 ?_)⟩,⟨⟨⟨rfl,rowsR _ _⟩,rfl,rfl,⟨rfl,rfl⟩,rfl,by dsimp only;omega,trivial⟩,⟨rfl,rowsR _ _⟩,trivial⟩,by unfold Lt;dsimp only;omega⟩⟩⟩
    ·refine sort_tail hL hlt (stop fun h=>gi.1 h ?_)
     rw[if_pos hw,←ec];exact of_decide_eq_true hz
    ·rw[if_pos hw,←ec];exact of_decide_eq_false hz
    ·refine sort_tail hL hlt (stop fun h=>gi.1 h ?_)
     rw[if_neg (by rw[hw];exact Bool.false_ne_true),←ec]
     exact of_decide_eq_true hz
    ·rw[if_neg (by rw[hw];exact Bool.false_ne_true),←ec]
     exact of_decide_eq_false hz
  ·obtain⟨k,hk,hp⟩:=y;have hk0:=of_decide_eq_false hd;dsimp only at hk0 ⊢;obtain rfl:k=0:=by omega
   exact sort_tail hL hlt hp
 ·obtain⟨i,hi⟩:=x;have hi2:i=L.length:=by have:=le_of_not hc;dsimp only at this;omega
  subst hi2;refine⟨?_,(srt_len L).symm,rowsR _ _⟩
  show Le (0+L.length) (srtR c w L L.length).length;rw[srt_len];unfold Le;omega
end Go.Proofs.YtfmngblmdghccaaGreat

namespace Go.Proofs.YtfmngblmdghccaaGreat
set_option maxRecDepth 100000
open Go.SS Go.RowKit

theorem len_s(O:List Rw)(r:Rw):O.length+1=(O++[r]).length:=by rw[List.length_append];rfl
theorem evalS_41:ConOk Tryz.prog 84 (k_eval 41):=evalS_ok 41
def k_holds:Con:=.rel ⟨Stm×Rw,fun x=>[.agg x.1.ts,.agg x.2.ts],fun x=>.tup [.bool (mea x.1 x.2).1,.int .i64 (mea x.1 x.2).2],fun x=>stmE x.1/\rowOKb x.2=true⟩
noncomputable def b_holds:Code:=Tryz.f59.body.getD .skip
theorem call_holds:Callable Tryz.prog 59:=⟨_,Tryz.func59,by kernel_rfl,by kernel_rfl⟩
theorem v_holds(s:Stm)(r:Rw)(Z:Bool×Int)(h:
  ∃(x:(List Nd)),((((EqL ndRow s.whr x)/\True)/\True)/\True)/\(List.isEmpty x=true->true=Z.fst/\(0:Int)=Z.snd/\True)/\(List.isEmpty x=false->Rng .i64 ((s.whr.length:Int)- (1:Int))/\∃(x:(List Nd×Int×
  Rw)),((((EqL ndRow s.whr x.fst)/\True)/\(s.whr.length:Int)- (1:Int)=x.snd.fst/\(r.id=x.snd.snd.id/\r.n.k=x.snd.snd.n.k/\r.n.n=x.snd.snd.n.n/\r.n.t=x.snd.snd.n.t/\r.name.k=x.snd.snd.name.k/\r.name.n=
  x.snd.snd.name.n/\r.name.t=x.snd.snd.name.t/\True)/\True)/\NdL x.fst/\rowOKb x.snd.snd=true/\x.fst.length<=40/\(0:Int)<=x.snd.fst/\x.snd.fst<(x.fst.length:Int)/\x.snd.fst<(41:Int))/\(((evF 41 x.fst
  x.snd.snd x.snd.fst.toNat).snd !=(0:Int))=true->false=Z.fst/\(evF 41 x.fst x.snd.snd x.snd.fst.toNat).snd=Z.snd/\True)/\(((evF 41 x.fst x.snd.snd x.snd.fst.toNat).snd !=(0:Int))=false->(((evF 41 x.fst x.snd.snd
  x.snd.fst.toNat).fst.k==(2:Int))=true->false=Z.fst/\(10:Int)=Z.snd/\True)/\(((evF 41 x.fst x.snd.snd x.snd.fst.toNat).fst.k==(2:Int))=false->((evF 41 x.fst x.snd.snd x.snd.fst.toNat).fst.k==(1:Int)&&
  (evF 41 x.fst x.snd.snd x.snd.fst.toNat).fst.n !=(0:Int))=Z.fst/\(0:Int)=Z.snd/\True)))):
  PureFn Tryz.prog 59 [.agg s.ts,.agg r.ts] (.tup [.bool Z.1,.int .i64 Z.2]):=
 vcR (code:=b_holds) (gC none_ok call_none (gC evalS_41 call_evalS gN)) Tryz.func59 (by kernel_rfl) (by kernel_rfl) noAnn h (by kernel_rfl)
theorem ev_41{L:List Nd}{r:Rw}(hL:NdL L)(hl:L.length<=40)(h0:0<L.length):evF 41 L r ((L.length:Int)-1).toNat=evL L r:=by
 rw[show((L.length:Int)-1).toNat=L.length-1 by omega]
 exact ev_fu hL 41 L.length (L.length-1) (by omega) (by omega) (by omega)
theorem holds_ok:ConOk Tryz.prog 59 k_holds:=by
 rintro⟨s,r⟩ ⟨hs,hr⟩;dsimp only at hs hr;refine v_holds s r (mea s r) ⟨s.whr,⟨⟨⟨⟨rfl,rowsR _ _⟩,trivial⟩,trivial⟩,trivial⟩,fun h=> ?_,fun h=> ?_⟩
 ·rw[mea,if_pos h];exact⟨rfl,rfl,trivial⟩
 ·have hw:NdL s.whr/\0<s.whr.length/\s.whr.length<=40:=by
   rcases hs with hs|hs
   ·rw[hs] at h;cases h
   ·exact hs
  refine⟨i64_rng (by omega),(s.whr,(s.whr.length:Int)-1,r),⟨⟨⟨⟨rfl,rowsR _ _⟩,trivial⟩,rfl,⟨rfl,rfl,rfl,rfl,rfl,rfl,rfl,trivial⟩,trivial⟩,hw.1,hr,hw.2.2,by dsimp only;omega,by dsimp only;omega,by dsimp only;omega⟩,?_⟩
  dsimp only;rw[ev_41 hw.1 hw.2.2 hw.2.1];refine⟨fun h1=> ?_,fun h1=>⟨fun h2=> ?_,fun h2=> ?_⟩⟩
  ·rw[mea,h,if_neg Bool.false_ne_true,if_pos (by simpa using h1)]
   exact⟨rfl,rfl,trivial⟩
  ·rw[mea,h,if_neg Bool.false_ne_true,if_neg (by simpa using h1),if_pos (by simpa using h2)]
   exact⟨rfl,rfl,trivial⟩
  ·rw[mea,h,if_neg Bool.false_ne_true,if_neg (by simpa using h1),if_neg (by simpa using h2)]
   exact⟨rfl,rfl,trivial⟩
def updS(s:Stm)(r:Rw):Rw×Int:=if(evL s.set r).2≠0 then(r,(evL s.set r).2) else(setV s.c r (evL s.set r).1,if rowOKb (setV s.c r (evL s.set r).1)=true then 0 else 10)
def k_setS:Con:=.rel ⟨Stm×Rw,fun x=>[.agg x.1.ts,.agg x.2.ts],fun x=>.tup [.agg (updS x.1 x.2).1.ts,.int .i64 (updS x.1 x.2).2],fun x=>(NdL x.1.set/\0<x.1.set.length/\x.1.set.length<=40)/\rowOKb x.2=true⟩
noncomputable def b_setS:Code:=Tryz.f60.body.getD .skip
theorem call_setS:Callable Tryz.prog 60:=⟨_,Tryz.func60,by kernel_rfl,by kernel_rfl⟩
theorem v_setS(s:Stm)(r:Rw)(Z:Rw×Int)(h:
  Rng .i64 ((s.set.length:Int)- (1:Int))/\∃(x:(List Nd×Int×Rw)),((((EqL ndRow s.set x.fst)/\True)/\(s.set.length:Int)- (1:Int)=x.snd.fst/\(r.id=x.snd.snd.id/\r.n.k=x.snd.snd.n.k/\r.n.n=x.snd.snd.n.n/\
  r.n.t=x.snd.snd.n.t/\r.name.k=x.snd.snd.name.k/\r.name.n=x.snd.snd.name.n/\r.name.t=x.snd.snd.name.t/\True)/\True)/\NdL x.fst/\rowOKb x.snd.snd=true/\x.fst.length<=40/\(0:Int)<=x.snd.fst/\x.snd.fst<
  (x.fst.length:Int)/\x.snd.fst<(41:Int))/\(((evF 41 x.fst x.snd.snd x.snd.fst.toNat).snd !=(0:Int))=true->(r.id=Z.fst.id/\r.n.k=Z.fst.n.k/\r.n.n=Z.fst.n.n/\r.n.t=Z.fst.n.t/\r.name.k=Z.fst.name.k/\r.name.n
  =Z.fst.name.n/\r.name.t=Z.fst.name.t/\True)/\(evF 41 x.fst x.snd.snd x.snd.fst.toNat).snd=Z.snd/\True)/\(((evF 41 x.fst x.snd.snd x.snd.fst.toNat).snd !=(0:Int))=false->((s.c==(1:Int))=true->∃(x_1:
  r_rowOK.ι),(((r.id=x_1.id/\(evF 41 x.fst x.snd.snd x.snd.fst.toNat).fst.k=x_1.n.k/\(evF 41 x.fst x.snd.snd x.snd.fst.toNat).fst.n=x_1.n.n/\(evF 41 x.fst x.snd.snd x.snd.fst.toNat).fst.t=x_1.n.t/\r.name.k=x_1.name.k
  /\r.name.n=x_1.name.n/\r.name.t=x_1.name.t/\True)/\True)/\RwB x_1)/\((!rowOKb x_1)=true->(r.id=Z.fst.id/\(evF 41 x.fst x.snd.snd x.snd.fst.toNat).fst.k=Z.fst.n.k/\(evF 41 x.fst x.snd.snd x.snd.fst.toNat).fst.n=
  Z.fst.n.n/\(evF 41 x.fst x.snd.snd x.snd.fst.toNat).fst.t=Z.fst.n.t/\r.name.k=Z.fst.name.k/\r.name.n=Z.fst.name.n/\r.name.t=Z.fst.name.t/\True)/\(10:Int)=Z.snd/\True)/\((!rowOKb x_1)=false->(r.id=Z.fst.id
  /\(evF 41 x.fst x.snd.snd x.snd.fst.toNat).fst.k=Z.fst.n.k/\(evF 41 x.fst x.snd.snd x.snd.fst.toNat).fst.n=Z.fst.n.n/\(evF 41 x.fst x.snd.snd x.snd.fst.toNat).fst.t=Z.fst.n.t/\r.name.k=Z.fst.name.k/\r.name.n=
  Z.fst.name.n/\r.name.t=Z.fst.name.t/\True)/\(0:Int)=Z.snd/\True))/\((s.c==(1:Int))=false->∃(x_1:r_rowOK.ι),(((r.id=x_1.id/\r.n.k=x_1.n.k/\r.n.n=x_1.n.n/\r.n.t=x_1.n.t/\(evF 41 x.fst x.snd.snd
  x.snd.fst.toNat).fst.k=x_1.name.k/\(evF 41 x.fst x.snd.snd x.snd.fst.toNat).fst.n=x_1.name.n/\(evF 41 x.fst x.snd.snd x.snd.fst.toNat).fst.t=x_1.name.t/\True)/\True)/\RwB x_1)/\((!rowOKb x_1)=true->(r.id=Z.fst.id
  /\r.n.k=Z.fst.n.k/\r.n.n=Z.fst.n.n/\r.n.t=Z.fst.n.t/\(evF 41 x.fst x.snd.snd x.snd.fst.toNat).fst.k=Z.fst.name.k/\(evF 41 x.fst x.snd.snd x.snd.fst.toNat).fst.n=Z.fst.name.n/\(evF 41 x.fst x.snd.snd
  x.snd.fst.toNat).fst.t=Z.fst.name.t/\True)/\(10:Int)=Z.snd/\True)/\((!rowOKb x_1)=false->(r.id=Z.fst.id/\r.n.k=Z.fst.n.k/\r.n.n=Z.fst.n.n/\r.n.t=Z.fst.n.t/\(evF 41 x.fst x.snd.snd x.snd.fst.toNat).fst.k=
  Z.fst.name.k/\(evF 41 x.fst x.snd.snd x.snd.fst.toNat).fst.n=Z.fst.name.n/\(evF 41 x.fst x.snd.snd x.snd.fst.toNat).fst.t=Z.fst.name.t/\True)/\(0:Int)=Z.snd/\True)))):
  PureFn Tryz.prog 60 [.agg s.ts,.agg r.ts] (.tup [.agg Z.1.ts,.int .i64 Z.2]):=
 vcR (code:=b_setS) (gC evalS_41 call_evalS (gC l07Row_ok call_l07Row gN)) Tryz.func60 (by kernel_rfl) (by kernel_rfl) noAnn h (by kernel_rfl)
theorem upd_S(s:Stm)(r:Rw):(updS s r).2=(upd s r).2/\((upd s r).2=0->(updS s r).1=(upd s r).1):=by
 unfold updS upd;split
 ·exact⟨rfl,fun _=>rfl⟩
 ·split
  ·exact⟨rfl,fun _=>rfl⟩
  ·exact⟨rfl,fun h=>by cases h⟩
theorem setS_ok:ConOk Tryz.prog 60 k_setS:=by
 rintro⟨s,r⟩ ⟨hs,hr⟩;dsimp only at hs hr;have hE:=ev_ok hs.1 hr s.set.length (s.set.length-1) (by omega)
 replace hE:valOK (evL s.set r).1=true:=hE;have hv:=rw_vok hr;have hB:RwB (setV s.c r (evL s.set r).1):=by
  unfold setV;split
  ·exact rwB_of hE hv.2
  ·exact rwB_of hv.1 hE
 refine v_setS s r (updS s r) ⟨i64_rng (by omega),(s.set,(s.set.length:Int)-1,r),⟨⟨⟨⟨rfl,rowsR _ _⟩,trivial⟩,rfl,⟨rfl,rfl,rfl,rfl,rfl,rfl,rfl,trivial⟩,trivial⟩,hs.1,hr,hs.2.2,by dsimp only;omega,by dsimp only;omega,by dsimp only;omega⟩,?_⟩
 dsimp only;rw[ev_41 hs.1 hs.2.2 hs.2.1];refine⟨fun h1=>rz (r:=r) ?_,fun h1=> ?_⟩
 ·rw[updS,if_pos (by simpa using h1)]
 have h1:¬ (evL s.set r).2≠0:=by simpa using h1
 have ok:rowOKb (setV s.c r (evL s.set r).1)=true->updS s r=(setV s.c r (evL s.set r).1,0):=fun h=>by rw[updS,if_neg h1,if_pos h]
 have no:(!rowOKb (setV s.c r (evL s.set r).1))=true->updS s r=(setV s.c r (evL s.set r).1,10):=fun h=>by rw[updS,if_neg h1,if_neg (by intro g;rw[g] at h;cases h)]
 refine⟨fun h2=> ?_,fun h2=> ?_⟩
 ·have e:setV s.c r (evL s.set r).1=⟨r.id,(evL s.set r).1,r.name⟩:=by rw[setV,if_pos (by simpa using h2)]
  rw[e] at ok no hB;exact⟨⟨r.id,(evL s.set r).1,r.name⟩,⟨⟨⟨rfl,rfl,rfl,rfl,rfl,rfl,rfl,trivial⟩,trivial⟩,hB⟩,fun h=>rz (r:=⟨r.id,(evL s.set r).1,r.name⟩) (no h),fun h=>rz (r:=⟨r.id,(evL s.set r).1,r.name⟩) (ok (by simpa using h))⟩
 ·have e:setV s.c r (evL s.set r).1=⟨r.id,r.n,(evL s.set r).1⟩:=by rw[setV,if_neg (by simpa using h2)]
  rw[e] at ok no hB;exact⟨⟨r.id,r.n,(evL s.set r).1⟩,⟨⟨⟨rfl,rfl,rfl,rfl,rfl,rfl,rfl,trivial⟩,trivial⟩,hB⟩,fun h=>rz (r:=⟨r.id,r.n,(evL s.set r).1⟩) (no h),fun h=>rz (r:=⟨r.id,r.n,(evL s.set r).1⟩) (ok (by simpa using h))⟩
noncomputable def k_denS:Con:=.rel ⟨List Rw×Stm,fun x=>[rwS x.1,.agg x.2.ts],fun x=>.tup [rwS (denR x.2 x.1).r,.agg [rwS (denR x.2 x.1).a,.int .i64 (denR x.2 x.1).n],.int .i64 (denR x.2 x.1).x],fun x=>StD x.2 x.1/\(x.2.k=1∨x.2.k=2∨x.2.k=3∨x.2.k=4)⟩
def A_denS(s:Stm)(L:List Rw):Nat->Ann
 |0=>.one (Cnt L.length (lowB L s.row.id)) (fun x=>⟨[(0,rwS L),(3,.ref 0 0 0),(5,.ref 1 0 0),(7,.ref 2 0 0),(8,.int .i64 x.1)],[stmBx s,ansZ,ansB 3 0 0,rwsA []]⟩) (fun x=>L.length-x.1) [.box 0,.box 1,.box 3,.arr 2] [.box 0,.box 1,.box 2,.arr 3] (fun _=>noAnn)
 |1=>.one {i:Nat//i<=L.length/\(dnN s L i).x=0} (fun x=>⟨[(0,rwS L),(3,.ref 0 0 0),(5,.ref 1 0 0),(7,.ref 2 0 0),(10,.osl 4 0 (dnN s L x.1).o.length),(11,.ref 5 0 0),(12,.int .i64 x.1)],[stmBx s,ansZ,ansB 3 0 0,rwsA [],rwsA (dnN s L x.1).o,ansB 6 (dnN s L x.1).q.length (dnN s L x.1).n,rwsA (dnN s L x.1).q]⟩) (fun x=>L.length-x.1) [.box 0,.box 1,.box 3,.arr 2,.arr 4,.box 6,.arr 5] [.box 0,.box 1,.box 2,.arr 3,.vl 10 [],.box 5,.cel 5 0] (fun _=>noAnn)
 |_=>.none
noncomputable def b_denS:Code:=Tryz.f31.body.getD .skip
theorem call_denS:Callable Tryz.prog 31:=⟨_,Tryz.func31,by kernel_rfl,by kernel_rfl⟩
theorem v_denS(L:List Rw)(s:Stm)(R M:List Rw)(c:Nat)(x:Int)(h:
  ((s.k==(2:Int))=true->(∃(x:Cnt L.length (lowB L s.row.id)),((EqL rwRow L L)/\(0=0/\0=0)/\(0=0/\0=0)/\(0=0/\0=0)/\(0:Int)=(x.val:Int)/\True)/\(1=1/\1=1/\s.k=s.k/\s.ta=s.ta/\s.row.id=
  s.row.id/\s.row.n.k=s.row.n.k/\s.row.n.n=s.row.n.n/\s.row.n.t=s.row.n.t/\s.row.name.k=s.row.name.k/\s.row.name.n=s.row.name.n/\s.row.name.t=s.row.name.t/\s.c=s.c/\(EqL ndRow s.set s.set)/\(EqL ndRow s.whr
  s.whr)/\s.ord=s.ord/\s.down=s.down/\True)/\(1=1/\1=1/\Value.slice none 0 0=Value.slice none 0 0/\(0:Int)=(0:Int)/\True)/\(1=1/\1=1/\(0=0/\0=0)/\(0:Int)=(0:Int)/\True)/\(0=0/\RowsEq 0
  (fun(k:Nat)=>List.take 7 (List.drop (k*7) [])) (rwRow []))/\True)/\∀(x_1:Cnt L.length (lowB L s.row.id)),(decide ((x_1.val:Int)<(L.length:Int))=true->InB (x_1.val:Int) L.length)/\(decide ((x_1.val:Int)<
  (L.length:Int))=true->Lt 0 1)/\((decide ((x_1.val:Int)<(L.length:Int))&&decide ((L.getD (x_1.val:Int).toNat default).id<s.row.id))=true->Rng .i64 ((x_1.val:Int)+(1:Int))/\∃(y:Cnt L.length (lowB L s.row.id)),
  (((EqL rwRow L L)/\(0=0/\0=0)/\(0=0/\0=0)/\(0=0/\0=0)/\(x_1.val:Int)+(1:Int)=(y.val:Int)/\True)/\(1=1/\1=1/\s.k=s.k/\s.ta=s.ta/\s.row.id=s.row.id/\s.row.n.k=s.row.n.k/\s.row.n.n=
  s.row.n.n/\s.row.n.t=s.row.n.t/\s.row.name.k=s.row.name.k/\s.row.name.n=s.row.name.n/\s.row.name.t=s.row.name.t/\s.c=s.c/\(EqL ndRow s.set s.set)/\(EqL ndRow s.whr s.whr)/\s.ord=s.ord/\s.down=s.down/\True)
  /\(1=1/\1=1/\Value.slice none 0 0=Value.slice none 0 0/\(0:Int)=(0:Int)/\True)/\(1=1/\1=1/\(0=0/\0=0)/\(0:Int)=(0:Int)/\True)/\(0=0/\RowsEq 0 (rwRow []) (rwRow []))/\True)/\Lt (L.length-
  y.val) (L.length-x_1.val))/\((decide ((x_1.val:Int)<(L.length:Int))&&decide ((L.getD (x_1.val:Int).toNat default).id<s.row.id))=false->(decide ((x_1.val:Int)<(L.length:Int))=true->InB (x_1.val:Int) L.length)/\
  (decide ((x_1.val:Int)<(L.length:Int))=true->Lt 0 1)/\((decide ((x_1.val:Int)<(L.length:Int))&&(L.getD (x_1.val:Int).toNat default).id==s.row.id)=true->Lt 0 1/\Lt 0 1/\Lt 0 1/\Le 0 0/\(EqL rwRow L R)/\((0=
  M.length/\RowsEq 0 (rwRow []) (rwRow M))/\(0:Int)=(c:Int)/\True)/\(17:Int)=x/\True)/\((decide ((x_1.val:Int)<(L.length:Int))&&(L.getD (x_1.val:Int).toNat default).id==s.row.id)=false->InC (x_1.val:Int)
  L.length/\(Le 0 0/\AppB 0 (x_1.val:Int).toNat 72)/\Lt 0 1/\(Le (0+(x_1.val:Int).toNat) (0+(x_1.val:Int).toNat)/\AppB (0+(x_1.val:Int).toNat) 1 72)/\InC (x_1.val:Int) L.length/\(Le (0+(x_1.val:Int).toNat+1) (0+
  (x_1.val:Int).toNat+1)/\AppB (0+(x_1.val:Int).toNat+1) (L.length- (x_1.val:Int).toNat) 72)/\Lt 0 1/\Lt 0 1/\(Le (0+(0+(x_1.val:Int).toNat+1+(L.length- (x_1.val:Int).toNat))) (0+(x_1.val:Int).toNat+1+
  (L.length- (x_1.val:Int).toNat))/\Le 0 0)/\(0+(x_1.val:Int).toNat+1+(L.length- (x_1.val:Int).toNat)=R.length/\RowsEq (0+(x_1.val:Int).toNat+1+(L.length- (x_1.val:Int).toNat)) (appRow (appRow (appRow (fun(k:
  Nat)=>List.take 7 (List.drop (k*7) [])) 0 (rwRow L)) (0+(x_1.val:Int).toNat) fun(k:Nat)=>List.take 7 (List.drop (k*7) [T.int .i64 s.row.id,T.int .i64 s.row.n.k,T.int .i64 s.row.n.n,T.str s.row.n.t,T.int .i64
  s.row.name.k,T.int .i64 s.row.name.n,T.str s.row.name.t])) (0+(x_1.val:Int).toNat+1) fun(i:Nat)=>[T.int .i64 (L.getD ((x_1.val:Int).toNat+i) default).id,T.int .i64 (L.getD ((x_1.val:Int).toNat+i) default).n.k,
  T.int .i64 (L.getD ((x_1.val:Int).toNat+i) default).n.n,T.str (L.getD ((x_1.val:Int).toNat+i) default).n.t,T.int .i64 (L.getD ((x_1.val:Int).toNat+i) default).name.k,T.int .i64 (L.getD ((x_1.val:Int).toNat+i)
  default).name.n,T.str (L.getD ((x_1.val:Int).toNat+i) default).name.t]) (rwRow R))/\((0=M.length/\RowsEq 0 (fun(k:Nat)=>List.take 7 (List.drop (k*7) [])) (rwRow M))/\(1:Int)=(c:Int)/\True)/\(0:Int)=x/\
  True)))/\((s.k==(2:Int))=false->(∃(x:{i:Nat//i<=L.length/\(dnN s L i).x=(0:Int)}),((EqL rwRow L L)/\(0=0/\0=0)/\(0=0/\0=0)/\(0=0/\0=0)/\(0=0/\0=(dnN s L x.val).o.length)/\(0=0/\0
  =0)/\(0:Int)=(x.val:Int)/\True)/\(1=1/\1=1/\s.k=s.k/\s.ta=s.ta/\s.row.id=s.row.id/\s.row.n.k=s.row.n.k/\s.row.n.n=s.row.n.n/\s.row.n.t=s.row.n.t/\s.row.name.k=s.row.name.k/\s.row.name.n=
  s.row.name.n/\s.row.name.t=s.row.name.t/\s.c=s.c/\(EqL ndRow s.set s.set)/\(EqL ndRow s.whr s.whr)/\s.ord=s.ord/\s.down=s.down/\True)/\(1=1/\1=1/\Value.slice none 0 0=Value.slice none 0 0/\(0:Int)=(0:
  Int)/\True)/\(1=1/\1=1/\(0=0/\0=0)/\(0:Int)=(0:Int)/\True)/\(0=0/\RowsEq 0 (fun(k:Nat)=>List.take 7 (List.drop (k*7) [])) (rwRow []))/\(0=(dnN s L x.val).o.length/\RowsEq 0 (fun(k:Nat)=>
  List.take 7 (List.drop (k*7) [])) (rwRow (dnN s L x.val).o))/\(1=1/\1=1/\(0=0/\0=(dnN s L x.val).q.length)/\(0:Int)=(↑(dnN s L x.val).n:Int)/\True)/\(0=(dnN s L x.val).q.length/\RowsEq 0 (fun(k:Nat)=>
  List.take 7 (List.drop (k*7) [])) (rwRow (dnN s L x.val).q))/\True)/\∀(x_1:{i:Nat//i<=L.length/\(dnN s L i).x=(0:Int)}),(decide ((x_1.val:Int)<(L.length:Int))=true->Lt 0 1/\InB (x_1.val:Int) L.length/\∃
  (x_2:(Stm×Rw)),(((s.k=x_2.fst.k/\s.ta=x_2.fst.ta/\s.row.id=x_2.fst.row.id/\s.row.n.k=x_2.fst.row.n.k/\s.row.n.n=x_2.fst.row.n.n/\s.row.n.t=x_2.fst.row.n.t/\s.row.name.k=x_2.fst.row.name.k/\s.row.name.n=
  x_2.fst.row.name.n/\s.row.name.t=x_2.fst.row.name.t/\s.c=x_2.fst.c/\(EqL ndRow s.set x_2.fst.set)/\(EqL ndRow s.whr x_2.fst.whr)/\s.ord=x_2.fst.ord/\s.down=x_2.fst.down/\True)/\((L.getD (x_1.val:Int).toNat
  default).id=x_2.snd.id/\(L.getD (x_1.val:Int).toNat default).n.k=x_2.snd.n.k/\(L.getD (x_1.val:Int).toNat default).n.n=x_2.snd.n.n/\(L.getD (x_1.val:Int).toNat default).n.t=x_2.snd.n.t/\(L.getD (x_1.val:Int).toNat
  default).name.k=x_2.snd.name.k/\(L.getD (x_1.val:Int).toNat default).name.n=x_2.snd.name.n/\(L.getD (x_1.val:Int).toNat default).name.t=x_2.snd.name.t/\True)/\True)/\stmE x_2.fst/\rowOKb x_2.snd=true)/\(((mea
  x_2.fst x_2.snd).snd !=(0:Int))=true->Lt 0 1/\Lt 0 1/\Lt 0 1/\Le 0 0/\(EqL rwRow L R)/\((0=M.length/\RowsEq 0 (rwRow []) (rwRow M))/\(0:Int)=(c:Int)/\True)/\(mea x_2.fst x_2.snd).snd=x/\True)/\(((mea
  x_2.fst x_2.snd).snd !=(0:Int))=false->((!(mea x_2.fst x_2.snd).fst)=true->InB (x_1.val:Int) L.length/\(Le (dnN s L x_1.val).o.length (dnN s L x_1.val).o.length/\AppB (dnN s L x_1.val).o.length 1 72)/\Rng .i64
  ((x_1.val:Int)+(1:Int))/\∃(y:{i:Nat//i<=L.length/\(dnN s L i).x=(0:Int)}),(((EqL rwRow L L)/\(0=0/\0=0)/\(0=0/\0=0)/\(0=0/\0=0)/\(0=0/\(dnN s L x_1.val).o.length+1=(dnN s L
  y.val).o.length)/\(0=0/\0=0)/\(x_1.val:Int)+(1:Int)=(y.val:Int)/\True)/\(1=1/\1=1/\s.k=s.k/\s.ta=s.ta/\s.row.id=s.row.id/\s.row.n.k=s.row.n.k/\s.row.n.n=s.row.n.n/\s.row.n.t=s.row.n.t/\
  s.row.name.k=s.row.name.k/\s.row.name.n=s.row.name.n/\s.row.name.t=s.row.name.t/\s.c=s.c/\(EqL ndRow s.set s.set)/\(EqL ndRow s.whr s.whr)/\s.ord=s.ord/\s.down=s.down/\True)/\(1=1/\1=1/\Value.slice none
  0 0=Value.slice none 0 0/\(0:Int)=(0:Int)/\True)/\(1=1/\1=1/\(0=0/\0=0)/\(0:Int)=(0:Int)/\True)/\(0=0/\RowsEq 0 (rwRow []) (rwRow []))/\((dnN s L x_1.val).o.length+1=(dnN s L y.val).o.length
  /\RowsEq ((dnN s L x_1.val).o.length+1) (appRow (rwRow (dnN s L x_1.val).o) (dnN s L x_1.val).o.length fun(k:Nat)=>List.take 7 (List.drop (k*7) [T.int .i64 (L.getD (x_1.val:Int).toNat default).id,T.int .i64 (L.getD
  (x_1.val:Int).toNat default).n.k,T.int .i64 (L.getD (x_1.val:Int).toNat default).n.n,T.str (L.getD (x_1.val:Int).toNat default).n.t,T.int .i64 (L.getD (x_1.val:Int).toNat default).name.k,T.int .i64 (L.getD (x_1.val:Int).toNat
  default).name.n,T.str (L.getD (x_1.val:Int).toNat default).name.t])) (rwRow (dnN s L y.val).o))/\(1=1/\1=1/\(0=0/\(dnN s L x_1.val).q.length=(dnN s L y.val).q.length)/\(↑(dnN s L x_1.val).n:Int)=(↑(dnN s L
  y.val).n:Int)/\True)/\(EqL rwRow (dnN s L x_1.val).q (dnN s L y.val).q)/\True)/\Lt (L.length-y.val) (L.length-x_1.val))/\((!(mea x_2.fst x_2.snd).fst)=false->Lt 0 1/\Rng .i64 ((↑(dnN s L x_1.val).n:Int)+(1:
  Int))/\Lt 0 1/\Lt 0 1/\((s.k==(1:Int))=true->InB (x_1.val:Int) L.length/\(Le (dnN s L x_1.val).o.length (dnN s L x_1.val).o.length/\AppB (dnN s L x_1.val).o.length 1 72)/\Lt 0 1/\InB (x_1.val:Int) L.length/\(Le (dnN
  s L x_1.val).q.length (dnN s L x_1.val).q.length/\AppB (dnN s L x_1.val).q.length 1 72)/\Lt 0 1/\Rng .i64 ((x_1.val:Int)+(1:Int))/\∃(y:{i:Nat//i<=L.length/\(dnN s L i).x=(0:Int)}),(((EqL rwRow L L)/\(0=0
  /\0=0)/\(0=0/\0=0)/\(0=0/\0=0)/\(0=0/\(dnN s L x_1.val).o.length+1=(dnN s L y.val).o.length)/\(0=0/\0=0)/\(x_1.val:Int)+(1:Int)=(y.val:Int)/\True)/\(1=1/\1=1/\s.k=s.k/\s.ta=s.ta/\
  s.row.id=s.row.id/\s.row.n.k=s.row.n.k/\s.row.n.n=s.row.n.n/\s.row.n.t=s.row.n.t/\s.row.name.k=s.row.name.k/\s.row.name.n=s.row.name.n/\s.row.name.t=s.row.name.t/\s.c=s.c/\(EqL ndRow s.set s.set)/\(EqL
  ndRow s.whr s.whr)/\s.ord=s.ord/\s.down=s.down/\True)/\(1=1/\1=1/\Value.slice none 0 0=Value.slice none 0 0/\(0:Int)=(0:Int)/\True)/\(1=1/\1=1/\(0=0/\0=0)/\(0:Int)=(0:Int)/\True)/\(0=
  0/\RowsEq 0 (rwRow []) (rwRow []))/\((dnN s L x_1.val).o.length+1=(dnN s L y.val).o.length/\RowsEq ((dnN s L x_1.val).o.length+1) (appRow (rwRow (dnN s L x_1.val).o) (dnN s L x_1.val).o.length fun(k:Nat)=>List.take 7
  (List.drop (k*7) [T.int .i64 (L.getD (x_1.val:Int).toNat default).id,T.int .i64 (L.getD (x_1.val:Int).toNat default).n.k,T.int .i64 (L.getD (x_1.val:Int).toNat default).n.n,T.str (L.getD (x_1.val:Int).toNat default).n.t,
  T.int .i64 (L.getD (x_1.val:Int).toNat default).name.k,T.int .i64 (L.getD (x_1.val:Int).toNat default).name.n,T.str (L.getD (x_1.val:Int).toNat default).name.t])) (rwRow (dnN s L y.val).o))/\(1=1/\1=1/\(0=0/\(dnN s L
  x_1.val).q.length+1=(dnN s L y.val).q.length)/\(↑(dnN s L x_1.val).n:Int)+(1:Int)=(↑(dnN s L y.val).n:Int)/\True)/\((dnN s L x_1.val).q.length+1=(dnN s L y.val).q.length/\RowsEq ((dnN s L x_1.val).q.length+
  1) (appRow (rwRow (dnN s L x_1.val).q) (dnN s L x_1.val).q.length fun(k:Nat)=>List.take 7 (List.drop (k*7) [T.int .i64 (L.getD (x_1.val:Int).toNat default).id,T.int .i64 (L.getD (x_1.val:Int).toNat default).n.k,T.int .i64
  (L.getD (x_1.val:Int).toNat default).n.n,T.str (L.getD (x_1.val:Int).toNat default).n.t,T.int .i64 (L.getD (x_1.val:Int).toNat default).name.k,T.int .i64 (L.getD (x_1.val:Int).toNat default).name.n,T.str (L.getD
  (x_1.val:Int).toNat default).name.t])) (rwRow (dnN s L y.val).q))/\True)/\Lt (L.length-y.val) (L.length-x_1.val))/\((s.k==(1:Int))=false->((s.k==(3:Int))=true->Lt 0 1/\InB (x_1.val:Int) L.length/\∃(x_3:
  (Stm×Rw)),(((s.k=x_3.fst.k/\s.ta=x_3.fst.ta/\s.row.id=x_3.fst.row.id/\s.row.n.k=x_3.fst.row.n.k/\s.row.n.n=x_3.fst.row.n.n/\s.row.n.t=x_3.fst.row.n.t/\s.row.name.k=x_3.fst.row.name.k/\s.row.name.n=
  x_3.fst.row.name.n/\s.row.name.t=x_3.fst.row.name.t/\s.c=x_3.fst.c/\(EqL ndRow s.set x_3.fst.set)/\(EqL ndRow s.whr x_3.fst.whr)/\s.ord=x_3.fst.ord/\s.down=x_3.fst.down/\True)/\((L.getD (x_1.val:Int).toNat
  default).id=x_3.snd.id/\(L.getD (x_1.val:Int).toNat default).n.k=x_3.snd.n.k/\(L.getD (x_1.val:Int).toNat default).n.n=x_3.snd.n.n/\(L.getD (x_1.val:Int).toNat default).n.t=x_3.snd.n.t/\(L.getD (x_1.val:Int).toNat
  default).name.k=x_3.snd.name.k/\(L.getD (x_1.val:Int).toNat default).name.n=x_3.snd.name.n/\(L.getD (x_1.val:Int).toNat default).name.t=x_3.snd.name.t/\True)/\True)/\(NdL x_3.fst.set/\0<x_3.fst.set.length/\
  x_3.fst.set.length<=40)/\rowOKb x_3.snd=true)/\(((updS x_3.fst x_3.snd).snd !=(0:Int))=true->Lt 0 1/\Lt 0 1/\Lt 0 1/\Le 0 0/\(EqL rwRow L R)/\((0=M.length/\RowsEq 0 (rwRow []) (rwRow M))/\(0:Int)=(c:Int)/\
  True)/\(updS x_3.fst x_3.snd).snd=x/\True)/\(((updS x_3.fst x_3.snd).snd !=(0:Int))=false->(Le (dnN s L x_1.val).o.length (dnN s L x_1.val).o.length/\AppB (dnN s L x_1.val).o.length 1 72)/\Rng .i64 ((x_1.val:Int)+(1
  :Int))/\∃(y:{i:Nat//i<=L.length/\(dnN s L i).x=(0:Int)}),(((EqL rwRow L L)/\(0=0/\0=0)/\(0=0/\0=0)/\(0=0/\0=0)/\(0=0/\(dnN s L x_1.val).o.length+1=(dnN s L y.val).o.length)/\(0=0/\0
  =0)/\(x_1.val:Int)+(1:Int)=(y.val:Int)/\True)/\(1=1/\1=1/\s.k=s.k/\s.ta=s.ta/\s.row.id=s.row.id/\s.row.n.k=s.row.n.k/\s.row.n.n=s.row.n.n/\s.row.n.t=s.row.n.t/\s.row.name.k=s.row.name.k/\
  s.row.name.n=s.row.name.n/\s.row.name.t=s.row.name.t/\s.c=s.c/\(EqL ndRow s.set s.set)/\(EqL ndRow s.whr s.whr)/\s.ord=s.ord/\s.down=s.down/\True)/\(1=1/\1=1/\Value.slice none 0 0=Value.slice none 0 0/\
  (0:Int)=(0:Int)/\True)/\(1=1/\1=1/\(0=0/\0=0)/\(0:Int)=(0:Int)/\True)/\(0=0/\RowsEq 0 (rwRow []) (rwRow []))/\((dnN s L x_1.val).o.length+1=(dnN s L y.val).o.length/\RowsEq ((dnN s L
  x_1.val).o.length+1) (appRow (rwRow (dnN s L x_1.val).o) (dnN s L x_1.val).o.length fun(k:Nat)=>List.take 7 (List.drop (k*7) [T.int .i64 (updS x_3.fst x_3.snd).fst.id,T.int .i64 (updS x_3.fst x_3.snd).fst.n.k,T.int .i64
  (updS x_3.fst x_3.snd).fst.n.n,T.str (updS x_3.fst x_3.snd).fst.n.t,T.int .i64 (updS x_3.fst x_3.snd).fst.name.k,T.int .i64 (updS x_3.fst x_3.snd).fst.name.n,T.str (updS x_3.fst x_3.snd).fst.name.t])) (rwRow (dnN s L
  y.val).o))/\(1=1/\1=1/\(0=0/\(dnN s L x_1.val).q.length=(dnN s L y.val).q.length)/\(↑(dnN s L x_1.val).n:Int)+(1:Int)=(↑(dnN s L y.val).n:Int)/\True)/\(EqL rwRow (dnN s L x_1.val).q (dnN s L y.val).q)/\
  True)/\Lt (L.length-y.val) (L.length-x_1.val)))/\((s.k==(3:Int))=false->Rng .i64 ((x_1.val:Int)+(1:Int))/\∃(y:{i:Nat//i<=L.length/\(dnN s L i).x=(0:Int)}),(((EqL rwRow L L)/\(0=0/\0=0)/\(0
  =0/\0=0)/\(0=0/\0=0)/\(0=0/\(dnN s L x_1.val).o.length=(dnN s L y.val).o.length)/\(0=0/\0=0)/\(x_1.val:Int)+(1:Int)=(y.val:Int)/\True)/\(1=1/\1=1/\s.k=s.k/\s.ta=s.ta/\s.row.id=s.row.id
  /\s.row.n.k=s.row.n.k/\s.row.n.n=s.row.n.n/\s.row.n.t=s.row.n.t/\s.row.name.k=s.row.name.k/\s.row.name.n=s.row.name.n/\s.row.name.t=s.row.name.t/\s.c=s.c/\(EqL ndRow s.set s.set)/\(EqL ndRow s.whr s.whr)/\
  s.ord=s.ord/\s.down=s.down/\True)/\(1=1/\1=1/\Value.slice none 0 0=Value.slice none 0 0/\(0:Int)=(0:Int)/\True)/\(1=1/\1=1/\(0=0/\0=0)/\(0:Int)=(0:Int)/\True)/\(0=0/\RowsEq 0 (rwRow
  []) (rwRow []))/\(EqL rwRow (dnN s L x_1.val).o (dnN s L y.val).o)/\(1=1/\1=1/\(0=0/\(dnN s L x_1.val).q.length=(dnN s L y.val).q.length)/\(↑(dnN s L x_1.val).n:Int)+(1:Int)=(↑(dnN s L y.val).n:Int)/\True)
  /\(EqL rwRow (dnN s L x_1.val).q (dnN s L y.val).q)/\True)/\Lt (L.length-y.val) (L.length-x_1.val))))))/\(decide ((x_1.val:Int)<(L.length:Int))=false->Lt 0 1/\((s.k==(1:Int))=true->Lt 0 1/\Lt 0 1/\Lt 0 1/\∃
  (x_2:(List Rw×Int×Bool)),(Le (0+(dnN s L x_1.val).q.length) (dnN s L x_1.val).q.length/\((EqL rwRow (dnN s L x_1.val).q x_2.fst)/\s.ord=x_2.snd.fst/\s.down=x_2.snd.snd/\True)/\x_2.fst.length<=1000)/\Lt 0 1/\Lt
  0 1/\Lt 0 1/\Lt 0 1/\Le (0+(dnN s L x_1.val).o.length) (dnN s L x_1.val).o.length/\(EqL rwRow (dnN s L x_1.val).o R)/\((EqL rwRow (srtR x_2.snd.fst x_2.snd.snd x_2.fst x_2.fst.length) M)/\(↑(dnN s L x_1.val).n:Int)=
  (c:Int)/\True)/\(0:Int)=x/\True)/\((s.k==(1:Int))=false->Lt 0 1/\Lt 0 1/\Lt 0 1/\(Le (0+(dnN s L x_1.val).o.length) (dnN s L x_1.val).o.length/\Le (0+(dnN s L x_1.val).q.length) (dnN s L x_1.val).q.length)/\
  (EqL rwRow (dnN s L x_1.val).o R)/\((EqL rwRow (dnN s L x_1.val).q M)/\(↑(dnN s L x_1.val).n:Int)=(c:Int)/\True)/\(0:Int)=x/\True)))):
  PureFn Tryz.prog 31 [rwS L,.agg s.ts] (.tup [rwS R,.agg [rwS M,.int .i64 c],.int .i64 x]):=
 vcR (code:=b_denS) (gC holds_ok call_holds (gC setS_ok call_setS (gC sortS_ok call_sortS (gC tmpK_ok call_tmpK gN)))) Tryz.func31 (by kernel_rfl) (by kernel_rfl) (A_denS s L) h (by kernel_rfl)
theorem dn_q{s:Stm}{L:List Rw}(h:s.k≠1):∀i,(dnN s L i).q=[]
 |0=>rfl
 |i+1=>by
  have ih:=dn_q (L:=L) h i;rw[dn_suc];unfold dnS;rw[if_neg h];split
  ·exact ih
  ·split
   ·exact ih
   ·split
    ·exact ih
    ·split
     ·split
      ·exact ih
      ·exact ih
     ·exact ih
theorem den_er{s:Stm}{L:List Rw}{i:Nat}{e:Int}(hk:s.k≠2)(hi:i<L.length)(h0:(dnN s L i).x=0)(hx:dnN s L (i+1)={dnN s L i with x:=e})(he:e≠0):denR s L=⟨L,[],0,e⟩:=by
 have h:=(er_x hi h0 hx he).2.2.2;rw[denR,if_neg hk,if_pos (by rw[h];exact he),h]
theorem denS_ok:ConOk Tryz.prog 31 k_denS:=by
 rintro⟨L,s⟩ ⟨⟨hS,hL,hE⟩,hK⟩;dsimp only at hS hL hE hK;have zi:∀(L:List Rw),RowsEq 0 (fun(k:Nat)=>List.take 7 (List.drop (k*7) [])) (rwRow L):=fun L i hi=>absurd hi (Nat.not_lt_zero _)
 refine v_denS L s (denR s L).r (denR s L).a (denR s L).n (denR s L).x ⟨fun h=>⟨⟨cnt0,(by repeat' first|exact rfl|exact trivial|exact rowsR _ _|exact(fun i hi=>absurd hi (Nat.not_lt_zero _))|exact Nat.zero_lt_one|exact Nat.le_refl _|exact app_rows Rw.ts 7 (fun _=>rfl) _ _|apply And.intro|exact len_s _ _|omega)⟩,fun x=> ?_⟩,fun h=>⟨⟨⟨0,Nat.zero_le _,rfl⟩,(by repeat' first|exact rfl|exact trivial|exact rowsR _ _|exact(fun i hi=>absurd hi (Nat.not_lt_zero _))|exact Nat.zero_lt_one|exact Nat.le_refl _|exact app_rows Rw.ts 7 (fun _=>rfl) _ _|apply And.intro|exact len_s _ _|omega)⟩,fun x=> ?_⟩⟩
 ·have h2:s.k=2:=by simpa using h
  have hle:=x.2.1;have hx:=x.2.2;refine⟨fun hc=>inB_nat (lt_of_dec hc),fun _=>Nat.zero_lt_one,fun hc=> ?_,fun hc=>⟨fun hc=>inB_nat (lt_of_dec hc),fun _=>Nat.zero_lt_one,?_⟩⟩
  ·rw[Bool.and_eq_true,Int.toNat_natCast] at hc;have hlt:=lt_of_dec hc.1;exact⟨add_rng hlt (by omega),x.succ hlt (by unfold lowB;exact decide_eq_false (by have:=of_decide_eq_true hc.2;omega)),⟨⟨⟨rfl,rowsR _ _⟩,⟨rfl,rfl⟩,⟨rfl,rfl⟩,⟨rfl,rfl⟩,by simp only[Cnt.succ];omega,trivial⟩,(by repeat' first|exact rfl|exact trivial|exact rowsR _ _|exact(fun i hi=>absurd hi (Nat.not_lt_zero _))|exact Nat.zero_lt_one|exact Nat.le_refl _|exact app_rows Rw.ts 7 (fun _=>rfl) _ _|apply And.intro|exact len_s _ _|omega)⟩,Cnt.ext_lt hlt⟩
  ·rw[Int.toNat_natCast] at hc ⊢;have hlow:lowN L s.row.id=x.val:=by
    refine low_eq hle (fun q hq=> ?_) (fun q h1 h2=> ?_)
    ·have:=of_decide_eq_false (hx q hq);omega
    ·have h3:s.row.id<=(L.getD x.val default).id:=by
      rw[decide_eq_true (show(x.val:Int)<L.length by omega),Bool.true_and] at hc
      have:=of_decide_eq_false hc;omega
     by_cases e:x.val=q
     ·rw[←e];exact h3
     ·have:=hS x.val q (by omega) h2
      omega
   have hr:(decide ((x.val:Int)<L.length)&&(L.getD x.val default).id==s.row.id)=isRw L s.row.id:=by
    unfold isRw;rw[hlow];congr 1
    exact decide_eq_decide.2 (by omega)
   rw[hr];refine⟨fun hc=> ?_,fun hc=> ?_⟩
   ·have e:denR s L=⟨L,[],0,17⟩:=by rw[denR,if_pos h2,if_pos hc]
    rw[e];exact(by repeat' first|exact rfl|exact trivial|exact rowsR _ _|exact(fun i hi=>absurd hi (Nat.not_lt_zero _))|exact Nat.zero_lt_one|exact Nat.le_refl _|exact app_rows Rw.ts 7 (fun _=>rfl) _ _|apply And.intro|exact len_s _ _|omega)
   ·have e:denR s L=⟨insL L x.val s.row,[],1,0⟩:=by
     rw[denR,if_pos h2,if_neg (by rw[hc];exact Bool.false_ne_true),hlow]
    rw[e];have hz:=ins_rows L s.row x.val hle _ (fun _=>rfl)
    refine⟨⟨by omega,by omega⟩,⟨Nat.le_refl _,by unfold AppB;omega⟩,Nat.zero_lt_one,⟨Nat.le_refl _,by unfold AppB;omega⟩,⟨by omega,by omega⟩,⟨Nat.le_refl _,by unfold AppB;omega⟩,Nat.zero_lt_one,Nat.zero_lt_one,⟨by unfold Le;omega,Nat.le_refl _⟩,⟨?_,hz⟩,(by repeat' first|exact rfl|exact trivial|exact rowsR _ _|exact(fun i hi=>absurd hi (Nat.not_lt_zero _))|exact Nat.zero_lt_one|exact Nat.le_refl _|exact app_rows Rw.ts 7 (fun _=>rfl) _ _|apply And.intro|exact len_s _ _|omega)⟩
    rw[ins_len hle];omega
 ·have h2:s.k≠2:=by simpa using h
  obtain⟨hW,hT,_,hR,hL',ho,ho'⟩:=hE h2;obtain⟨i,hi,h0⟩:=x;have dp:=dn_P (s:=s) hS hR i hi;have ol:=dp.lo;have ql:=dp.lq;have nl:=dp.n;dsimp only;refine⟨fun hc=> ?_,fun hc=> ?_⟩
  ·have hlt:i<L.length:=lt_of_dec hc;rw[Int.toNat_natCast];have un:dnN s L (i+1)=dnS s (L.getD i default) (dnN s L i):=rfl;refine⟨Nat.zero_lt_one,inB_nat hlt,(s,L.getD i default),⟨⟨⟨rfl,rfl,rfl,rfl,rfl,rfl,rfl,rfl,rfl,rfl,⟨rfl,rowsR _ _⟩,⟨rfl,rowsR _ _⟩,rfl,rfl,trivial⟩,⟨rfl,rfl,rfl,rfl,rfl,rfl,rfl,trivial⟩,trivial⟩,hW,hR i hlt⟩,fun c1=> ?_,fun c1=>⟨fun c2=> ?_,fun c2=>⟨Nat.zero_lt_one,i64_rng (by omega),Nat.zero_lt_one,Nat.zero_lt_one,fun c3=> ?_,fun c3=>⟨fun c4=> ?_,fun c4=> ?_⟩⟩⟩⟩
   ·have c1:(mea s (L.getD i default)).2≠0:=by simpa using c1
    rw[den_er h2 hlt h0 (e:=(mea s (L.getD i default)).2) (by rw[un];unfold dnS;rw[if_neg (fun g=>g h0),if_pos c1]) c1]
    exact(by repeat' first|exact rfl|exact trivial|exact rowsR _ _|exact(fun i hi=>absurd hi (Nat.not_lt_zero _))|exact Nat.zero_lt_one|exact Nat.le_refl _|exact app_rows Rw.ts 7 (fun _=>rfl) _ _|apply And.intro|exact len_s _ _|omega)
   all_goals have c1:¬ (mea s (L.getD i default)).2≠0:=by simpa using c1
   ·have c2:(mea s (L.getD i default)).1=false:=by simpa using c2
    have e:dnN s L (i+1)=⟨(dnN s L i).o++[L.getD i default],(dnN s L i).q,(dnN s L i).n,(dnN s L i).x⟩:=by rw[un];unfold dnS;rw[if_neg (fun g=>g h0),if_neg c1,if_pos c2]
    refine⟨inB_nat hlt,⟨Nat.le_refl _,by unfold AppB;omega⟩,add_rng hlt (by omega),⟨i+1,hlt,by rw[e];exact h0⟩,?_,by unfold Lt;dsimp only;omega⟩
    dsimp only;rw[e];exact(by repeat' first|exact rfl|exact trivial|exact rowsR _ _|exact(fun i hi=>absurd hi (Nat.not_lt_zero _))|exact Nat.zero_lt_one|exact Nat.le_refl _|exact app_rows Rw.ts 7 (fun _=>rfl) _ _|apply And.intro|exact len_s _ _|omega)
   all_goals have c2:¬ (mea s (L.getD i default)).1=false:=by simpa using c2
   ·have c3:s.k=1:=by simpa using c3
    have e:dnN s L (i+1)=⟨(dnN s L i).o++[L.getD i default],(dnN s L i).q++[L.getD i default],(dnN s L i).n+1,0⟩:=by rw[un];unfold dnS;rw[if_neg (fun g=>g h0),if_neg c1,if_neg c2,if_pos c3]
    refine⟨inB_nat hlt,⟨Nat.le_refl _,by unfold AppB;omega⟩,Nat.zero_lt_one,inB_nat hlt,⟨Nat.le_refl _,by unfold AppB;omega⟩,Nat.zero_lt_one,add_rng hlt (by omega),⟨i+1,hlt,by rw[e]⟩,?_,by unfold Lt;dsimp only;omega⟩
    dsimp only;rw[e];exact(by repeat' first|exact rfl|exact trivial|exact rowsR _ _|exact(fun i hi=>absurd hi (Nat.not_lt_zero _))|exact Nat.zero_lt_one|exact Nat.le_refl _|exact app_rows Rw.ts 7 (fun _=>rfl) _ _|apply And.intro|exact len_s _ _|omega)
   all_goals have c3:¬s.k=1:=by simpa using c3
   ·have c4:s.k=3:=by simpa using c4
    obtain⟨u1,u2⟩:=upd_S s (L.getD i default);refine⟨Nat.zero_lt_one,inB_nat hlt,(s,L.getD i default),⟨⟨⟨rfl,rfl,rfl,rfl,rfl,rfl,rfl,rfl,rfl,rfl,⟨rfl,rowsR _ _⟩,⟨rfl,rowsR _ _⟩,rfl,rfl,trivial⟩,⟨rfl,rfl,rfl,rfl,rfl,rfl,rfl,trivial⟩,trivial⟩,hT c4,hR i hlt⟩,fun c5=> ?_,fun c5=> ?_⟩
    ·dsimp only at c5 ⊢;rw[u1] at c5 ⊢;have c5:(upd s (L.getD i default)).2≠0:=by simpa using c5
     rw[den_er h2 hlt h0 (e:=(upd s (L.getD i default)).2) (by rw[un];unfold dnS;rw[if_neg (fun g=>g h0),if_neg c1,if_neg c2,if_neg c3,if_pos c4,if_pos c5]) c5]
     exact(by repeat' first|exact rfl|exact trivial|exact rowsR _ _|exact(fun i hi=>absurd hi (Nat.not_lt_zero _))|exact Nat.zero_lt_one|exact Nat.le_refl _|exact app_rows Rw.ts 7 (fun _=>rfl) _ _|apply And.intro|exact len_s _ _|omega)
    ·dsimp only at c5 ⊢;rw[u1] at c5;have c5:(upd s (L.getD i default)).2=0:=by simpa using c5
     rw[u2 c5];have e:dnN s L (i+1)=⟨(dnN s L i).o++[(upd s (L.getD i default)).1],(dnN s L i).q,(dnN s L i).n+1,0⟩:=by rw[un];unfold dnS;rw[if_neg (fun g=>g h0),if_neg c1,if_neg c2,if_neg c3,if_pos c4,if_neg (fun g=>g c5)]
     refine⟨⟨Nat.le_refl _,by unfold AppB;omega⟩,add_rng hlt (by omega),⟨i+1,hlt,by rw[e]⟩,?_,by unfold Lt;dsimp only;omega⟩
     dsimp only;rw[e];exact(by repeat' first|exact rfl|exact trivial|exact rowsR _ _|exact(fun i hi=>absurd hi (Nat.not_lt_zero _))|exact Nat.zero_lt_one|exact Nat.le_refl _|exact app_rows Rw.ts 7 (fun _=>rfl) _ _|apply And.intro|exact len_s _ _|omega)
   ·have c4:¬s.k=3:=by simpa using c4
    have e:dnN s L (i+1)=⟨(dnN s L i).o,(dnN s L i).q,(dnN s L i).n+1,0⟩:=by rw[un];unfold dnS;rw[if_neg (fun g=>g h0),if_neg c1,if_neg c2,if_neg c3,if_neg c4]
    refine⟨add_rng hlt (by omega),⟨i+1,hlt,by rw[e]⟩,?_,by unfold Lt;dsimp only;omega⟩
    dsimp only;rw[e];exact(by repeat' first|exact rfl|exact trivial|exact rowsR _ _|exact(fun i hi=>absurd hi (Nat.not_lt_zero _))|exact Nat.zero_lt_one|exact Nat.le_refl _|exact app_rows Rw.ts 7 (fun _=>rfl) _ _|apply And.intro|exact len_s _ _|omega)
  ·have hi2:i=L.length:=by have:=le_of_not hc;omega
   subst hi2;have e:denR s L=⟨(dnN s L L.length).o,srtR s.ord s.down (dnN s L L.length).q (dnN s L L.length).q.length,(dnN s L L.length).n,0⟩:=by
    rw[denR,if_neg h2,if_neg (fun g=>g h0),ansR,if_neg (fun g=>g h0)]
   rw[e];refine⟨Nat.zero_lt_one,fun k1=>⟨Nat.zero_lt_one,Nat.zero_lt_one,Nat.zero_lt_one,((dnN s L L.length).q,s.ord,s.down),⟨by unfold Le;omega,⟨⟨rfl,rowsR _ _⟩,rfl,rfl,trivial⟩,by dsimp only;omega⟩,Nat.zero_lt_one,Nat.zero_lt_one,Nat.zero_lt_one,Nat.zero_lt_one,by unfold Le;omega,(by repeat' first|exact rfl|exact trivial|exact rowsR _ _|exact(fun i hi=>absurd hi (Nat.not_lt_zero _))|exact Nat.zero_lt_one|exact Nat.le_refl _|exact app_rows Rw.ts 7 (fun _=>rfl) _ _|apply And.intro|exact len_s _ _|omega)⟩,fun k1=> ?_⟩
   have hq:=dn_q (L:=L) (s:=s) (by simpa using k1) L.length
   rw[hq];exact⟨Nat.zero_lt_one,Nat.zero_lt_one,Nat.zero_lt_one,⟨by unfold Le;omega,Nat.le_refl _⟩,(by repeat' first|exact rfl|exact trivial|exact rowsR _ _|exact(fun i hi=>absurd hi (Nat.not_lt_zero _))|exact Nat.zero_lt_one|exact Nat.le_refl _|exact app_rows Rw.ts 7 (fun _=>rfl) _ _|apply And.intro|exact len_s _ _|omega)⟩
end Go.Proofs.YtfmngblmdghccaaGreat

