/- A part of the proof. -/
import Derived.Test.YtfmngblmdghccaaGreatK23
namespace Go.Proofs.YtfmngblmdghccaaGreat
set_option maxRecDepth 100000
open Go.SS Go.RowKit

def exD(s:Src):Src×List Nd:=ndD (1+nxV s 4).toNat (nxS s 4) []
theorem nodeD_5:ConOk Tryz.prog 71 (k_nodeD 5):=nodeD_ok 5
def k_exprD:Con:=.reff ⟨Src,fun _=>[.ref 0 0 0],fun s=>[srcB s],fun s=>.agg [.osl 1 0 (exD s).2.length],fun s=>[srcB (exD s).1,ndA (exD s).2],fun s=>SrcOK s 8000⟩
noncomputable def b_exprD:Code:=Tryz.f43.body.getD .skip
theorem call_exprD:Callable Tryz.prog 43:=⟨_,Tryz.func43,by kernel_rfl,by kernel_rfl⟩
theorem v_exprD(s:Src)(R:Src×List Nd)(h:
  ∃(x:(Src×Int)),(((0=0/\0=0)/\(4:Int)=x.snd/\True)/\((1=1/\RowsEq 1 (fun(x:Nat)=>[T.bys s.c,T.int .i64 (s.at_:Int),T.int .i64 s.sd]) fun(x_1:Nat)=>[T.bys x.fst.c,T.int .i64 (x.fst.at_:Int),T.int
  .i64 x.fst.sd])/\True)/\SrcOK x.fst 1000000/\x.snd<=(256:Int))/\Rng .i64 ((1:Int)+nxV x.fst x.snd)/\∃(x_1:(Src×List Nd×Nat)),(((0=0/\0=0)/\(0=0/\0=x_1.snd.fst.length)/\(1:Int)+nxV x.fst x.snd=
  (x_1.snd.snd:Int)/\True)/\((1=1/\RowsEq 1 (fun(x_2:Nat)=>[T.bys (nxS x.fst x.snd).c,T.int .i64 (↑(nxS x.fst x.snd).at_:Int),T.int .i64 (nxS x.fst x.snd).sd]) fun(x:Nat)=>[T.bys x_1.fst.c,T.int .i64
  (x_1.fst.at_:Int),T.int .i64 x_1.fst.sd])/\(0=x_1.snd.fst.length/\RowsEq 0 (fun(k:Nat)=>List.take 7 (List.drop (k*7) [])) (ndRow x_1.snd.fst))/\True)/\x_1.snd.snd<5/\x_1.snd.snd<=100/\(∃(m:Nat),SrcOK x_1.fst
  m/\m+kD x_1.snd.snd<=9000)/\NB x_1.snd.fst/\x_1.snd.fst.length+lD x_1.snd.snd<=900)/\(((0=0/\(ndD x_1.snd.snd x_1.fst x_1.snd.fst).snd.length=R.snd.length)/\True)/\True)/\(1=1/\1=1/\(ndD x_1.snd.snd x_1.fst
  x_1.snd.fst).fst.c=R.fst.c/\(↑(ndD x_1.snd.snd x_1.fst x_1.snd.fst).fst.at_:Int)=(R.fst.at_:Int)/\(ndD x_1.snd.snd x_1.fst x_1.snd.fst).fst.sd=R.fst.sd/\True)/\(EqL ndRow (ndD x_1.snd.snd x_1.fst x_1.snd.fst).snd
  R.snd)/\True):
  EffFn Tryz.prog 43 [.ref 0 0 0] [srcB s] (.agg [.osl 1 0 R.2.length]) [srcB R.1,ndA R.2]:=
 vcG (code:=b_exprD) (gC nodeD_5 call_nodeD (gC next_ok call_next gN)) Tryz.func43 (by kernel_rfl) (by kernel_rfl) noAnn [[.box 0,.vl 0 [0]]] h (by kernel_rfl)
theorem ex_ok{s:Src}{m:Nat}(h:SrcOK s m):SrcOK (exD s).1 (m+300)/\(exD s).2.length<=31/\NB (exD s).2/\(1+nxV s 4).toNat<=4:=by
 have n1:=nx_rng h (n:=4) (by decide)
 have hd:(1+nxV s 4).toNat=1∨(1+nxV s 4).toNat=2∨(1+nxV s 4).toNat=3∨(1+nxV s 4).toNat=4:=by omega
 have hk:kD (1+nxV s 4).toNat<=216/\lD (1+nxV s 4).toNat<=31:=by rcases hd with e|e|e|e<;>rw[e]<;>decide
 obtain⟨a1,a2,a3,a4⟩:=nd_ok (1+nxV s 4).toNat (L:=[]) n1.2.2 (fun n hn=>absurd hn List.not_mem_nil)
 exact⟨a1.le (by omega),by unfold exD;rw[List.length_nil] at a3;omega,a4,by omega⟩
theorem exprD_ok:ConOk Tryz.prog 43 k_exprD:=by
 intro(s:Src) (h:SrcOK s 8000);have n1:=nx_rng h (n:=4) (by decide)
 have hd:(1+nxV s 4).toNat=1∨(1+nxV s 4).toNat=2∨(1+nxV s 4).toNat=3∨(1+nxV s 4).toNat=4:=by omega
 have hk:kD (1+nxV s 4).toNat<=216/\lD (1+nxV s 4).toNat<=31:=by rcases hd with e|e|e|e<;>rw[e]<;>decide
 exact v_exprD s (exD s) ⟨(s,4),⟨⟨⟨rfl,rfl⟩,rfl,trivial⟩,⟨⟨rfl,fun _ _=>rfl⟩,trivial⟩,h.le (by omega),by dsimp only;omega⟩,i64_rng (by dsimp only;omega),(nxS s 4,[],(1+nxV s 4).toNat),⟨⟨⟨rfl,rfl⟩,⟨rfl,rfl⟩,by dsimp only;omega,trivial⟩,⟨⟨rfl,fun _ _=>rfl⟩,⟨rfl,fun i hi=>absurd hi (Nat.not_lt_zero _)⟩,trivial⟩,by dsimp only;omega,by dsimp only;omega,⟨8001,n1.2.2,by dsimp only;omega⟩,fun n hn=>absurd hn List.not_mem_nil,by dsimp only;rw[List.length_nil];omega⟩,⟨⟨⟨rfl,rfl⟩,trivial⟩,trivial⟩,⟨rfl,rfl,rfl,rfl,rfl,trivial⟩,⟨rfl,rowsR _ _⟩,trivial⟩
def rlD(s:Src):Nat->Src×List Rw
 |0=>(s,[])
 |i+1=>if nxV (rlD s i).1 2=1 then((rowS (nxS (rlD s i).1 2)).1,(rlD s i).2++[⟨i,(rowS (nxS (rlD s i).1 2)).2.n,(rowS (nxS (rlD s i).1 2)).2.name⟩]) else(nxS (rlD s i).1 2,(rlD s i).2)
noncomputable def rlR(s:Src):{r:Src×List Rw//r=rlD s 6}:=Classical.choice ⟨⟨_,rfl⟩⟩
noncomputable def k_rowL:Con:=.reff ⟨Src,fun _=>[.ref 0 0 0],fun s=>[srcB s],fun s=>.osl 1 0 (rlR s).1.2.length,fun s=>[srcB (rlR s).1.1,rwsA (rlR s).1.2],fun s=>SrcOK s 8000⟩
def A_rowL(s:Src):Nat->Ann
 |0=>.one {i:Nat//i<=6} (fun x=>⟨[(0,.ref 0 0 0),(3,.osl 1 0 (rlD s x.1).2.length),(4,.int .i64 x.1)],[srcB (rlD s x.1).1,rwsA (rlD s x.1).2]⟩) (fun x=>6-x.1) [.box 0,.vl 3 []] [.box 0,.vl 3 []] (fun _=>noAnn)
 |_=>.none
noncomputable def b_rowL:Code:=Tryz.f23.body.getD .skip
theorem call_rowL:Callable Tryz.prog 23:=⟨_,Tryz.func23,by kernel_rfl,by kernel_rfl⟩
theorem v_rowL(s:Src)(R:Src×List Rw)(h:
  (∃(x:{i:Nat//i<=6}),((0=0/\0=0)/\(0=0/\0=(rlD s x.val).snd.length)/\(0:Int)=(x.val:Int)/\True)/\(1=1/\1=1/\s.c=(rlD s x.val).fst.c/\(s.at_:Int)=(↑(rlD s x.val).fst.at_:Int)/\s.sd=(rlD s
  x.val).fst.sd/\True)/\(0=(rlD s x.val).snd.length/\RowsEq 0 (fun(k:Nat)=>List.take 7 (List.drop (k*7) [])) (rwRow (rlD s x.val).snd))/\True)/\∀(x:{i:Nat//i<=6}),(decide ((x.val:Int)<(6:Int))=true->∃
  (x_1:(Src×Int)),(((0=0/\0=0)/\(2:Int)=x_1.snd/\True)/\((1=1/\RowsEq 1 (fun(x_2:Nat)=>[T.bys (rlD s x.val).fst.c,T.int .i64 (↑(rlD s x.val).fst.at_:Int),T.int .i64 (rlD s x.val).fst.sd]) fun(x:Nat)
  =>[T.bys x_1.fst.c,T.int .i64 (x_1.fst.at_:Int),T.int .i64 x_1.fst.sd])/\True)/\SrcOK x_1.fst 1000000/\(0:Int)<=x_1.snd/\x_1.snd<=(256:Int))/\((nxV x_1.fst x_1.snd==x_1.snd- (1:Int))=true->∃(x_2:Src),(((0
  =0/\0=0)/\True)/\((1=1/\RowsEq 1 (fun(x:Nat)=>[T.bys (nxS x_1.fst x_1.snd).c,T.int .i64 (↑(nxS x_1.fst x_1.snd).at_:Int),T.int .i64 (nxS x_1.fst x_1.snd).sd]) fun(x:Nat)=>[T.bys x_2.c,T.int .i64
  (x_2.at_:Int),T.int .i64 x_2.sd])/\True)/\SrcOK x_2 50000)/\(Le (rlD s x.val).snd.length (rlD s x.val).snd.length/\AppB (rlD s x.val).snd.length 1 72)/\Rng .i64 ((x.val:Int)+(1:Int))/\∃(y:{i:Nat//i<=6}),(((0
  =0/\0=0)/\(0=0/\(rlD s x.val).snd.length+1=(rlD s y.val).snd.length)/\(x.val:Int)+(1:Int)=(y.val:Int)/\True)/\(1=1/\1=1/\(roM (roN (roA x_2) (vaS (nxS x_2 (6:Int))).snd).fst (vaS (vaS (nxS x_2 (6:
  Int))).fst).snd).fst.c=(rlD s y.val).fst.c/\(↑(roM (roN (roA x_2) (vaS (nxS x_2 (6:Int))).snd).fst (vaS (vaS (nxS x_2 (6:Int))).fst).snd).fst.at_:Int)=(↑(rlD s y.val).fst.at_:Int)/\(roM (roN (roA x_2) (vaS (nxS x_2
  (6:Int))).snd).fst (vaS (vaS (nxS x_2 (6:Int))).fst).snd).fst.sd=(rlD s y.val).fst.sd/\True)/\((rlD s x.val).snd.length+1=(rlD s y.val).snd.length/\RowsEq ((rlD s x.val).snd.length+1) (appRow (rwRow (rlD s
  x.val).snd) (rlD s x.val).snd.length fun(k:Nat)=>List.take 7 (List.drop (k*7) [T.int .i64 (x.val:Int),T.int .i64 (roN (roA x_2) (vaS (nxS x_2 (6:Int))).snd).snd.k,T.int .i64 (roN (roA x_2) (vaS (nxS x_2 (6:
  Int))).snd).snd.n,T.str (roN (roA x_2) (vaS (nxS x_2 (6:Int))).snd).snd.t,T.int .i64 (roM (roN (roA x_2) (vaS (nxS x_2 (6:Int))).snd).fst (vaS (vaS (nxS x_2 (6:Int))).fst).snd).snd.k,T.int .i64 (roM (roN (roA x_2) (vaS
  (nxS x_2 (6:Int))).snd).fst (vaS (vaS (nxS x_2 (6:Int))).fst).snd).snd.n,T.str (roM (roN (roA x_2) (vaS (nxS x_2 (6:Int))).snd).fst (vaS (vaS (nxS x_2 (6:Int))).fst).snd).snd.t])) (rwRow (rlD s y.val).snd))/\True)/\Lt
  (6-y.val) (6-x.val))/\((nxV x_1.fst x_1.snd==x_1.snd- (1:Int))=false->Rng .i64 ((x.val:Int)+(1:Int))/\∃(y:{i:Nat//i<=6}),(((0=0/\0=0)/\(0=0/\(rlD s x.val).snd.length=(rlD s
  y.val).snd.length)/\(x.val:Int)+(1:Int)=(y.val:Int)/\True)/\(1=1/\1=1/\(nxS x_1.fst x_1.snd).c=(rlD s y.val).fst.c/\(↑(nxS x_1.fst x_1.snd).at_:Int)=(↑(rlD s y.val).fst.at_:Int)/\(nxS x_1.fst x_1.snd).sd=
  (rlD s y.val).fst.sd/\True)/\(EqL rwRow (rlD s x.val).snd (rlD s y.val).snd)/\True)/\Lt (6-y.val) (6-x.val)))/\(decide ((x.val:Int)<(6:Int))=false->((0=0/\(rlD s x.val).snd.length=R.snd.length)/\True)/\(1=
  1/\1=1/\(rlD s x.val).fst.c=R.fst.c/\(↑(rlD s x.val).fst.at_:Int)=(R.fst.at_:Int)/\(rlD s x.val).fst.sd=R.fst.sd/\True)/\(EqL rwRow (rlD s x.val).snd R.snd)/\True)):
  EffFn Tryz.prog 23 [.ref 0 0 0] [srcB s] (.osl 1 0 R.2.length) [srcB R.1,rwsA R.2]:=
 vcG (code:=b_rowL) (gC chance_ok call_chance (gC rowD_ok call_rowD (gC tmpK_ok call_tmpK gN))) Tryz.func23 (by kernel_rfl) (by kernel_rfl) (A_rowL s) [[.box 0,.vl 0 []]] h (by kernel_rfl)
theorem rl_ok{s:Src}{m:Nat}(h:SrcOK s m):∀i,SrcOK (rlD s i).1 (m+12*i)/\(rlD s i).2.length<=i/\∀r,r ∈ (rlD s i).2->RwB r
 |0=>⟨h,Nat.le_refl _,fun r hr=>absurd hr List.not_mem_nil⟩
 |i+1=>by
  obtain⟨h1,h2,h3⟩:=rl_ok h i;have n1:=nx_rng h1 (n:=2) (by decide)
  have r1:=row_ok n1.2.2;unfold rlD;split
  ·refine⟨r1.1.le (by omega),by dsimp only;rw[List.length_append,List.length_singleton];omega,fun r hr=> ?_⟩
   rcases List.mem_append.1 hr with hr|hr
   ·exact h3 r hr
   ·rw[List.mem_singleton] at hr;rw[hr];exact r1.2
  ·exact⟨n1.2.2.le (by omega),by dsimp only;omega,h3⟩
theorem rowL_ok:ConOk Tryz.prog 23 k_rowL:=by
 intro(s:Src) (h:SrcOK s 8000);refine v_rowL s (rlR s).1 ⟨⟨⟨0,Nat.zero_le _⟩,⟨⟨rfl,rfl⟩,⟨rfl,rfl⟩,rfl,trivial⟩,⟨rfl,rfl,rfl,rfl,rfl,trivial⟩,⟨rfl,fun i hi=>absurd hi (Nat.not_lt_zero _)⟩,trivial⟩,fun x=>⟨fun hc=> ?_,fun hc=> ?_⟩⟩
 ·obtain⟨i,hi⟩:=x;have hlt:i<6:=by have:=of_decide_eq_true hc;dsimp only at this;omega
  obtain⟨h1,h2,_⟩:=rl_ok h i;have n1:=nx_rng h1 (n:=2) (by decide)
  have un:rlD s (i+1)=if nxV (rlD s i).1 2=1 then((rowS (nxS (rlD s i).1 2)).1,(rlD s i).2++[⟨i,(rowS (nxS (rlD s i).1 2)).2.n,(rowS (nxS (rlD s i).1 2)).2.name⟩]) else(nxS (rlD s i).1 2,(rlD s i).2):=rfl
  dsimp only;refine⟨((rlD s i).1,2),⟨⟨⟨rfl,rfl⟩,rfl,trivial⟩,⟨⟨rfl,fun _ _=>rfl⟩,trivial⟩,h1.le (by omega),by dsimp only;omega,by dsimp only;omega⟩,fun hp=> ?_,fun hp=> ?_⟩
  ·have hp:nxV (rlD s i).1 2=1:=eq_of_beq hp;rw[if_pos hp] at un;refine⟨nxS (rlD s i).1 2,⟨⟨⟨rfl,rfl⟩,trivial⟩,⟨⟨rfl,fun _ _=>rfl⟩,trivial⟩,n1.2.2.le (by omega)⟩,⟨Nat.le_refl _,by unfold AppB;omega⟩,i64_rng (by omega),⟨i+1,hlt⟩,?_,by unfold Lt;dsimp only;omega⟩
   dsimp only;rw[un];exact⟨⟨⟨rfl,rfl⟩,⟨rfl,len_s _ _⟩,by omega,trivial⟩,⟨rfl,rfl,rfl,rfl,rfl,trivial⟩,⟨len_s _ _,app_rows Rw.ts 7 (fun _=>rfl) (rlD s i).2 ⟨i,(rowS (nxS (rlD s i).1 2)).2.n,(rowS (nxS (rlD s i).1 2)).2.name⟩⟩,trivial⟩
  ·have hp:nxV (rlD s i).1 2≠1:=ne_beq hp;rw[if_neg hp] at un;refine⟨i64_rng (by omega),⟨i+1,hlt⟩,?_,by unfold Lt;dsimp only;omega⟩
   dsimp only;rw[un];exact⟨⟨⟨rfl,rfl⟩,⟨rfl,rfl⟩,by omega,trivial⟩,⟨rfl,rfl,rfl,rfl,rfl,trivial⟩,⟨rfl,rowsR _ _⟩,trivial⟩
 ·obtain⟨i,hi⟩:=x;have e:i=6:=by have:=of_decide_eq_false hc;dsimp only at this;omega
  subst e;dsimp only;rw[(rlR s).2];generalize rlD s 6=R;exact⟨⟨⟨rfl,rfl⟩,trivial⟩,⟨rfl,rfl,rfl,rfl,rfl,trivial⟩,⟨rfl,rowsR _ _⟩,trivial⟩
noncomputable def k_RowsOf:Con:=.rel ⟨List UInt8,fun c=>[.bys c],fun c=>rwS (rlR (srcN c)).1.2,fun c=>c.length<=1048576⟩
noncomputable def b_RowsOf:Code:=Tryz.f5.body.getD .skip
theorem call_RowsOf:Callable Tryz.prog 5:=⟨_,Tryz.func5,by kernel_rfl,by kernel_rfl⟩
theorem v_RowsOf(c:List UInt8)(h:
  ∃(x:(List UInt8)),((c=x/\True)/\True/\x.length<=1048576)/\∃(x_1:Src),(((0=0/\0=0)/\True)/\((1=1/\RowsEq 1 (fun(x_2:Nat)=>[T.bys x,T.int .i64 (↑(0:Nat):Int),T.int .i64 ((↑(x.length):Int).tmod
  (1000:Int))]) fun(x:Nat)=>[T.bys x_1.c,T.int .i64 (x_1.at_:Int),T.int .i64 x_1.sd])/\True)/\SrcOK x_1 8000)/\Le (0+(rlR x_1).val.snd.length) (rlR x_1).val.snd.length/\(rlR x_1).val.snd.length=(rlR (srcN
  c)).val.snd.length/\RowsEq (rlR x_1).val.snd.length (rwRow (rlR x_1).val.snd) (rwRow (rlR (srcN c)).val.snd)):
  PureFn Tryz.prog 5 [.bys c] (rwS (rlR (srcN c)).1.2):=
 vcR (code:=b_RowsOf) (gC l00Source_ok call_l00Source (gC rowL_ok call_rowL gN)) Tryz.func5 (by kernel_rfl) (by kernel_rfl) noAnn h (by kernel_rfl)
theorem RowsOf_ok:ConOk Tryz.prog 5 k_RowsOf:=fun(c:List UInt8) h=>v_RowsOf c ⟨c,⟨⟨rfl,trivial⟩,trivial,h⟩,srcN c,⟨⟨⟨rfl,rfl⟩,trivial⟩,⟨⟨rfl,fun _ _=>rfl⟩,trivial⟩,(srcN_ok c).le (by omega)⟩,leZ _,rfl,rowsR _ _⟩
end Go.Proofs.YtfmngblmdghccaaGreat

namespace Go.Proofs.YtfmngblmdghccaaGreat
set_option maxRecDepth 100000
open Go.SS Go.RowKit

def stS(s:Src)(c:Int):Src×List Nd:=
 if nxV (exD s).1 2=1 then(if c=2 then(nxS (nxS (nxS (exD s).1 2) 9) 2,[⟨1,0,0,0,⟨2,0,[[97],[98]].getD (nxV (nxS (nxS (exD s).1 2) 9) 2).toNat []⟩⟩]) else(nxS (nxS (exD s).1 2) 9,[⟨1,0,0,0,vI (nxV (nxS (exD s).1 2) 9)⟩])) else(nxS (exD s).1 2,(exD s).2)
def stW(s:Src):Src×List Nd:=
 if nxV s 2=1 then(if nxV (exD (nxS s 2)).1 2=1 then(nxS (nxS (nxS (exD (nxS s 2)).1 2) 6) 2,[⟨2,0,0,0,v0⟩,⟨1,0,0,0,vI (nxV (nxS (exD (nxS s 2)).1 2) 6)⟩,⟨10+nxV (nxS (nxS (exD (nxS s 2)).1 2) 6) 2,0,1,0,v0⟩]) else(nxS (exD (nxS s 2)).1 2,(exD (nxS s 2)).2)) else(nxS s 2,[])
def stD(s:Src):Stm:=
 if nxV s 4=1 then⟨2,1+nxV (nxS s 4) 2,(rowS (nxS (nxS s 4) 2)).2,0,[],[],0,false⟩
 else if nxV s 4=2 then⟨3,1+nxV (nxS s 4) 2,rwZ,1+nxV (nxS (nxS s 4) 2) 2,(stS (nxS (nxS (nxS s 4) 2) 2) (1+nxV (nxS (nxS s 4) 2) 2)).2,(stW (stS (nxS (nxS (nxS s 4) 2) 2) (1+nxV (nxS (nxS s 4) 2) 2)).1).2,0,false⟩
 else if nxV s 4=0 then⟨1,1+nxV (nxS s 4) 2,rwZ,0,[],(stW (nxS (nxS (nxS (nxS s 4) 2) 3) 3)).2,nxV (nxS (nxS s 4) 2) 3,nxV (nxS (nxS (nxS s 4) 2) 3) 3==2⟩
 else⟨4,1+nxV (nxS s 4) 2,rwZ,0,[],(stW (nxS (nxS s 4) 2)).2,0,false⟩
def k_stmtD:Con:=.reff ⟨Src,fun _=>[.ref 0 0 0],fun s=>[srcB s],fun s=>.agg ((stD s).tm 1),fun s=>[none,ndA (stD s).set,ndA (stD s).whr],fun s=>SrcOK s 1000⟩
noncomputable def b_stmtD:Code:=Tryz.f24.body.getD .skip
theorem call_stmtD:Callable Tryz.prog 24:=⟨_,Tryz.func24,by kernel_rfl,by kernel_rfl⟩
theorem v_stmtD(s:Src)(Z:Stm)(h:
  ∃(x:(Src×Int)),(((0=0/\0=0)/\(4:Int)=x.snd/\True)/\((1=1/\RowsEq 1 (fun(x:Nat)=>[T.bys s.c,T.int .i64 (s.at_:Int),T.int .i64 s.sd]) fun(x_1:Nat)=>[T.bys x.fst.c,T.int .i64 (x.fst.at_:Int),T.int
  .i64 x.fst.sd])/\True)/\SrcOK x.fst 1000000/\x.snd<=(256:Int))/\Rng .i64 ((1:Int)+nxV x.fst x.snd)/\∃(x_1:(Src×Int)),(((0=0/\0=0)/\(2:Int)=x_1.snd/\True)/\((1=1/\RowsEq 1 (fun(x_2:Nat)=>[T.bys
  (nxS x.fst x.snd).c,T.int .i64 (↑(nxS x.fst x.snd).at_:Int),T.int .i64 (nxS x.fst x.snd).sd]) fun(x:Nat)=>[T.bys x_1.fst.c,T.int .i64 (x_1.fst.at_:Int),T.int .i64 x_1.fst.sd])/\True)/\SrcOK x_1.fst 1000000/\x_1.snd<=
  (256:Int))/\Rng .i64 ((1:Int)+nxV x_1.fst x_1.snd)/\(((1:Int)+nxV x.fst x.snd==(2:Int))=true->∃(x_2:Src),(((0=0/\0=0)/\True)/\((1=1/\RowsEq 1 (fun(x:Nat)=>[T.bys (nxS x_1.fst x_1.snd).c,T.int
  .i64 (↑(nxS x_1.fst x_1.snd).at_:Int),T.int .i64 (nxS x_1.fst x_1.snd).sd]) fun(x:Nat)=>[T.bys x_2.c,T.int .i64 (x_2.at_:Int),T.int .i64 x_2.sd])/\True)/\SrcOK x_2 50000)/\(((1:Int)+nxV x.fst x.snd=Z.k/\(1:
  Int)+nxV x_1.fst x_1.snd=Z.ta/\nxV x_2 (6:Int)=Z.row.id/\(roN (roA x_2) (vaS (nxS x_2 (6:Int))).snd).snd.k=Z.row.n.k/\(roN (roA x_2) (vaS (nxS x_2 (6:Int))).snd).snd.n=Z.row.n.n/\(roN (roA x_2) (vaS (nxS x_2 (6
  :Int))).snd).snd.t=Z.row.n.t/\(roM (roN (roA x_2) (vaS (nxS x_2 (6:Int))).snd).fst (vaS (vaS (nxS x_2 (6:Int))).fst).snd).snd.k=Z.row.name.k/\(roM (roN (roA x_2) (vaS (nxS x_2 (6:Int))).snd).fst (vaS (vaS (nxS x_2 (6
  :Int))).fst).snd).snd.n=Z.row.name.n/\(roM (roN (roA x_2) (vaS (nxS x_2 (6:Int))).snd).fst (vaS (vaS (nxS x_2 (6:Int))).fst).snd).snd.t=Z.row.name.t/\(0:Int)=Z.c/\(0=0/\0=Z.set.length)/\(0=0/\0=
  Z.whr.length)/\(0:Int)=Z.ord/\false=Z.down/\True)/\True)/\True/\(0=Z.set.length/\RowsEq 0 (fun(k:Nat)=>List.take 7 (List.drop (k*7) [])) (ndRow Z.set))/\(0=Z.whr.length/\RowsEq 0 (fun(k:Nat)=>
  List.take 7 (List.drop (k*7) [])) (ndRow Z.whr))/\True)/\(((1:Int)+nxV x.fst x.snd==(2:Int))=false->(((1:Int)+nxV x.fst x.snd==(3:Int))=true->∃(x_2:(Src×Int)),(((0=0/\0=0)/\(2:Int)=x_2.snd
  /\True)/\((1=1/\RowsEq 1 (fun(x:Nat)=>[T.bys (nxS x_1.fst x_1.snd).c,T.int .i64 (↑(nxS x_1.fst x_1.snd).at_:Int),T.int .i64 (nxS x_1.fst x_1.snd).sd]) fun(x:Nat)=>[T.bys x_2.fst.c,T.int .i64 (x_2.fst.at_:Int),
  T.int .i64 x_2.fst.sd])/\True)/\SrcOK x_2.fst 1000000/\x_2.snd<=(256:Int))/\Rng .i64 ((1:Int)+nxV x_2.fst x_2.snd)/\∃(x_3:Src),(((0=0/\0=0)/\True)/\((1=1/\RowsEq 1 (fun(x:Nat)=>[T.bys (nxS x_2.fst
  x_2.snd).c,T.int .i64 (↑(nxS x_2.fst x_2.snd).at_:Int),T.int .i64 (nxS x_2.fst x_2.snd).sd]) fun(x:Nat)=>[T.bys x_3.c,T.int .i64 (x_3.at_:Int),T.int .i64 x_3.sd])/\True)/\SrcOK x_3 8000)/\∃(x_4:(Src×Int)),(((0
  =0/\0=0)/\(2:Int)=x_4.snd/\True)/\((1=1/\RowsEq 1 (fun(x:Nat)=>[T.bys (exD x_3).fst.c,T.int .i64 (↑(exD x_3).fst.at_:Int),T.int .i64 (exD x_3).fst.sd]) fun(x:Nat)=>[T.bys x_4.fst.c,T.int .i64
  (x_4.fst.at_:Int),T.int .i64 x_4.fst.sd])/\True)/\SrcOK x_4.fst 1000000/\(0:Int)<=x_4.snd/\x_4.snd<=(256:Int))/\((nxV x_4.fst x_4.snd==x_4.snd- (1:Int))=true->∃(x_5:(Src×Int)),(((0=0/\0=0)/\(9:
  Int)=x_5.snd/\True)/\((1=1/\RowsEq 1 (fun(x:Nat)=>[T.bys (nxS x_4.fst x_4.snd).c,T.int .i64 (↑(nxS x_4.fst x_4.snd).at_:Int),T.int .i64 (nxS x_4.fst x_4.snd).sd]) fun(x:Nat)=>[T.bys x_5.fst.c,T.int .i64
  (x_5.fst.at_:Int),T.int .i64 x_5.fst.sd])/\True)/\SrcOK x_5.fst 1000000/\x_5.snd<=(256:Int))/\∃(x_6:Int),((nxV x_5.fst x_5.snd=x_6/\True)/\True)/\(((1:Int)+nxV x_2.fst x_2.snd==(2:Int))=true->∃(x_7:
  (Src×List (List UInt8))),(((0=0/\0=0)/\(2=x_7.snd.length/\RowsEq 2 (fun(k:Nat)=>List.take 1 (List.drop (k*1) [T.str [(97:UInt8)],T.str [(98:UInt8)]])) (strRow x_7.snd))/\True)/\((1=1/\RowsEq 1 (fun(x
  :Nat)=>[T.bys (nxS x_5.fst x_5.snd).c,T.int .i64 (↑(nxS x_5.fst x_5.snd).at_:Int),T.int .i64 (nxS x_5.fst x_5.snd).sd]) fun(x:Nat)=>[T.bys x_7.fst.c,T.int .i64 (x_7.fst.at_:Int),T.int .i64 x_7.fst.sd])/\True)/\
  SrcOK x_7.fst 1000000/\1<=x_7.snd.length/\x_7.snd.length<=256)/\InB (0:Int) 1/\Lt 0 1/\∃(x_8:(Src×Int)),(((0=0/\0=0)/\(2:Int)=x_8.snd/\True)/\((1=1/\RowsEq 1 (fun(x:Nat)=>[T.bys (nxS x_7.fst
  (x_7.snd.length:Int)).c,T.int .i64 (↑(nxS x_7.fst (x_7.snd.length:Int)).at_:Int),T.int .i64 (nxS x_7.fst (x_7.snd.length:Int)).sd]) fun(x:Nat)=>[T.bys x_8.fst.c,T.int .i64 (x_8.fst.at_:Int),T.int .i64 x_8.fst.sd])/\
  True)/\SrcOK x_8.fst 1000000/\(0:Int)<=x_8.snd/\x_8.snd<=(256:Int))/\((nxV x_8.fst x_8.snd==x_8.snd- (1:Int))=true->∃(x_9:Src),(((0=0/\0=0)/\True)/\((1=1/\RowsEq 1 (fun(x:Nat)=>[T.bys (nxS
  x_8.fst x_8.snd).c,T.int .i64 (↑(nxS x_8.fst x_8.snd).at_:Int),T.int .i64 (nxS x_8.fst x_8.snd).sd]) fun(x:Nat)=>[T.bys x_9.c,T.int .i64 (x_9.at_:Int),T.int .i64 x_9.sd])/\True)/\SrcOK x_9 8000)/\∃(x_10:(Src×
  Int)),(((0=0/\0=0)/\(2:Int)=x_10.snd/\True)/\((1=1/\RowsEq 1 (fun(x:Nat)=>[T.bys (exD x_9).fst.c,T.int .i64 (↑(exD x_9).fst.at_:Int),T.int .i64 (exD x_9).fst.sd]) fun(x:Nat)=>[T.bys x_10.fst.c,T.int
  .i64 (x_10.fst.at_:Int),T.int .i64 x_10.fst.sd])/\True)/\SrcOK x_10.fst 1000000/\(0:Int)<=x_10.snd/\x_10.snd<=(256:Int))/\((nxV x_10.fst x_10.snd==x_10.snd- (1:Int))=true->∃(x_11:(Src×Int)),(((0=0/\0=
  0)/\(6:Int)=x_11.snd/\True)/\((1=1/\RowsEq 1 (fun(x:Nat)=>[T.bys (nxS x_10.fst x_10.snd).c,T.int .i64 (↑(nxS x_10.fst x_10.snd).at_:Int),T.int .i64 (nxS x_10.fst x_10.snd).sd]) fun(x:Nat)=>[T.bys
  x_11.fst.c,T.int .i64 (x_11.fst.at_:Int),T.int .i64 x_11.fst.sd])/\True)/\SrcOK x_11.fst 1000000/\x_11.snd<=(256:Int))/\∃(x_12:Int),((nxV x_11.fst x_11.snd=x_12/\True)/\True)/\∃(x_13:(Src×Int)),(((0=0/\0
  =0)/\(2:Int)=x_13.snd/\True)/\((1=1/\RowsEq 1 (fun(x:Nat)=>[T.bys (nxS x_11.fst x_11.snd).c,T.int .i64 (↑(nxS x_11.fst x_11.snd).at_:Int),T.int .i64 (nxS x_11.fst x_11.snd).sd]) fun(x:Nat)=>[T.bys
  x_13.fst.c,T.int .i64 (x_13.fst.at_:Int),T.int .i64 x_13.fst.sd])/\True)/\SrcOK x_13.fst 1000000/\x_13.snd<=(256:Int))/\Rng .i64 ((10:Int)+nxV x_13.fst x_13.snd)/\(((1:Int)+nxV x.fst x.snd=Z.k/\(1:Int)+nxV
  x_1.fst x_1.snd=Z.ta/\(0:Int)=Z.row.id/\(0:Int)=Z.row.n.k/\(0:Int)=Z.row.n.n/\[]=Z.row.n.t/\(0:Int)=Z.row.name.k/\(0:Int)=Z.row.name.n/\[]=Z.row.name.t/\(1:Int)+nxV x_2.fst x_2.snd=Z.c/\(0
  =0/\1=Z.set.length)/\(0=0/\3=Z.whr.length)/\(0:Int)=Z.ord/\false=Z.down/\True)/\True)/\True/\(1=Z.set.length/\RowsEq 1 (setRow (fun(k:Nat)=>List.take 7 (List.drop (k*7) [T.int .i64 (1:Int),T.int
  .i64 (0:Int),T.int .i64 (0:Int),T.int .i64 (0:Int),T.int .i64 (1:Int),T.int .i64 x_6,T.str []])) 0 4 [T.int .i64 (2:Int),T.int .i64 (0:Int),T.str (x_7.snd.getD (nxV x_7.fst (x_7.snd.length:Int)).toNat [])])
  (ndRow Z.set))/\(3=Z.whr.length/\RowsEq 3 (fun(k:Nat)=>List.take 7 (List.drop (k*7) [T.int .i64 (2:Int),T.int .i64 (0:Int),T.int .i64 (0:Int),T.int .i64 (0:Int),T.int .i64 (0:Int),T.int .i64 (0:Int),
  T.str [],T.int .i64 (1:Int),T.int .i64 (0:Int),T.int .i64 (0:Int),T.int .i64 (0:Int),T.int .i64 (1:Int),T.int .i64 x_12,T.str [],T.int .i64 ((10:Int)+nxV x_13.fst x_13.snd),T.int .i64 (0:Int),T.int .i64
  (1:Int),T.int .i64 (0:Int),T.int .i64 (0:Int),T.int .i64 (0:Int),T.str []])) (ndRow Z.whr))/\True)/\((nxV x_10.fst x_10.snd==x_10.snd- (1:Int))=false->(((1:Int)+nxV x.fst x.snd=Z.k/\(1:Int)+nxV
  x_1.fst x_1.snd=Z.ta/\(0:Int)=Z.row.id/\(0:Int)=Z.row.n.k/\(0:Int)=Z.row.n.n/\[]=Z.row.n.t/\(0:Int)=Z.row.name.k/\(0:Int)=Z.row.name.n/\[]=Z.row.name.t/\(1:Int)+nxV x_2.fst x_2.snd=Z.c/\(0
  =0/\1=Z.set.length)/\(0=0/\(exD x_9).snd.length=Z.whr.length)/\(0:Int)=Z.ord/\false=Z.down/\True)/\True)/\True/\(1=Z.set.length/\RowsEq 1 (setRow (fun(k:Nat)=>List.take 7 (List.drop (k*7) [T.int
  .i64 (1:Int),T.int .i64 (0:Int),T.int .i64 (0:Int),T.int .i64 (0:Int),T.int .i64 (1:Int),T.int .i64 x_6,T.str []])) 0 4 [T.int .i64 (2:Int),T.int .i64 (0:Int),T.str (x_7.snd.getD (nxV x_7.fst
  (x_7.snd.length:Int)).toNat [])]) (ndRow Z.set))/\(EqL ndRow (exD x_9).snd Z.whr)/\True))/\((nxV x_8.fst x_8.snd==x_8.snd- (1:Int))=false->(((1:Int)+nxV x.fst x.snd=Z.k/\(1:Int)+nxV x_1.fst x_1.snd=Z.ta/\
  (0:Int)=Z.row.id/\(0:Int)=Z.row.n.k/\(0:Int)=Z.row.n.n/\[]=Z.row.n.t/\(0:Int)=Z.row.name.k/\(0:Int)=Z.row.name.n/\[]=Z.row.name.t/\(1:Int)+nxV x_2.fst x_2.snd=Z.c/\(0=0/\1=Z.set.length)/\
  (0=0/\0=Z.whr.length)/\(0:Int)=Z.ord/\false=Z.down/\True)/\True)/\True/\(1=Z.set.length/\RowsEq 1 (setRow (fun(k:Nat)=>List.take 7 (List.drop (k*7) [T.int .i64 (1:Int),T.int .i64 (0:Int),T.int .i64
  (0:Int),T.int .i64 (0:Int),T.int .i64 (1:Int),T.int .i64 x_6,T.str []])) 0 4 [T.int .i64 (2:Int),T.int .i64 (0:Int),T.str (x_7.snd.getD (nxV x_7.fst (x_7.snd.length:Int)).toNat [])]) (ndRow Z.set))/\(0=
  Z.whr.length/\RowsEq 0 (fun(k:Nat)=>List.take 7 (List.drop (k*7) [])) (ndRow Z.whr))/\True))/\(((1:Int)+nxV x_2.fst x_2.snd==(2:Int))=false->∃(x_7:(Src×Int)),(((0=0/\0=0)/\(2:Int)=x_7.snd/\
  True)/\((1=1/\RowsEq 1 (fun(x:Nat)=>[T.bys (nxS x_5.fst x_5.snd).c,T.int .i64 (↑(nxS x_5.fst x_5.snd).at_:Int),T.int .i64 (nxS x_5.fst x_5.snd).sd]) fun(x:Nat)=>[T.bys x_7.fst.c,T.int .i64 (x_7.fst.at_:Int),
  T.int .i64 x_7.fst.sd])/\True)/\SrcOK x_7.fst 1000000/\(0:Int)<=x_7.snd/\x_7.snd<=(256:Int))/\((nxV x_7.fst x_7.snd==x_7.snd- (1:Int))=true->∃(x_8:Src),(((0=0/\0=0)/\True)/\((1=1/\RowsEq 1 (fun(x
  :Nat)=>[T.bys (nxS x_7.fst x_7.snd).c,T.int .i64 (↑(nxS x_7.fst x_7.snd).at_:Int),T.int .i64 (nxS x_7.fst x_7.snd).sd]) fun(x:Nat)=>[T.bys x_8.c,T.int .i64 (x_8.at_:Int),T.int .i64 x_8.sd])/\True)/\SrcOK x_8 8000)
  /\∃(x_9:(Src×Int)),(((0=0/\0=0)/\(2:Int)=x_9.snd/\True)/\((1=1/\RowsEq 1 (fun(x:Nat)=>[T.bys (exD x_8).fst.c,T.int .i64 (↑(exD x_8).fst.at_:Int),T.int .i64 (exD x_8).fst.sd]) fun(x:Nat)=>[T.bys
  x_9.fst.c,T.int .i64 (x_9.fst.at_:Int),T.int .i64 x_9.fst.sd])/\True)/\SrcOK x_9.fst 1000000/\(0:Int)<=x_9.snd/\x_9.snd<=(256:Int))/\((nxV x_9.fst x_9.snd==x_9.snd- (1:Int))=true->∃(x_10:(Src×Int)),(((0
  =0/\0=0)/\(6:Int)=x_10.snd/\True)/\((1=1/\RowsEq 1 (fun(x:Nat)=>[T.bys (nxS x_9.fst x_9.snd).c,T.int .i64 (↑(nxS x_9.fst x_9.snd).at_:Int),T.int .i64 (nxS x_9.fst x_9.snd).sd]) fun(x:Nat)=>[T.bys
  x_10.fst.c,T.int .i64 (x_10.fst.at_:Int),T.int .i64 x_10.fst.sd])/\True)/\SrcOK x_10.fst 1000000/\x_10.snd<=(256:Int))/\∃(x_11:Int),((nxV x_10.fst x_10.snd=x_11/\True)/\True)/\∃(x_12:(Src×Int)),(((0=0/\0
  =0)/\(2:Int)=x_12.snd/\True)/\((1=1/\RowsEq 1 (fun(x:Nat)=>[T.bys (nxS x_10.fst x_10.snd).c,T.int .i64 (↑(nxS x_10.fst x_10.snd).at_:Int),T.int .i64 (nxS x_10.fst x_10.snd).sd]) fun(x:Nat)=>[T.bys
  x_12.fst.c,T.int .i64 (x_12.fst.at_:Int),T.int .i64 x_12.fst.sd])/\True)/\SrcOK x_12.fst 1000000/\x_12.snd<=(256:Int))/\Rng .i64 ((10:Int)+nxV x_12.fst x_12.snd)/\(((1:Int)+nxV x.fst x.snd=Z.k/\(1:Int)+nxV
  x_1.fst x_1.snd=Z.ta/\(0:Int)=Z.row.id/\(0:Int)=Z.row.n.k/\(0:Int)=Z.row.n.n/\[]=Z.row.n.t/\(0:Int)=Z.row.name.k/\(0:Int)=Z.row.name.n/\[]=Z.row.name.t/\(1:Int)+nxV x_2.fst x_2.snd=Z.c/\(0
  =0/\1=Z.set.length)/\(0=0/\3=Z.whr.length)/\(0:Int)=Z.ord/\false=Z.down/\True)/\True)/\True/\(1=Z.set.length/\RowsEq 1 (fun(k:Nat)=>List.take 7 (List.drop (k*7) [T.int .i64 (1:Int),T.int .i64 (0
  :Int),T.int .i64 (0:Int),T.int .i64 (0:Int),T.int .i64 (1:Int),T.int .i64 x_6,T.str []])) (ndRow Z.set))/\(3=Z.whr.length/\RowsEq 3 (fun(k:Nat)=>List.take 7 (List.drop (k*7) [T.int .i64 (2:Int),T.int .i64
  (0:Int),T.int .i64 (0:Int),T.int .i64 (0:Int),T.int .i64 (0:Int),T.int .i64 (0:Int),T.str [],T.int .i64 (1:Int),T.int .i64 (0:Int),T.int .i64 (0:Int),T.int .i64 (0:Int),T.int .i64 (1:Int),T.int .i64
  x_11,T.str [],T.int .i64 ((10:Int)+nxV x_12.fst x_12.snd),T.int .i64 (0:Int),T.int .i64 (1:Int),T.int .i64 (0:Int),T.int .i64 (0:Int),T.int .i64 (0:Int),T.str []])) (ndRow Z.whr))/\True)/\((nxV x_9.fst
  x_9.snd==x_9.snd- (1:Int))=false->(((1:Int)+nxV x.fst x.snd=Z.k/\(1:Int)+nxV x_1.fst x_1.snd=Z.ta/\(0:Int)=Z.row.id/\(0:Int)=Z.row.n.k/\(0:Int)=Z.row.n.n/\[]=Z.row.n.t/\(0:Int)=
  Z.row.name.k/\(0:Int)=Z.row.name.n/\[]=Z.row.name.t/\(1:Int)+nxV x_2.fst x_2.snd=Z.c/\(0=0/\1=Z.set.length)/\(0=0/\(exD x_8).snd.length=Z.whr.length)/\(0:Int)=Z.ord/\false=Z.down/\True)/\True)
  /\True/\(1=Z.set.length/\RowsEq 1 (fun(k:Nat)=>List.take 7 (List.drop (k*7) [T.int .i64 (1:Int),T.int .i64 (0:Int),T.int .i64 (0:Int),T.int .i64 (0:Int),T.int .i64 (1:Int),T.int .i64 x_6,T.str []]))
  (ndRow Z.set))/\(EqL ndRow (exD x_8).snd Z.whr)/\True))/\((nxV x_7.fst x_7.snd==x_7.snd- (1:Int))=false->(((1:Int)+nxV x.fst x.snd=Z.k/\(1:Int)+nxV x_1.fst x_1.snd=Z.ta/\(0:Int)=Z.row.id/\(0:Int)=
  Z.row.n.k/\(0:Int)=Z.row.n.n/\[]=Z.row.n.t/\(0:Int)=Z.row.name.k/\(0:Int)=Z.row.name.n/\[]=Z.row.name.t/\(1:Int)+nxV x_2.fst x_2.snd=Z.c/\(0=0/\1=Z.set.length)/\(0=0/\0=Z.whr.length)/\(0:
  Int)=Z.ord/\false=Z.down/\True)/\True)/\True/\(1=Z.set.length/\RowsEq 1 (fun(k:Nat)=>List.take 7 (List.drop (k*7) [T.int .i64 (1:Int),T.int .i64 (0:Int),T.int .i64 (0:Int),T.int .i64 (0:Int),T.int
  .i64 (1:Int),T.int .i64 x_6,T.str []])) (ndRow Z.set))/\(0=Z.whr.length/\RowsEq 0 (fun(k:Nat)=>List.take 7 (List.drop (k*7) [])) (ndRow Z.whr))/\True)))/\((nxV x_4.fst x_4.snd==x_4.snd- (1:Int))=false->∃
  (x_5:(Src×Int)),(((0=0/\0=0)/\(2:Int)=x_5.snd/\True)/\((1=1/\RowsEq 1 (fun(x:Nat)=>[T.bys (nxS x_4.fst x_4.snd).c,T.int .i64 (↑(nxS x_4.fst x_4.snd).at_:Int),T.int .i64 (nxS x_4.fst x_4.snd).sd]) fun
  (x:Nat)=>[T.bys x_5.fst.c,T.int .i64 (x_5.fst.at_:Int),T.int .i64 x_5.fst.sd])/\True)/\SrcOK x_5.fst 1000000/\(0:Int)<=x_5.snd/\x_5.snd<=(256:Int))/\((nxV x_5.fst x_5.snd==x_5.snd- (1:Int))=true->∃(x_6:
  Src),(((0=0/\0=0)/\True)/\((1=1/\RowsEq 1 (fun(x:Nat)=>[T.bys (nxS x_5.fst x_5.snd).c,T.int .i64 (↑(nxS x_5.fst x_5.snd).at_:Int),T.int .i64 (nxS x_5.fst x_5.snd).sd]) fun(x:Nat)=>[T.bys x_6.c,T.int .i64
  (x_6.at_:Int),T.int .i64 x_6.sd])/\True)/\SrcOK x_6 8000)/\∃(x_7:(Src×Int)),(((0=0/\0=0)/\(2:Int)=x_7.snd/\True)/\((1=1/\RowsEq 1 (fun(x:Nat)=>[T.bys (exD x_6).fst.c,T.int .i64 (↑(exD x_6).fst.at_:
  Int),T.int .i64 (exD x_6).fst.sd]) fun(x:Nat)=>[T.bys x_7.fst.c,T.int .i64 (x_7.fst.at_:Int),T.int .i64 x_7.fst.sd])/\True)/\SrcOK x_7.fst 1000000/\(0:Int)<=x_7.snd/\x_7.snd<=(256:Int))/\((nxV x_7.fst x_7.snd==
  x_7.snd- (1:Int))=true->∃(x_8:(Src×Int)),(((0=0/\0=0)/\(6:Int)=x_8.snd/\True)/\((1=1/\RowsEq 1 (fun(x:Nat)=>[T.bys (nxS x_7.fst x_7.snd).c,T.int .i64 (↑(nxS x_7.fst x_7.snd).at_:Int),T.int .i64
  (nxS x_7.fst x_7.snd).sd]) fun(x:Nat)=>[T.bys x_8.fst.c,T.int .i64 (x_8.fst.at_:Int),T.int .i64 x_8.fst.sd])/\True)/\SrcOK x_8.fst 1000000/\x_8.snd<=(256:Int))/\∃(x_9:Int),((nxV x_8.fst x_8.snd=x_9/\True)/\
  True)/\∃(x_10:(Src×Int)),(((0=0/\0=0)/\(2:Int)=x_10.snd/\True)/\((1=1/\RowsEq 1 (fun(x:Nat)=>[T.bys (nxS x_8.fst x_8.snd).c,T.int .i64 (↑(nxS x_8.fst x_8.snd).at_:Int),T.int .i64 (nxS x_8.fst
  x_8.snd).sd]) fun(x:Nat)=>[T.bys x_10.fst.c,T.int .i64 (x_10.fst.at_:Int),T.int .i64 x_10.fst.sd])/\True)/\SrcOK x_10.fst 1000000/\x_10.snd<=(256:Int))/\Rng .i64 ((10:Int)+nxV x_10.fst x_10.snd)/\(((1:Int)+
  nxV x.fst x.snd=Z.k/\(1:Int)+nxV x_1.fst x_1.snd=Z.ta/\(0:Int)=Z.row.id/\(0:Int)=Z.row.n.k/\(0:Int)=Z.row.n.n/\[]=Z.row.n.t/\(0:Int)=Z.row.name.k/\(0:Int)=Z.row.name.n/\[]=Z.row.name.t/\(1
  :Int)+nxV x_2.fst x_2.snd=Z.c/\(0=0/\(exD x_3).snd.length=Z.set.length)/\(0=0/\3=Z.whr.length)/\(0:Int)=Z.ord/\false=Z.down/\True)/\True)/\True/\(EqL ndRow (exD x_3).snd Z.set)/\(3=Z.whr.length/\
  RowsEq 3 (fun(k:Nat)=>List.take 7 (List.drop (k*7) [T.int .i64 (2:Int),T.int .i64 (0:Int),T.int .i64 (0:Int),T.int .i64 (0:Int),T.int .i64 (0:Int),T.int .i64 (0:Int),T.str [],T.int .i64 (1:Int),T.int
  .i64 (0:Int),T.int .i64 (0:Int),T.int .i64 (0:Int),T.int .i64 (1:Int),T.int .i64 x_9,T.str [],T.int .i64 ((10:Int)+nxV x_10.fst x_10.snd),T.int .i64 (0:Int),T.int .i64 (1:Int),T.int .i64 (0:Int),T.int
  .i64 (0:Int),T.int .i64 (0:Int),T.str []])) (ndRow Z.whr))/\True)/\((nxV x_7.fst x_7.snd==x_7.snd- (1:Int))=false->(((1:Int)+nxV x.fst x.snd=Z.k/\(1:Int)+nxV x_1.fst x_1.snd=Z.ta/\(0:Int)=Z.row.id
  /\(0:Int)=Z.row.n.k/\(0:Int)=Z.row.n.n/\[]=Z.row.n.t/\(0:Int)=Z.row.name.k/\(0:Int)=Z.row.name.n/\[]=Z.row.name.t/\(1:Int)+nxV x_2.fst x_2.snd=Z.c/\(0=0/\(exD x_3).snd.length=Z.set.length)/\
  (0=0/\(exD x_6).snd.length=Z.whr.length)/\(0:Int)=Z.ord/\false=Z.down/\True)/\True)/\True/\(EqL ndRow (exD x_3).snd Z.set)/\(EqL ndRow (exD x_6).snd Z.whr)/\True))/\((nxV x_5.fst x_5.snd==x_5.snd- (1:Int))
  =false->(((1:Int)+nxV x.fst x.snd=Z.k/\(1:Int)+nxV x_1.fst x_1.snd=Z.ta/\(0:Int)=Z.row.id/\(0:Int)=Z.row.n.k/\(0:Int)=Z.row.n.n/\[]=Z.row.n.t/\(0:Int)=Z.row.name.k/\(0:Int)=Z.row.name.n/\
  []=Z.row.name.t/\(1:Int)+nxV x_2.fst x_2.snd=Z.c/\(0=0/\(exD x_3).snd.length=Z.set.length)/\(0=0/\0=Z.whr.length)/\(0:Int)=Z.ord/\false=Z.down/\True)/\True)/\True/\(EqL ndRow (exD x_3).snd Z.set)/\
  (0=Z.whr.length/\RowsEq 0 (fun(k:Nat)=>List.take 7 (List.drop (k*7) [])) (ndRow Z.whr))/\True)))/\(((1:Int)+nxV x.fst x.snd==(3:Int))=false->(((1:Int)+nxV x.fst x.snd==(1:Int))=true->∃(x_2:(Src
  ×Int)),(((0=0/\0=0)/\(3:Int)=x_2.snd/\True)/\((1=1/\RowsEq 1 (fun(x:Nat)=>[T.bys (nxS x_1.fst x_1.snd).c,T.int .i64 (↑(nxS x_1.fst x_1.snd).at_:Int),T.int .i64 (nxS x_1.fst x_1.snd).sd]) fun(x:Nat)=>
  [T.bys x_2.fst.c,T.int .i64 (x_2.fst.at_:Int),T.int .i64 x_2.fst.sd])/\True)/\SrcOK x_2.fst 1000000/\x_2.snd<=(256:Int))/\∃(x_3:(Src×Int)),(((0=0/\0=0)/\(3:Int)=x_3.snd/\True)/\((1=1/\RowsEq 1 (fun(x
  :Nat)=>[T.bys (nxS x_2.fst x_2.snd).c,T.int .i64 (↑(nxS x_2.fst x_2.snd).at_:Int),T.int .i64 (nxS x_2.fst x_2.snd).sd]) fun(x:Nat)=>[T.bys x_3.fst.c,T.int .i64 (x_3.fst.at_:Int),T.int .i64 x_3.fst.sd])/\True)/\
  SrcOK x_3.fst 1000000/\(0:Int)<=x_3.snd/\x_3.snd<=(256:Int))/\∃(x_4:(Src×Int)),(((0=0/\0=0)/\(2:Int)=x_4.snd/\True)/\((1=1/\RowsEq 1 (fun(x:Nat)=>[T.bys (nxS x_3.fst x_3.snd).c,T.int .i64 (↑(nxS
  x_3.fst x_3.snd).at_:Int),T.int .i64 (nxS x_3.fst x_3.snd).sd]) fun(x:Nat)=>[T.bys x_4.fst.c,T.int .i64 (x_4.fst.at_:Int),T.int .i64 x_4.fst.sd])/\True)/\SrcOK x_4.fst 1000000/\(0:Int)<=x_4.snd/\x_4.snd<=(256:
  Int))/\((nxV x_4.fst x_4.snd==x_4.snd- (1:Int))=true->∃(x_5:Src),(((0=0/\0=0)/\True)/\((1=1/\RowsEq 1 (fun(x:Nat)=>[T.bys (nxS x_4.fst x_4.snd).c,T.int .i64 (↑(nxS x_4.fst x_4.snd).at_:Int),T.int
  .i64 (nxS x_4.fst x_4.snd).sd]) fun(x:Nat)=>[T.bys x_5.c,T.int .i64 (x_5.at_:Int),T.int .i64 x_5.sd])/\True)/\SrcOK x_5 8000)/\∃(x_6:(Src×Int)),(((0=0/\0=0)/\(2:Int)=x_6.snd/\True)/\((1=1/\RowsEq 1
  (fun(x:Nat)=>[T.bys (exD x_5).fst.c,T.int .i64 (↑(exD x_5).fst.at_:Int),T.int .i64 (exD x_5).fst.sd]) fun(x:Nat)=>[T.bys x_6.fst.c,T.int .i64 (x_6.fst.at_:Int),T.int .i64 x_6.fst.sd])/\True)/\SrcOK x_6.fst
  1000000/\(0:Int)<=x_6.snd/\x_6.snd<=(256:Int))/\((nxV x_6.fst x_6.snd==x_6.snd- (1:Int))=true->∃(x_7:(Src×Int)),(((0=0/\0=0)/\(6:Int)=x_7.snd/\True)/\((1=1/\RowsEq 1 (fun(x:Nat)=>[T.bys
  (nxS x_6.fst x_6.snd).c,T.int .i64 (↑(nxS x_6.fst x_6.snd).at_:Int),T.int .i64 (nxS x_6.fst x_6.snd).sd]) fun(x:Nat)=>[T.bys x_7.fst.c,T.int .i64 (x_7.fst.at_:Int),T.int .i64 x_7.fst.sd])/\True)/\SrcOK x_7.fst 1000000
  /\x_7.snd<=(256:Int))/\∃(x_8:Int),((nxV x_7.fst x_7.snd=x_8/\True)/\True)/\∃(x_9:(Src×Int)),(((0=0/\0=0)/\(2:Int)=x_9.snd/\True)/\((1=1/\RowsEq 1 (fun(x:Nat)=>[T.bys (nxS x_7.fst x_7.snd).c,
  T.int .i64 (↑(nxS x_7.fst x_7.snd).at_:Int),T.int .i64 (nxS x_7.fst x_7.snd).sd]) fun(x:Nat)=>[T.bys x_9.fst.c,T.int .i64 (x_9.fst.at_:Int),T.int .i64 x_9.fst.sd])/\True)/\SrcOK x_9.fst 1000000/\x_9.snd<=(256:Int))
  /\Rng .i64 ((10:Int)+nxV x_9.fst x_9.snd)/\(((1:Int)+nxV x.fst x.snd=Z.k/\(1:Int)+nxV x_1.fst x_1.snd=Z.ta/\(0:Int)=Z.row.id/\(0:Int)=Z.row.n.k/\(0:Int)=Z.row.n.n/\[]=Z.row.n.t/\(0:Int)=
  Z.row.name.k/\(0:Int)=Z.row.name.n/\[]=Z.row.name.t/\(0:Int)=Z.c/\(0=0/\0=Z.set.length)/\(0=0/\3=Z.whr.length)/\nxV x_2.fst x_2.snd=Z.ord/\(nxV x_3.fst x_3.snd==x_3.snd- (1:Int))=Z.down/\True)
  /\True)/\True/\(0=Z.set.length/\RowsEq 0 (fun(k:Nat)=>List.take 7 (List.drop (k*7) [])) (ndRow Z.set))/\(3=Z.whr.length/\RowsEq 3 (fun(k:Nat)=>List.take 7 (List.drop (k*7) [T.int .i64 (2:Int),T.int .i64
  (0:Int),T.int .i64 (0:Int),T.int .i64 (0:Int),T.int .i64 (0:Int),T.int .i64 (0:Int),T.str [],T.int .i64 (1:Int),T.int .i64 (0:Int),T.int .i64 (0:Int),T.int .i64 (0:Int),T.int .i64 (1:Int),T.int .i64
  x_8,T.str [],T.int .i64 ((10:Int)+nxV x_9.fst x_9.snd),T.int .i64 (0:Int),T.int .i64 (1:Int),T.int .i64 (0:Int),T.int .i64 (0:Int),T.int .i64 (0:Int),T.str []])) (ndRow Z.whr))/\True)/\((nxV x_6.fst x_6.snd
  ==x_6.snd- (1:Int))=false->(((1:Int)+nxV x.fst x.snd=Z.k/\(1:Int)+nxV x_1.fst x_1.snd=Z.ta/\(0:Int)=Z.row.id/\(0:Int)=Z.row.n.k/\(0:Int)=Z.row.n.n/\[]=Z.row.n.t/\(0:Int)=Z.row.name.k/\(0
  :Int)=Z.row.name.n/\[]=Z.row.name.t/\(0:Int)=Z.c/\(0=0/\0=Z.set.length)/\(0=0/\(exD x_5).snd.length=Z.whr.length)/\nxV x_2.fst x_2.snd=Z.ord/\(nxV x_3.fst x_3.snd==x_3.snd- (1:Int))=Z.down/\True)
  /\True)/\True/\(0=Z.set.length/\RowsEq 0 (fun(k:Nat)=>List.take 7 (List.drop (k*7) [])) (ndRow Z.set))/\(EqL ndRow (exD x_5).snd Z.whr)/\True))/\((nxV x_4.fst x_4.snd==x_4.snd- (1:Int))=false->(((1:Int)+
  nxV x.fst x.snd=Z.k/\(1:Int)+nxV x_1.fst x_1.snd=Z.ta/\(0:Int)=Z.row.id/\(0:Int)=Z.row.n.k/\(0:Int)=Z.row.n.n/\[]=Z.row.n.t/\(0:Int)=Z.row.name.k/\(0:Int)=Z.row.name.n/\[]=Z.row.name.t/\(0
  :Int)=Z.c/\(0=0/\0=Z.set.length)/\(0=0/\0=Z.whr.length)/\nxV x_2.fst x_2.snd=Z.ord/\(nxV x_3.fst x_3.snd==x_3.snd- (1:Int))=Z.down/\True)/\True)/\True/\(0=Z.set.length/\RowsEq 0 (fun(k:Nat)=>
  List.take 7 (List.drop (k*7) [])) (ndRow Z.set))/\(0=Z.whr.length/\RowsEq 0 (fun(k:Nat)=>List.take 7 (List.drop (k*7) [])) (ndRow Z.whr))/\True))/\(((1:Int)+nxV x.fst x.snd==(1:Int))=false->∃(x_2:(Src
  ×Int)),(((0=0/\0=0)/\(2:Int)=x_2.snd/\True)/\((1=1/\RowsEq 1 (fun(x:Nat)=>[T.bys (nxS x_1.fst x_1.snd).c,T.int .i64 (↑(nxS x_1.fst x_1.snd).at_:Int),T.int .i64 (nxS x_1.fst x_1.snd).sd]) fun(x:Nat)=>
  [T.bys x_2.fst.c,T.int .i64 (x_2.fst.at_:Int),T.int .i64 x_2.fst.sd])/\True)/\SrcOK x_2.fst 1000000/\(0:Int)<=x_2.snd/\x_2.snd<=(256:Int))/\((nxV x_2.fst x_2.snd==x_2.snd- (1:Int))=true->∃(x_3:Src),(((0=
  0/\0=0)/\True)/\((1=1/\RowsEq 1 (fun(x:Nat)=>[T.bys (nxS x_2.fst x_2.snd).c,T.int .i64 (↑(nxS x_2.fst x_2.snd).at_:Int),T.int .i64 (nxS x_2.fst x_2.snd).sd]) fun(x:Nat)=>[T.bys x_3.c,T.int .i64
  (x_3.at_:Int),T.int .i64 x_3.sd])/\True)/\SrcOK x_3 8000)/\∃(x_4:(Src×Int)),(((0=0/\0=0)/\(2:Int)=x_4.snd/\True)/\((1=1/\RowsEq 1 (fun(x:Nat)=>[T.bys (exD x_3).fst.c,T.int .i64 (↑(exD x_3).fst.at_:
  Int),T.int .i64 (exD x_3).fst.sd]) fun(x:Nat)=>[T.bys x_4.fst.c,T.int .i64 (x_4.fst.at_:Int),T.int .i64 x_4.fst.sd])/\True)/\SrcOK x_4.fst 1000000/\(0:Int)<=x_4.snd/\x_4.snd<=(256:Int))/\((nxV x_4.fst x_4.snd==
  x_4.snd- (1:Int))=true->∃(x_5:(Src×Int)),(((0=0/\0=0)/\(6:Int)=x_5.snd/\True)/\((1=1/\RowsEq 1 (fun(x:Nat)=>[T.bys (nxS x_4.fst x_4.snd).c,T.int .i64 (↑(nxS x_4.fst x_4.snd).at_:Int),T.int .i64
  (nxS x_4.fst x_4.snd).sd]) fun(x:Nat)=>[T.bys x_5.fst.c,T.int .i64 (x_5.fst.at_:Int),T.int .i64 x_5.fst.sd])/\True)/\SrcOK x_5.fst 1000000/\x_5.snd<=(256:Int))/\∃(x_6:Int),((nxV x_5.fst x_5.snd=x_6/\True)/\
  True)/\∃(x_7:(Src×Int)),(((0=0/\0=0)/\(2:Int)=x_7.snd/\True)/\((1=1/\RowsEq 1 (fun(x:Nat)=>[T.bys (nxS x_5.fst x_5.snd).c,T.int .i64 (↑(nxS x_5.fst x_5.snd).at_:Int),T.int .i64 (nxS x_5.fst
  x_5.snd).sd]) fun(x:Nat)=>[T.bys x_7.fst.c,T.int .i64 (x_7.fst.at_:Int),T.int .i64 x_7.fst.sd])/\True)/\SrcOK x_7.fst 1000000/\x_7.snd<=(256:Int))/\Rng .i64 ((10:Int)+nxV x_7.fst x_7.snd)/\(((1:Int)+nxV
  x.fst x.snd=Z.k/\(1:Int)+nxV x_1.fst x_1.snd=Z.ta/\(0:Int)=Z.row.id/\(0:Int)=Z.row.n.k/\(0:Int)=Z.row.n.n/\[]=Z.row.n.t/\(0:Int)=Z.row.name.k/\(0:Int)=Z.row.name.n/\[]=Z.row.name.t/\(0:
  Int)=Z.c/\(0=0/\0=Z.set.length)/\(0=0/\3=Z.whr.length)/\(0:Int)=Z.ord/\false=Z.down/\True)/\True)/\True/\(0=Z.set.length/\RowsEq 0 (fun(k:Nat)=>List.take 7 (List.drop (k*7) [])) (ndRow Z.set))/\
  (3=Z.whr.length/\RowsEq 3 (fun(k:Nat)=>List.take 7 (List.drop (k*7) [T.int .i64 (2:Int),T.int .i64 (0:Int),T.int .i64 (0:Int),T.int .i64 (0:Int),T.int .i64 (0:Int),T.int .i64 (0:Int),T.str [],T.int
  .i64 (1:Int),T.int .i64 (0:Int),T.int .i64 (0:Int),T.int .i64 (0:Int),T.int .i64 (1:Int),T.int .i64 x_6,T.str [],T.int .i64 ((10:Int)+nxV x_7.fst x_7.snd),T.int .i64 (0:Int),T.int .i64 (1:Int),T.int
  .i64 (0:Int),T.int .i64 (0:Int),T.int .i64 (0:Int),T.str []])) (ndRow Z.whr))/\True)/\((nxV x_4.fst x_4.snd==x_4.snd- (1:Int))=false->(((1:Int)+nxV x.fst x.snd=Z.k/\(1:Int)+nxV x_1.fst x_1.snd=Z.ta
  /\(0:Int)=Z.row.id/\(0:Int)=Z.row.n.k/\(0:Int)=Z.row.n.n/\[]=Z.row.n.t/\(0:Int)=Z.row.name.k/\(0:Int)=Z.row.name.n/\[]=Z.row.name.t/\(0:Int)=Z.c/\(0=0/\0=Z.set.length)/\(0=0/\(exD
  x_3).snd.length=Z.whr.length)/\(0:Int)=Z.ord/\false=Z.down/\True)/\True)/\True/\(0=Z.set.length/\RowsEq 0 (fun(k:Nat)=>List.take 7 (List.drop (k*7) [])) (ndRow Z.set))/\(EqL ndRow (exD x_3).snd Z.whr)/\
  True))/\((nxV x_2.fst x_2.snd==x_2.snd- (1:Int))=false->(((1:Int)+nxV x.fst x.snd=Z.k/\(1:Int)+nxV x_1.fst x_1.snd=Z.ta/\(0:Int)=Z.row.id/\(0:Int)=Z.row.n.k/\(0:Int)=Z.row.n.n/\[]=Z.row.n.t
  /\(0:Int)=Z.row.name.k/\(0:Int)=Z.row.name.n/\[]=Z.row.name.t/\(0:Int)=Z.c/\(0=0/\0=Z.set.length)/\(0=0/\0=Z.whr.length)/\(0:Int)=Z.ord/\false=Z.down/\True)/\True)/\True/\(0=Z.set.length
  /\RowsEq 0 (fun(k:Nat)=>List.take 7 (List.drop (k*7) [])) (ndRow Z.set))/\(0=Z.whr.length/\RowsEq 0 (fun(k:Nat)=>List.take 7 (List.drop (k*7) [])) (ndRow Z.whr))/\True))))):
  EffFn Tryz.prog 24 [.ref 0 0 0] [srcB s] (.agg (Z.tm 1)) [none,ndA Z.set,ndA Z.whr]:=
 vcG (code:=b_stmtD) (gC next_ok call_next (gC chance_ok call_chance (gC rowD_ok call_rowD (gC exprD_ok call_exprD (gC pick_ok call_pick (gC vInt_ok call_vInt (gC tmpK_ok call_tmpK (gC tmpK_ok call_tmpK (gC tmpK_ok call_tmpK (gC tmpK_ok call_tmpK (gC tmpK_ok call_tmpK (gC tmpK_ok call_tmpK (gC tmpK_ok call_tmpK (gC tmpK_ok call_tmpK (gC tmpK_ok call_tmpK (gC tmpK_ok call_tmpK gN)))))))))))))))) Tryz.func24 (by kernel_rfl) (by kernel_rfl) noAnn [[.box 0,.vl 0 [10],.vl 0 [11]]] h (by kernel_rfl)
theorem stW_a{s q r t:Src}{X:Src×List Nd}(hq:nxS s 2=q)(hX:exD q=X)(hr:nxS X.1 2=r)(ht:nxS r 6=t)(h:nxV s 2=1)(g:nxV X.1 2=1):stW s=(nxS t 2,[⟨2,0,0,0,v0⟩,⟨1,0,0,0,vI (nxV r 6)⟩,⟨10+nxV t 2,0,1,0,v0⟩]):=by
 subst hq hX hr ht;rw[stW,if_pos h,if_pos g]
theorem stW_b{s q:Src}{X:Src×List Nd}(hq:nxS s 2=q)(hX:exD q=X)(h:nxV s 2=1)(g:nxV X.1 2≠1):stW s=(nxS X.1 2,X.2):=by
 subst hq hX;rw[stW,if_pos h,if_neg g]
theorem stW_c{s:Src}(h:nxV s 2≠1):stW s=(nxS s 2,[]):=by rw[stW,if_neg h]
theorem stS_a{s u v:Src}{X:Src×List Nd}{c:Int}(hX:exD s=X)(hu:nxS X.1 2=u)(hv:nxS u 9=v)(h:nxV X.1 2=1)(g:c=2):stS s c=(nxS v 2,[⟨1,0,0,0,⟨2,0,[[97],[98]].getD (nxV v 2).toNat []⟩⟩]):=by
 subst hX hu hv;rw[stS,if_pos h,if_pos g]
theorem stS_b{s u:Src}{X:Src×List Nd}{c:Int}(hX:exD s=X)(hu:nxS X.1 2=u)(h:nxV X.1 2=1)(g:c≠2):stS s c=(nxS u 9,[⟨1,0,0,0,vI (nxV u 9)⟩]):=by
 subst hX hu;rw[stS,if_pos h,if_neg g]
theorem stS_c{s:Src}{X:Src×List Nd}{c:Int}(hX:exD s=X)(h:nxV X.1 2≠1):stS s c=(nxS X.1 2,X.2):=by
 subst hX;rw[stS,if_neg h]
theorem st_2{s a b:Src}(h1:nxS s 4=a)(h2:nxS a 2=b)(h:nxV s 4=1):stD s=⟨2,1+nxV a 2,(rowS b).2,0,[],[],0,false⟩:=by
 subst h1 h2;rw[stD,if_pos h]
theorem st_3{s a b d:Src}{Y:Src×List Nd}(h1:nxS s 4=a)(h2:nxS a 2=b)(h3:nxS b 2=d)(h:nxV s 4=2)(hY:stS d (1+nxV b 2)=Y):stD s=⟨3,1+nxV a 2,rwZ,1+nxV b 2,Y.2,(stW Y.1).2,0,false⟩:=by
 subst h1 h2 h3 hY;rw[stD,if_neg (by omega),if_pos h]
theorem st_1{s a b d e:Src}(h1:nxS s 4=a)(h2:nxS a 2=b)(h3:nxS b 3=d)(h4:nxS d 3=e)(h:nxV s 4=0):stD s=⟨1,1+nxV a 2,rwZ,0,[],(stW e).2,nxV b 3,nxV d 3==2⟩:=by
 subst h1 h2 h3 h4;rw[stD,if_neg (by omega),if_neg (by omega),if_pos h]
theorem st_4{s a b:Src}(h1:nxS s 4=a)(h2:nxS a 2=b)(h:nxV s 4=3):stD s=⟨4,1+nxV a 2,rwZ,0,[],(stW b).2,0,false⟩:=by
 subst h1 h2;rw[stD,if_neg (by omega),if_neg (by omega),if_neg (by omega)]
theorem rows2:RowsEq 2 (fun(k:Nat)=>List.take 1 (List.drop (k*1) [T.str [(97:UInt8)],T.str [(98:UInt8)]])) (strRow [[97],[98]])
 |0,_=>rfl
 |1,_=>rfl
 |n+2,h=>absurd h (by omega)
theorem rows1{f g:Nat->List T}(h:f 0=g 0):RowsEq 1 f g
 |0,_=>h
 |n+1,h=>absurd h (by omega)
theorem rows3{f g:Nat->List T}(h:f 0=g 0)(h1:f 1=g 1)(h2:f 2=g 2):RowsEq 3 f g
 |0,_=>h
 |1,_=>h1
 |2,_=>h2
 |n+3,h=>absurd h (by omega)
set_option maxHeartbeats 1000000 in
theorem stmtD_ok:ConOk Tryz.prog 24 k_stmtD:=by
 intro(s:Src) (h:SrcOK s 1000);have n1:=nx_rng h (n:=4) (by decide)
 refine v_stmtD s (stD s) ⟨(s,4),⟨⟨⟨rfl,rfl⟩,rfl,trivial⟩,⟨⟨rfl,fun _ _=>rfl⟩,trivial⟩,h.le (by omega),by dsimp only;omega⟩,i64_rng (by dsimp only;omega),?_⟩
 dsimp only;generalize h1:nxS s 4=a at n1 ⊢;have n2:=nx_rng n1.2.2 (n:=2) (by decide)
 refine⟨(a,2),⟨⟨⟨rfl,rfl⟩,rfl,trivial⟩,⟨⟨rfl,fun _ _=>rfl⟩,trivial⟩,n1.2.2.le (by omega),by dsimp only;omega⟩,i64_rng (by dsimp only;omega),?_⟩
 dsimp only;generalize h2:nxS a 2=b at n2 ⊢;have n3:=nx_rng n2.2.2 (n:=2) (by decide)
 have m3:=nx_rng n2.2.2 (n:=3) (by decide)
 refine⟨fun k2=>⟨b,⟨⟨⟨rfl,rfl⟩,trivial⟩,⟨⟨rfl,fun _ _=>rfl⟩,trivial⟩,n2.2.2.le (by omega)⟩,?_⟩,fun k2=>⟨fun k3=>⟨(b,2),⟨⟨⟨rfl,rfl⟩,rfl,trivial⟩,⟨⟨rfl,fun _ _=>rfl⟩,trivial⟩,n2.2.2.le (by omega),by dsimp only;omega⟩,i64_rng (by dsimp only;omega),?_⟩,fun k3=>⟨fun k1=>⟨(b,3),⟨⟨⟨rfl,rfl⟩,rfl,trivial⟩,⟨⟨rfl,fun _ _=>rfl⟩,trivial⟩,n2.2.2.le (by omega),by dsimp only;omega⟩,?_⟩,fun k1=> ?_⟩⟩⟩
 ·have k2:nxV s 4=1:=by have:1+nxV s 4=2:=eq_of_beq k2;omega
  rw[st_2 h1 h2 k2];exact(by repeat' first|exact rfl|exact trivial|exact rowsR _ _|exact(fun i hi=>absurd hi (Nat.not_lt_zero _))|exact rows1 rfl|exact rows3 rfl rfl rfl|apply And.intro|(dsimp only;omega))
 ·have k3:nxV s 4=2:=by have:1+nxV s 4=3:=eq_of_beq k3;omega
  dsimp only;generalize h3:nxS b 2=d at n3 ⊢;have n4:=ex_ok n3.2.2;refine⟨d,⟨⟨⟨rfl,rfl⟩,trivial⟩,⟨⟨rfl,fun _ _=>rfl⟩,trivial⟩,n3.2.2.le (by omega)⟩,?_⟩
  generalize hE:exD d=E at n4 ⊢;have n5:=nx_rng n4.1 (n:=2) (by decide)
  refine⟨(E.1,2),⟨⟨⟨rfl,rfl⟩,rfl,trivial⟩,⟨⟨rfl,fun _ _=>rfl⟩,trivial⟩,n4.1.le (by omega),by dsimp only;omega,by dsimp only;omega⟩,fun u1=> ?_,fun u1=> ?_⟩
  ·have u1:nxV E.1 2=1:=eq_of_beq u1;dsimp only;generalize hu:nxS E.1 2=u at n5 ⊢;have n6:=nx_rng n5.2.2 (n:=9) (by decide)
   refine⟨(u,9),⟨⟨⟨rfl,rfl⟩,rfl,trivial⟩,⟨⟨rfl,fun _ _=>rfl⟩,trivial⟩,n5.2.2.le (by omega),by dsimp only;omega⟩,nxV u 9,⟨⟨rfl,trivial⟩,trivial⟩,fun u2=> ?_,fun u2=> ?_⟩
   ·have u2:1+nxV b 2=2:=eq_of_beq u2;dsimp only;generalize hv:nxS u 9=v at n6 ⊢;have n7:=nx_rng n6.2.2 (n:=2) (by decide)
    refine⟨(v,[[97],[98]]),⟨⟨⟨rfl,rfl⟩,⟨rfl,rows2⟩,trivial⟩,⟨⟨rfl,fun _ _=>rfl⟩,trivial⟩,n6.2.2.le (by omega),by show 1<=2;decide,by show 2<=256;decide⟩,⟨by decide,by decide⟩,Nat.zero_lt_one,?_⟩
    rw[show((([[97],[98]]:List (List UInt8)).length:Nat):Int)=2 from rfl]
    have e:=st_3 h1 h2 h3 k3 (stS_a hE hu hv u1 u2);dsimp only at e ⊢;generalize hz:nxS v 2=z at n7 e ⊢;have q1:=nx_rng n7.2.2 (n:=2) (by decide)
    refine⟨(z,2),⟨⟨⟨rfl,rfl⟩,rfl,trivial⟩,⟨⟨rfl,fun _ _=>rfl⟩,trivial⟩,n7.2.2.le (by omega),by dsimp only;omega,by dsimp only;omega⟩,fun w1=> ?_,fun w1=> ?_⟩
    ·have w1:nxV z 2=1:=eq_of_beq w1;dsimp only;generalize hq:nxS z 2=q at q1 ⊢;have q2:=ex_ok q1.2.2;refine⟨q,⟨⟨⟨rfl,rfl⟩,trivial⟩,⟨⟨rfl,fun _ _=>rfl⟩,trivial⟩,q1.2.2.le (by omega)⟩,?_⟩
     generalize hX:exD q=X at q2 ⊢;have q3:=nx_rng q2.1 (n:=2) (by decide)
     refine⟨(X.1,2),⟨⟨⟨rfl,rfl⟩,rfl,trivial⟩,⟨⟨rfl,fun _ _=>rfl⟩,trivial⟩,q2.1.le (by omega),by dsimp only;omega,by dsimp only;omega⟩,fun w2=> ?_,fun w2=> ?_⟩
     ·have w2:nxV X.1 2=1:=eq_of_beq w2;dsimp only;generalize hr:nxS X.1 2=r at q3 ⊢;have q4:=nx_rng q3.2.2 (n:=6) (by decide)
      refine⟨(r,6),⟨⟨⟨rfl,rfl⟩,rfl,trivial⟩,⟨⟨rfl,fun _ _=>rfl⟩,trivial⟩,q3.2.2.le (by omega),by dsimp only;omega⟩,nxV r 6,⟨⟨rfl,trivial⟩,trivial⟩,?_⟩
      dsimp only;generalize ht:nxS r 6=t at q4 ⊢;have q5:=nx_rng q4.2.2 (n:=2) (by decide)
      refine⟨(t,2),⟨⟨⟨rfl,rfl⟩,rfl,trivial⟩,⟨⟨rfl,fun _ _=>rfl⟩,trivial⟩,q4.2.2.le (by omega),by dsimp only;omega⟩,i64_rng (by dsimp only;omega),?_⟩
      rw[e,stW_a hq hX hr ht w1 w2];exact(by repeat' first|exact rfl|exact trivial|exact rowsR _ _|exact(fun i hi=>absurd hi (Nat.not_lt_zero _))|exact rows1 rfl|exact rows3 rfl rfl rfl|apply And.intro|(dsimp only;omega))
     ·have w2:nxV X.1 2≠1:=ne_beq w2;rw[e,stW_b hq hX w1 w2];exact(by repeat' first|exact rfl|exact trivial|exact rowsR _ _|exact(fun i hi=>absurd hi (Nat.not_lt_zero _))|exact rows1 rfl|exact rows3 rfl rfl rfl|apply And.intro|(dsimp only;omega))
    ·have w1:nxV z 2≠1:=ne_beq w1;rw[e,stW_c w1];exact(by repeat' first|exact rfl|exact trivial|exact rowsR _ _|exact(fun i hi=>absurd hi (Nat.not_lt_zero _))|exact rows1 rfl|exact rows3 rfl rfl rfl|apply And.intro|(dsimp only;omega))
   ·have u2:1+nxV b 2≠2:=ne_beq u2;dsimp only;have e:=st_3 h1 h2 h3 k3 (stS_b hE hu u1 u2);dsimp only at e;generalize hz:nxS u 9=z at n6 e ⊢;have q1:=nx_rng n6.2.2 (n:=2) (by decide)
    refine⟨(z,2),⟨⟨⟨rfl,rfl⟩,rfl,trivial⟩,⟨⟨rfl,fun _ _=>rfl⟩,trivial⟩,n6.2.2.le (by omega),by dsimp only;omega,by dsimp only;omega⟩,fun w1=> ?_,fun w1=> ?_⟩
    ·have w1:nxV z 2=1:=eq_of_beq w1;dsimp only;generalize hq:nxS z 2=q at q1 ⊢;have q2:=ex_ok q1.2.2;refine⟨q,⟨⟨⟨rfl,rfl⟩,trivial⟩,⟨⟨rfl,fun _ _=>rfl⟩,trivial⟩,q1.2.2.le (by omega)⟩,?_⟩
     generalize hX:exD q=X at q2 ⊢;have q3:=nx_rng q2.1 (n:=2) (by decide)
     refine⟨(X.1,2),⟨⟨⟨rfl,rfl⟩,rfl,trivial⟩,⟨⟨rfl,fun _ _=>rfl⟩,trivial⟩,q2.1.le (by omega),by dsimp only;omega,by dsimp only;omega⟩,fun w2=> ?_,fun w2=> ?_⟩
     ·have w2:nxV X.1 2=1:=eq_of_beq w2;dsimp only;generalize hr:nxS X.1 2=r at q3 ⊢;have q4:=nx_rng q3.2.2 (n:=6) (by decide)
      refine⟨(r,6),⟨⟨⟨rfl,rfl⟩,rfl,trivial⟩,⟨⟨rfl,fun _ _=>rfl⟩,trivial⟩,q3.2.2.le (by omega),by dsimp only;omega⟩,nxV r 6,⟨⟨rfl,trivial⟩,trivial⟩,?_⟩
      dsimp only;generalize ht:nxS r 6=t at q4 ⊢;have q5:=nx_rng q4.2.2 (n:=2) (by decide)
      refine⟨(t,2),⟨⟨⟨rfl,rfl⟩,rfl,trivial⟩,⟨⟨rfl,fun _ _=>rfl⟩,trivial⟩,q4.2.2.le (by omega),by dsimp only;omega⟩,i64_rng (by dsimp only;omega),?_⟩
      rw[e,stW_a hq hX hr ht w1 w2];exact(by repeat' first|exact rfl|exact trivial|exact rowsR _ _|exact(fun i hi=>absurd hi (Nat.not_lt_zero _))|exact rows1 rfl|exact rows3 rfl rfl rfl|apply And.intro|(dsimp only;omega))
     ·have w2:nxV X.1 2≠1:=ne_beq w2;rw[e,stW_b hq hX w1 w2];exact(by repeat' first|exact rfl|exact trivial|exact rowsR _ _|exact(fun i hi=>absurd hi (Nat.not_lt_zero _))|exact rows1 rfl|exact rows3 rfl rfl rfl|apply And.intro|(dsimp only;omega))
    ·have w1:nxV z 2≠1:=ne_beq w1;rw[e,stW_c w1];exact(by repeat' first|exact rfl|exact trivial|exact rowsR _ _|exact(fun i hi=>absurd hi (Nat.not_lt_zero _))|exact rows1 rfl|exact rows3 rfl rfl rfl|apply And.intro|(dsimp only;omega))
  ·have u1:nxV E.1 2≠1:=ne_beq u1;dsimp only;have e:=st_3 h1 h2 h3 k3 (stS_c hE u1);dsimp only at e;generalize hz:nxS E.1 2=z at n5 e ⊢;have q1:=nx_rng n5.2.2 (n:=2) (by decide)
   refine⟨(z,2),⟨⟨⟨rfl,rfl⟩,rfl,trivial⟩,⟨⟨rfl,fun _ _=>rfl⟩,trivial⟩,n5.2.2.le (by omega),by dsimp only;omega,by dsimp only;omega⟩,fun w1=> ?_,fun w1=> ?_⟩
   ·have w1:nxV z 2=1:=eq_of_beq w1;dsimp only;generalize hq:nxS z 2=q at q1 ⊢;have q2:=ex_ok q1.2.2;refine⟨q,⟨⟨⟨rfl,rfl⟩,trivial⟩,⟨⟨rfl,fun _ _=>rfl⟩,trivial⟩,q1.2.2.le (by omega)⟩,?_⟩
    generalize hX:exD q=X at q2 ⊢;have q3:=nx_rng q2.1 (n:=2) (by decide)
    refine⟨(X.1,2),⟨⟨⟨rfl,rfl⟩,rfl,trivial⟩,⟨⟨rfl,fun _ _=>rfl⟩,trivial⟩,q2.1.le (by omega),by dsimp only;omega,by dsimp only;omega⟩,fun w2=> ?_,fun w2=> ?_⟩
    ·have w2:nxV X.1 2=1:=eq_of_beq w2;dsimp only;generalize hr:nxS X.1 2=r at q3 ⊢;have q4:=nx_rng q3.2.2 (n:=6) (by decide)
     refine⟨(r,6),⟨⟨⟨rfl,rfl⟩,rfl,trivial⟩,⟨⟨rfl,fun _ _=>rfl⟩,trivial⟩,q3.2.2.le (by omega),by dsimp only;omega⟩,nxV r 6,⟨⟨rfl,trivial⟩,trivial⟩,?_⟩
     dsimp only;generalize ht:nxS r 6=t at q4 ⊢;have q5:=nx_rng q4.2.2 (n:=2) (by decide)
     refine⟨(t,2),⟨⟨⟨rfl,rfl⟩,rfl,trivial⟩,⟨⟨rfl,fun _ _=>rfl⟩,trivial⟩,q4.2.2.le (by omega),by dsimp only;omega⟩,i64_rng (by dsimp only;omega),?_⟩
     rw[e,stW_a hq hX hr ht w1 w2];exact(by repeat' first|exact rfl|exact trivial|exact rowsR _ _|exact(fun i hi=>absurd hi (Nat.not_lt_zero _))|exact rows1 rfl|exact rows3 rfl rfl rfl|apply And.intro|(dsimp only;omega))
    ·have w2:nxV X.1 2≠1:=ne_beq w2;rw[e,stW_b hq hX w1 w2];exact(by repeat' first|exact rfl|exact trivial|exact rowsR _ _|exact(fun i hi=>absurd hi (Nat.not_lt_zero _))|exact rows1 rfl|exact rows3 rfl rfl rfl|apply And.intro|(dsimp only;omega))
   ·have w1:nxV z 2≠1:=ne_beq w1;rw[e,stW_c w1];exact(by repeat' first|exact rfl|exact trivial|exact rowsR _ _|exact(fun i hi=>absurd hi (Nat.not_lt_zero _))|exact rows1 rfl|exact rows3 rfl rfl rfl|apply And.intro|(dsimp only;omega))
 ·have k1:nxV s 4=0:=by have:1+nxV s 4=1:=eq_of_beq k1;omega
  dsimp only;generalize h3:nxS b 3=d at m3 ⊢;have m4:=nx_rng m3.2.2 (n:=3) (by decide)
  refine⟨(d,3),⟨⟨⟨rfl,rfl⟩,rfl,trivial⟩,⟨⟨rfl,fun _ _=>rfl⟩,trivial⟩,m3.2.2.le (by omega),by dsimp only;omega,by dsimp only;omega⟩,?_⟩
  dsimp only;generalize h4:nxS d 3=z at m4 ⊢;have e:=st_1 h1 h2 h3 h4 k1;have q1:=nx_rng m4.2.2 (n:=2) (by decide)
  refine⟨(z,2),⟨⟨⟨rfl,rfl⟩,rfl,trivial⟩,⟨⟨rfl,fun _ _=>rfl⟩,trivial⟩,m4.2.2.le (by omega),by dsimp only;omega,by dsimp only;omega⟩,fun w1=> ?_,fun w1=> ?_⟩
  ·have w1:nxV z 2=1:=eq_of_beq w1;dsimp only;generalize hq:nxS z 2=q at q1 ⊢;have q2:=ex_ok q1.2.2;refine⟨q,⟨⟨⟨rfl,rfl⟩,trivial⟩,⟨⟨rfl,fun _ _=>rfl⟩,trivial⟩,q1.2.2.le (by omega)⟩,?_⟩
   generalize hX:exD q=X at q2 ⊢;have q3:=nx_rng q2.1 (n:=2) (by decide)
   refine⟨(X.1,2),⟨⟨⟨rfl,rfl⟩,rfl,trivial⟩,⟨⟨rfl,fun _ _=>rfl⟩,trivial⟩,q2.1.le (by omega),by dsimp only;omega,by dsimp only;omega⟩,fun w2=> ?_,fun w2=> ?_⟩
   ·have w2:nxV X.1 2=1:=eq_of_beq w2;dsimp only;generalize hr:nxS X.1 2=r at q3 ⊢;have q4:=nx_rng q3.2.2 (n:=6) (by decide)
    refine⟨(r,6),⟨⟨⟨rfl,rfl⟩,rfl,trivial⟩,⟨⟨rfl,fun _ _=>rfl⟩,trivial⟩,q3.2.2.le (by omega),by dsimp only;omega⟩,nxV r 6,⟨⟨rfl,trivial⟩,trivial⟩,?_⟩
    dsimp only;generalize ht:nxS r 6=t at q4 ⊢;have q5:=nx_rng q4.2.2 (n:=2) (by decide)
    refine⟨(t,2),⟨⟨⟨rfl,rfl⟩,rfl,trivial⟩,⟨⟨rfl,fun _ _=>rfl⟩,trivial⟩,q4.2.2.le (by omega),by dsimp only;omega⟩,i64_rng (by dsimp only;omega),?_⟩
    rw[e,stW_a hq hX hr ht w1 w2];exact(by repeat' first|exact rfl|exact trivial|exact rowsR _ _|exact(fun i hi=>absurd hi (Nat.not_lt_zero _))|exact rows1 rfl|exact rows3 rfl rfl rfl|apply And.intro|(dsimp only;omega))
   ·have w2:nxV X.1 2≠1:=ne_beq w2;rw[e,stW_b hq hX w1 w2];exact(by repeat' first|exact rfl|exact trivial|exact rowsR _ _|exact(fun i hi=>absurd hi (Nat.not_lt_zero _))|exact rows1 rfl|exact rows3 rfl rfl rfl|apply And.intro|(dsimp only;omega))
  ·have w1:nxV z 2≠1:=ne_beq w1;rw[e,stW_c w1];exact(by repeat' first|exact rfl|exact trivial|exact rowsR _ _|exact(fun i hi=>absurd hi (Nat.not_lt_zero _))|exact rows1 rfl|exact rows3 rfl rfl rfl|apply And.intro|(dsimp only;omega))
 ·have k4:nxV s 4=3:=by
   have a:1+nxV s 4≠2:=ne_beq k2;have b:1+nxV s 4≠3:=ne_beq k3;have c:1+nxV s 4≠1:=ne_beq k1;omega
  have e:=st_4 h1 h2 k4;have q1:=nx_rng n2.2.2 (n:=2) (by decide)
  refine⟨(b,2),⟨⟨⟨rfl,rfl⟩,rfl,trivial⟩,⟨⟨rfl,fun _ _=>rfl⟩,trivial⟩,n2.2.2.le (by omega),by dsimp only;omega,by dsimp only;omega⟩,fun w1=> ?_,fun w1=> ?_⟩
  ·have w1:nxV b 2=1:=eq_of_beq w1;dsimp only;generalize hq:nxS b 2=q at q1 ⊢;have q2:=ex_ok q1.2.2;refine⟨q,⟨⟨⟨rfl,rfl⟩,trivial⟩,⟨⟨rfl,fun _ _=>rfl⟩,trivial⟩,q1.2.2.le (by omega)⟩,?_⟩
   generalize hX:exD q=X at q2 ⊢;have q3:=nx_rng q2.1 (n:=2) (by decide)
   refine⟨(X.1,2),⟨⟨⟨rfl,rfl⟩,rfl,trivial⟩,⟨⟨rfl,fun _ _=>rfl⟩,trivial⟩,q2.1.le (by omega),by dsimp only;omega,by dsimp only;omega⟩,fun w2=> ?_,fun w2=> ?_⟩
   ·have w2:nxV X.1 2=1:=eq_of_beq w2;dsimp only;generalize hr:nxS X.1 2=r at q3 ⊢;have q4:=nx_rng q3.2.2 (n:=6) (by decide)
    refine⟨(r,6),⟨⟨⟨rfl,rfl⟩,rfl,trivial⟩,⟨⟨rfl,fun _ _=>rfl⟩,trivial⟩,q3.2.2.le (by omega),by dsimp only;omega⟩,nxV r 6,⟨⟨rfl,trivial⟩,trivial⟩,?_⟩
    dsimp only;generalize ht:nxS r 6=t at q4 ⊢;have q5:=nx_rng q4.2.2 (n:=2) (by decide)
    refine⟨(t,2),⟨⟨⟨rfl,rfl⟩,rfl,trivial⟩,⟨⟨rfl,fun _ _=>rfl⟩,trivial⟩,q4.2.2.le (by omega),by dsimp only;omega⟩,i64_rng (by dsimp only;omega),?_⟩
    rw[e,stW_a hq hX hr ht w1 w2];exact(by repeat' first|exact rfl|exact trivial|exact rowsR _ _|exact(fun i hi=>absurd hi (Nat.not_lt_zero _))|exact rows1 rfl|exact rows3 rfl rfl rfl|apply And.intro|(dsimp only;omega))
   ·have w2:nxV X.1 2≠1:=ne_beq w2;rw[e,stW_b hq hX w1 w2];exact(by repeat' first|exact rfl|exact trivial|exact rowsR _ _|exact(fun i hi=>absurd hi (Nat.not_lt_zero _))|exact rows1 rfl|exact rows3 rfl rfl rfl|apply And.intro|(dsimp only;omega))
  ·have w1:nxV b 2≠1:=ne_beq w1;rw[e,stW_c w1];exact(by repeat' first|exact rfl|exact trivial|exact rowsR _ _|exact(fun i hi=>absurd hi (Nat.not_lt_zero _))|exact rows1 rfl|exact rows3 rfl rfl rfl|apply And.intro|(dsimp only;omega))
def k_StmtOf:Con:=.rel ⟨List UInt8,fun c=>[.bys c],fun c=>.agg (stD (srcN c)).ts,fun c=>c.length<=1048576⟩
noncomputable def b_StmtOf:Code:=Tryz.f6.body.getD .skip
theorem call_StmtOf:Callable Tryz.prog 6:=⟨_,Tryz.func6,by kernel_rfl,by kernel_rfl⟩
theorem v_StmtOf(c:List UInt8)(h:
  ∃(x:(List UInt8)),((c=x/\True)/\True/\x.length<=1048576)/\∃(x_1:Src),(((0=0/\0=0)/\True)/\((1=1/\RowsEq 1 (fun(x_2:Nat)=>[T.bys x,T.int .i64 (↑(0:Nat):Int),T.int .i64 ((↑(x.length):Int).tmod
  (1000:Int))]) fun(x:Nat)=>[T.bys x_1.c,T.int .i64 (x_1.at_:Int),T.int .i64 x_1.sd])/\True)/\SrcOK x_1 1000)/\(Le (0+(stD x_1).set.length) (stD x_1).set.length/\Le (0+(stD x_1).whr.length) (stD x_1).whr.length)/\
  (stD x_1).k=(stD (srcN c)).k/\(stD x_1).ta=(stD (srcN c)).ta/\(stD x_1).row.id=(stD (srcN c)).row.id/\(stD x_1).row.n.k=(stD (srcN c)).row.n.k/\(stD x_1).row.n.n=(stD (srcN c)).row.n.n/\(stD x_1).row.n.t=(stD
  (srcN c)).row.n.t/\(stD x_1).row.name.k=(stD (srcN c)).row.name.k/\(stD x_1).row.name.n=(stD (srcN c)).row.name.n/\(stD x_1).row.name.t=(stD (srcN c)).row.name.t/\(stD x_1).c=(stD (srcN c)).c/\(EqL ndRow (stD x_1).set
  (stD (srcN c)).set)/\(EqL ndRow (stD x_1).whr (stD (srcN c)).whr)/\(stD x_1).ord=(stD (srcN c)).ord/\(stD x_1).down=(stD (srcN c)).down/\True):
  PureFn Tryz.prog 6 [.bys c] (.agg (stD (srcN c)).ts):=
 vcR (code:=b_StmtOf) (gC l00Source_ok call_l00Source (gC stmtD_ok call_stmtD gN)) Tryz.func6 (by kernel_rfl) (by kernel_rfl) noAnn h (by kernel_rfl)
theorem StmtOf_ok:ConOk Tryz.prog 6 k_StmtOf:=fun(c:List UInt8) h=>v_StmtOf c ⟨c,⟨⟨rfl,trivial⟩,trivial,h⟩,srcN c,⟨⟨⟨rfl,rfl⟩,trivial⟩,⟨⟨rfl,fun _ _=>rfl⟩,trivial⟩,(srcN_ok c).le (by omega)⟩,⟨leZ _,leZ _⟩,⟨rfl,rfl,rfl,rfl,rfl,rfl,rfl,rfl,rfl,rfl,⟨rfl,rowsR _ _⟩,⟨rfl,rowsR _ _⟩,rfl,rfl,trivial⟩⟩
end Go.Proofs.YtfmngblmdghccaaGreat

