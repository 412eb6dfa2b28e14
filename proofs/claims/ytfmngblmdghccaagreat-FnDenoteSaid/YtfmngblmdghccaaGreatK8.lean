/- A part of the proof. -/
import Derived.Test.YtfmngblmdghccaaGreatW1
namespace Go.Proofs.YtfmngblmdghccaaGreat
set_option maxRecDepth 100000
open Go.SS

def cmpSE:Con:=.rel ⟨Rw×Rw×Int,fun x=>[.agg x.1.ts,.agg x.2.1.ts,.bref [.int .i64 x.2.2]],fun x=>.int .i64 (cmpR x.2.2 x.1 x.2.1),fun x=>0<=x.2.2/\x.2.2<=2⟩
def k_cmpS1:Con:=cmpSE
noncomputable def b_cmpS1:Code:=Tryz.f100.body.getD .skip
theorem v_cmpS1(a b:Rw)(c:Int)(h:
  ∃(x:(Rw×Int)),(((a.id=x.fst.id/\a.n.k=x.fst.n.k/\a.n.n=x.fst.n.n/\a.n.t=x.fst.n.t/\a.name.k=x.fst.name.k/\a.name.n=x.fst.name.n/\a.name.t=x.fst.name.t/\True)/\c=x.snd/\True)/\(0:Int)<=x.snd/\
  x.snd<=(2:Int))/\∃(x_1:(Rw×Int)),(((b.id=x_1.fst.id/\b.n.k=x_1.fst.n.k/\b.n.n=x_1.fst.n.n/\b.n.t=x_1.fst.n.t/\b.name.k=x_1.fst.name.k/\b.name.n=x_1.fst.name.n/\b.name.t=x_1.fst.name.t/\True)/\c=
  x_1.snd/\True)/\(0:Int)<=x_1.snd/\x_1.snd<=(2:Int))/\∃(x_2:(Val×Val)),((((colV x.fst x.snd).k=x_2.fst.k/\(colV x.fst x.snd).n=x_2.fst.n/\(colV x.fst x.snd).t=x_2.fst.t/\True)/\((colV x_1.fst x_1.snd).k=
  x_2.snd.k/\(colV x_1.fst x_1.snd).n=x_2.snd.n/\(colV x_1.fst x_1.snd).t=x_2.snd.t/\True)/\True)/\True)/\∃(x:(Rw×Rw)),(((a.id=x.fst.id/\a.n.k=x.fst.n.k/\a.n.n=x.fst.n.n/\a.n.t=x.fst.n.t/\a.name.k=
  x.fst.name.k/\a.name.n=x.fst.name.n/\a.name.t=x.fst.name.t/\True)/\(b.id=x.snd.id/\b.n.k=x.snd.n.k/\b.n.n=x.snd.n.n/\b.n.t=x.snd.n.t/\b.name.k=x.snd.name.k/\b.name.n=x.snd.name.n/\b.name.t=x.snd.name.t
  /\True)/\True)/\True)/\∃(x_3:(List Int)),(Le 2 2/\((2=x_3.length/\RowsEq 2 (fun(k:Nat)=>List.take 1 (List.drop (k*1) [T.int .i64 (cmpV x_2.fst x_2.snd),T.int .i64 (cmpN x.fst.id x.snd.id)])) (intRow x_3))/\
  True)/\Len (x_3.length))/\orL x_3=cmpR c a b):
  PureFn Tryz.prog 100 [.agg a.ts,.agg b.ts,.bref [.int .i64 c]] (.int .i64 (cmpR c a b)):=
 vcR (code:=b_cmpS1) (gC colOf_ok call_colOf (gC cmpV_ok call_cmpV (gC cmpRw_ok call_cmpRw (gC or_ok call_or gN)))) Tryz.func100 (by kernel_rfl) (by kernel_rfl) noAnn h (by kernel_rfl)
theorem cmpS1_ok:ConOk Tryz.prog 100 k_cmpS1:=by
 rintro⟨a,b,c⟩ (h:0<=c/\c<=2);refine v_cmpS1 a b c ⟨(a,c),⟨⟨⟨rfl,rfl,rfl,rfl,rfl,rfl,rfl,trivial⟩,rfl,trivial⟩,h⟩,(b,c),⟨⟨⟨rfl,rfl,rfl,rfl,rfl,rfl,rfl,trivial⟩,rfl,trivial⟩,h⟩,(colV a c,colV b c),⟨⟨⟨rfl,rfl,rfl,trivial⟩,⟨rfl,rfl,rfl,trivial⟩,trivial⟩,trivial⟩,(a,b),⟨⟨⟨rfl,rfl,rfl,rfl,rfl,rfl,rfl,trivial⟩,⟨rfl,rfl,rfl,rfl,rfl,rfl,rfl,trivial⟩,trivial⟩,trivial⟩,[cmpV (colV a c) (colV b c),cmpN a.id b.id],⟨Nat.le_refl _,⟨⟨rfl,fun i hi=> ?_⟩,trivial⟩,by show(2:Nat)<_;decide⟩,or_2 _ _⟩
 have:i=0∨i=1:=by omega
 rcases this with rfl|rfl<;>rfl
def k_eval(f:Nat):Con:=.rel ⟨List Nd×Int×Rw,fun x=>[.agg [ndS x.1],.int .i64 x.2.1,.agg x.2.2.ts],fun x=>.tup [.agg (evF f x.1 x.2.2 x.2.1.toNat).1.ts,.int .i64 (evF f x.1 x.2.2 x.2.1.toNat).2],fun x=>NdL x.1/\rowOKb x.2.2=true/\x.1.length<=40/\0<=x.2.1/\x.2.1<x.1.length/\x.2.1<f⟩
noncomputable def b_evalI:Code:=Tryz.f112.body.getD .skip
theorem call_evalI:Callable Tryz.prog 112:=⟨_,Tryz.func112,by kernel_rfl,by kernel_rfl⟩
theorem v_evalI(n:Nat)(ih:ConOk Tryz.prog 112 (k_eval n))(L:List Nd)(i:Nat)(r:Rw)(Z:Val×Int)(h:
  InB (i:Int) L.length/\(((L.getD (i:Int).toNat default).op==(1:Int))=true->((L.getD (i:Int).toNat default).v.k=Z.fst.k/\(L.getD (i:Int).toNat default).v.n=Z.fst.n/\(L.getD (i:Int).toNat default).v.t=Z.fst.t/\True)
  /\(0:Int)=Z.snd/\True)/\(((L.getD (i:Int).toNat default).op==(1:Int))=false->(((L.getD (i:Int).toNat default).op==(2:Int))=true->∃(x:(Rw×Int)),(((r.id=x.fst.id/\r.n.k=x.fst.n.k/\r.n.n=x.fst.n.n/\
  r.n.t=x.fst.n.t/\r.name.k=x.fst.name.k/\r.name.n=x.fst.name.n/\r.name.t=x.fst.name.t/\True)/\(L.getD (i:Int).toNat default).c=x.snd/\True)/\(0:Int)<=x.snd/\x.snd<=(2:Int))/\((colV x.fst x.snd).k=Z.fst.k
  /\(colV x.fst x.snd).n=Z.fst.n/\(colV x.fst x.snd).t=Z.fst.t/\True)/\(0:Int)=Z.snd/\True)/\(((L.getD (i:Int).toNat default).op==(2:Int))=false->∃(x:(List Nd×Int×Rw)),((((EqL ndRow L x.fst)/\True)/\
  (L.getD (i:Int).toNat default).a=x.snd.fst/\(r.id=x.snd.snd.id/\r.n.k=x.snd.snd.n.k/\r.n.n=x.snd.snd.n.n/\r.n.t=x.snd.snd.n.t/\r.name.k=x.snd.snd.name.k/\r.name.n=x.snd.snd.name.n/\r.name.t=x.snd.snd.name.t
  /\True)/\True)/\NdL x.fst/\rowOKb x.snd.snd=true/\x.fst.length<=40/\(0:Int)<=x.snd.fst/\x.snd.fst<(x.fst.length:Int)/\x.snd.fst<(n:Int))/\(((evF n x.fst x.snd.snd x.snd.fst.toNat).snd !=(0:Int))=true->((0:
  Int)=Z.fst.k/\(0:Int)=Z.fst.n/\[]=Z.fst.t/\True)/\(evF n x.fst x.snd.snd x.snd.fst.toNat).snd=Z.snd/\True)/\(((evF n x.fst x.snd.snd x.snd.fst.toNat).snd !=(0:Int))=false->∃(x_1:Int),(((L.getD
  (i:Int).toNat default).op=x_1/\True)/\True)/\(inR x_1 (3:Int) (5:Int)=true->∃(x_2:(Int×Val)),(((L.getD (i:Int).toNat default).op=x_2.fst/\((evF n x.fst x.snd.snd x.snd.fst.toNat).fst.k=x_2.snd.k/\(evF n
  x.fst x.snd.snd x.snd.fst.toNat).fst.n=x_2.snd.n/\(evF n x.fst x.snd.snd x.snd.fst.toNat).fst.t=x_2.snd.t/\True)/\True)/\valOK x_2.snd=true)/\((unaV x_2.fst x_2.snd).fst.k=Z.fst.k/\(unaV x_2.fst x_2.snd).fst.n=
  Z.fst.n/\(unaV x_2.fst x_2.snd).fst.t=Z.fst.t/\True)/\(unaV x_2.fst x_2.snd).snd=Z.snd/\True)/\(inR x_1 (3:Int) (5:Int)=false->∃(x_2:Val),(((L.getD (i:Int).toNat default).op==(12:Int))=true->(((evF n
  x.fst x.snd.snd x.snd.fst.toNat).fst.k=x_2.k/\(evF n x.fst x.snd.snd x.snd.fst.toNat).fst.n=x_2.n/\(evF n x.fst x.snd.snd x.snd.fst.toNat).fst.t=x_2.t/\True)/\True)/\valOK x_2=true)/\(((L.getD (i:Int).toNat
  default).op==(12:Int)&&isZ x_2)=true->∃(x:Bool),((false=x/\True)/\True)/\((1:Int)=Z.fst.k/\(if x=true then(1:Int) else(0:Int))=Z.fst.n/\[]=Z.fst.t/\True)/\(0:Int)=Z.snd/\True)/\(((L.getD
  (i:Int).toNat default).op==(12:Int)&&isZ x_2)=false->∃(x_3:Val),(((L.getD (i:Int).toNat default).op==(13:Int))=true->(((evF n x.fst x.snd.snd x.snd.fst.toNat).fst.k=x_3.k/\(evF n x.fst x.snd.snd
  x.snd.fst.toNat).fst.n=x_3.n/\(evF n x.fst x.snd.snd x.snd.fst.toNat).fst.t=x_3.t/\True)/\True)/\True)/\(((L.getD (i:Int).toNat default).op==(13:Int)&&isO x_3)=true->∃(x:Bool),((true=x/\True)/\True)/\((1
  :Int)=Z.fst.k/\(if x=true then(1:Int) else(0:Int))=Z.fst.n/\[]=Z.fst.t/\True)/\(0:Int)=Z.snd/\True)/\(((L.getD (i:Int).toNat default).op==(13:Int)&&isO x_3)=false->∃(x_4:(List Nd×Int×Rw)),
  ((((EqL ndRow L x_4.fst)/\True)/\(L.getD (i:Int).toNat default).b=x_4.snd.fst/\(r.id=x_4.snd.snd.id/\r.n.k=x_4.snd.snd.n.k/\r.n.n=x_4.snd.snd.n.n/\r.n.t=x_4.snd.snd.n.t/\r.name.k=x_4.snd.snd.name.k/\r.name.n=
  x_4.snd.snd.name.n/\r.name.t=x_4.snd.snd.name.t/\True)/\True)/\NdL x_4.fst/\rowOKb x_4.snd.snd=true/\x_4.fst.length<=40/\(0:Int)<=x_4.snd.fst/\x_4.snd.fst<(x_4.fst.length:Int)/\x_4.snd.fst<(n:Int))/\(((evF n
  x_4.fst x_4.snd.snd x_4.snd.fst.toNat).snd !=(0:Int))=true->((0:Int)=Z.fst.k/\(0:Int)=Z.fst.n/\[]=Z.fst.t/\True)/\(evF n x_4.fst x_4.snd.snd x_4.snd.fst.toNat).snd=Z.snd/\True)/\(((evF n x_4.fst x_4.snd.snd
  x_4.snd.fst.toNat).snd !=(0:Int))=false->∃(x_5:(Int×Val×Val)),(((L.getD (i:Int).toNat default).op=x_5.fst/\((evF n x.fst x.snd.snd x.snd.fst.toNat).fst.k=x_5.snd.fst.k/\(evF n x.fst x.snd.snd
  x.snd.fst.toNat).fst.n=x_5.snd.fst.n/\(evF n x.fst x.snd.snd x.snd.fst.toNat).fst.t=x_5.snd.fst.t/\True)/\((evF n x_4.fst x_4.snd.snd x_4.snd.fst.toNat).fst.k=x_5.snd.snd.k/\(evF n x_4.fst x_4.snd.snd
  x_4.snd.fst.toNat).fst.n=x_5.snd.snd.n/\(evF n x_4.fst x_4.snd.snd x_4.snd.fst.toNat).fst.t=x_5.snd.snd.t/\True)/\True)/\valOK x_5.snd.fst=true/\valOK x_5.snd.snd=true)/\((binV x_5.fst x_5.snd.fst x_5.snd.snd).fst.k
  =Z.fst.k/\(binV x_5.fst x_5.snd.fst x_5.snd.snd).fst.n=Z.fst.n/\(binV x_5.fst x_5.snd.fst x_5.snd.snd).fst.t=Z.fst.t/\True)/\(binV x_5.fst x_5.snd.fst x_5.snd.snd).snd=Z.snd/\True)))))))):
  PureFn Tryz.prog 112 [.agg [ndS L],.int .i64 i,.agg r.ts] (.tup [.agg Z.1.ts,.int .i64 Z.2]):=
 vcR (code:=b_evalI) (gC ih call_evalI (gC colOf_ok call_colOf (gC isUn_ok call_isUn (gC unary_ok call_unary (gC isZero_ok call_isZero (gC isOther_ok call_isOther (gC truth_ok call_truth (gC binary_ok call_binary gN)))))))) Tryz.func112 (by kernel_rfl) (by kernel_rfl) noAnn h (by kernel_rfl)
theorem vy{v:Val}{s:Int}{Z:Val×Int}(h:Z=(v,s)):(v.k=Z.fst.k/\v.n=Z.fst.n/\v.t=Z.fst.t/\True)/\s=Z.snd/\True:=by
 subst h;exact⟨⟨rfl,rfl,rfl,trivial⟩,rfl,trivial⟩
theorem evalI_ok:∀n,ConOk Tryz.prog 112 (k_eval n)
 |0=>fun x h=>absurd h.2.2.2.2.2 (by have:=h.2.2.2.1;omega)
 |n+1=>by
  have ih:=evalI_ok n;rintro⟨L,i,r⟩ ⟨hL,hr,hlen,h0,hi,hf⟩;dsimp only at hL hr hlen h0 hi hf;obtain⟨i,rfl⟩:∃j:Nat,i=j:=⟨i.toNat,by omega⟩
  have hi':i<L.length:=by omega
  have hN:=hL i hi';refine v_evalI n ih L i r (evF (n+1) L r (i:Int).toNat) ⟨inB_nat hi',?_⟩
  rw[Int.toNat_natCast];have hs:evF (n+1) L r i=if(L.getD i default).op=1 then((L.getD i default).v,0) else if(L.getD i default).op=2 then(colV r (L.getD i default).c,0)
    else if(evF n L r (L.getD i default).a.toNat).2≠0 then(v0,(evF n L r (L.getD i default).a.toNat).2)
    else if(L.getD i default).op<=5 then unaV (L.getD i default).op (evF n L r (L.getD i default).a.toNat).1
    else if((L.getD i default).op==12&&isZ (evF n L r (L.getD i default).a.toNat).1)=true then(tru false,0)
    else if((L.getD i default).op==13&&isO (evF n L r (L.getD i default).a.toNat).1)=true then(tru true,0)
    else if(evF n L r (L.getD i default).b.toNat).2≠0 then(v0,(evF n L r (L.getD i default).b.toNat).2)
    else binV (L.getD i default).op (evF n L r (L.getD i default).a.toNat).1 (evF n L r (L.getD i default).b.toNat).1:=rfl
  generalize evF (n+1) L r i=Z at hs ⊢;refine⟨fun h1=>vy ?_,fun h1=>⟨fun h2=> ?_,fun h2=> ?_⟩⟩
  ·rw[hs,if_pos (by simpa using h1)]
  ·have h1:¬ (L.getD i default).op=1:=by simpa using h1
   have h2:(L.getD i default).op=2:=by simpa using h2
   refine⟨(r,(L.getD i default).c),⟨⟨⟨rfl,rfl,rfl,rfl,rfl,rfl,rfl,trivial⟩,rfl,trivial⟩,?_⟩,vy ?_⟩
   ·rcases hN with h|h|h|h
    ·exact absurd h.1 h1
    ·exact h.2
    ·omega
    ·omega
   ·rw[hs,if_neg h1,if_pos h2]
  ·have h1:¬ (L.getD i default).op=1:=by simpa using h1
   have h2:¬ (L.getD i default).op=2:=by simpa using h2
   rw[if_neg h1,if_neg h2] at hs;have ha:0<=(L.getD i default).a/\(L.getD i default).a<i:=by
    rcases hN with h|h|h|h
    ·exact absurd h.1 h1
    ·exact absurd h.1 h2
    ·exact h.2.2
    ·exact⟨h.2.2.1,h.2.2.2.1⟩
   have hA:=ev_ok hL hr n (L.getD i default).a.toNat (by omega)
   generalize hAe:evF n L r (L.getD i default).a.toNat=A at hs hA;refine⟨(L,(L.getD i default).a,r),⟨⟨⟨⟨rfl,rowsR _ _⟩,trivial⟩,rfl,⟨rfl,rfl,rfl,rfl,rfl,rfl,rfl,trivial⟩,trivial⟩,hL,hr,hlen,ha.1,by dsimp only;omega,by dsimp only;omega⟩,?_⟩
   dsimp only;rw[hAe];have n5:inR (L.getD i default).op 3 5=false->¬ (L.getD i default).op<=5:=fun h4=>by
    rcases hN with h|h|h|h
    ·exact absurd h.1 h1
    ·exact absurd h.1 h2
    ·rw[inR_b.2 ⟨h.1,h.2.1⟩] at h4;cases h4
    ·omega
   refine⟨fun h3=>vz ?_,fun h3=>⟨_,⟨⟨rfl,trivial⟩,trivial⟩,fun h4=>⟨(_,A.1),⟨⟨rfl,⟨rfl,rfl,rfl,trivial⟩,trivial⟩,hA⟩,vy ?_⟩,fun h4=>⟨A.1,fun _=>⟨⟨⟨rfl,rfl,rfl,trivial⟩,trivial⟩,hA⟩,fun h5=>⟨false,⟨⟨rfl,trivial⟩,trivial⟩,vz ?_⟩,fun h5=>⟨A.1,fun _=>⟨⟨⟨rfl,rfl,rfl,trivial⟩,trivial⟩,trivial⟩,fun h6=>⟨true,⟨⟨rfl,trivial⟩,trivial⟩,vz ?_⟩,fun h6=> ?_⟩⟩⟩⟩
   ·rw[hs,if_pos (by simpa using h3)];rfl
   ·rw[hs,if_neg (by simpa using h3),if_pos (inR_b.1 h4).2]
   ·rw[hs,if_neg (by simpa using h3),if_neg (n5 h4),if_pos h5];rfl
   ·rw[hs,if_neg (by simpa using h3),if_neg (n5 h4),h5,if_neg Bool.false_ne_true,if_pos h6];rfl
   ·rw[if_neg (by simpa using h3),if_neg (n5 h4),h5,if_neg Bool.false_ne_true,h6,if_neg Bool.false_ne_true] at hs
    have hb:0<=(L.getD i default).b/\(L.getD i default).b<i:=by
     rcases hN with h|h|h|h
     ·exact absurd h.1 h1
     ·exact absurd h.1 h2
     ·exact absurd h.2.1 (n5 h4)
     ·exact⟨h.2.2.2.2.1,h.2.2.2.2.2⟩
    have hB:=ev_ok hL hr n (L.getD i default).b.toNat (by omega)
    generalize hBe:evF n L r (L.getD i default).b.toNat=B at hs hB;refine⟨(L,(L.getD i default).b,r),⟨⟨⟨⟨rfl,rowsR _ _⟩,trivial⟩,rfl,⟨rfl,rfl,rfl,rfl,rfl,rfl,rfl,trivial⟩,trivial⟩,hL,hr,hlen,hb.1,by dsimp only;omega,by dsimp only;omega⟩,?_⟩
    dsimp only;rw[hBe];refine⟨fun h7=>vz ?_,fun h7=>⟨(_,A.1,B.1),⟨⟨rfl,⟨rfl,rfl,rfl,trivial⟩,⟨rfl,rfl,rfl,trivial⟩,trivial⟩,hA,hB⟩,vy ?_⟩⟩
    ·rw[hs,if_pos (by simpa using h7)];rfl
    ·rw[hs,if_neg (by simpa using h7)]
def k_evalE:Con:=.rel ⟨List Nd×Rw,fun x=>[.agg [ndS x.1],.agg x.2.ts],fun x=>.tup [.agg (evL x.1 x.2).1.ts,.int .i64 (evL x.1 x.2).2],fun x=>NdL x.1/\rowOKb x.2=true/\x.1.length<=40/\0<x.1.length⟩
noncomputable def b_evalE:Code:=Tryz.f97.body.getD .skip
theorem call_evalE:Callable Tryz.prog 97:=⟨_,Tryz.func97,by kernel_rfl,by kernel_rfl⟩
theorem evalI_ok_41:ConOk Tryz.prog 112 (k_eval 41):=evalI_ok 41
theorem v_evalE(L:List Nd)(r:Rw)(h:
  Rng .i64 ((L.length:Int)- (1:Int))/\∃(x:(List Nd×Int×Rw)),((((EqL ndRow L x.fst)/\True)/\(L.length:Int)- (1:Int)=x.snd.fst/\(r.id=x.snd.snd.id/\r.n.k=x.snd.snd.n.k/\r.n.n=x.snd.snd.n.n/\r.n.t=
  x.snd.snd.n.t/\r.name.k=x.snd.snd.name.k/\r.name.n=x.snd.snd.name.n/\r.name.t=x.snd.snd.name.t/\True)/\True)/\NdL x.fst/\rowOKb x.snd.snd=true/\x.fst.length<=40/\(0:Int)<=x.snd.fst/\x.snd.fst<
  (x.fst.length:Int)/\x.snd.fst<(41:Int))/\((evF 41 x.fst x.snd.snd x.snd.fst.toNat).fst.k=(evL L r).fst.k/\(evF 41 x.fst x.snd.snd x.snd.fst.toNat).fst.n=(evL L r).fst.n/\(evF 41 x.fst x.snd.snd x.snd.fst.toNat).fst.t=
  (evL L r).fst.t/\True)/\(evF 41 x.fst x.snd.snd x.snd.fst.toNat).snd=(evL L r).snd/\True):
  PureFn Tryz.prog 97 [.agg [ndS L],.agg r.ts] (.tup [.agg (evL L r).1.ts,.int .i64 (evL L r).2]):=
 vcR (code:=b_evalE) (gC evalI_ok_41 call_evalI gN) Tryz.func97 (by kernel_rfl) (by kernel_rfl) noAnn h (by kernel_rfl)
theorem evalE_ok:ConOk Tryz.prog 97 k_evalE:=by
 rintro⟨L,r⟩ ⟨hL,hr,hlen,h0⟩;dsimp only at hL hr hlen h0;have e:evF 41 L r (L.length-1)=evL L r:=ev_fu hL 41 L.length (L.length-1) (by omega) (by omega) (by omega)
 refine v_evalE L r ⟨i64_rng (by omega),(L,(L.length:Int)-1,r),⟨⟨⟨⟨rfl,rowsR _ _⟩,trivial⟩,rfl,⟨rfl,rfl,rfl,rfl,rfl,rfl,rfl,trivial⟩,trivial⟩,hL,hr,hlen,by dsimp only;omega,by dsimp only;omega,by dsimp only;omega⟩,?_⟩
 dsimp only;rw[show((L.length:Int)-1).toNat=L.length-1 by omega,e]
 exact⟨⟨rfl,rfl,rfl,trivial⟩,rfl,trivial⟩
def stmE(s:Stm):Prop:=(s.whr=[]∨(NdL s.whr/\0<s.whr.length/\s.whr.length<=40))
def k_hasN:Con:=.rel ⟨List Nd,fun L=>[.agg [ndS L]],fun L=>.bool L.isEmpty,fun _=>True⟩
noncomputable def b_hasN:Code:=Tryz.f47.body.getD .skip
theorem call_hasN:Callable Tryz.prog 47:=⟨_,Tryz.func47,by kernel_rfl,by kernel_rfl⟩
theorem v_hasN(L:List Nd)(h:
  ((L.length:Int)==(0:Int))=L.isEmpty):
  PureFn Tryz.prog 47 [.agg [ndS L]] (.bool L.isEmpty):=
 vcR (code:=b_hasN) gN Tryz.func47 (by kernel_rfl) (by kernel_rfl) noAnn h (by kernel_rfl)
theorem hasN_ok:ConOk Tryz.prog 47 k_hasN:=by
 intro(L:List Nd) _;refine v_hasN L ?_
 cases L with
 |nil=>rfl
 |cons a L=>simp;omega
def k_means:Con:=.rel ⟨Stm×Rw,fun x=>[.agg x.1.ts,.agg x.2.ts],fun x=>.tup [.bool (mea x.1 x.2).1,.int .i64 (mea x.1 x.2).2],fun x=>stmE x.1/\rowOKb x.2=true⟩
noncomputable def b_means:Code:=Tryz.f79.body.getD .skip
theorem call_means:Callable Tryz.prog 79:=⟨_,Tryz.func79,by kernel_rfl,by kernel_rfl⟩
theorem v_means(s:Stm)(r:Rw)(Z:Bool×Int)(h:
  ∃(x:(List Nd)),((((EqL ndRow s.whr x)/\True)/\True)/\True)/\(List.isEmpty x=true->true=Z.fst/\(0:Int)=Z.snd/\True)/\(List.isEmpty x=false->∃(x:(List Nd×Rw)),((((EqL ndRow s.whr x.fst)/\True)/\(r.id=
  x.snd.id/\r.n.k=x.snd.n.k/\r.n.n=x.snd.n.n/\r.n.t=x.snd.n.t/\r.name.k=x.snd.name.k/\r.name.n=x.snd.name.n/\r.name.t=x.snd.name.t/\True)/\True)/\NdL x.fst/\rowOKb x.snd=true/\x.fst.length<=40/\0<
  x.fst.length)/\(((evL x.fst x.snd).snd !=(0:Int))=true->false=Z.fst/\(evL x.fst x.snd).snd=Z.snd/\True)/\(((evL x.fst x.snd).snd !=(0:Int))=false->(((evL x.fst x.snd).fst.k==(2:Int))=true->false=Z.fst
  /\(10:Int)=Z.snd/\True)/\(((evL x.fst x.snd).fst.k==(2:Int))=false->∃(x_1:Val),((((evL x.fst x.snd).fst.k=x_1.k/\(evL x.fst x.snd).fst.n=x_1.n/\(evL x.fst x.snd).fst.t=x_1.t/\True)/\True)/\True)/\isO
  x_1=Z.fst/\(0:Int)=Z.snd/\True)))):
  PureFn Tryz.prog 79 [.agg s.ts,.agg r.ts] (.tup [.bool Z.1,.int .i64 Z.2]):=
 vcR (code:=b_means) (gC hasN_ok call_hasN (gC evalE_ok call_evalE (gC isOther_ok call_isOther gN))) Tryz.func79 (by kernel_rfl) (by kernel_rfl) noAnn h (by kernel_rfl)
theorem means_ok:ConOk Tryz.prog 79 k_means:=by
 rintro⟨s,r⟩ ⟨hs,hr⟩;dsimp only at hs hr;refine v_means s r (mea s r) ⟨s.whr,⟨⟨⟨⟨rfl,rowsR _ _⟩,trivial⟩,trivial⟩,trivial⟩,fun h=> ?_,fun h=>⟨(s.whr,r),⟨⟨⟨⟨rfl,rowsR _ _⟩,trivial⟩,⟨rfl,rfl,rfl,rfl,rfl,rfl,rfl,trivial⟩,trivial⟩,?_⟩,fun h1=> ?_,fun h1=>⟨fun h2=> ?_,fun h2=>⟨_,⟨⟨⟨rfl,rfl,rfl,trivial⟩,trivial⟩,trivial⟩,?_⟩⟩⟩⟩
 ·rw[mea,if_pos h];exact⟨rfl,rfl,trivial⟩
 ·rcases hs with hs|hs
  ·rw[hs] at h;cases h
  ·exact⟨hs.1,hr,hs.2.2,hs.2.1⟩
 ·rw[mea,h,if_neg Bool.false_ne_true,if_pos (by simpa using h1)]
  exact⟨rfl,rfl,trivial⟩
 ·rw[mea,h,if_neg Bool.false_ne_true,if_neg (by simpa using h1),if_pos (by simpa using h2)]
  exact⟨rfl,rfl,trivial⟩
 ·rw[mea,h,if_neg Bool.false_ne_true,if_neg (by simpa using h1),if_neg (by simpa using h2)]
  exact⟨rfl,rfl,trivial⟩
def updZ(s:Stm)(r:Rw):Rw×Int:=if(upd s r).2≠0 then(rwZ,(upd s r).2) else upd s r
def k_updat:Con:=.rel ⟨Stm×Rw,fun x=>[.agg x.1.ts,.agg x.2.ts],fun x=>.tup [.agg (updZ x.1 x.2).1.ts,.int .i64 (updZ x.1 x.2).2],fun x=>(NdL x.1.set/\0<x.1.set.length/\x.1.set.length<=40)/\rowOKb x.2=true⟩
noncomputable def b_updat:Code:=Tryz.f80.body.getD .skip
theorem call_updat:Callable Tryz.prog 80:=⟨_,Tryz.func80,by kernel_rfl,by kernel_rfl⟩
theorem v_updat(s:Stm)(r:Rw)(Z:Rw×Int)(h:
  ∃(x:(List Nd×Rw)),((((EqL ndRow s.set x.fst)/\True)/\(r.id=x.snd.id/\r.n.k=x.snd.n.k/\r.n.n=x.snd.n.n/\r.n.t=x.snd.n.t/\r.name.k=x.snd.name.k/\r.name.n=x.snd.name.n/\r.name.t=x.snd.name.t/\True)/\
  True)/\NdL x.fst/\rowOKb x.snd=true/\x.fst.length<=40/\0<x.fst.length)/\(((evL x.fst x.snd).snd !=(0:Int))=true->((0:Int)=Z.fst.id/\(0:Int)=Z.fst.n.k/\(0:Int)=Z.fst.n.n/\[]=Z.fst.n.t/\(0:Int)=
  Z.fst.name.k/\(0:Int)=Z.fst.name.n/\[]=Z.fst.name.t/\True)/\(evL x.fst x.snd).snd=Z.snd/\True)/\(((evL x.fst x.snd).snd !=(0:Int))=false->((s.c==(1:Int))=true->∃(x_1:r_rowOK.ι),(((r.id=x_1.id/\
  (evL x.fst x.snd).fst.k=x_1.n.k/\(evL x.fst x.snd).fst.n=x_1.n.n/\(evL x.fst x.snd).fst.t=x_1.n.t/\r.name.k=x_1.name.k/\r.name.n=x_1.name.n/\r.name.t=x_1.name.t/\True)/\True)/\RwB x_1)/\((!rowOKb x_1)=true->
  ((0:Int)=Z.fst.id/\(0:Int)=Z.fst.n.k/\(0:Int)=Z.fst.n.n/\[]=Z.fst.n.t/\(0:Int)=Z.fst.name.k/\(0:Int)=Z.fst.name.n/\[]=Z.fst.name.t/\True)/\(10:Int)=Z.snd/\True)/\((!rowOKb x_1)=false->(r.id
  =Z.fst.id/\(evL x.fst x.snd).fst.k=Z.fst.n.k/\(evL x.fst x.snd).fst.n=Z.fst.n.n/\(evL x.fst x.snd).fst.t=Z.fst.n.t/\r.name.k=Z.fst.name.k/\r.name.n=Z.fst.name.n/\r.name.t=Z.fst.name.t/\True)/\(0:Int)=Z.snd
  /\True))/\((s.c==(1:Int))=false->∃(x_1:r_rowOK.ι),(((r.id=x_1.id/\r.n.k=x_1.n.k/\r.n.n=x_1.n.n/\r.n.t=x_1.n.t/\(evL x.fst x.snd).fst.k=x_1.name.k/\(evL x.fst x.snd).fst.n=x_1.name.n/\(evL x.fst
  x.snd).fst.t=x_1.name.t/\True)/\True)/\RwB x_1)/\((!rowOKb x_1)=true->((0:Int)=Z.fst.id/\(0:Int)=Z.fst.n.k/\(0:Int)=Z.fst.n.n/\[]=Z.fst.n.t/\(0:Int)=Z.fst.name.k/\(0:Int)=Z.fst.name.n/\[]=
  Z.fst.name.t/\True)/\(10:Int)=Z.snd/\True)/\((!rowOKb x_1)=false->(r.id=Z.fst.id/\r.n.k=Z.fst.n.k/\r.n.n=Z.fst.n.n/\r.n.t=Z.fst.n.t/\(evL x.fst x.snd).fst.k=Z.fst.name.k/\(evL x.fst x.snd).fst.n=
  Z.fst.name.n/\(evL x.fst x.snd).fst.t=Z.fst.name.t/\True)/\(0:Int)=Z.snd/\True)))):
  PureFn Tryz.prog 80 [.agg s.ts,.agg r.ts] (.tup [.agg Z.1.ts,.int .i64 Z.2]):=
 vcR (code:=b_updat) (gC evalE_ok call_evalE (gC rowOK_ok call_rowOK gN)) Tryz.func80 (by kernel_rfl) (by kernel_rfl) noAnn h (by kernel_rfl)
theorem vok_st{v:Val}(h:valOK v=true):v.t.length<=10:=by
 rcases vok_k h with h0|h1|h2
 ·rw[vok_0 h h0];decide
 ·rw[(vok_1 h h1).2];decide
 ·unfold valOK at h;rw[if_neg (by omega),if_neg (by omega),Bool.and_eq_true,wordOK,Bool.and_eq_true (!anyI v.t.length (badW v.t))] at h
  exact of_decide_eq_true h.2.2
theorem rw_vok{r:Rw}(h:rowOKb r=true):valOK r.n=true/\valOK r.name=true:=by
 unfold rowOKb at h;rw[Bool.and_eq_true,Bool.and_eq_true,Bool.and_eq_true,Bool.and_eq_true] at h;exact⟨h.1.1.1.2,h.1.2⟩
theorem rwB_of{r:Rw}(h:valOK r.n=true)(h2:valOK r.name=true):RwB r:=by
 have a:=vok_st h;have b:=vok_st h2;exact⟨show r.n.t.length<1000000000000 by omega,show r.name.t.length<1000000000000 by omega⟩
theorem rz{r:Rw}{s:Int}{Z:Rw×Int}(h:Z=(r,s)):(r.id=Z.fst.id/\r.n.k=Z.fst.n.k/\r.n.n=Z.fst.n.n/\r.n.t=Z.fst.n.t/\r.name.k=Z.fst.name.k/\r.name.n=Z.fst.name.n/\r.name.t=Z.fst.name.t/\True)/\s=Z.snd/\True:=by
 subst h;exact⟨⟨rfl,rfl,rfl,rfl,rfl,rfl,rfl,trivial⟩,rfl,trivial⟩
theorem updat_ok:ConOk Tryz.prog 80 k_updat:=by
 rintro⟨s,r⟩ ⟨hs,hr⟩;dsimp only at hs hr;have hE:=ev_ok hs.1 hr s.set.length (s.set.length-1) (by omega)
 replace hE:valOK (evL s.set r).1=true:=hE;have hv:=rw_vok hr;have hB:RwB (setV s.c r (evL s.set r).1):=by
  unfold setV;split
  ·exact rwB_of hE hv.2
  ·exact rwB_of hv.1 hE
 have key:(evL s.set r).2=0->((!rowOKb (setV s.c r (evL s.set r).1))=true->updZ s r=(rwZ,10))/\((!rowOKb (setV s.c r (evL s.set r).1))=false->updZ s r=(setV s.c r (evL s.set r).1,0)):=fun h0=>by
  refine⟨fun h=> ?_,fun h=> ?_⟩
  ·have e:upd s r=(r,10):=by rw[upd,if_neg (fun h=>h h0),if_neg (by intro h2;rw[h2] at h;cases h)]
   rw[updZ,e,if_pos (show(10:Int)≠0 by decide)]
  ·have e:upd s r=(setV s.c r (evL s.set r).1,0):=by rw[upd,if_neg (fun h=>h h0),if_pos (by simpa using h)]
   rw[updZ,e,if_neg (by simp)]
 refine v_updat s r (updZ s r) ⟨(s.set,r),⟨⟨⟨⟨rfl,rowsR _ _⟩,trivial⟩,⟨rfl,rfl,rfl,rfl,rfl,rfl,rfl,trivial⟩,trivial⟩,hs.1,hr,hs.2.2,hs.2.1⟩,fun h1=>rz (r:=rwZ) ?_,fun h1=> ?_⟩
 ·have h1:(evL s.set r).2≠0:=by simpa using h1
  have e:upd s r=(r,(evL s.set r).2):=by rw[upd,if_pos h1]
  rw[updZ,e,if_pos h1]
 ·have h1:(evL s.set r).2=0:=by simpa using h1
  obtain⟨k1,k2⟩:=key h1;refine⟨fun h2=>⟨setV s.c r (evL s.set r).1,⟨⟨?_,trivial⟩,hB⟩,fun h3=>rz (r:=rwZ) (k1 h3),fun h3=>rz (r:=⟨r.id,(evL s.set r).1,r.name⟩) ?_⟩,fun h2=>⟨setV s.c r (evL s.set r).1,⟨⟨?_,trivial⟩,hB⟩,fun h3=>rz (r:=rwZ) (k1 h3),fun h3=>rz (r:=⟨r.id,r.n,(evL s.set r).1⟩) ?_⟩⟩
  ·unfold setV;rw[if_pos (by simpa using h2)]
   exact⟨rfl,rfl,rfl,rfl,rfl,rfl,rfl,trivial⟩
  ·rw[k2 h3,setV,if_pos (by simpa using h2)]
  ·unfold setV;rw[if_neg (by simpa using h2)]
   exact⟨rfl,rfl,rfl,rfl,rfl,rfl,rfl,trivial⟩
  ·rw[k2 h3,setV,if_neg (by simpa using h2)]
theorem eqV0(v:Val):(v.k==(0:Int)&&(v.n==(0:Int)&&(v.t==[]&&true)))=eqV v v0:=by rw[Bool.and_true];rfl
end Go.Proofs.YtfmngblmdghccaaGreat

namespace Go.Proofs.YtfmngblmdghccaaGreat
set_option maxRecDepth 100000
open Go.SS Go.RowKit

def NdB(L:List Nd):Prop:=L.length<=1048576/\∀i,i<L.length->StB (L.getD i default).v.t
def RwsB(L:List Rw):Prop:=L.length<=1048576/\∀i,i<L.length->RwB (L.getD i default)
def StmB(s:Stm):Prop:=RwB s.row/\NdB s.set/\NdB s.whr
theorem eqRw0(r:Rw):(r.id==(0:Int)&&(r.n.k==(0:Int)&&(r.n.n==(0:Int)&&(r.n.t==[]&&true))&&(r.name.k==(0:Int)&&(r.name.n==(0:Int)&&(r.name.t==[]&&true))&&true)))=eqRwB r rwZ:=by
 simp only[Bool.and_true];rfl
theorem noSort(o:Int)(d:Bool)(b:Bool):(b&& !(o !=(0:Int)||d))=(b&&(o==0)&& !d):=by
 rw[Bool.not_or,show(!(o !=(0:Int)))=(o==0) from Bool.not_not _,Bool.and_assoc]
def bit(b:Bool):Int:=if b=true then 1 else 0
def k_bit:Con:=.rel ⟨Bool,fun b=>[.bool b],fun b=>.int .i64 (bit b),fun _=>True⟩
noncomputable def b_bit:Code:=Tryz.f108.body.getD .skip
theorem call_bit:Callable Tryz.prog 108:=⟨_,Tryz.func108,by kernel_rfl,by kernel_rfl⟩
theorem v_bit(b:Bool)(h:
  (b=true->(1:Int)=bit b)/\(b=false->(0:Int)=bit b)):
  PureFn Tryz.prog 108 [.bool b] (.int .i64 (bit b)):=
 vcR (code:=b_bit) gN Tryz.func108 (by kernel_rfl) (by kernel_rfl) noAnn h (by kernel_rfl)
theorem bit_ok:ConOk Tryz.prog 108 k_bit:=by
 intro(b:Bool) _;refine v_bit b ⟨fun h=> ?_,fun h=> ?_⟩
 ·rw[h];rfl
 ·rw[h];rfl
def k_vInt:Con:=.rel ⟨Int,fun n=>[.int .i64 n],fun n=>.agg (vI n).ts,fun _=>True⟩
noncomputable def b_vInt:Code:=Tryz.f44.body.getD .skip
theorem call_vInt:Callable Tryz.prog 44:=⟨_,Tryz.func44,by kernel_rfl,by kernel_rfl⟩
theorem v_vInt(n:Int)(h:
  (1:Int)=(1:Int)/\n=n/\([]:List UInt8)=[]/\True):
  PureFn Tryz.prog 44 [.int .i64 n] (.agg (vI n).ts):=
 vcR (code:=b_vInt) gN Tryz.func44 (by kernel_rfl) (by kernel_rfl) noAnn h (by kernel_rfl)
theorem vInt_ok:ConOk Tryz.prog 44 k_vInt:=fun n _=>v_vInt n ⟨rfl,rfl,rfl,trivial⟩
def bnd(n:Int):Val×Int:=if inR n (-1000000000) 1000000000=true then(vI n,0) else(v0,12)
def k_bnd:Con:=.rel ⟨Int,fun n=>[.int .i64 n],fun n=>.tup [.agg (bnd n).1.ts,.int .i64 (bnd n).2],fun _=>True⟩
noncomputable def b_bnd:Code:=Tryz.f117.body.getD .skip
theorem call_bnd:Callable Tryz.prog 117:=⟨_,Tryz.func117,by kernel_rfl,by kernel_rfl⟩
theorem v_bnd(n:Int)(Z:Val×Int)(h:
  ((!inR n (-1000000000:Int) (1000000000:Int))=true->((0:Int)=Z.fst.k/\(0:Int)=Z.fst.n/\[]=Z.fst.t/\True)/\(12:Int)=Z.snd/\True)/\((!inR n (-1000000000:Int) (1000000000:Int))=false->∃(x:Int),((n
  =x/\True)/\True)/\((1:Int)=Z.fst.k/\x=Z.fst.n/\[]=Z.fst.t/\True)/\(0:Int)=Z.snd/\True)):
  PureFn Tryz.prog 117 [.int .i64 n] (.tup [.agg Z.1.ts,.int .i64 Z.2]):=
 vcR (code:=b_bnd) (gC l01In_ok call_l01In (gC vInt_ok call_vInt gN)) Tryz.func117 (by kernel_rfl) (by kernel_rfl) noAnn h (by kernel_rfl)
theorem bnd_ok:ConOk Tryz.prog 117 k_bnd:=by
 intro(n:Int) _;refine v_bnd n (bnd n) ⟨fun h=>vz ?_,fun h=>⟨n,⟨⟨rfl,trivial⟩,trivial⟩,vz ?_⟩⟩
 ·rw[bnd,if_neg (by intro h2;rw[h2] at h;cases h)];rfl
 ·rw[bnd,if_pos (by simpa using h)];rfl
def k_cmpS:Con:=.rel ⟨Val×Val,fun x=>[.agg x.1.ts,.agg x.2.ts],fun x=>.int .i64 (cmpV x.1 x.2),fun _=>True⟩
noncomputable def b_cmpS:Code:=Tryz.f85.body.getD .skip
theorem call_cmpS:Callable Tryz.prog 85:=⟨_,Tryz.func85,by kernel_rfl,by kernel_rfl⟩
theorem v_cmpS(a b:Val)(z:Int)(h:
  ((a.k !=b.k)=true->∃(x:Bool),((decide (a.k>b.k)=x/\True)/\True)/\Rng .i64 ((2:Int)*bit x)/\Rng .i64 ((2:Int)*bit x- (1:Int))/\(2:Int)*bit x- (1:Int)=z)/\((a.k !=b.k)=false->((a.n !=b.n)=
  true->∃(x:Bool),((decide (a.n>b.n)=x/\True)/\True)/\Rng .i64 ((2:Int)*bit x)/\Rng .i64 ((2:Int)*bit x- (1:Int))/\(2:Int)*bit x- (1:Int)=z)/\((a.n !=b.n)=false->((!a.t==b.t)=true->∃(x:
  Bool),(((!(Op.bytesLess a.t b.t||a.t==b.t))=x/\True)/\True)/\Rng .i64 ((2:Int)*bit x)/\Rng .i64 ((2:Int)*bit x- (1:Int))/\(2:Int)*bit x- (1:Int)=z)/\((!a.t==b.t)=false->(0:Int)=z)))):
  PureFn Tryz.prog 85 [.agg a.ts,.agg b.ts] (.int .i64 z):=
 vcR (code:=b_cmpS) (gC bit_ok call_bit gN) Tryz.func85 (by kernel_rfl) (by kernel_rfl) noAnn h (by kernel_rfl)
theorem cmpS_ok:ConOk Tryz.prog 85 k_cmpS:=by
 rintro⟨a,b⟩ _;dsimp only;have key:∀{x y:Int} {p:Bool},x≠y->p=decide (x>y)->2*bit p-1=cmpN x y:=fun{x y p} hne hp=>by
  rw[hp];unfold bit cmpN;by_cases h:x>y
  ·rw[if_pos (decide_eq_true h),if_neg (by omega),if_pos h]
   rfl
  ·rw[if_neg (by simpa using h),if_pos (by omega)]
   rfl
 have rg:∀p,Rng .i64 ((2:Int)*bit p)/\Rng .i64 ((2:Int)*bit p-1):=fun p=>by
  cases p
  ·exact⟨i64_rng (by decide),i64_rng (by decide)⟩
  ·exact⟨i64_rng (by decide),i64_rng (by decide)⟩
 have nz:∀{x y:Int},x≠y->cmpN x y≠0:=fun{x y} h=>by
  unfold cmpN;split
  ·decide
  ·split
   ·decide
   ·omega
 have zz:∀x:Int,cmpN x x=0:=fun x=>by
  unfold cmpN;rw[if_neg (by omega),if_neg (by omega)]
 refine v_cmpS a b (cmpV a b) ⟨fun h=>⟨_,⟨⟨rfl,trivial⟩,trivial⟩,(rg _).1,(rg _).2,?_⟩,fun h=>⟨fun h1=>⟨_,⟨⟨rfl,trivial⟩,trivial⟩,(rg _).1,(rg _).2,?_⟩,fun h1=>⟨fun h2=>⟨_,⟨⟨rfl,trivial⟩,trivial⟩,(rg _).1,(rg _).2,?_⟩,fun h2=> ?_⟩⟩⟩
 ·have h:a.k≠b.k:=by simpa using h
  rw[key h rfl,cmpV,if_pos (nz h)]
 ·have h:a.k=b.k:=by simpa using h
  have h1:a.n≠b.n:=by simpa using h1
  rw[key h1 rfl,cmpV,h,if_neg (fun hh=>hh (zz _)),if_pos (nz h1)]
 ·have h:a.k=b.k:=by simpa using h
  have h1:a.n=b.n:=by simpa using h1
  have h2:a.t≠b.t:=by simpa using h2
  rw[cmpV,h,h1,if_neg (fun hh=>hh (zz _)),if_neg (fun hh=>hh (zz _))]
  unfold cmpT;rw[show(a.t==b.t)=false by simpa using h2,Bool.or_false]
  cases hb:Op.bytesLess a.t b.t with
  |true=>rfl
  |false=>
   cases hc:Op.bytesLess b.t a.t with
   |true=>rfl
   |false=>exact absurd (bl_tot _ _ hb hc) h2
 ·have h:a.k=b.k:=by simpa using h
  have h1:a.n=b.n:=by simpa using h1
  have h2:a.t=b.t:=by simpa using h2
  rw[cmpV,h,h1,if_neg (fun hh=>hh (zz _)),if_neg (fun hh=>hh (zz _)),h2]
  unfold cmpT;rw[bl_irr];rfl
def k_binS:Con:=.rel ⟨Int×Val×Val,fun x=>[.int .i64 x.1,.agg x.2.1.ts,.agg x.2.2.ts],fun x=>.tup [.agg (binV x.1 x.2.1 x.2.2).1.ts,.int .i64 (binV x.1 x.2.1 x.2.2).2],fun x=>valOK x.2.1=true/\valOK x.2.2=true⟩
noncomputable def b_binS:Code:=Tryz.f107.body.getD .skip
theorem call_binS:Callable Tryz.prog 107:=⟨_,Tryz.func107,by kernel_rfl,by kernel_rfl⟩
theorem v_binS(op:Int)(a b:Val)(Z:Val×Int)(h:
  ((op==(12:Int)||op==(13:Int))=true->((a.k==(2:Int)||b.k==(2:Int))=true->((0:Int)=Z.fst.k/\(0:Int)=Z.fst.n/\[]=Z.fst.t/\True)/\(10:Int)=Z.snd/\True)/\((a.k==(2:Int)||b.k==(2:
  Int))=false->((op==(12:Int)&&(a.k==(1:Int)&&a.n==(0:Int)||b.k==(1:Int)&&b.n==(0:Int)))=true->∃(x:Int),(((0:Int)=x/\True)/\True)/\((1:Int)=Z.fst.k/\x=Z.fst.n/\[]=Z.fst.t/\
  True)/\(0:Int)=Z.snd/\True)/\((op==(12:Int)&&(a.k==(1:Int)&&a.n==(0:Int)||b.k==(1:Int)&&b.n==(0:Int)))=false->((op==(13:Int)&&(a.k==(1:Int)&&a.n !=(0:Int)||b.k==(1:Int)&&
  b.n !=(0:Int)))=true->∃(x:Int),(((1:Int)=x/\True)/\True)/\((1:Int)=Z.fst.k/\x=Z.fst.n/\[]=Z.fst.t/\True)/\(0:Int)=Z.snd/\True)/\((op==(13:Int)&&(a.k==(1:Int)&&a.n !=(0:Int)||b.k
  ==(1:Int)&&b.n !=(0:Int)))=false->((a.k==(0:Int)||b.k==(0:Int))=true->((0:Int)=Z.fst.k/\(0:Int)=Z.fst.n/\[]=Z.fst.t/\True)/\(0:Int)=Z.snd/\True)/\((a.k==(0:Int)||b.k==(0:Int))
  =false->∃(x:Bool),(((op==(12:Int))=x/\True)/\True)/\∃(x_1:Int),((bit x=x_1/\True)/\True)/\((1:Int)=Z.fst.k/\x_1=Z.fst.n/\[]=Z.fst.t/\True)/\(0:Int)=Z.snd/\True)))))/\((op==(12:Int)||
  op==(13:Int))=false->((!(op==(10:Int)||op==(11:Int))&&(a.k==(2:Int)||b.k==(2:Int)))=true->((0:Int)=Z.fst.k/\(0:Int)=Z.fst.n/\[]=Z.fst.t/\True)/\(10:Int)=Z.snd/\True)/\((!(op==
  (10:Int)||op==(11:Int))&&(a.k==(2:Int)||b.k==(2:Int)))=false->((a.k==(0:Int)||b.k==(0:Int))=true->((0:Int)=Z.fst.k/\(0:Int)=Z.fst.n/\[]=Z.fst.t/\True)/\(0:Int)=Z.snd/\True)/\
  ((a.k==(0:Int)||b.k==(0:Int))=false->((a.k !=b.k)=true->((0:Int)=Z.fst.k/\(0:Int)=Z.fst.n/\[]=Z.fst.t/\True)/\(10:Int)=Z.snd/\True)/\((a.k !=b.k)=false->((op==(10:Int))=true->∃(x:
  Bool),(((a.k==b.k&&(a.n==b.n&&(a.t==b.t&&true)))=x/\True)/\True)/\∃(x_1:Int),((bit x=x_1/\True)/\True)/\((1:Int)=Z.fst.k/\x_1=Z.fst.n/\[]=Z.fst.t/\True)/\(0:Int)=Z.snd/\True)/\((op==
  (10:Int))=false->((op==(11:Int))=true->∃(x:(Val×Val)),(((a.k=x.fst.k/\a.n=x.fst.n/\a.t=x.fst.t/\True)/\(b.k=x.snd.k/\b.n=x.snd.n/\b.t=x.snd.t/\True)/\True)/\True)/\∃(x_1:Bool),((decide
  (cmpV x.fst x.snd<(0:Int))=x_1/\True)/\True)/\∃(x:Int),((bit x_1=x/\True)/\True)/\((1:Int)=Z.fst.k/\x=Z.fst.n/\[]=Z.fst.t/\True)/\(0:Int)=Z.snd/\True)/\((op==(11:Int))=false->((op==(6:
  Int))=true->Rng .i64 (a.n+b.n)/\∃(x:Int),((a.n+b.n=x/\True)/\True)/\((bnd x).fst.k=Z.fst.k/\(bnd x).fst.n=Z.fst.n/\(bnd x).fst.t=Z.fst.t/\True)/\(bnd x).snd=Z.snd/\True)/\((op==(6:Int))=false->
  ((op==(7:Int))=true->Rng .i64 (a.n-b.n)/\∃(x:Int),((a.n-b.n=x/\True)/\True)/\((bnd x).fst.k=Z.fst.k/\(bnd x).fst.n=Z.fst.n/\(bnd x).fst.t=Z.fst.t/\True)/\(bnd x).snd=Z.snd/\True)/\((op==(7:
  Int))=false->((op==(8:Int))=true->Rng .i64 (a.n*b.n)/\∃(x:Int),((a.n*b.n=x/\True)/\True)/\((bnd x).fst.k=Z.fst.k/\(bnd x).fst.n=Z.fst.n/\(bnd x).fst.t=Z.fst.t/\True)/\(bnd x).snd=Z.snd/\True)/\
  ((op==(8:Int))=false->((b.n==(0:Int))=true->((0:Int)=Z.fst.k/\(0:Int)=Z.fst.n/\[]=Z.fst.t/\True)/\(11:Int)=Z.snd/\True)/\((b.n==(0:Int))=false->(Nz b.n/\Rng .i64 (a.n.tdiv b.n))/\∃(x:
  Int),((a.n.tdiv b.n=x/\True)/\True)/\((bnd x).fst.k=Z.fst.k/\(bnd x).fst.n=Z.fst.n/\(bnd x).fst.t=Z.fst.t/\True)/\(bnd x).snd=Z.snd/\True))))))))))):
  PureFn Tryz.prog 107 [.int .i64 op,.agg a.ts,.agg b.ts] (.tup [.agg Z.1.ts,.int .i64 Z.2]):=
 vcR (code:=b_binS) (gC vInt_ok call_vInt (gC bit_ok call_bit (gC cmpS_ok call_cmpS (gC bnd_ok call_bnd gN)))) Tryz.func107 (by kernel_rfl) (by kernel_rfl) noAnn h (by kernel_rfl)
theorem bz{B Z:Val×Int}(h:Z=B):(B.fst.k=Z.fst.k/\B.fst.n=Z.fst.n/\B.fst.t=Z.fst.t/\True)/\B.snd=Z.snd/\True:=by
 subst h;exact⟨⟨rfl,rfl,rfl,trivial⟩,rfl,trivial⟩
theorem ari_bnd{op a b n:Int}(h:ariN op a b=n)(h0:(!(op==6)&& !(op==7)&& !(op==8)&&b==0)=false):ari op a b=bnd n:=by
 rw[ari,h0,if_neg Bool.false_ne_true,h];rfl
theorem binS_ok:ConOk Tryz.prog 107 k_binS:=by
 rintro⟨op,a,b⟩ ⟨ha,hb⟩;dsimp only at ha hb;refine v_binS op a b (binV op a b) ⟨fun h=> ?_,fun h=>⟨fun h1=>vz ?_,fun h1=>⟨fun h2=>vz ?_,fun h2=>⟨fun h3=>vz ?_,fun h3=> ?_⟩⟩⟩⟩
 ·have e:binV op a b=conn op a b:=by rw[binV,if_pos h]
  rw[e];refine⟨fun h1=>vz ?_,fun h1=>⟨fun h2=>⟨0,⟨⟨rfl,trivial⟩,trivial⟩,vz ?_⟩,fun h2=>⟨fun h3=>⟨1,⟨⟨rfl,trivial⟩,trivial⟩,vz ?_⟩,fun h3=>⟨fun h4=>vz ?_,fun h4=>⟨_,⟨⟨rfl,trivial⟩,trivial⟩,_,⟨⟨rfl,trivial⟩,trivial⟩,vz ?_⟩⟩⟩⟩⟩
  ·rw[conn,if_pos h1];rfl
  ·rw[conn,h1,if_neg Bool.false_ne_true];exact(if_pos h2).trans rfl
  ·rw[conn,h1,if_neg Bool.false_ne_true];exact(if_neg (by intro hh;exact Bool.false_ne_true (h2.symm.trans hh))).trans ((if_pos h3).trans rfl)
  ·rw[conn,h1,if_neg Bool.false_ne_true];exact(if_neg (by intro hh;exact Bool.false_ne_true (h2.symm.trans hh))).trans ((if_neg (by intro hh;exact Bool.false_ne_true (h3.symm.trans hh))).trans ((if_pos h4).trans rfl))
  ·rw[conn,h1,if_neg Bool.false_ne_true];exact(if_neg (by intro hh;exact Bool.false_ne_true (h2.symm.trans hh))).trans ((if_neg (by intro hh;exact Bool.false_ne_true (h3.symm.trans hh))).trans ((if_neg (by rw[h4];exact Bool.false_ne_true)).trans rfl))
 ·rw[binV,h,if_neg Bool.false_ne_true,if_pos h1];rfl
 ·rw[binV,h,if_neg Bool.false_ne_true,h1,if_neg Bool.false_ne_true,if_pos h2];rfl
 ·rw[binV,h,if_neg Bool.false_ne_true,h1,if_neg Bool.false_ne_true,h2,if_neg Bool.false_ne_true,if_pos h3];rfl
 ·refine⟨fun h4=>⟨_,⟨⟨rfl,trivial⟩,trivial⟩,_,⟨⟨rfl,trivial⟩,trivial⟩,vz ?_⟩,fun h4=>⟨fun h5=>⟨(a,b),⟨⟨⟨rfl,rfl,rfl,trivial⟩,⟨rfl,rfl,rfl,trivial⟩,trivial⟩,trivial⟩,_,⟨⟨rfl,trivial⟩,trivial⟩,_,⟨⟨rfl,trivial⟩,trivial⟩,vz ?_⟩,fun h5=> ?_⟩⟩
  ·rw[binV,h,if_neg Bool.false_ne_true,h1,if_neg Bool.false_ne_true,h2,if_neg Bool.false_ne_true,h3,if_neg Bool.false_ne_true,if_pos (by simpa using h4),Bool.and_true];rfl
  ·rw[binV,h,if_neg Bool.false_ne_true,h1,if_neg Bool.false_ne_true,h2,if_neg Bool.false_ne_true,h3,if_neg Bool.false_ne_true,if_neg (by simpa using h4),if_pos (by simpa using h5)];rfl
  ·have e:binV op a b=ari op a.n b.n:=by rw[binV,h,if_neg Bool.false_ne_true,h1,if_neg Bool.false_ne_true,h2,if_neg Bool.false_ne_true,h3,if_neg Bool.false_ne_true,if_neg (by simpa using h4),if_neg (by simpa using h5)]
   rw[e];rw[h4,h5] at h1;simp only[Bool.or_false,Bool.not_false,Bool.true_and,Bool.or_eq_false_iff,beq_eq_false_iff_ne,bne_eq_false_iff_eq] at h1 h2 h3;have ea:=inR_b.1 (vok_1 ha (by rcases vok_k ha with h|h|h<;>omega)).1
   have eb:=inR_b.1 (vok_1 hb (by rcases vok_k hb with h|h|h<;>omega)).1
   have hm:=bd_mul ea eb;have hd:=bd_div (b:=b.n) ea;refine⟨fun h=>⟨i64_rng (by omega),_,⟨⟨rfl,trivial⟩,trivial⟩,bz (ari_bnd ?_ ?_)⟩,fun h=>⟨fun h6=>⟨i64_rng (by omega),_,⟨⟨rfl,trivial⟩,trivial⟩,bz (ari_bnd ?_ ?_)⟩,fun h6=>⟨fun h7=>⟨i64_rng (by omega),_,⟨⟨rfl,trivial⟩,trivial⟩,bz (ari_bnd ?_ ?_)⟩,fun h7=>⟨fun h8=>vz ?_,fun h8=>⟨⟨?_,i64_rng (by omega)⟩,_,⟨⟨rfl,trivial⟩,trivial⟩,bz (ari_bnd ?_ ?_)⟩⟩⟩⟩⟩
   ·rw[ariN,if_pos (by simpa using h)]
   ·rw[h];rfl
   ·rw[ariN,if_neg (by simpa using h),if_pos (by simpa using h6)]
   ·rw[h,h6];rfl
   ·rw[ariN,if_neg (by simpa using h),if_neg (by simpa using h6),if_pos (by simpa using h7)]
   ·rw[h,h6,h7];rfl
   ·rw[ari,h,h6,h7,h8,if_pos (by rfl)];rfl
   ·unfold Nz
    simpa using h8
   ·rw[ariN,if_neg (by simpa using h),if_neg (by simpa using h6),if_neg (by simpa using h7)]
   ·rw[h,h6,h7,h8];rfl
def k_unaS:Con:=.rel ⟨Int×Val,fun x=>[.int .i64 x.1,.agg x.2.ts],fun x=>.tup [.agg (unaV x.1 x.2).1.ts,.int .i64 (unaV x.1 x.2).2],fun x=>valOK x.2=true⟩
noncomputable def b_unaS:Code:=Tryz.f106.body.getD .skip
theorem call_unaS:Callable Tryz.prog 106:=⟨_,Tryz.func106,by kernel_rfl,by kernel_rfl⟩
theorem v_unaS(op:Int)(a:Val)(Z:Val×Int)(h:
  ((op==(4:Int))=true->∃(x:Bool),(((a.k==(0:Int))=x/\True)/\True)/\∃(x_1:Int),((bit x=x_1/\True)/\True)/\((1:Int)=Z.fst.k/\x_1=Z.fst.n/\[]=Z.fst.t/\True)/\(0:Int)=Z.snd/\True)/\((op==
  (4:Int))=false->((a.k==(2:Int))=true->((0:Int)=Z.fst.k/\(0:Int)=Z.fst.n/\[]=Z.fst.t/\True)/\(10:Int)=Z.snd/\True)/\((a.k==(2:Int))=false->((a.k==(0:Int))=true->(a.k=Z.fst.k/\a.n=
  Z.fst.n/\a.t=Z.fst.t/\True)/\(0:Int)=Z.snd/\True)/\((a.k==(0:Int))=false->((op==(3:Int))=true->∃(x:Bool),(((a.n==(0:Int))=x/\True)/\True)/\∃(x_1:Int),((bit x=x_1/\True)/\True)/\((1:
  Int)=Z.fst.k/\x_1=Z.fst.n/\[]=Z.fst.t/\True)/\(0:Int)=Z.snd/\True)/\((op==(3:Int))=false->Rng .i64 ((0:Int)-a.n)/\∃(x:Int),(((0:Int)-a.n=x/\True)/\True)/\((1:Int)=Z.fst.k/\x=Z.fst.n
  /\[]=Z.fst.t/\True)/\(0:Int)=Z.snd/\True))))):
  PureFn Tryz.prog 106 [.int .i64 op,.agg a.ts] (.tup [.agg Z.1.ts,.int .i64 Z.2]):=
 vcR (code:=b_unaS) (gC vInt_ok call_vInt (gC bit_ok call_bit gN)) Tryz.func106 (by kernel_rfl) (by kernel_rfl) noAnn h (by kernel_rfl)
theorem unaS_ok:ConOk Tryz.prog 106 k_unaS:=by
 rintro⟨op,a⟩ ha;dsimp only at ha;refine v_unaS op a (unaV op a) ⟨fun h=>⟨_,⟨⟨rfl,trivial⟩,trivial⟩,_,⟨⟨rfl,trivial⟩,trivial⟩,vz ?_⟩,fun h=>⟨fun h1=>vz ?_,fun h1=>⟨fun h2=>vy ?_,fun h2=>⟨fun h3=>⟨_,⟨⟨rfl,trivial⟩,trivial⟩,_,⟨⟨rfl,trivial⟩,trivial⟩,vz ?_⟩,fun h3=>⟨?_,_,⟨⟨rfl,trivial⟩,trivial⟩,vz ?_⟩⟩⟩⟩⟩
 ·rw[unaV,if_pos (by simpa using h)];rfl
 ·rw[unaV,if_neg (by simpa using h),if_pos (by simpa using h1)];rfl
 ·rw[unaV,if_neg (by simpa using h),if_neg (by simpa using h1),if_pos (by simpa using h2),vok_0 ha (by simpa using h2)]
 ·rw[unaV,if_neg (by simpa using h),if_neg (by simpa using h1),if_neg (by simpa using h2),if_pos (by simpa using h3)];rfl
 ·have h1:a.k≠2:=by simpa using h1
  have h2:a.k≠0:=by simpa using h2
  have:=inR_b.1 (vok_1 ha (by rcases vok_k ha with h|h|h<;>omega)).1
  exact i64_rng (by omega)
 ·rw[unaV,if_neg (by simpa using h),if_neg (by simpa using h1),if_neg (by simpa using h2),if_neg (by simpa using h3),Int.zero_sub];rfl
def k_colS:Con:=.rel ⟨Rw×Int,fun x=>[.agg x.1.ts,.int .i64 x.2],fun x=>.agg (colV x.1 x.2).ts,fun _=>True⟩
noncomputable def b_colS:Code:=Tryz.f86.body.getD .skip
theorem call_colS:Callable Tryz.prog 86:=⟨_,Tryz.func86,by kernel_rfl,by kernel_rfl⟩
theorem v_colS(r:Rw)(c:Int)(Z:Val)(h:
  ((c==(0:Int))=true->∃(x:Int),((r.id=x/\True)/\True)/\(1:Int)=Z.k/\x=Z.n/\[]=Z.t/\True)/\((c==(0:Int))=false->((c==(1:Int))=true->r.n.k=Z.k/\r.n.n=Z.n/\r.n.t=Z.t/\True)/\((c==(1
  :Int))=false->r.name.k=Z.k/\r.name.n=Z.n/\r.name.t=Z.t/\True))):
  PureFn Tryz.prog 86 [.agg r.ts,.int .i64 c] (.agg Z.ts):=
 vcR (code:=b_colS) (gC vInt_ok call_vInt gN) Tryz.func86 (by kernel_rfl) (by kernel_rfl) noAnn h (by kernel_rfl)
theorem colS_ok:ConOk Tryz.prog 86 k_colS:=by
 rintro⟨r,c⟩ _;refine v_colS r c (colV r c) ⟨fun h=>⟨r.id,⟨⟨rfl,trivial⟩,trivial⟩,?_⟩,fun h=>⟨fun h1=> ?_,fun h1=> ?_⟩⟩
 ·rw[colV,if_pos (by simpa using h)]
  exact⟨rfl,rfl,rfl,trivial⟩
 ·rw[colV,if_neg (by simpa using h),if_pos (by simpa using h1)]
  exact⟨rfl,rfl,rfl,trivial⟩
 ·rw[colV,if_neg (by simpa using h),if_neg (by simpa using h1)]
  exact⟨rfl,rfl,rfl,trivial⟩
noncomputable def b_evalS:Code:=Tryz.f84.body.getD .skip
theorem call_evalS:Callable Tryz.prog 84:=⟨_,Tryz.func84,by kernel_rfl,by kernel_rfl⟩
theorem v_evalS(n:Nat)(ih:ConOk Tryz.prog 84 (k_eval n))(L:List Nd)(i:Nat)(r:Rw)(Z:Val×Int)(h:
  InB (i:Int) L.length/\(((L.getD (i:Int).toNat default).op==(1:Int))=true->((L.getD (i:Int).toNat default).v.k=Z.fst.k/\(L.getD (i:Int).toNat default).v.n=Z.fst.n/\(L.getD (i:Int).toNat default).v.t=Z.fst.t/\True)
  /\(0:Int)=Z.snd/\True)/\(((L.getD (i:Int).toNat default).op==(1:Int))=false->(((L.getD (i:Int).toNat default).op==(2:Int))=true->∃(x:(Rw×Int)),(((r.id=x.fst.id/\r.n.k=x.fst.n.k/\r.n.n=x.fst.n.n/\
  r.n.t=x.fst.n.t/\r.name.k=x.fst.name.k/\r.name.n=x.fst.name.n/\r.name.t=x.fst.name.t/\True)/\(L.getD (i:Int).toNat default).c=x.snd/\True)/\True)/\((colV x.fst x.snd).k=Z.fst.k/\(colV x.fst x.snd).n=Z.fst.n
  /\(colV x.fst x.snd).t=Z.fst.t/\True)/\(0:Int)=Z.snd/\True)/\(((L.getD (i:Int).toNat default).op==(2:Int))=false->∃(x:(List Nd×Int×Rw)),((((EqL ndRow L x.fst)/\True)/\(L.getD (i:Int).toNat default).a=
  x.snd.fst/\(r.id=x.snd.snd.id/\r.n.k=x.snd.snd.n.k/\r.n.n=x.snd.snd.n.n/\r.n.t=x.snd.snd.n.t/\r.name.k=x.snd.snd.name.k/\r.name.n=x.snd.snd.name.n/\r.name.t=x.snd.snd.name.t/\True)/\True)/\NdL x.fst/\
  rowOKb x.snd.snd=true/\x.fst.length<=40/\(0:Int)<=x.snd.fst/\x.snd.fst<(x.fst.length:Int)/\x.snd.fst<(n:Int))/\(((evF n x.fst x.snd.snd x.snd.fst.toNat).snd !=(0:Int))=true->((0:Int)=Z.fst.k/\(0:Int)=
  Z.fst.n/\[]=Z.fst.t/\True)/\(evF n x.fst x.snd.snd x.snd.fst.toNat).snd=Z.snd/\True)/\(((evF n x.fst x.snd.snd x.snd.fst.toNat).snd !=(0:Int))=false->(decide ((L.getD (i:Int).toNat default).op<=(5:Int))=true->
  ∃(x_1:(Int×Val)),(((L.getD (i:Int).toNat default).op=x_1.fst/\((evF n x.fst x.snd.snd x.snd.fst.toNat).fst.k=x_1.snd.k/\(evF n x.fst x.snd.snd x.snd.fst.toNat).fst.n=x_1.snd.n/\(evF n x.fst x.snd.snd
  x.snd.fst.toNat).fst.t=x_1.snd.t/\True)/\True)/\valOK x_1.snd=true)/\((unaV x_1.fst x_1.snd).fst.k=Z.fst.k/\(unaV x_1.fst x_1.snd).fst.n=Z.fst.n/\(unaV x_1.fst x_1.snd).fst.t=Z.fst.t/\True)/\(unaV x_1.fst
  x_1.snd).snd=Z.snd/\True)/\(decide ((L.getD (i:Int).toNat default).op<=(5:Int))=false->(((L.getD (i:Int).toNat default).op==(12:Int)&&(evF n x.fst x.snd.snd x.snd.fst.toNat).fst.k==(1:Int)&&(evF n x.fst
  x.snd.snd x.snd.fst.toNat).fst.n==(0:Int))=true->∃(x:Int),(((0:Int)=x/\True)/\True)/\((1:Int)=Z.fst.k/\x=Z.fst.n/\[]=Z.fst.t/\True)/\(0:Int)=Z.snd/\True)/\(((L.getD (i:Int).toNat default).op==
  (12:Int)&&(evF n x.fst x.snd.snd x.snd.fst.toNat).fst.k==(1:Int)&&(evF n x.fst x.snd.snd x.snd.fst.toNat).fst.n==(0:Int))=false->(((L.getD (i:Int).toNat default).op==(13:Int)&&(evF n x.fst x.snd.snd
  x.snd.fst.toNat).fst.k==(1:Int)&&(evF n x.fst x.snd.snd x.snd.fst.toNat).fst.n !=(0:Int))=true->∃(x:Int),(((1:Int)=x/\True)/\True)/\((1:Int)=Z.fst.k/\x=Z.fst.n/\[]=Z.fst.t/\True)/\(0:Int)=
  Z.snd/\True)/\(((L.getD (i:Int).toNat default).op==(13:Int)&&(evF n x.fst x.snd.snd x.snd.fst.toNat).fst.k==(1:Int)&&(evF n x.fst x.snd.snd x.snd.fst.toNat).fst.n !=(0:Int))=false->∃(x_1:(List Nd×Int×
  Rw)),((((EqL ndRow L x_1.fst)/\True)/\(L.getD (i:Int).toNat default).b=x_1.snd.fst/\(r.id=x_1.snd.snd.id/\r.n.k=x_1.snd.snd.n.k/\r.n.n=x_1.snd.snd.n.n/\r.n.t=x_1.snd.snd.n.t/\r.name.k=x_1.snd.snd.name.k/\
  r.name.n=x_1.snd.snd.name.n/\r.name.t=x_1.snd.snd.name.t/\True)/\True)/\NdL x_1.fst/\rowOKb x_1.snd.snd=true/\x_1.fst.length<=40/\(0:Int)<=x_1.snd.fst/\x_1.snd.fst<(x_1.fst.length:Int)/\x_1.snd.fst<(n:Int))
  /\(((evF n x_1.fst x_1.snd.snd x_1.snd.fst.toNat).snd !=(0:Int))=true->((0:Int)=Z.fst.k/\(0:Int)=Z.fst.n/\[]=Z.fst.t/\True)/\(evF n x_1.fst x_1.snd.snd x_1.snd.fst.toNat).snd=Z.snd/\True)/\(((evF n x_1.fst
  x_1.snd.snd x_1.snd.fst.toNat).snd !=(0:Int))=false->∃(x_2:(Int×Val×Val)),(((L.getD (i:Int).toNat default).op=x_2.fst/\((evF n x.fst x.snd.snd x.snd.fst.toNat).fst.k=x_2.snd.fst.k/\(evF n x.fst x.snd.snd
  x.snd.fst.toNat).fst.n=x_2.snd.fst.n/\(evF n x.fst x.snd.snd x.snd.fst.toNat).fst.t=x_2.snd.fst.t/\True)/\((evF n x_1.fst x_1.snd.snd x_1.snd.fst.toNat).fst.k=x_2.snd.snd.k/\(evF n x_1.fst x_1.snd.snd
  x_1.snd.fst.toNat).fst.n=x_2.snd.snd.n/\(evF n x_1.fst x_1.snd.snd x_1.snd.fst.toNat).fst.t=x_2.snd.snd.t/\True)/\True)/\valOK x_2.snd.fst=true/\valOK x_2.snd.snd=true)/\((binV x_2.fst x_2.snd.fst x_2.snd.snd).fst.k
  =Z.fst.k/\(binV x_2.fst x_2.snd.fst x_2.snd.snd).fst.n=Z.fst.n/\(binV x_2.fst x_2.snd.fst x_2.snd.snd).fst.t=Z.fst.t/\True)/\(binV x_2.fst x_2.snd.fst x_2.snd.snd).snd=Z.snd/\True)))))))):
  PureFn Tryz.prog 84 [.agg [ndS L],.int .i64 i,.agg r.ts] (.tup [.agg Z.1.ts,.int .i64 Z.2]):=
 vcR (code:=b_evalS) (gC ih call_evalS (gC colS_ok call_colS (gC unaS_ok call_unaS (gC vInt_ok call_vInt (gC binS_ok call_binS gN))))) Tryz.func84 (by kernel_rfl) (by kernel_rfl) noAnn h (by kernel_rfl)
theorem evalS_ok:∀n,ConOk Tryz.prog 84 (k_eval n)
 |0=>fun x h=>absurd h.2.2.2.2.2 (by have:=h.2.2.2.1;omega)
 |n+1=>by
  have ih:=evalS_ok n;rintro⟨L,i,r⟩ ⟨hL,hr,hlen,h0,hi,hf⟩;dsimp only at hL hr hlen h0 hi hf;obtain⟨i,rfl⟩:∃j:Nat,i=j:=⟨i.toNat,by omega⟩
  have hi':i<L.length:=by omega
  have hN:=hL i hi';refine v_evalS n ih L i r (evF (n+1) L r (i:Int).toNat) ⟨inB_nat hi',?_⟩
  rw[Int.toNat_natCast];have hs:evF (n+1) L r i=if(L.getD i default).op=1 then((L.getD i default).v,0) else if(L.getD i default).op=2 then(colV r (L.getD i default).c,0)
    else if(evF n L r (L.getD i default).a.toNat).2≠0 then(v0,(evF n L r (L.getD i default).a.toNat).2)
    else if(L.getD i default).op<=5 then unaV (L.getD i default).op (evF n L r (L.getD i default).a.toNat).1
    else if((L.getD i default).op==12&&isZ (evF n L r (L.getD i default).a.toNat).1)=true then(tru false,0)
    else if((L.getD i default).op==13&&isO (evF n L r (L.getD i default).a.toNat).1)=true then(tru true,0)
    else if(evF n L r (L.getD i default).b.toNat).2≠0 then(v0,(evF n L r (L.getD i default).b.toNat).2)
    else binV (L.getD i default).op (evF n L r (L.getD i default).a.toNat).1 (evF n L r (L.getD i default).b.toNat).1:=rfl
  generalize evF (n+1) L r i=Z at hs ⊢;refine⟨fun h1=>vy ?_,fun h1=>⟨fun h2=> ?_,fun h2=> ?_⟩⟩
  ·rw[hs,if_pos (by simpa using h1)]
  ·have h1:¬ (L.getD i default).op=1:=by simpa using h1
   have h2:(L.getD i default).op=2:=by simpa using h2
   refine⟨(r,(L.getD i default).c),⟨⟨⟨rfl,rfl,rfl,rfl,rfl,rfl,rfl,trivial⟩,rfl,trivial⟩,trivial⟩,vy ?_⟩
   rw[hs,if_neg h1,if_pos h2]
  ·have h1:¬ (L.getD i default).op=1:=by simpa using h1
   have h2:¬ (L.getD i default).op=2:=by simpa using h2
   rw[if_neg h1,if_neg h2] at hs;have ha:0<=(L.getD i default).a/\(L.getD i default).a<i:=by
    rcases hN with h|h|h|h
    ·exact absurd h.1 h1
    ·exact absurd h.1 h2
    ·exact h.2.2
    ·exact⟨h.2.2.1,h.2.2.2.1⟩
   have hA:=ev_ok hL hr n (L.getD i default).a.toNat (by omega)
   generalize hAe:evF n L r (L.getD i default).a.toNat=A at hs hA;refine⟨(L,(L.getD i default).a,r),⟨⟨⟨⟨rfl,rowsR _ _⟩,trivial⟩,rfl,⟨rfl,rfl,rfl,rfl,rfl,rfl,rfl,trivial⟩,trivial⟩,hL,hr,hlen,ha.1,by dsimp only;omega,by dsimp only;omega⟩,?_⟩
   dsimp only;rw[hAe];have az:((L.getD i default).op==12&&A.1.k==1&&A.1.n==0)=((L.getD i default).op==12&&isZ A.1):=Bool.and_assoc _ _ _;have ao:((L.getD i default).op==13&&A.1.k==1&&A.1.n !=0)=((L.getD i default).op==13&&isO A.1):=Bool.and_assoc _ _ _;rw[az,ao];refine⟨fun h3=>vz ?_,fun h3=>⟨fun h4=>⟨(_,A.1),⟨⟨rfl,⟨rfl,rfl,rfl,trivial⟩,trivial⟩,hA⟩,vy ?_⟩,fun h4=>⟨fun h5=>⟨0,⟨⟨rfl,trivial⟩,trivial⟩,vz ?_⟩,fun h5=>⟨fun h6=>⟨1,⟨⟨rfl,trivial⟩,trivial⟩,vz ?_⟩,fun h6=> ?_⟩⟩⟩⟩
   ·rw[hs,if_pos (by simpa using h3)];rfl
   ·rw[hs,if_neg (by simpa using h3),if_pos (of_decide_eq_true h4)]
   ·rw[hs,if_neg (by simpa using h3),if_neg (of_decide_eq_false h4),if_pos h5];rfl
   ·rw[hs,if_neg (by simpa using h3),if_neg (of_decide_eq_false h4),h5,if_neg Bool.false_ne_true,if_pos h6];rfl
   ·rw[if_neg (by simpa using h3),if_neg (of_decide_eq_false h4),h5,if_neg Bool.false_ne_true,h6,if_neg Bool.false_ne_true] at hs
    have hb:0<=(L.getD i default).b/\(L.getD i default).b<i:=by
     rcases hN with h|h|h|h
     ·exact absurd h.1 h1
     ·exact absurd h.1 h2
     ·exact absurd h.2.1 (of_decide_eq_false h4)
     ·exact⟨h.2.2.2.2.1,h.2.2.2.2.2⟩
    have hB:=ev_ok hL hr n (L.getD i default).b.toNat (by omega)
    generalize hBe:evF n L r (L.getD i default).b.toNat=B at hs hB;refine⟨(L,(L.getD i default).b,r),⟨⟨⟨⟨rfl,rowsR _ _⟩,trivial⟩,rfl,⟨rfl,rfl,rfl,rfl,rfl,rfl,rfl,trivial⟩,trivial⟩,hL,hr,hlen,hb.1,by dsimp only;omega,by dsimp only;omega⟩,?_⟩
    dsimp only;rw[hBe];refine⟨fun h7=>vz ?_,fun h7=>⟨(_,A.1,B.1),⟨⟨rfl,⟨rfl,rfl,rfl,trivial⟩,⟨rfl,rfl,rfl,trivial⟩,trivial⟩,hA,hB⟩,vy ?_⟩⟩
    ·rw[hs,if_pos (by simpa using h7)];rfl
    ·rw[hs,if_neg (by simpa using h7)]
end Go.Proofs.YtfmngblmdghccaaGreat

namespace Go.Proofs.YtfmngblmdghccaaGreat
set_option maxRecDepth 100000
open Go.SS Go.RowKit

def WkP(n:Nat)(x:List Nd×Int):Prop:=NdB x.1/\x.1.length<=40/\ -1<=x.2/\x.2<x.1.length/\x.2+1<n/\n<=100
def k_walk(n:Nat):Con:=.rel ⟨List Nd×Int,fun x=>[.agg [ndS x.1],.int .i64 x.2],fun x=>.tup [.int .i64 (wkF n x.1 x.2).1,.int .i64 (wkF n x.1 x.2).2.1,.bool (wkF n x.1 x.2).2.2],WkP n⟩
noncomputable def b_walk:Code:=Tryz.f83.body.getD .skip
theorem call_walk:Callable Tryz.prog 83:=⟨_,Tryz.func83,by kernel_rfl,by kernel_rfl⟩
theorem v_walk(n:Nat)(ih:ConOk Tryz.prog 83 (k_walk n))(L:List Nd)(k:Int)(Z:Int×Int×Bool)(h:
  (decide (k<(0:Int))=true->(0:Int)=Z.fst/\(0:Int)=Z.snd.fst/\false=Z.snd.snd/\True)/\(decide (k<(0:Int))=false->InB k L.length/\(((L.getD k.toNat default).op==(1:Int))=true->∃(x:r_ValueOK.ι),
  (((L.getD k.toNat default).a==(0:Int)&&(L.getD k.toNat default).b==(0:Int)&&(L.getD k.toNat default).c==(0:Int))=true->(((L.getD k.toNat default).v.k=x.k/\(L.getD k.toNat default).v.n=x.n/\(L.getD k.toNat
  default).v.t=x.t/\True)/\True)/\StB x.t)/\k=Z.fst/\(1:Int)=Z.snd.fst/\((L.getD k.toNat default).a==(0:Int)&&(L.getD k.toNat default).b==(0:Int)&&(L.getD k.toNat default).c==(0:Int)&&valOK x)=
  Z.snd.snd/\True)/\(((L.getD k.toNat default).op==(1:Int))=false->(((L.getD k.toNat default).op==(2:Int))=true->k=Z.fst/\(1:Int)=Z.snd.fst/\((L.getD k.toNat default).a==(0:Int)&&(L.getD k.toNat
  default).b==(0:Int)&&inR (L.getD k.toNat default).c (0:Int) (2:Int)&&((L.getD k.toNat default).v.k==(0:Int)&&((L.getD k.toNat default).v.n==(0:Int)&&((L.getD k.toNat default).v.t==[]&&true))))=
  Z.snd.snd/\True)/\(((L.getD k.toNat default).op==(2:Int))=false->(inR (L.getD k.toNat default).op (3:Int) (5:Int)=true->Rng .i64 (k- (1:Int))/\∃(x:(List Nd×Int)),((((EqL ndRow L x.fst)/\True)/\k- (1:
  Int)=x.snd/\True)/\WkP n x)/\Rng .i64 ((wkF n x.fst x.snd).snd.fst+(1:Int))/\((wkF n x.fst x.snd).snd.snd=true->Rng .i64 (k- (1:Int)))/\(wkF n x.fst x.snd).fst=Z.fst/\(wkF n x.fst x.snd).snd.fst+(1:Int)=
  Z.snd.fst/\((wkF n x.fst x.snd).snd.snd&&(L.getD k.toNat default).a==k- (1:Int)&&(L.getD k.toNat default).b==(0:Int)&&(L.getD k.toNat default).c==(0:Int)&&((L.getD k.toNat default).v.k==(0:Int)&&
  ((L.getD k.toNat default).v.n==(0:Int)&&((L.getD k.toNat default).v.t==[]&&true))))=Z.snd.snd/\True)/\(inR (L.getD k.toNat default).op (3:Int) (5:Int)=false->(inR (L.getD k.toNat default).op (6:Int) (13:
  Int)=true->Rng .i64 (k- (1:Int))/\∃(x:(List Nd×Int)),((((EqL ndRow L x.fst)/\True)/\k- (1:Int)=x.snd/\True)/\WkP n x)/\((!(wkF n x.fst x.snd).snd.snd)=true->(0:Int)=Z.fst/\(0:Int)=Z.snd.fst/\
  false=Z.snd.snd/\True)/\((!(wkF n x.fst x.snd).snd.snd)=false->Rng .i64 ((wkF n x.fst x.snd).fst- (1:Int))/\∃(x_1:(List Nd×Int)),((((EqL ndRow L x_1.fst)/\True)/\(wkF n x.fst x.snd).fst- (1:Int)=x_1.snd/\
  True)/\WkP n x_1)/\Rng .i64 ((if(wkF n x.fst x.snd).snd.fst>(wkF n x_1.fst x_1.snd).snd.fst then(wkF n x.fst x.snd).snd.fst else(wkF n x_1.fst x_1.snd).snd.fst)+(1:Int))/\((wkF n x_1.fst x_1.snd).snd.snd=true->Rng
  .i64 ((wkF n x.fst x.snd).fst- (1:Int)))/\(((wkF n x_1.fst x_1.snd).snd.snd&&(L.getD k.toNat default).a==(wkF n x.fst x.snd).fst- (1:Int))=true->Rng .i64 (k- (1:Int)))/\(wkF n x_1.fst x_1.snd).fst=Z.fst/\(if
  (wkF n x.fst x.snd).snd.fst>(wkF n x_1.fst x_1.snd).snd.fst then(wkF n x.fst x.snd).snd.fst else(wkF n x_1.fst x_1.snd).snd.fst)+(1:Int)=Z.snd.fst/\((wkF n x_1.fst x_1.snd).snd.snd&&(L.getD k.toNat default).a==(wkF
  n x.fst x.snd).fst- (1:Int)&&(L.getD k.toNat default).b==k- (1:Int)&&(L.getD k.toNat default).c==(0:Int)&&((L.getD k.toNat default).v.k==(0:Int)&&((L.getD k.toNat default).v.n==(0:Int)&&((L.getD
  k.toNat default).v.t==[]&&true))))=Z.snd.snd/\True))/\(inR (L.getD k.toNat default).op (6:Int) (13:Int)=false->(0:Int)=Z.fst/\(0:Int)=Z.snd.fst/\false=Z.snd.snd/\True)))))):
  PureFn Tryz.prog 83 [.agg [ndS L],.int .i64 k] (.tup [.int .i64 Z.1,.int .i64 Z.2.1,.bool Z.2.2]):=
 vcR (code:=b_walk) (gC ih call_walk (gC l01In_ok call_l01In (gC ValueOKs_ok call_ValueOKs gN))) Tryz.func83 (by kernel_rfl) (by kernel_rfl) noAnn h (by kernel_rfl)
def k_ExprOKs:Con:=.rel ⟨List Nd,fun L=>[.agg [ndS L]],fun L=>.bool (exOK L),NdB⟩
noncomputable def b_ExprOKs:Code:=Tryz.f58.body.getD .skip
theorem call_ExprOKs:Callable Tryz.prog 58:=⟨_,Tryz.func58,by kernel_rfl,by kernel_rfl⟩
theorem wk_bd{L:List Nd}:∀(f:Nat) (k:Int),0<=(wkF f L k).2.1/\(wkF f L k).2.1<=f
 |0,_=>⟨Int.le_refl _,Int.le_refl _⟩
 |f+1,k=>by
  have a:=wk_bd (L:=L) f (k-1);have b:=wk_bd (L:=L) f ((wkF f L (k-1)).1-1);unfold wkF
  repeat' split
  all_goals (dsimp only;omega)
theorem wk_fu{L:List Nd}:∀(f g:Nat) (k:Int),k<f->k<g->wkF f L k=wkF g L k
 |0,0,_,_,_=>rfl
 |0,g+1,k,h,_=>by
  conv=>rhs;unfold wkF
  rw[if_pos (by omega)]
  rfl
 |f+1,0,k,_,h=>by
  conv=>lhs;unfold wkF
  rw[if_pos (by omega)]
  rfl
 |f+1,g+1,k,hf,hg=>by
  unfold wkF;rw[wk_fu f g (k-1) (by omega) (by omega)]
  by_cases hk:k<0
  ·rw[if_pos hk,if_pos hk]
  by_cases hw:(wkF g L (k-1)).2.2=true
  ·have:=(wk_dp g (k-1) hw).2.1;rw[wk_fu f g ((wkF g L (k-1)).1-1) (by omega) (by omega)]
  ·rw[if_neg hw,if_neg hw]
theorem wz{a b:Int}{c:Bool}{Z:Int×Int×Bool}(h:Z=(a,b,c)):a=Z.fst/\b=Z.snd.fst/\c=Z.snd.snd/\True:=by
 subst h;exact⟨rfl,rfl,rfl,trivial⟩
theorem walk_ok:∀n,ConOk Tryz.prog 83 (k_walk n)
 |0=>fun x h=>absurd h.2.2.2.2.1 (by have:=h.2.2.1;omega)
 |n+1=>by
  have ih:=walk_ok n;rintro⟨L,k⟩ ⟨hB,hl,h1,h2,h3,h4⟩;dsimp only at hB hl h1 h2 h3 h4;refine v_walk n ih L k (wkF (n+1) L k) ?_
  have st:wkF (n+1) L k=if k<0 then(0,0,false) else
   if(L.getD k.toNat default).op=1 then(k,1,dpK (L.getD k.toNat default))
   else if(L.getD k.toNat default).op=2 then(k,1,dpC (L.getD k.toNat default))
   else if inR (L.getD k.toNat default).op 3 5=true then((wkF n L (k-1)).1,(wkF n L (k-1)).2.1+1,(wkF n L (k-1)).2.2&&((L.getD k.toNat default).a==k-1)&&dpU (L.getD k.toNat default))
   else if inR (L.getD k.toNat default).op 6 13=true then
    (if(wkF n L (k-1)).2.2=true then((wkF n L ((wkF n L (k-1)).1-1)).1,max (wkF n L ((wkF n L (k-1)).1-1)).2.1 (wkF n L (k-1)).2.1+1,(wkF n L ((wkF n L (k-1)).1-1)).2.2&&((L.getD k.toNat default).a==(wkF n L (k-1)).1-1)&&((L.getD k.toNat default).b==k-1)&&dpB (L.getD k.toNat default)) else(0,0,false))
   else(0,0,false):=rfl
  generalize wkF (n+1) L k=Z at st ⊢;have hb1:=wk_bd (L:=L) n (k-1);have arg:∀m:Int,-1<=m->m<k->(((EqL ndRow L L)/\True)/\m=m/\True)/\WkP n (L,m):=fun m a b=>⟨⟨⟨⟨rfl,rowsR _ _⟩,trivial⟩,rfl,trivial⟩,hB,hl,a,by dsimp only;omega,by dsimp only;omega,by omega⟩
  refine⟨fun h=>wz ?_,fun h=> ?_⟩
  ·rw[st,if_pos (of_decide_eq_true h)]
  have h0:=of_decide_eq_false h;rw[if_neg h0] at st;have hi:k.toNat<L.length:=by omega
  have hN:=hB.2 _ hi;generalize L.getD k.toNat default=N at st hN ⊢;refine⟨⟨by omega,by omega⟩,fun o1=>⟨N.v,fun _=>⟨⟨⟨rfl,rfl,rfl,trivial⟩,trivial⟩,hN⟩,wz ?_⟩,fun o1=>⟨fun o2=>wz ?_,fun o2=>⟨fun o3=>⟨i64_rng (by omega),(L,k-1),arg _ (by omega) (by omega),i64_rng (by dsimp only;omega),fun _=>i64_rng (by omega),wz ?_⟩,fun o3=>⟨fun o4=>⟨i64_rng (by omega),(L,k-1),arg _ (by omega) (by omega),fun w=>wz ?_,fun w=> ?_⟩,fun o4=>wz ?_⟩⟩⟩⟩
  ·rw[st,if_pos (by simpa using o1)]
   rfl
  ·rw[st,if_neg (by simpa using o1),if_pos (by simpa using o2),eqV0]
   rfl
  ·rw[st,if_neg (by simpa using o1),if_neg (by simpa using o2),if_pos o3,eqV0,dpU]
   simp only[Bool.and_assoc]
  ·dsimp only at w;rw[st,if_neg (by simpa using o1),if_neg (by simpa using o2),if_neg (by rw[o3];exact Bool.false_ne_true),if_pos o4,if_neg (by intro h;rw[h] at w;cases w)]
  ·dsimp only at w ⊢;have w:(wkF n L (k-1)).2.2=true:=by simpa using w
   obtain⟨d1,d2,_⟩:=wk_dp n (k-1) w;have hb2:=wk_bd (L:=L) n ((wkF n L (k-1)).1-1);have em:(if(wkF n L (k-1)).2.1>(wkF n L ((wkF n L (k-1)).1-1)).2.1 then(wkF n L (k-1)).2.1 else(wkF n L ((wkF n L (k-1)).1-1)).2.1)=max (wkF n L ((wkF n L (k-1)).1-1)).2.1 (wkF n L (k-1)).2.1:=by
    split<;>omega
   refine⟨i64_rng (by omega),(L,(wkF n L (k-1)).1-1),arg _ (by omega) (by omega),?_,fun _=>i64_rng (by omega),fun _=>i64_rng (by omega),wz ?_⟩
   ·dsimp only;rw[em];exact i64_rng (by omega)
   ·dsimp only;rw[st,if_neg (by simpa using o1),if_neg (by simpa using o2),if_neg (by rw[o3];exact Bool.false_ne_true),if_pos o4,if_pos w,em,eqV0,dpB]
    simp only[Bool.and_assoc]
  ·rw[st,if_neg (by simpa using o1),if_neg (by simpa using o2),if_neg (by rw[o3];exact Bool.false_ne_true),if_neg (by rw[o4];exact Bool.false_ne_true)]
theorem walk_42:ConOk Tryz.prog 83 (k_walk 42):=walk_ok 42
theorem v_ExprOKs(L:List Nd)(h:
  ((!inR (L.length:Int) (1:Int) (40:Int))=true->false=exOK L)/\((!inR (L.length:Int) (1:Int) (40:Int))=false->Rng .i64 ((L.length:Int)- (1:Int))/\∃(x:(List Nd×Int)),((((EqL ndRow L x.fst)/\True)/\
  (L.length:Int)- (1:Int)=x.snd/\True)/\WkP 42 x)/\((wkF 42 x.fst x.snd).snd.snd&&(wkF 42 x.fst x.snd).fst==(0:Int)&&decide ((wkF 42 x.fst x.snd).snd.fst<=(12:Int)))=exOK L)):
  PureFn Tryz.prog 58 [.agg [ndS L]] (.bool (exOK L)):=
 vcR (code:=b_ExprOKs) (gC l01In_ok call_l01In (gC walk_42 call_walk gN)) Tryz.func58 (by kernel_rfl) (by kernel_rfl) noAnn h (by kernel_rfl)
theorem ExprOKs_ok:ConOk Tryz.prog 58 k_ExprOKs:=by
 intro(L:List Nd) hB;refine v_ExprOKs L ⟨fun h=> ?_,fun h=> ?_⟩
 ·rw[←ex_eq,exS,show inR (L.length:Int) 1 40=false by simpa using h]
  rfl
 ·have h:inR (L.length:Int) 1 40=true:=by simpa using h
  have hl:=inR_b.1 h;refine⟨i64_rng (by omega),(L,(L.length:Int)-1),⟨⟨⟨⟨rfl,rowsR _ _⟩,trivial⟩,rfl,trivial⟩,hB,by dsimp only;omega,by dsimp only;omega,by dsimp only;omega,by dsimp only;omega,by omega⟩,?_⟩
  dsimp only;rw[←ex_eq,exS,h,Bool.true_and,wk_fu 42 L.length _ (by omega) (by omega)]
def k_none:Con:=.rel ⟨List Nd,fun L=>[.agg [ndS L]],fun L=>.bool L.isEmpty,fun _=>True⟩
noncomputable def b_none:Code:=Tryz.f57.body.getD .skip
theorem call_none:Callable Tryz.prog 57:=⟨_,Tryz.func57,by kernel_rfl,by kernel_rfl⟩
theorem v_none(L:List Nd)(h:
  ((L.length:Int)==(0:Int))=L.isEmpty):
  PureFn Tryz.prog 57 [.agg [ndS L]] (.bool L.isEmpty):=
 vcR (code:=b_none) gN Tryz.func57 (by kernel_rfl) (by kernel_rfl) noAnn h (by kernel_rfl)
theorem none_ok:ConOk Tryz.prog 57 k_none:=by
 intro(L:List Nd) _;refine v_none L ?_
 cases L with
 |nil=>rfl
 |cons a L=>simp;omega
def k_rwsS:Con:=.rel ⟨List Rw,fun L=>[rwS L],fun L=>.bool (rwsOK L),RwsB⟩
def A_rwsS(L:List Rw):Nat->Ann
 |0=>.one (Cnt L.length (badRw L)) (fun x=>⟨[(0,rwS L),(3,.int .i64 x.1)],[]⟩) (fun x=>L.length-x.1) [] [] (fun _=>noAnn)
 |_=>.none
noncomputable def b_rwsS:Code:=Tryz.f29.body.getD .skip
theorem call_rwsS:Callable Tryz.prog 29:=⟨_,Tryz.func29,by kernel_rfl,by kernel_rfl⟩
theorem v_rwsS(L:List Rw)(h:
  (∃(x:Cnt L.length (badRw L)),((EqL rwRow L L)/\(0:Int)=(x.val:Int)/\True)/\True)/\∀(x:Cnt L.length (badRw L)),(decide ((x.val:Int)<(L.length:Int))=true->InB (x.val:Int) L.length/\∃(x_1:r_rowOK.ι),
  ((((L.getD (x.val:Int).toNat default).id=x_1.id/\(L.getD (x.val:Int).toNat default).n.k=x_1.n.k/\(L.getD (x.val:Int).toNat default).n.n=x_1.n.n/\(L.getD (x.val:Int).toNat default).n.t=x_1.n.t/\(L.getD (x.val:Int).toNat
  default).name.k=x_1.name.k/\(L.getD (x.val:Int).toNat default).name.n=x_1.name.n/\(L.getD (x.val:Int).toNat default).name.t=x_1.name.t/\True)/\True)/\RwB x_1)/\((!rowOKb x_1)=false->decide ((x.val:Int)>(0:Int))
  =true->Rng .i64 ((x.val:Int)- (1:Int)))/\((!rowOKb x_1)=false->decide ((x.val:Int)>(0:Int))=true->InB ((x.val:Int)- (1:Int)) L.length)/\((!rowOKb x_1)=false->decide ((x.val:Int)>(0:Int))=true->InB
  (x.val:Int) L.length)/\((!rowOKb x_1||decide ((x.val:Int)>(0:Int))&&decide ((L.getD ((x.val:Int)- (1:Int)).toNat default).id≥(L.getD (x.val:Int).toNat default).id))=true->false=rwsOK L)/\((!rowOKb x_1||decide
  ((x.val:Int)>(0:Int))&&decide ((L.getD ((x.val:Int)- (1:Int)).toNat default).id≥(L.getD (x.val:Int).toNat default).id))=false->Rng .i64 ((x.val:Int)+(1:Int))/\∃(y:Cnt L.length (badRw L)),(((EqL rwRow L L)/\
  (x.val:Int)+(1:Int)=(y.val:Int)/\True)/\True)/\Lt (L.length-y.val) (L.length-x.val)))/\(decide ((x.val:Int)<(L.length:Int))=false->true=rwsOK L)):
  PureFn Tryz.prog 29 [rwS L] (.bool (rwsOK L)):=
 vcR (code:=b_rwsS) (gC l07Row_ok call_l07Row gN) Tryz.func29 (by kernel_rfl) (by kernel_rfl) (A_rwsS L) h (by kernel_rfl)
theorem rwsS_ok:ConOk Tryz.prog 29 k_rwsS:=by
 rintro L ⟨hL,hB⟩;refine v_rwsS L ⟨⟨cnt0,⟨⟨rfl,rowsR _ _⟩,rfl,trivial⟩,trivial⟩,fun x=>⟨fun hc=> ?_,fun hc=> ?_⟩⟩
 ·have hlt:=lt_of_dec hc;rw[Int.toNat_natCast];refine⟨inB_nat hlt,L.getD x.val default,⟨⟨⟨rfl,rfl,rfl,rfl,rfl,rfl,rfl,trivial⟩,trivial⟩,hB _ hlt⟩,fun _ _=>i64_rng (by omega),fun _ h=> ?_,fun _ _=> ?_,fun h=> ?_,fun h=>⟨add_rng hlt (by omega),x.succ hlt ?_,⟨⟨⟨rfl,rowsR _ _⟩,by simp only[Cnt.succ];omega,trivial⟩,trivial⟩,Cnt.ext_lt hlt⟩⟩
  ·have:=of_decide_eq_true h;exact⟨by omega,by omega⟩
  ·exact inB_nat hlt
  ·have hb:badRw L x.val=true:=by
    unfold badRw;rw[show x.val-1=((x.val:Int)-1).toNat by omega]
    exact h
   have:anyI L.length (badRw L)=true:=anyI_iff.2 ⟨x.val,hlt,hb⟩;unfold rwsOK;rw[this];rfl
  ·unfold badRw;rw[show x.val-1=((x.val:Int)-1).toNat by omega]
   exact h
 ·have hge:=le_of_not hc;have:anyI L.length (badRw L)=false:=anyI_no.2 fun i hi=>x.2.2 i (Nat.lt_of_lt_of_le hi hge)
  unfold rwsOK;rw[this];rfl
def k_StmtOKs:Con:=.rel ⟨Stm,fun s=>[.agg s.ts],fun s=>.bool (stmOK s),StmB⟩
noncomputable def b_StmtOKs:Code:=Tryz.f30.body.getD .skip
theorem call_StmtOKs:Callable Tryz.prog 30:=⟨_,Tryz.func30,by kernel_rfl,by kernel_rfl⟩
theorem v_StmtOKs(s:Stm)(Z:Bool)(h:
  ∃(x:(List Nd)),((!inR s.k (1:Int) (4:Int)|| !inR s.ta (1:Int) (3:Int))=false->(((EqL ndRow s.whr x)/\True)/\True)/\True)/\∃(x_1:(List Nd)),((!inR s.k (1:Int) (4:Int)|| !inR s.ta (1:Int) (3:Int))=
  false->(!List.isEmpty x)=true->(s.k==(2:Int))=false->(((EqL ndRow s.whr x_1)/\True)/\True)/\NdB x_1)/\((!inR s.k (1:Int) (4:Int)|| !inR s.ta (1:Int) (3:Int)|| !List.isEmpty x&&(s.k==(2:Int)|| !exOK
  x_1))=true->false=Z)/\((!inR s.k (1:Int) (4:Int)|| !inR s.ta (1:Int) (3:Int)|| !List.isEmpty x&&(s.k==(2:Int)|| !exOK x_1))=false->∃(x:r_rowOK.ι),((s.k !=(2:Int)&& !(s.row.id==(0:Int)&&
  (s.row.n.k==(0:Int)&&(s.row.n.n==(0:Int)&&(s.row.n.t==[]&&true))&&(s.row.name.k==(0:Int)&&(s.row.name.n==(0:Int)&&(s.row.name.t==[]&&true))&&true))))=false->(s.k==(2:Int))=true->
  ((s.row.id=x.id/\s.row.n.k=x.n.k/\s.row.n.n=x.n.n/\s.row.n.t=x.n.t/\s.row.name.k=x.name.k/\s.row.name.n=x.name.n/\s.row.name.t=x.name.t/\True)/\True)/\RwB x)/\((s.k !=(2:Int)&& !(s.row.id==(0:Int)
  &&(s.row.n.k==(0:Int)&&(s.row.n.n==(0:Int)&&(s.row.n.t==[]&&true))&&(s.row.name.k==(0:Int)&&(s.row.name.n==(0:Int)&&(s.row.name.t==[]&&true))&&true)))||s.k==(2:Int)&& !rowOKb x)=true->
  false=Z)/\((s.k !=(2:Int)&& !(s.row.id==(0:Int)&&(s.row.n.k==(0:Int)&&(s.row.n.n==(0:Int)&&(s.row.n.t==[]&&true))&&(s.row.name.k==(0:Int)&&(s.row.name.n==(0:Int)&&(s.row.name.t==[]&&
  true))&&true)))||s.k==(2:Int)&& !rowOKb x)=false->((s.k==(3:Int))=true->∃(x:(List Nd)),((!inR s.c (1:Int) (2:Int))=false->(((EqL ndRow s.set x)/\True)/\True)/\NdB x)/\((!inR s.c (1:Int) (2:
  Int)|| !exOK x)=true->false=Z)/\((!inR s.c (1:Int) (2:Int)|| !exOK x)=false->((s.k !=(1:Int))=true->(s.ord==(0:Int)&& !s.down)=Z)/\((s.k !=(1:Int))=false->inR s.ord (0:Int) (2:Int)=Z)))/\
  ((s.k==(3:Int))=false->∃(x:(List Nd)),((s.c !=(0:Int))=false->(((EqL ndRow s.set x)/\True)/\True)/\True)/\((s.c !=(0:Int)|| !List.isEmpty x)=true->false=Z)/\((s.c !=(0:Int)|| !List.isEmpty x)=
  false->((s.k !=(1:Int))=true->(s.ord==(0:Int)&& !s.down)=Z)/\((s.k !=(1:Int))=false->inR s.ord (0:Int) (2:Int)=Z)))))):
  PureFn Tryz.prog 30 [.agg s.ts] (.bool Z):=
 vcR (code:=b_StmtOKs) (gC none_ok call_none (gC ExprOKs_ok call_ExprOKs (gC l01In_ok call_l01In (gC l07Row_ok call_l07Row gN)))) Tryz.func30 (by kernel_rfl) (by kernel_rfl) noAnn h (by kernel_rfl)
theorem StmtOKs_ok:ConOk Tryz.prog 30 k_StmtOKs:=by
 rintro s ⟨hR,hS,hW⟩;refine v_StmtOKs s (stmOK s) ⟨s.whr,fun _=>⟨⟨⟨⟨rfl,rowsR _ _⟩,trivial⟩,trivial⟩,trivial⟩,s.whr,fun _ _ _=>⟨⟨⟨⟨rfl,rowsR _ _⟩,trivial⟩,trivial⟩,hW⟩,fun h=> ?_,fun h=>⟨s.row,fun _ _=>⟨⟨⟨rfl,rfl,rfl,rfl,rfl,rfl,rfl,trivial⟩,trivial⟩,hR⟩,fun h2=> ?_,fun h2=>⟨fun k3=>⟨s.set,fun _=>⟨⟨⟨⟨rfl,rowsR _ _⟩,trivial⟩,trivial⟩,hS⟩,fun h4=> ?_,fun h4=>⟨fun k1=> ?_,fun k1=> ?_⟩⟩,fun k3=>⟨s.set,fun _=>⟨⟨⟨⟨rfl,rowsR _ _⟩,trivial⟩,trivial⟩,trivial⟩,fun h4=> ?_,fun h4=>⟨fun k1=> ?_,fun k1=> ?_⟩⟩⟩⟩⟩
 all_goals
  (try rw[eqRw0] at h2)
  (try clear hR)
  clear hS hW;unfold stmOK;have ek:inR s.k 1 4=true↔(s.k=1∨s.k=2∨s.k=3∨s.k=4):=⟨fun h=>by have:=inR_b.1 h;omega,fun h=>inR_b.2 (by omega)⟩
  generalize inR s.ta 1 3=b1,s.whr.isEmpty=b2,exOK s.whr=b3,eqRwB s.row rwZ=b4,rowOKb s.row=b5 at*;generalize inR s.c 1 2=b6,s.set.isEmpty=b7,exOK s.set=b8,inR s.ord 0 2=b9,s.down=b10 at*;generalize inR s.k 1 4=b11 at*;by_cases q1:s.k=1
  ·cases b1<;>cases b2<;>cases b3<;>cases b7<;>simp_all
  by_cases q2:s.k=2
  ·cases b1<;>cases b2<;>cases b3<;>cases b7<;>simp_all
  by_cases q3:s.k=3
  ·cases b1<;>cases b2<;>cases b3<;>cases b6<;>cases b8<;>simp_all
  by_cases q4:s.k=4
  ·cases b1<;>cases b2<;>cases b3<;>cases b7<;>simp_all
  ·simp_all
end Go.Proofs.YtfmngblmdghccaaGreat

