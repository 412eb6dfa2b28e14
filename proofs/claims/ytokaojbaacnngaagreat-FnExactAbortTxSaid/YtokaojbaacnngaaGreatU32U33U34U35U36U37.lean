/- A part of the proof. -/
import Derived.Test.YtokaojbaacnngaaGreatY4Y5Y6Y7
import Derived.Test.YtokaojbaacnngaaGreatU13U14U15U16
import Derived.Test.YtokaojbaacnngaaGreatU17U18U19U21
import Derived.Test.YtokaojbaacnngaaGreatU3U4U5
namespace Go.Proofs.YtokaojbaacnngaaGreat
open Go.SS

theorem wU(n:Int):((j5 n).toNat:Int)=n % 256:=by
 unfold j5;rw[bX (Q3 _),IntKind.wrap_u8]
theorem a16{n:Int}(h:0<=n)(h2:n<=255):((j5 n).toNat:Int)=n:=by
 rw[wU];omega
theorem b9E{n:Nat}(h:n<65536):be (zD n)=n:=by
 have e1:=wU ((n:Int).fdiv 256);have e2:=wU ((n:Int).fdiv 1);rw[Int.fdiv_eq_ediv_of_nonneg _ (by decide)] at e1 e2
 show(0*256+(j5 ((n:Int).fdiv 256)).toNat)*256+(j5 ((n:Int).fdiv 1)).toNat=n;rw[Int.fdiv_eq_ediv_of_nonneg _ (by decide),Int.fdiv_eq_ediv_of_nonneg _ (by decide)]
 omega
theorem b9g{n:Nat}(h:n<4294967296):be (B7 n)=n:=by
 have e1:=wU ((n:Int).fdiv 16777216);have e2:=wU ((n:Int).fdiv 65536);have e3:=wU ((n:Int).fdiv 256);have e4:=wU ((n:Int).fdiv 1);rw[Int.fdiv_eq_ediv_of_nonneg _ (by decide)] at e1 e2 e3 e4
 show(((0*256+(j5 ((n:Int).fdiv 16777216)).toNat)*256+(j5 ((n:Int).fdiv 65536)).toNat)*256+(j5 ((n:Int).fdiv 256)).toNat)*256+(j5 ((n:Int).fdiv 1)).toNat=n;rw[Int.fdiv_eq_ediv_of_nonneg _ (by decide),Int.fdiv_eq_ediv_of_nonneg _ (by decide),Int.fdiv_eq_ediv_of_nonneg _ (by decide),Int.fdiv_eq_ediv_of_nonneg _ (by decide)]
 omega
theorem b1c(l:List UInt8):T0 (l++B7 (s5 l))=true/\X4 (l++B7 (s5 l))=l:=by
 have h4:(B7 (s5 l)).length=4:=rfl;have hl:(l++B7 (s5 l)).length-4=l.length:=by rw[B8,h4];omega
 have ht:(l++B7 (s5 l)).take l.length=l:=List.take_left;have hd:(l++B7 (s5 l)).drop l.length=B7 (s5 l):=List.drop_left;have ok:T0 (l++B7 (s5 l))=true:=by
  unfold T0;rw[hl,ht,hd,b9g (cZ l),B8,h4];simp
 refine⟨ok,?_⟩
 unfold X4;rw[if_pos ok,hl,ht]
def b0G(L:List (List UInt8)):Prop:=L.length<=100/\∀i,i<L.length->(L.getD i []).length<=255
theorem oC(L:List (List UInt8))(i:Nat):∀k,∃r,W5 L (i+k)=W5 L i++r
 |0=>⟨[],by simp⟩
 |k+1=>by
  obtain⟨r,hr⟩:=oC L i k;refine⟨r++[j5 (L.getD (i+k) []).length]++L.getD (i+k) [],?_⟩
  show W5 L (i+k)++[j5 (L.getD (i+k) []).length]++L.getD (i+k) []=_;rw[hr];simp only[List.append_assoc]
theorem a3u{α:Type}(d:α)(L:List α){i:Nat}(h:i<L.length):L.take (i+1)=L.take i++[L.getD i d]:=by
 rw[List.take_add_one,N9,L4 h]
 rfl
theorem b0C{L:List (List UInt8)}(h:b0G L):∀i,i<=L.length->d5 (S9 L) i=some ((W5 L i).length,L.take i)
 |0,_=>rfl
 |i+1,hi=>by
  obtain⟨r,hr⟩:=oC L (i+1) (L.length- (i+1));rw[show i+1+(L.length- (i+1))=L.length by omega] at hr
  have hc:((j5 (L.getD i []).length).toNat:Int)=(L.getD i []).length:=a16 (by omega) (by have:=h.2 i (by omega);omega)
  have hb:S9 L=W5 L i++([j5 (L.getD i []).length]++(L.getD i []++r)):=by
   unfold S9;rw[hr];show W5 L i++[j5 (L.getD i []).length]++L.getD i []++r=_;simp only[List.append_assoc]
  have g:(S9 L).getD (W5 L i).length 0=j5 (L.getD i []).length:=by
   rw[hb,N9,qK (V1 _)]
   simp
  have hl:(S9 L).length=(W5 L i).length+(1+((L.getD i []).length+r.length)):=by rw[hb];simp only[B8,List.length_cons,List.length_nil]
  have hn:(j5 (L.getD i []).length).toNat=(L.getD i []).length:=by omega
  have e3:List.drop ((W5 L i).length+1) (List.take ((W5 L i).length+1+(L.getD i []).length) (S9 L))=L.getD i []:=by
   rw[hb,←List.append_assoc,←List.append_assoc];rw[List.take_left' (by simp only[B8,List.length_cons,List.length_nil]),List.drop_left' (by simp only[B8,List.length_cons,List.length_nil])]
  conv=>lhs;unfold d5
  rw[b0C h i (by omega)]
  dsimp only;rw[g,hn,if_pos ⟨by omega,by omega⟩,e3,a3u [] L (by omega)]
  congr 2
  simp only[W5,B8,List.length_cons,List.length_nil]
theorem gY{L:List (List UInt8)}(h:b0G L):R6 (S9 L)=some L:=by
 obtain⟨r,hr⟩:=oC L 0 L.length;rw[E6] at hr;have hc:((j5 L.length).toNat:Int)=L.length:=a16 (by omega) (by have:=h.1;omega)
 have hf:I9 (S9 L)=L.length:=by
  unfold I9 S9;rw[hr];show(j5 L.length).toNat=_;omega
 have hl:(S9 L).length≠0:=by
  unfold S9;rw[hr];simp[W5]
 unfold R6;rw[hf,if_neg (by have:=h.1;omega),b0C h _ (V1 _)]
 dsimp only;rw[show(W5 L L.length).length=(S9 L).length from rfl,if_pos rfl,kC]
theorem c0h{no:Int}{p:Pg}(h:bL p)(h0:0<=no)(h1:no<=255):K0 no (S8 no p)=(p,true):=by
 obtain⟨p1,p2,p3,p4⟩:=h;obtain⟨u1,u2⟩:=b1c (vM no p);have hF:b0G p.sl:=⟨by omega,λi hi=>Nat.le_trans (p4 i hi) (by decide)⟩
 obtain⟨r,hr⟩:=oC p.sl 0 p.sl.length;have hlen:1<=(S9 p.sl).length:=by
  unfold S9;rw[←E6 p.sl.length,hr];simp[W5]
 have e0:vM no p=P1 112::j5 no::(zD p.lsn.toNat++S9 p.sl):=by unfold vM;simp
 have e2:(zD p.lsn.toNat).length=2:=rfl;have hh:xU no (vM no p)=true:=by
  unfold xU;rw[e0];simp only[List.length_cons,B8,e2,I3,m5];exact⟨by omega,rfl,a16 h0 h1⟩
 have d4:(vM no p).drop 4=S9 p.sl:=by
  unfold vM;exact List.drop_left' (by simp[e2])
 have d2:((vM no p).drop 2).take 2=zD p.lsn.toNat:=by
  rw[e0];exact List.take_left' e2
 have hx:pgX (vM no p)=p:=by
  unfold pgX;rw[d4,d2,gY hF,b9E (by omega),Option.getD_some,show((p.lsn.toNat:Nat):Int)=p.lsn by omega]
 have ok:A7 p=true:=iO ⟨p1,p2,p3,p4⟩;unfold K0 S8;rw[u1,u2,hh,hx,d4,gY hF,ok];rfl
theorem b3f(L:List (List UInt8))(h:∀i,i<L.length->(L.getD i []).length<=30):∀i,i<=L.length->(W5 L i).length<=1+31*i
 |0,_=>by simp[W5]
 |i+1,hi=>by
  have h1:=b3f L h i (by omega)
  have h2:=h i (by omega)
  simp only[W5,B8,List.length_cons,List.length_nil];omega
theorem b95{no:Int}{p:Pg}(h:bL p):(S8 no p).length<=160/\S8 no p≠[]:=by
 obtain⟨p1,p2,p3,p4⟩:=h;have:=b3f p.sl p4 p.sl.length (V1 _);have e4:(B7 (s5 (vM no p))).length=4:=rfl;have e2:(zD p.lsn.toNat).length=2:=rfl;have hl:(S8 no p).length=8+(S9 p.sl).length:=by
  unfold S8;rw[B8,e4];unfold vM;simp only[B8,List.length_cons,List.length_nil,e2];omega
 refine⟨by rw[hl];unfold S9;omega,λe=> ?_⟩
 rw[e] at hl;simp at hl;omega
end Go.Proofs.YtokaojbaacnngaaGreat

namespace Go.Proofs.YtokaojbaacnngaaGreat
open Go.SS

structure SI(s:Sto):Prop where
 iv:SInv s
 dw:b3q s.d
 pl:∀no,no<8->(Q8 s.d no).1.lsn<=s.log.length
theorem b4t{s:Sto}(h:SInv s)(hw:b3q s.d):B9 s.d:=by
 obtain⟨w1,w2,w3,w4,w5⟩:=hw;refine⟨by omega,by omega,h.c,w2,w3,w4,λi hi=> ?_⟩
 have:=h.pd i hi;have:=w5 i hi;unfold R2;rw[L7.2 (by omega),tW (by omega)]
 rfl
theorem SI.dk{s:Sto}(h:SI s):B9 s.d:=b4t h.iv h.dw
theorem kS{d:Dsk}(h:B9 d)(h69:d.sec.length=69):b3q d:=by
 obtain⟨h1,h2,h3,h4,h5,h6,h7⟩:=h;exact⟨h69,h4,h5,h6,λi hi=>(a0W (h7 i hi)).2.2⟩
theorem SI.logP{s:Sto}(h:SI s):wV s.log:=⟨h.iv.l60,λi hi=>by
 obtain⟨a,b⟩:=z9.1 h.iv.rc i hi;exact⟨(Q1 _).1 a,b⟩⟩
theorem c0D{s:Sto}(h:K7 s=true)(hm:kN s):SI s:=by
 have hd:=((u9 s).1 ((K1 s).1 h).1.1);refine⟨b5E h hm,kS hd.1 hd.2.1,λno hn=> ?_⟩
 have hb:=((K1 s).1 h).2.2.1 no hn;have hs:=iB ((K1 s).1 h).1.2.2;unfold l6 at hb;simp only[tU,tQ] at hb;omega
theorem b2w{s:Sto}{r:Rec}(h:SI s)(hr:Q6 (J2 s r)=true)(hl:s.log.length+1<=60):SI (apx s r):=by
 have e:(apx s r).log.length=s.log.length+1:=by show(s.log++[_]).length=_;simp
 have hL:=b1O h.logP hr hl;have hi:=h.iv;have hsu:=hi.su;refine⟨⟨⟨hi.sm.1,by omega,hi.sm.2.2⟩,hi.c,hi.pd,hi.n69,⟨hsu.1,by have:(apx s r).sure=s.sure:=rfl;omega⟩,by omega,z9.2 λi hi=>⟨(Q1 _).2 (hL.2 i hi).1,(hL.2 i hi).2⟩,hi.fr3,λi hi'=> ?_,hi.hd,hi.pg⟩,h.dw,λno hn=> ?_⟩
 ·obtain⟨a,b,c,d⟩:=hi.frp i hi';exact⟨a,b,c,by have:((apx s r).fr.getD i default).pg.lsn<=s.log.length:=d;omega⟩
 ·have:(Q8 (apx s r).d no).1.lsn<=s.log.length:=h.pl no hn;omega
theorem bT{L:List Frm}{k:Nat}(f:Frm)(i:Nat)(hk:k<L.length):(L.set k f).getD i default=if i=k then f else L.getD i default:=by
 by_cases h:i=k
 ·subst h;rw[if_pos rfl,N9,j_k hk]
  rfl
 ·rw[if_neg h,N9,j_l (Ne.symm h),←N9]
theorem b2U{d:Dsk}(h:B9 d)(h69:d.sec.length=69):B9 (F4 d).1/\(F4 d).1.sec.length=69:=by
 unfold F4;split
 ·exact a5g (kS h h69)
 ·exact⟨h,h69⟩
theorem b5y{s:Sto}{l:Int}(h:qR s l)(h2:0<=l):0<=(X3 s l).1.sure/\(X3 s l).1.sure<=s.log.length:=by
 obtain⟨_,_,_,_,b5,b6,_,b8,_⟩:=h;by_cases hl:l<=s.sure
 ·rw[zZ hl];exact⟨b5,b6⟩
 ·rw[c9 hl];dsimp only;split
  ·exact⟨h2,b8⟩
  ·exact⟨b5,b6⟩
theorem b9r{s:Sto}{k:Nat}(h:SI s)(hk:k<s.fr.length)(hu:(X7 s k).2=false):B9 (X7 s k).1.d/\(X7 s k).1.d.sec.length=69:=by
 obtain⟨f1,f2,f3,f4⟩:=h.iv.frp k hk;have hf:=h.iv.flu f4;have hfd:=a6J h.dk hf h.logP;cases hd:(s.fr.getD k default).dirty with
 |false=>rw[yE hd] at hu;cases hu
 |true=>
  cases hF:(X3 s (s.fr.getD k default).pg.lsn).2 with
  |false=>rw[vI hd hF];exact hfd
  |true=>
   cases hb:(F4 (X3 s (s.fr.getD k default).pg.lsn).1.d).2 with
   |false=>rw[rS hd hF hb];exact b2U hfd.1 hfd.2
   |true=>rw[lB hd hF hb] at hu;cases hu
theorem b8X{s:Sto}{k:Nat}(h:SI s)(hk:k<s.fr.length)(hu:(X7 s k).2=true):SI (X7 s k).1/\(X7 s k).1.log=s.log/\(X7 s k).1.fr.length=s.fr.length/\(X7 s k).1.hand=s.hand:=by
 obtain⟨r1,r2,r3,r4,r5⟩:=q8 s k;refine⟨?_,r3,r1,r2⟩
 cases hd:(s.fr.getD k default).dirty with
 |false=>rw[yE hd];exact h
 |true=>
  have hi:=h.iv;obtain⟨f1,f2,f3,f4⟩:=hi.frp k hk;have hf:=hi.flu f4;have hfd:=a6J h.dk hf h.logP;have hfr:=aG s (s.fr.getD k default).pg.lsn;have hsu:=b5y hf f3.1;have hsm:=a5p hi hk;have hop:=λno hno hne=>a07 (no:=no) hi hk hno hne hu
  have hpd:=eM (l:=(s.fr.getD k default).pg.lsn) hi.pd;cases hF:(X3 s (s.fr.getD k default).pg.lsn).2 with
  |false=>rw[vI hd hF] at hu;cases hu
  |true=>
   cases hb:(F4 (X3 s (s.fr.getD k default).pg.lsn).1.d).2 with
   |false=>rw[rS hd hF hb] at hu;cases hu
   |true=>
    have hw:=b2U hfd.1 hfd.2;have hpd5:cG (F4 (X3 s (s.fr.getD k default).pg.lsn).1.d).1:=by
     unfold F4;split
     ·exact b2y (i8 _)
     ·exact hpd
    have hc:(X7 s k).1.d.cache.length<=500:=by
     by_cases h0:(s.fr.getD k default).no=0
     ·exact(hop 1 (by omega) (by omega)).2
     ·exact(hop 0 (by omega) (by omega)).2
    obtain⟨z1,z2⟩:=b95 (no:=(s.fr.getD k default).no) f3;have e0:(X7 s k).1=wrF ((X3 s (s.fr.getD k default).pg.lsn).1.sd (F4 (X3 s (s.fr.getD k default).pg.lsn).1.d).1) k:=by rw[lB hd hF hb]
    have efr:(X7 s k).1.fr=s.fr.set k (clF (s.fr.getD k default)):=by
     rw[e0];show(X3 s _).1.fr.set k (clF ((X3 s _).1.fr.getD k default))=_;rw[hfr.1]
    have ed:(X7 s k).1.d=wrD (F4 (X3 s (s.fr.getD k default).pg.lsn).1.d).1 (1+(s.fr.getD k default).no) (S8 (s.fr.getD k default).no (s.fr.getD k default).pg):=by
     rw[e0];show wrD _ (1+((X3 s _).1.fr.getD k default).no) (S8 ((X3 s _).1.fr.getD k default).no ((X3 s _).1.fr.getD k default).pg)=_;rw[hfr.1];rfl
    have esu:(X7 s k).1.sure=(X3 s (s.fr.getD k default).pg.lsn).1.sure:=by rw[e0];rfl
    have hPg:∀no,no<8->(Q8 (X7 s k).1.d no).2=true/\(S5 (X7 s k).1.d (1+no)).length<=1000/\(Q8 (X7 s k).1.d no).1.lsn<=s.log.length:=λno hno=>by
     by_cases hn:(s.fr.getD k default).no=no
     ·have hr:S5 (X7 s k).1.d (1+no)=S8 (s.fr.getD k default).no (s.fr.getD k default).pg:=by
       rw[ed,a4N,if_pos (by omega)]
      have hp:Q8 (X7 s k).1.d no=((s.fr.getD k default).pg,true):=by
       unfold Q8;rw[hr,if_neg z2,←hn];exact c0h f3 f1 (by omega)
      rw[hp,hr];exact⟨rfl,by omega,f4⟩
     ·have hq:=(hop no hno hn).1;have hp:=(lR (d:=(X7 s k).1.d) (d':=s.d) (no:=no) hq).1;rw[hp,hq];exact⟨(hi.pg no hno).1,(hi.pg no hno).2,h.pl no hno⟩
    refine⟨⟨hsm,hc,?_,by rw[r5];exact hi.n69,⟨by rw[esu];exact hsu.1,by rw[esu,r3];exact hsu.2⟩,by rw[r3];exact hi.l60,by rw[r3];exact hi.rc,by rw[r1];exact hi.fr3,λi hi'=> ?_,by rw[r2];exact hi.hd,λno hno=>⟨(hPg no hno).1,(hPg no hno).2.1⟩⟩,?_,λno hno=>by rw[r3];exact(hPg no hno).2.2⟩
    ·rw[ed];intro i hi';have hi':i<((F4 (X3 s (s.fr.getD k default).pg.lsn).1.d).1.cache++[(⟨1+(s.fr.getD k default).no,S8 (s.fr.getD k default).no (s.fr.getD k default).pg⟩:Pend)]).length:=hi';rw[B8,List.length_singleton] at hi';show 0<=(((F4 (X3 s (s.fr.getD k default).pg.lsn).1.d).1.cache++[(⟨1+(s.fr.getD k default).no,S8 (s.fr.getD k default).no (s.fr.getD k default).pg⟩:Pend)]).getD i default).at_/\(((F4 (X3 s (s.fr.getD k default).pg.lsn).1.d).1.cache++[(⟨1+(s.fr.getD k default).no,S8 (s.fr.getD k default).no (s.fr.getD k default).pg⟩:Pend)]).getD i default).at_<((F4 (X3 s (s.fr.getD k default).pg.lsn).1.d).1.sec.length:Int);rw[bV default _ _ i hi',hw.2];split
     ·exact⟨by dsimp only;omega,by dsimp only;omega⟩
     ·have:=hpd5 i (by omega)
      rw[hw.2] at this;exact this
    ·rw[r1] at hi';rw[efr,bT _ _ hk,r3];split
     ·exact⟨f1,f2,f3,f4⟩
     ·exact hi.frp i hi'
    ·rw[ed];obtain⟨w1,w2,w3,w4,w5⟩:=kS hw.1 hw.2;refine⟨w1,w2,w3,w4,λi hi'=> ?_⟩
     have hi':i<((F4 (X3 s (s.fr.getD k default).pg.lsn).1.d).1.cache++[(⟨1+(s.fr.getD k default).no,S8 (s.fr.getD k default).no (s.fr.getD k default).pg⟩:Pend)]).length:=hi';rw[B8,List.length_singleton] at hi';show(((F4 (X3 s (s.fr.getD k default).pg.lsn).1.d).1.cache++[(⟨1+(s.fr.getD k default).no,S8 (s.fr.getD k default).no (s.fr.getD k default).pg⟩:Pend)]).getD i default).d.length<=160;rw[bV default _ _ i hi'];split
     ·exact z1
     ·exact w5 i (by omega)
theorem b2l{s:Sto}{no:Nat}(h:SI s)(hno:no<8):0<=(sG no (Q8 s.d no).1).no/\(sG no (Q8 s.d no).1).no<=7/\bL (sG no (Q8 s.d no).1).pg/\(sG no (Q8 s.d no).1).pg.lsn<=s.log.length:=⟨by show(0:Int)<=no;omega,by show(no:Int)<=7;omega,nZ (h.iv.pg no hno).1,h.pl no hno⟩
theorem b1A{s:Sto}{L:List Frm}{hand:Int}(h:SI s)(hm:kN ⟨s.d,s.ep,s.log,s.sure,L,hand⟩)(h3:L.length<=3)(hf:∀i,i<L.length->0<=(L.getD i default).no/\(L.getD i default).no<=7/\bL (L.getD i default).pg/\(L.getD i default).pg.lsn<=s.log.length)(hh:0<=hand/\hand<=2):SI ⟨s.d,s.ep,s.log,s.sure,L,hand⟩:=
 ⟨⟨hm,h.iv.c,h.iv.pd,h.iv.n69,h.iv.su,h.iv.l60,h.iv.rc,h3,hf,hh,h.iv.pg⟩,h.dw,h.pl⟩
theorem c0P{a:Int}(h:0<=a):0<=a.tmod 3/\a.tmod 3<=2:=by
 rw[Int.tmod_eq_emod_of_nonneg h];omega
theorem b8C{s:Sto}{no:Nat}(h:SI s)(hu:(Y2 s no).2.2=false):B9 (Y2 s no).1.d/\(Y2 s no).1.d.sec.length=69:=by
 by_cases hc:0<=frAt s.fr no
 ·rw[(yN 0 hc).1] at hu;cases hu
 ·by_cases h3:s.fr.length=3
  ·have hh:=h.iv.hd;cases ho:(X7 s s.hand.toNat).2 with
   |true=>rw[(t5 0 hc h3 ho).1] at hu;cases hu
   |false=>
    rw[(s7 0 hc h3 ho).1];exact b9r h (by omega) ho
  ·rw[(yU 0 hc h3).1] at hu;cases hu
theorem b8A{s:Sto}{no:Nat}(h:SI s)(hno:no<8)(hu:(Y2 s no).2.2=true):SI (Y2 s no).1/\(Y2 s no).1.log=s.log:=by
 have hm:=a6q h.iv hno;have hh:=h.iv.hd;have h3':=h.iv.fr3;by_cases hc:0<=frAt s.fr no
 ·rw[(yN 0 hc).1];exact⟨h,rfl⟩
 ·by_cases h3:s.fr.length=3
  ·cases ho:(X7 s s.hand.toNat).2 with
   |false=>rw[(s7 0 hc h3 ho).1] at hu;cases hu
   |true=>
    obtain⟨o1,o2,o3,o4⟩:=b8X h (show s.hand.toNat<s.fr.length by omega) ho
    rw[(t5 0 hc h3 ho).1] at hm ⊢;have hlen:((X7 s s.hand.toNat).1.fr.set s.hand.toNat (sG no (Q8 (X7 s s.hand.toNat).1.d no).1)).length=3:=by rw[o5,o3];exact h3
    refine⟨b1A o1 hm (by omega) (λi hi=> ?_) (by rw[o4];exact c0P (by omega)),o2⟩
    rw[bT _ _ (by omega)]
    split
    ·exact b2l o1 hno
    ·exact o1.iv.frp i (by omega)
  ·rw[(yU 0 hc h3).1] at hm ⊢;have hlen:(s.fr++[sG no (Q8 s.d no).1]).length=s.fr.length+1:=by rw[B8];rfl
   refine⟨b1A h hm (by omega) (λi hi=> ?_) hh,rfl⟩
   rw[bV default _ _ i (by omega)]
   split
   ·exact b2l h hno
   ·exact h.iv.frp i (by omega)
theorem b8N{s:Sto}{r:Rec}(h:SI s)(hu:(U7 s r).2=false):B9 (U7 s r).1.d/\(U7 s r).1.d.sec.length=69:=by
 cases hf:(Y2 s r.g.toNat).2.2 with
 |true=>
  unfold U7 at hu;rw[if_pos hf] at hu;cases hu
 |false=>
  have e:U7 s r=((Y2 s r.g.toNat).1,false):=if_neg (by rw[hf];simp)
  rw[e];exact b8C h hf
theorem b8H{s:Sto}{r:Rec}(h:SI s)(hb:a1L s r)(hl:0<=r.l/\r.l<=s.log.length)(ha:r.a.length<=30)(hu:(U7 s r).2=true):SI (U7 s r).1/\(U7 s r).1.log=s.log:=by
 have hm:=b4o hb;obtain⟨_,g1,g2,g3,g4⟩:=hb;have hno:r.g.toNat<8:=by omega
 cases hf:(Y2 s r.g.toNat).2.2 with
 |false=>
  unfold U7 at hu;rw[if_neg (by rw[hf];simp)] at hu
  cases hu
 |true=>
  have e:U7 s r=(b4W (Y2 s r.g.toNat).1 (Y2 s r.g.toNat).2.1 r,true):=if_pos hf;obtain⟨i1,i2⟩:=b8A h hno hf;obtain⟨k1,p1,p2,p3,p4⟩:=cB h.iv hno hf;have h3:=i1.iv.fr3;rw[e] at hm ⊢;refine⟨b1A i1 hm (by rw[o5];omega) (λi hi=> ?_) i1.iv.hd,i2⟩
  rw[o5] at hi;rw[bT _ _ k1];split
  ·obtain⟨b1,b2,b3,b4⟩:=i1.iv.frp _ k1;refine⟨b1,b2,⟨hl.1,?_,?_,λj hj=> ?_⟩,?_⟩
   ·have:=h.iv.l60;show r.l<=_;omega
   ·show(List.set _ _ _).length=_;rw[o5];exact p3
   ·show((List.set _ _ _).getD j []).length<=30;have hj:j<(List.set ((Y2 s r.g.toNat).1.fr.getD (Y2 s r.g.toNat).2.1 default).pg.sl r.s.toNat r.a).length:=hj;rw[o5] at hj;by_cases hjs:j=r.s.toNat
    ·subst hjs;rw[N9,j_k hj]
     exact ha
    ·rw[N9,j_l (Ne.symm hjs),←N9]
     exact p4 j hj
   ·rw[i2];exact hl.2
  ·exact i1.iv.frp i hi
end Go.Proofs.YtokaojbaacnngaaGreat

namespace Go.Proofs.YtokaojbaacnngaaGreat
open Go.SS

theorem gG{L:List Txn}{id n:Int}{k:Nat}(hk:k<L.length)(ha:U4 L id=k):U4 (L.set k ⟨(L.getD k default).id,n⟩) id=k:=by
 have h0:¬R0 L.length (t6 L id)<0:=by
  have:R0 L.length (t6 L id)=k:=ha;omega
 obtain⟨i,hi,hp,hl,he⟩:=oA h0;have hik:i=k:=by
  have:R0 L.length (t6 L id)=k:=ha;omega
 subst hik;have e:∀j,t6 (L.set i ⟨(L.getD i default).id,n⟩) id j=t6 L id j:=λj=>by
  unfold t6;by_cases h:j=i
  ·subst h;rw[N9 (l:=L.set j _),j_k hk]
   rfl
  ·rw[N9 (l:=L.set i _),j_l (Ne.symm h),←N9]
 unfold U4;rw[o5];exact L5 hi (by rw[e];exact hp) λj hj=>by rw[e];exact hl j hj
theorem a6x{L:List Txn}{n:Int}{k:Nat}(hk:k<L.length):((L.set k ⟨(L.getD k default).id,n⟩).getD k default).id=(L.getD k default).id:=by
 rw[N9 (l:=L.set k _),j_k hk]
 rfl
theorem b9N(s:Sto)(r:Rec):(U7 s r).1.ep=s.ep:=by
 have hF:(Y2 s r.g.toNat).1.ep=s.ep:=by
  by_cases hc:0<=frAt s.fr r.g.toNat
  ·rw[(yN 0 hc).1]
  ·by_cases h3:s.fr.length=3
   ·cases ho:(X7 s s.hand.toNat).2 with
    |true=>rw[(t5 0 hc h3 ho).1];exact(q8 s s.hand.toNat).2.2.2.1
    |false=>rw[(s7 0 hc h3 ho).1];exact(q8 s s.hand.toNat).2.2.2.1
   ·rw[(yU 0 hc h3).1];rfl
 unfold U7;split
 ·exact hF
 ·exact hF
def b9(r:Rec):Rec:=⟨0,0,0,3,0,r.p,r.g,r.s,[],r.b⟩
def kD(e:Eng)(k:Nat)(r:Rec):Rec:=J2 e.s (zC e k (b9 r))
noncomputable def H3(e:Eng)(k:Nat)(r:Rec):Eng×Bool:=({y4 e k (b9 r) with s:=(U7 (y4 e k (b9 r)).s (kD e k r)).1},(U7 (y4 e k (b9 r)).s (kD e k r)).2)
noncomputable def jI(e:Eng)(k:Nat)(r:Rec)(v:Nat):Nat:=B1 (y4 e k (b9 r)).s r.g.toNat v
noncomputable def M4(k:Nat)(to:Int):Nat->Eng->Nat->Int->(Eng×Nat)×Bool
 |0,e,v,_=>((e,v),true)
 |f+1,e,v,a=>if a<=to then((e,v),true) else if(Y4 e.s.log a).k=3 then M4 k to f e v (Y4 e.s.log a).n
  else if(Y4 e.s.log a).k=2 then(if(H3 e k (Y4 e.s.log a)).2=true then M4 k to f (H3 e k (Y4 e.s.log a)).1 (jI e k (Y4 e.s.log a) v) (Y4 e.s.log a).p else(((H3 e k (Y4 e.s.log a)).1,jI e k (Y4 e.s.log a) v),false))
  else M4 k to f e v (Y4 e.s.log a).p
structure UE(e:Eng)(k:Nat)(tx:Int):Prop where
 si:SI e.s
 at_:U4 e.txs tx=k
 lt:k<e.txs.length
 id:(e.txs.getD k default).id=tx
 txr:1<=tx/\tx<=60
 la:1<=(e.txs.getD k default).last/\(e.txs.getD k default).last<=e.s.log.length
 ep:1<=e.s.ep/\e.s.ep<=60
 t10:e.txs.length<=10
 lk:e.lk.held.length<=60/\e.lk.waits.length<=100
 rm:e.s.log.length+1<=60
structure UI(e:Eng)(k:Nat)(tx a:Int):Prop where
 u:UE e k tx
 ar:0<=a/\a<=(e.s.log.length:Int)
 fu:∃f,a.toNat<f/\e.s.log.length+1+und e.s.log f a<=60
theorem a49{e:Eng}{k:Nat}{tx:Int}{r:Rec}(h:UE e k tx)(hr:a9L e k r):AddB e tx k r/\Q6 (J2 e.s (zC e k r))=true:=by
 have hid:=h.id;have htx:=h.txr;have hl:=h.la;have hrm:=h.rm;have ht:=h.t10;have he:=h.ep;obtain⟨r1,r2,r3,r4,r5,r6,r7,r8,r9,r10,r11,r12,r13,r14,r15,_⟩:=hr;have hok:Q6 (J2 e.s (zC e k r))=true:=by
  refine(Q1 _).2 ?_
  unfold zF J2 zC;dsimp only;refine⟨he.1,he.2,by omega,by omega,by omega,by omega,by omega,by omega,by omega,by omega,by omega,by omega,by omega,by omega,by omega,λe=>absurd e r1,λ_=>⟨by omega,by omega,by omega,r6,r5,r15,⟨λe=>absurd e r2,λe=>by omega⟩⟩⟩
 exact⟨⟨h.at_,h.lt,hid,hok,by omega,by omega,⟨by omega,by omega⟩⟩,hok⟩
theorem cM{L:List Rec}{x:Rec}(hL:wV L):∀(f:Nat) (a:Int),a<=L.length->und (L++[x]) f a=und L f a
 |0,_,_=>rfl
 |f+1,a,ha=>by
  unfold und;by_cases h0:a<=0
  ·rw[if_pos h0,if_pos h0]
  ·have e:Y4 (L++[x]) a=Y4 L a:=by
    unfold Y4;rw[N9,sC (by omega),←N9]
   obtain⟨p1,p2,p3,p4⟩:=hL.prev (show 1<=a by omega) ha
   rw[if_neg h0,if_neg h0,e,cM hL f _ (by omega),cM hL f _ (by omega)]
theorem lZ(e:Eng)(k:Nat)(r:Rec):(y4 e k r).s.log.length=e.s.log.length+1:=by
 show(e.s.log++[_]).length=_;simp
theorem a5e{e:Eng}{k:Nat}{tx a:Int}(h:UE e k tx)(h1:1<=a)(h2:a<=e.s.log.length)(h3:(Y4 e.s.log a).k=2):a9L e k (b9 (Y4 e.s.log a))/\a1L (y4 e k (b9 (Y4 e.s.log a))).s (kD e k (Y4 e.s.log a))/\(Y4 e.s.log a).b.length<=30/\SI (y4 e k (b9 (Y4 e.s.log a))).s:=by
 have hL:=h.si.logP;obtain⟨hr,_⟩:=hL.at h1 h2;obtain⟨p1,p2,p3,p4⟩:=hL.prev h1 h2;obtain⟨_,_,_,_,_,_,_,_,_,_,g1,g2,s1,s2,hb,_,_⟩:=hr;have hR:a9L e k (b9 (Y4 e.s.log a)):=by
  unfold a9L b9;dsimp only;exact⟨by omega,by omega,by omega,by omega,λh=>absurd rfl h,λ_ h=>absurd rfl h,by omega,by omega,g1,g2,s1,s2,by decide,hb,λ_=>rfl,h.lt⟩
 have hok:=(a49 h hR).2;have hS:SI (y4 e k (b9 (Y4 e.s.log a))).s:=b2w h.si hok h.rm;exact⟨hR,⟨hS.iv,g1,by show(Y4 e.s.log a).g<8;omega,s1,by show(Y4 e.s.log a).s<4;omega⟩,hb,hS⟩
theorem b9u{e:Eng}{k:Nat}{tx a:Int}(h:UE e k tx)(h1:1<=a)(h2:a<=e.s.log.length)(h3:(Y4 e.s.log a).k=2)(hu:(H3 e k (Y4 e.s.log a)).2=false):B9 (H3 e k (Y4 e.s.log a)).1.s.d/\(H3 e k (Y4 e.s.log a)).1.s.d.sec.length=69:=
 b8N (a5e h h1 h2 h3).2.2.2 hu
theorem a3N{e:Eng}{k:Nat}{tx a:Int}(h:UI e k tx a)(h1:1<=a)(h3:(Y4 e.s.log a).k=2)(hu:(H3 e k (Y4 e.s.log a)).2=true):UI (H3 e k (Y4 e.s.log a)).1 k tx (Y4 e.s.log a).p:=by
 obtain⟨hE,⟨a1,a2⟩,f,f1,f2⟩:=h;have hL:=hE.si.logP;obtain⟨p1,p2,p3,p4⟩:=hL.prev h1 a2;obtain⟨hR,hA,hb,hS⟩:=a5e hE h1 a2 h3;have hrm:=hE.rm;have hlen:=lZ e k (b9 (Y4 e.s.log a));obtain⟨s1,s2⟩:=b8H hS hA ⟨by show(0:Int)<=(e.s.log.length:Int)+1;omega,by show(e.s.log.length:Int)+1<=_;omega⟩ hb hu
 have elog:(H3 e k (Y4 e.s.log a)).1.s.log=e.s.log++[kD e k (Y4 e.s.log a)]:=s2;have elen:(H3 e k (Y4 e.s.log a)).1.s.log.length=e.s.log.length+1:=by rw[elog];simp
 have eep:(H3 e k (Y4 e.s.log a)).1.s.ep=e.s.ep:=b9N (y4 e k (b9 (Y4 e.s.log a))).s (kD e k (Y4 e.s.log a));have etx:(H3 e k (Y4 e.s.log a)).1.txs=e.txs.set k ⟨(e.txs.getD k default).id,(e.s.log.length:Int)+1⟩:=rfl;have h2:und e.s.log f a=1+und e.s.log (f-1) (Y4 e.s.log a).p:=by
  rw[nT (by omega) f1 (by omega),if_pos h3]
 have h4:und (e.s.log++[kD e k (Y4 e.s.log a)]) (f-1) (Y4 e.s.log a).p=und e.s.log (f-1) (Y4 e.s.log a).p:=cM hL _ _ (by omega)
 refine⟨⟨s1,by rw[etx];exact gG hE.lt hE.at_,by rw[etx,o5];exact hE.lt,by rw[etx];exact(a6x hE.lt).trans hE.id,hE.txr,?_,by rw[eep];exact hE.ep,by rw[etx,o5];exact hE.t10,hE.lk,by rw[elen];omega⟩,⟨p1,by rw[elen];omega⟩,f-1,by omega,by rw[elen,elog,h4];omega⟩
 rw[etx,elen,N9,j_k hE.lt]
 show 1<=(e.s.log.length:Int)+1/\(e.s.log.length:Int)+1<=_;omega
theorem b70{e:Eng}{k:Nat}{tx a:Int}(h:UI e k tx a)(h1:1<=a)(h3:(Y4 e.s.log a).k=3):UI e k tx (Y4 e.s.log a).n:=by
 obtain⟨hE,⟨a1,a2⟩,f,f1,f2⟩:=h;obtain⟨p1,p2,p3,p4⟩:=hE.si.logP.prev h1 a2;have h2:=bP (L:=e.s.log) (by omega) f1 h3
 exact⟨hE,⟨p3,by omega⟩,f-1,by omega,by omega⟩
theorem b88{e:Eng}{k:Nat}{tx a:Int}(h:UI e k tx a)(h1:1<=a)(h3:(Y4 e.s.log a).k≠3):UI e k tx (Y4 e.s.log a).p:=by
 obtain⟨hE,⟨a1,a2⟩,f,f1,f2⟩:=h;obtain⟨p1,p2,p3,p4⟩:=hE.si.logP.prev h1 a2;have h2:=nT (L:=e.s.log) (by omega) f1 h3
 exact⟨hE,⟨p1,by omega⟩,f-1,by omega,by omega⟩
theorem vD{k:Nat}{to a:Int}{f:Nat}{e:Eng}{v:Nat}(h:a<=to):M4 k to f e v a=((e,v),true):=by
 cases f with
 |zero=>rfl
 |succ f=>unfold M4;rw[if_pos h]
theorem a3D{k:Nat}{to a:Int}{f:Nat}{e:Eng}{v:Nat}(h:¬a<=to)(hf:0<f)(h3:(Y4 e.s.log a).k=3):M4 k to f e v a=M4 k to (f-1) e v (Y4 e.s.log a).n:=by
 obtain⟨g,rfl⟩:∃g,f=g+1:=⟨f-1,by omega⟩
 conv=>lhs;unfold M4
 rw[if_neg h,if_pos h3];rfl
theorem a3y{k:Nat}{to a:Int}{f:Nat}{e:Eng}{v:Nat}(h:¬a<=to)(hf:0<f)(h3:(Y4 e.s.log a).k≠3)(h2:(Y4 e.s.log a).k≠2):M4 k to f e v a=M4 k to (f-1) e v (Y4 e.s.log a).p:=by
 obtain⟨g,rfl⟩:∃g,f=g+1:=⟨f-1,by omega⟩
 conv=>lhs;unfold M4
 rw[if_neg h,if_neg h3,if_neg h2];rfl
theorem a3S{k:Nat}{to a:Int}{f:Nat}{e:Eng}{v:Nat}(h:¬a<=to)(hf:0<f)(h2:(Y4 e.s.log a).k=2)(hu:(H3 e k (Y4 e.s.log a)).2=true):M4 k to f e v a=M4 k to (f-1) (H3 e k (Y4 e.s.log a)).1 (jI e k (Y4 e.s.log a) v) (Y4 e.s.log a).p:=by
 obtain⟨g,rfl⟩:∃g,f=g+1:=⟨f-1,by omega⟩
 conv=>lhs;unfold M4
 rw[if_neg h,if_neg (by omega),if_pos h2,if_pos hu]
 rfl
theorem a2n{k:Nat}{to a:Int}{f:Nat}{e:Eng}{v:Nat}(h:¬a<=to)(hf:0<f)(h2:(Y4 e.s.log a).k=2)(hu:(H3 e k (Y4 e.s.log a)).2=false):M4 k to f e v a=(((H3 e k (Y4 e.s.log a)).1,jI e k (Y4 e.s.log a) v),false):=by
 obtain⟨g,rfl⟩:∃g,f=g+1:=⟨f-1,by omega⟩
 conv=>lhs;unfold M4
 rw[if_neg h,if_neg (by omega),if_pos h2,if_neg (by rw[hu];simp)]
def b5n(u:(Eng×Nat)×Bool)(k:Nat)(tx:Int):Prop:=(u.2=true->UE u.1.1 k tx)/\(u.2=false->B9 u.1.1.s.d/\u.1.1.s.d.sec.length=69)
theorem a5C{k:Nat}{tx to:Int}(h0:0<=to):∀(f:Nat) (e:Eng) (v:Nat) (a:Int),a.toNat<f->UI e k tx a->b5n (M4 k to f e v a) k tx
 |0,_,_,_,hf,_=>absurd hf (F3 _)
 |f+1,e,v,a,hf,h=>by
  by_cases ht:a<=to
  ·rw[vD ht];exact⟨λ_=>h.u,λe=>by cases e⟩
  ·have h1:1<=a:=by omega
   obtain⟨p1,p2,p3,p4⟩:=h.u.si.logP.prev h1 h.ar.2;by_cases h3:(Y4 e.s.log a).k=3
   ·rw[a3D ht (by omega) h3]
    exact a5C h0 f _ _ _ (by omega) (b70 h h1 h3)
   ·by_cases h2:(Y4 e.s.log a).k=2
    ·cases hu:(H3 e k (Y4 e.s.log a)).2 with
     |true=>
      rw[a3S ht (by omega) h2 hu]
      exact a5C h0 f _ _ _ (by omega) (a3N h h1 h2 hu)
     |false=>
      rw[a2n ht (by omega) h2 hu]
      exact⟨λe=>(by cases e),λ_=>b9u h.u h1 h.ar.2 h2 hu⟩
    ·rw[a3y ht (by omega) h3 h2]
     exact a5C h0 f _ _ _ (by omega) (b88 h h1 h3)
theorem b01{L:List Rec}{T:List Txn}{k:Nat}:∀n,k<n->1+und L 61 (T.getD k default).last<=mT L T n
 |0,h=>absurd h (F3 k)
 |n+1,h=>by
  unfold mT;by_cases e:k=n
  ·subst e;omega
  ·have:=b01 (L:=L) (T:=T) (k:=k) n (by omega)
   omega
theorem b2z{e:Eng}{tx:Int}{k:Nat}(ho:K8 e=true)(hm:M8 e)(hu:e.up=true)(ha:U4 e.txs tx=k)(hk:k<e.txs.length)(hi:(e.txs.getD k default).id=tx):UI e k tx (e.txs.getD k default).last:=by
 obtain⟨a1,a2,a3,a4⟩:=yD (t9 ho).2.1;have hl:=b55 ho hu hk;have hid:=c0y ho hu hk;have hro:=b7d ho hu;have hnd:=b01 (L:=e.s.log) (T:=e.txs) e.txs.length hk;have hnd:1+und e.s.log 61 (e.txs.getD k default).last<=ndE e:=hnd;have h60:=(fG (t9 ho).1).1;exact⟨⟨c0D (t9 ho).1 hm.1,ha,hk,hi,by omega,hl,b8Z (t9 ho).1,a1,b8i a4,by omega⟩,by omega,61,by omega,by omega⟩
end Go.Proofs.YtokaojbaacnngaaGreat

namespace Go.Proofs.YtokaojbaacnngaaGreat
set_option maxRecDepth 100000
open Go.SS

def a6t(k:Nat):Option Ob:=some (.arr false 1000000 1 1 λ_=>[.ref k 0 0])
def b5Q(b:Bool):Option Ob:=some (.arr true 1000000 1 1 λ_=>[.bool b])
noncomputable def w6(e:Eng)(k:Nat)(r:Rec)(lsn:Int)(v:Nat):(Eng×Nat)×Bool×Bool:=if r.l<=lsn then((e,v),true,false) else(((H3 e k r).1,jI e k r v),(H3 e k r).2,(H3 e k r).2)
def Eng.ux(e:Eng)(v:Nat)(lsn tx:Int)(b:Bool):Y0:=[vS lsn,a6t 2,iT (e.tn 3 4 5 6 7 8 9 10),F5 e.s.d.sec,I0 e.s.d.cache,z8 e.s.d.keep,v7 e.s.log,zB v e.s.fr e.s.fr.length,vA e.txs,xJ e.lk.held,iE e.lk.waits,vS tx,b5Q b]
def Eng.uy(e:Eng)(v:Nat)(lsn tx:Int)(b:Bool):Y0:=[vS lsn,a6t 2,iT (e.tn 13 14 15 16 17 18 19 20),none,none,none,none,none,none,none,none,vS tx,b5Q b,F5 e.s.d.sec,I0 e.s.d.cache,z8 e.s.d.keep,v7 e.s.log,zB v e.s.fr e.s.fr.length,vA e.txs,xJ e.lk.held,iE e.lk.waits]
noncomputable def b4K:Con:=.reff ⟨Eng×Rec×Int×Int×Nat×Nat,λx=>[.agg x.2.1.ts,.ref 0 0 0,.ref 1 0 0,.ref 11 0 0,.ref 12 0 0],λx=>x.1.ux x.2.2.2.2.2 x.2.2.1 x.2.2.2.1 true,λx=>.bool (w6 x.1 x.2.2.2.2.1 x.2.1 x.2.2.1 x.2.2.2.2.2).2.2,λx=>(w6 x.1 x.2.2.2.2.1 x.2.1 x.2.2.1 x.2.2.2.2.2).1.1.uy (w6 x.1 x.2.2.2.2.1 x.2.1 x.2.2.1 x.2.2.2.2.2).1.2 x.2.2.1 x.2.2.2.1 (w6 x.1 x.2.2.2.2.1 x.2.1 x.2.2.1 x.2.2.2.2.2).2.1,
 λx=>x.2.2.1<x.2.1.l->(AddB x.1 x.2.2.2.1 x.2.2.2.2.1 (b9 x.2.1)/\a1L (y4 x.1 x.2.2.2.2.1 (b9 x.2.1)).s (kD x.1 x.2.2.2.2.1 x.2.1))⟩
theorem b3S:GK 194 b4K:=gk Tryz.func194<|by
 rintro⟨e,r,lsn,tx,k,v⟩ h;dsimp only at h;refine D2 (gC b1C (gC b0H gN)) Tryz.func194 Z0 [[.box 0,.box 1,.box 2,.arr 3,.arr 4,.arr 5,.arr 6,.arr 7,.arr 8,.arr 9,.arr 10,.box 11,.box 12,.cel 2 0,.cel 2 1,.cel 2 3,.cel 2 5,.cel 2 7,.cel 2 10,.cel 2 11,.cel 2 12]] (α:=(decide (r.l<=lsn)=true->(false=(w6 e k r lsn v).2.2/\True)/\(1=1/\1=1/\lsn=lsn/\True)/\(1=1/\1=1/\(0=0/\0=0)/\True)/\(1=1/\1=1/\yL e (w6 e k r lsn v).1.1)/\True/\True/\True/\True/\True/\True/\True/\True/\(1=1/\1=1/\tx=tx/\True)/\(1=1/\1=1/\true=(w6 e k r lsn v).2.1/\True)/\wT (v) ((w6 e k r lsn v).1.2) e (w6 e k r lsn v).1.1)/\(decide (r.l<=lsn)=false->∃(x:(Eng×Int×Rec×Nat×Nat)),(((0=0/\0=0)/\tx=x.2.1/\((0:Int)=x.2.2.1.e/\(0:Int)=x.2.2.1.l/\(0:Int)=x.2.2.1.t/\(3:Int)=x.2.2.1.k/\(0:Int)=x.2.2.1.p/\r.p=x.2.2.1.n/\r.g=x.2.2.1.g/\r.s=x.2.2.1.s/\[]=x.2.2.1.b/\r.b=x.2.2.1.a/\True)/\True)/\((1=1/\1=1/\yL e x.1)/\wT (v) (x.2.2.2.2) e x.1)/\AddB x.1 x.2.1 x.2.2.2.1 x.2.2.1)/\∃(x_1:(Sto×Rec×Nat)),(((0=0/\0=0)/\(x.1.s.ep=x_1.2.1.e/\(x.1.s.log.length:Int)+(1:Int)=x_1.2.1.l/\(x.1.txs.getD x.2.2.2.1 default).id=x_1.2.1.t/\x.2.2.1.k=x_1.2.1.k/\(x.1.txs.getD x.2.2.2.1 default).last=x_1.2.1.p/\x.2.2.1.n=x_1.2.1.n/\x.2.2.1.g=x_1.2.1.g/\x.2.2.1.s=x_1.2.1.s/\x.2.2.1.b=x_1.2.1.b/\x.2.2.1.a=x_1.2.1.a/\True)/\True)/\((1=1/\1=1/\(0=0/\x.1.s.d.sec.length=x_1.1.d.sec.length)/\(0=0/\x.1.s.d.cache.length=x_1.1.d.cache.length)/\x.1.s.d.armed=x_1.1.d.armed/\(0=0/\x.1.s.d.keep.length=x_1.1.d.keep.length)/\x.1.s.ep=x_1.1.ep/\(0=0/\(x.1.s.log++[J2 x.1.s (zC x.1 x.2.2.2.1 x.2.2.1)]).length=x_1.1.log.length)/\x.1.s.sure=x_1.1.sure/\(0=0/\x.1.s.fr.length=x_1.1.fr.length)/\x.1.s.hand=x_1.1.hand/\True)/\(Y6 Z5 x.1.s.d.sec x_1.1.d.sec)/\(Y6 Z3 x.1.s.d.cache x_1.1.d.cache)/\(Y6 Y9 x.1.s.d.keep x_1.1.d.keep)/\(Y6 Y7 (x.1.s.log++[J2 x.1.s (zC x.1 x.2.2.2.1 x.2.2.1)]) x_1.1.log)/\(x.2.2.2.2=x_1.2.2/\x.1.s.fr.length=x_1.1.fr.length/\V0 x.1.s.fr.length (Y8 x.1.s.fr) (Y8 x_1.1.fr))/\True)/\a1L x_1.1 x_1.2.1)/\((U7 x_1.1 x_1.2.1).2=(w6 e k r lsn v).2.2/\True)/\(1=1/\1=1/\lsn=lsn/\True)/\(1=1/\1=1/\(0=0/\0=0)/\True)/\(1=1/\1=1/\(0=0/\(U7 x_1.1 x_1.2.1).1.d.sec.length=(w6 e k r lsn v).1.1.s.d.sec.length)/\(0=0/\(U7 x_1.1 x_1.2.1).1.d.cache.length=(w6 e k r lsn v).1.1.s.d.cache.length)/\(U7 x_1.1 x_1.2.1).1.d.armed=(w6 e k r lsn v).1.1.s.d.armed/\(0=0/\(U7 x_1.1 x_1.2.1).1.d.keep.length=(w6 e k r lsn v).1.1.s.d.keep.length)/\(U7 x_1.1 x_1.2.1).1.ep=(w6 e k r lsn v).1.1.s.ep/\(0=0/\(U7 x_1.1 x_1.2.1).1.log.length=(w6 e k r lsn v).1.1.s.log.length)/\(U7 x_1.1 x_1.2.1).1.sure=(w6 e k r lsn v).1.1.s.sure/\(0=0/\(U7 x_1.1 x_1.2.1).1.fr.length=(w6 e k r lsn v).1.1.s.fr.length)/\(U7 x_1.1 x_1.2.1).1.hand=(w6 e k r lsn v).1.1.s.hand/\x.1.up=(w6 e k r lsn v).1.1.up/\(0=0/\(x.1.txs.set x.2.2.2.1 (Txn.mk (x.1.txs.getD x.2.2.2.1 default).id ((x.1.s.log.length:Int)+(1:Int)))).length=(w6 e k r lsn v).1.1.txs.length)/\(0=0/\x.1.lk.held.length=(w6 e k r lsn v).1.1.lk.held.length)/\(0=0/\x.1.lk.waits.length=(w6 e k r lsn v).1.1.lk.waits.length)/\x.1.next=(w6 e k r lsn v).1.1.next/\True)/\True/\True/\True/\True/\True/\True/\True/\True/\(1=1/\1=1/\tx=tx/\True)/\(1=1/\1=1/\(U7 x_1.1 x_1.2.1).2=(w6 e k r lsn v).2.1/\True)/\(Y6 Z5 (U7 x_1.1 x_1.2.1).1.d.sec (w6 e k r lsn v).1.1.s.d.sec)/\(Y6 Z3 (U7 x_1.1 x_1.2.1).1.d.cache (w6 e k r lsn v).1.1.s.d.cache)/\(Y6 Y9 (U7 x_1.1 x_1.2.1).1.d.keep (w6 e k r lsn v).1.1.s.d.keep)/\(Y6 Y7 (U7 x_1.1 x_1.2.1).1.log (w6 e k r lsn v).1.1.s.log)/\(B1 x_1.1 x_1.2.1.g.toNat x_1.2.2=(w6 e k r lsn v).1.2/\(U7 x_1.1 x_1.2.1).1.fr.length=(w6 e k r lsn v).1.1.s.fr.length/\V0 (U7 x_1.1 x_1.2.1).1.fr.length (Y8 (U7 x_1.1 x_1.2.1).1.fr) (Y8 (w6 e k r lsn v).1.1.s.fr))/\(Y6 X5 (x.1.txs.set x.2.2.2.1 (Txn.mk (x.1.txs.getD x.2.2.2.1 default).id ((x.1.s.log.length:Int)+(1:Int)))) (w6 e k r lsn v).1.1.txs)/\(Y6 Y5 x.1.lk.held (w6 e k r lsn v).1.1.lk.held)/\(Y6 X6 x.1.lk.waits (w6 e k r lsn v).1.1.lk.waits)/\True)) ⟨λhc=> ?_,λhc=> ?_⟩
 ·have e0:w6 e k r lsn v=((e,v),true,false):=if_pos (E9 hc);rw[e0];exact⟨Z9,⟨rfl,rfl,Z9⟩,⟨rfl,rfl,U6⟩,⟨rfl,rfl,Z7,Z7,rfl,Z7,rfl,Z7,rfl,Z7,rfl,rfl,Z7,Z7,Z7,Z9⟩,trivial,trivial,trivial,trivial,trivial,trivial,trivial,trivial,⟨rfl,rfl,Z9⟩,⟨rfl,rfl,Z9⟩,Z8,Z8,Z8,Z8,S0,Z8,Z8,X8⟩
 ·have hc:=yG hc;obtain⟨hA,hP⟩:=h (by omega)
  have e0:w6 e k r lsn v=(((H3 e k r).1,jI e k r v),(H3 e k r).2,(H3 e k r).2):=if_neg hc;rw[e0];exact⟨(e,tx,b9 r,k,v),⟨⟨Z7,rfl,⟨rfl,rfl,rfl,rfl,rfl,rfl,rfl,rfl,rfl,Z9⟩,trivial⟩,⟨⟨rfl,rfl,Z7,Z7,rfl,Z7,rfl,Z7,rfl,Z7,rfl,rfl,Z7,Z7,Z7,Z9⟩,Z8,Z8,Z8,Z8,S0,Z8,Z8,X8⟩,hA⟩,((y4 e k (b9 r)).s,kD e k r,v),⟨⟨Z7,⟨rfl,rfl,rfl,rfl,rfl,rfl,rfl,rfl,rfl,Z9⟩,trivial⟩,⟨⟨rfl,rfl,Z7,Z7,rfl,Z7,rfl,Z7,rfl,Z7,Z9⟩,Z8,Z8,Z8,Z8,S0,trivial⟩,hP⟩,Z9,⟨rfl,rfl,Z9⟩,⟨rfl,rfl,U6⟩,⟨rfl,rfl,Z7,Z7,rfl,Z7,rfl,Z7,rfl,Z7,rfl,rfl,Z7,Z7,Z7,Z9⟩,trivial,trivial,trivial,trivial,trivial,trivial,trivial,trivial,⟨rfl,rfl,Z9⟩,⟨rfl,rfl,Z9⟩,Z8,Z8,Z8,Z8,S0,Z8,Z8,X8⟩
def Eng.vx(e:Eng)(v:Nat)(lsn tx:Int):Y0:=[iT (e.tn 1 2 3 4 5 6 7 8),F5 e.s.d.sec,I0 e.s.d.cache,z8 e.s.d.keep,v7 e.s.log,zB v e.s.fr e.s.fr.length,vA e.txs,xJ e.lk.held,iE e.lk.waits,vS lsn,a6t 0,vS tx,b5Q true]
def Eng.vy(e:Eng)(v:Nat)(lsn tx:Int)(b:Bool):Y0:=[iT (e.tn 13 14 15 16 17 18 19 20),none,none,none,none,none,none,none,none,vS lsn,a6t 0,vS tx,b5Q b,F5 e.s.d.sec,I0 e.s.d.cache,z8 e.s.d.keep,v7 e.s.log,zB v e.s.fr e.s.fr.length,vA e.txs,xJ e.lk.held,iE e.lk.waits]
noncomputable def b83:Con:=.reff ⟨Eng×Int×Int×Int×Nat×Nat,λx=>[.ref 0 0 0,.int .i64 x.2.1,.fn (.func 194) [.ref 9 0 0,.ref 10 0 0,.ref 11 0 0,.ref 12 0 0]],λx=>x.1.vx x.2.2.2.2.2 x.2.2.1 x.2.2.2.1,λ_=>.tup [],λx=>(M4 x.2.2.2.2.1 x.2.2.1 61 x.1 x.2.2.2.2.2 x.2.1).1.1.vy (M4 x.2.2.2.2.1 x.2.2.1 61 x.1 x.2.2.2.2.2 x.2.1).1.2 x.2.2.1 x.2.2.2.1 (M4 x.2.2.2.2.1 x.2.2.1 61 x.1 x.2.2.2.2.2 x.2.1).2,λx=>UI x.1 x.2.2.2.2.1 x.2.2.2.1 x.2.1/\0<=x.2.2.1⟩
structure UdI(u0:(Eng×Nat)×Bool)(k:Nat)(tx to:Int) where
 e:Eng
 v:Nat
 a:Int
 f:Nat
 h:UI e k tx a
 hf:a.toNat<f
 eq:M4 k to f e v a=u0
noncomputable def b85(e:Eng)(from_ lsn tx:Int)(k v:Nat):Nat->Ann
 |0=>.one (UdI (M4 k lsn 61 e v from_) k tx lsn) (λx=>⟨[(0,.ref 0 0 0),(1,.int .i64 x.a),(2,.fn (.func 194) [.ref 9 0 0,.ref 10 0 0,.ref 11 0 0,.ref 12 0 0])],x.e.vy x.v lsn tx true⟩) (λx=>x.f) [.box 0,.arr 1,.arr 2,.arr 3,.arr 4,.arr 5,.arr 6,.arr 7,.arr 8,.box 9,.box 10,.box 11,.box 12,.cel 0 0,.cel 0 1,.cel 0 3,.cel 0 5,.cel 0 7,.cel 0 10,.cel 0 11,.cel 0 12] [.box 0,.arr 1,.arr 2,.arr 3,.arr 4,.arr 5,.arr 6,.arr 7,.arr 8,.box 9,.box 10,.box 11,.box 12,.cel 0 0,.cel 0 1,.cel 0 3,.cel 0 5,.cel 0 7,.cel 0 10,.cel 0 11,.cel 0 12] (λ_=>Z0)
 |_=>.none
theorem c1h{k:Nat}{to a:Int}{f:Nat}{e:Eng}{v:Nat}(hf:0<f)(h3:(Y4 e.s.log a).k=3)(hn:(Y4 e.s.log a).n<=a):M4 k to (f-1) e v (Y4 e.s.log a).n=M4 k to f e v a:=by
 by_cases ht:a<=to
 ·rw[vD ht,vD (by omega)]
 ·rw[a3D ht hf h3]
theorem c03{k:Nat}{to a:Int}{f:Nat}{e:Eng}{v:Nat}(hf:0<f)(h3:(Y4 e.s.log a).k≠3)(h2:(Y4 e.s.log a).k≠2)(hn:(Y4 e.s.log a).p<=a):M4 k to (f-1) e v (Y4 e.s.log a).p=M4 k to f e v a:=by
 by_cases ht:a<=to
 ·rw[vD ht,vD (by omega)]
 ·rw[a3y ht hf h3 h2]
theorem b4x:GK 193 b83:=gk Tryz.func193<|by
 rintro⟨e,from_,lsn,tx,k,v⟩ ⟨hU,h0⟩;dsimp only at hU h0;have h60:=hU.u.rm;have har:=hU.ar;refine D2 (gC b3S gN) Tryz.func193 (b85 e from_ lsn tx k v) [[.box 0,.arr 1,.arr 2,.arr 3,.arr 4,.arr 5,.arr 6,.arr 7,.arr 8,.box 9,.box 10,.box 11,.box 12,.cel 0 0,.cel 0 1,.cel 0 3,.cel 0 5,.cel 0 7,.cel 0 10,.cel 0 11,.cel 0 12]] (α:=(∃(x:UdI (M4 k lsn 61 e v from_) k tx lsn),((0=0/\0=0)/\from_=x.a/\(Fn.func 194=Fn.func 194/\(0=0/\0=0)/\(0=0/\0=0)/\(0=0/\0=0)/\(0=0/\0=0)/\True)/\True)/\(1=1/\1=1/\yL e x.e)/\True/\True/\True/\True/\True/\True/\True/\True/\(1=1/\1=1/\lsn=lsn/\True)/\(1=1/\1=1/\(0=0/\0=0)/\True)/\(1=1/\1=1/\tx=tx/\True)/\(1=1/\1=1/\true=true/\True)/\wT (v) (x.v) e x.e)/\∀(x:UdI (M4 k lsn 61 e v from_) k tx lsn),(decide (x.a>(0:Int))=true->X2 .i64 (x.a- (1:Int))/\W2 (x.a- (1:Int)) x.e.s.log.length/\Lt (0+(x.a- (1:Int)).toNat) x.e.s.log.length/\(((x.e.s.log.getD (0+(x.a- (1:Int)).toNat) default).k==(3:Int))=true->∃(y:UdI (M4 k lsn 61 e v from_) k tx lsn),(((0=0/\0=0)/\(x.e.s.log.getD (0+(x.a- (1:Int)).toNat) default).n=y.a/\(Fn.func 194=Fn.func 194/\(0=0/\0=0)/\(0=0/\0=0)/\(0=0/\0=0)/\(0=0/\0=0)/\True)/\True)/\(1=1/\1=1/\yL x.e y.e)/\True/\True/\True/\True/\True/\True/\True/\True/\(1=1/\1=1/\lsn=lsn/\True)/\(1=1/\1=1/\(0=0/\0=0)/\True)/\(1=1/\1=1/\tx=tx/\True)/\(1=1/\1=1/\true=true/\True)/\wT (x.v) (y.v) x.e y.e)/\Lt y.f x.f)/\(((x.e.s.log.getD (0+(x.a- (1:Int)).toNat) default).k==(3:Int))=false->∃(x_1:(Eng×Rec×Int×Int×Nat×Nat)),(((x.e.s.log.getD (0+(x.a- (1:Int)).toNat) default).k==(2:Int))=true->((EqR (x.e.s.log.getD (0+(x.a- (1:Int)).toNat) default) x_1.2.1)/\(0=0/\0=0)/\(0=0/\0=0)/\(0=0/\0=0)/\(0=0/\0=0)/\True)/\((1=1/\Z6 1 (λ(x:Nat)=>[T.int .i64 lsn]) λ(x:Nat)=>[T.int .i64 x_1.2.2.1])/\(1=1/\1=1/\(0=0/\0=0)/\True)/\(1=1/\1=1/\yL x.e x_1.1)/\(Y6 Z5 x.e.s.d.sec x_1.1.s.d.sec)/\(Y6 Z3 x.e.s.d.cache x_1.1.s.d.cache)/\(Y6 Y9 x.e.s.d.keep x_1.1.s.d.keep)/\(Y6 Y7 x.e.s.log x_1.1.s.log)/\(x.v=x_1.2.2.2.2.2/\x.e.s.fr.length=x_1.1.s.fr.length/\V0 x.e.s.fr.length (Y8 x.e.s.fr) (Y8 x_1.1.s.fr))/\(Y6 X5 x.e.txs x_1.1.txs)/\(Y6 Y5 x.e.lk.held x_1.1.lk.held)/\(Y6 X6 x.e.lk.waits x_1.1.lk.waits)/\(1=1/\Z6 1 (λ(x:Nat)=>[T.int .i64 tx]) λ(x:Nat)=>[T.int .i64 x_1.2.2.2.1])/\(1=1/\Z6 1 (λ(x:Nat)=>[T.bool true]) λ(x:Nat)=>[T.bool true])/\True)/\(x_1.2.2.1<x_1.2.1.l->AddB x_1.1 x_1.2.2.2.1 x_1.2.2.2.2.1 (b9 x_1.2.1)/\a1L (apx x_1.1.s (zC x_1.1 x_1.2.2.2.2.1 (b9 x_1.2.1))) (kD x_1.1 x_1.2.2.2.2.1 x_1.2.1)))/\(((x.e.s.log.getD (0+(x.a- (1:Int)).toNat) default).k==(2:Int))=true->(((x.e.s.log.getD (0+(x.a- (1:Int)).toNat) default).k==(2:Int)&& !(w6 x_1.1 x_1.2.2.2.2.1 x_1.2.1 x_1.2.2.1 x_1.2.2.2.2.2).2.2)=true->(True/\True)/\(1=1/\1=1/\yL (w6 x_1.1 x_1.2.2.2.2.1 x_1.2.1 x_1.2.2.1 x_1.2.2.2.2.2).1.1 (M4 k lsn 61 e v from_).1.1)/\True/\True/\True/\True/\True/\True/\True/\True/\(1=1/\1=1/\x_1.2.2.1=lsn/\True)/\(1=1/\1=1/\(0=0/\0=0)/\True)/\(1=1/\1=1/\x_1.2.2.2.1=tx/\True)/\(1=1/\1=1/\(w6 x_1.1 x_1.2.2.2.2.1 x_1.2.1 x_1.2.2.1 x_1.2.2.2.2.2).2.1=(M4 k lsn 61 e v from_).2/\True)/\wT ((w6 x_1.1 x_1.2.2.2.2.1 x_1.2.1 x_1.2.2.1 x_1.2.2.2.2.2).1.2) ((M4 k lsn 61 e v from_).1.2) (w6 x_1.1 x_1.2.2.2.2.1 x_1.2.1 x_1.2.2.1 x_1.2.2.2.2.2).1.1 (M4 k lsn 61 e v from_).1.1)/\(((x.e.s.log.getD (0+(x.a- (1:Int)).toNat) default).k==(2:Int)&& !(w6 x_1.1 x_1.2.2.2.2.1 x_1.2.1 x_1.2.2.1 x_1.2.2.2.2.2).2.2)=false->∃(y:UdI (M4 k lsn 61 e v from_) k tx lsn),(((0=0/\0=0)/\(x.e.s.log.getD (0+(x.a- (1:Int)).toNat) default).p=y.a/\(Fn.func 194=Fn.func 194/\(0=0/\0=0)/\(0=0/\0=0)/\(0=0/\0=0)/\(0=0/\0=0)/\True)/\True)/\(1=1/\1=1/\yL (w6 x_1.1 x_1.2.2.2.2.1 x_1.2.1 x_1.2.2.1 x_1.2.2.2.2.2).1.1 y.e)/\True/\True/\True/\True/\True/\True/\True/\True/\(1=1/\1=1/\x_1.2.2.1=lsn/\True)/\(1=1/\1=1/\(0=0/\0=0)/\True)/\(1=1/\1=1/\x_1.2.2.2.1=tx/\True)/\(1=1/\1=1/\(w6 x_1.1 x_1.2.2.2.2.1 x_1.2.1 x_1.2.2.1 x_1.2.2.2.2.2).2.1=true/\True)/\wT ((w6 x_1.1 x_1.2.2.2.2.1 x_1.2.1 x_1.2.2.1 x_1.2.2.2.2.2).1.2) (y.v) (w6 x_1.1 x_1.2.2.2.2.1 x_1.2.1 x_1.2.2.1 x_1.2.2.2.2.2).1.1 y.e)/\Lt y.f x.f))/\((((x.e.s.log.getD (0+(x.a- (1:Int)).toNat) default).k==(2:Int))=true->False)->(((x.e.s.log.getD (0+(x.a- (1:Int)).toNat) default).k==(2:Int)&& !(w6 x_1.1 x_1.2.2.2.2.1 x_1.2.1 x_1.2.2.1 x_1.2.2.2.2.2).2.2)=true->(True/\True)/\(1=1/\1=1/\yL x.e (M4 k lsn 61 e v from_).1.1)/\True/\True/\True/\True/\True/\True/\True/\True/\(1=1/\1=1/\lsn=lsn/\True)/\(1=1/\1=1/\(0=0/\0=0)/\True)/\(1=1/\1=1/\tx=tx/\True)/\(1=1/\1=1/\true=(M4 k lsn 61 e v from_).2/\True)/\wT (x.v) ((M4 k lsn 61 e v from_).1.2) x.e (M4 k lsn 61 e v from_).1.1)/\(((x.e.s.log.getD (0+(x.a- (1:Int)).toNat) default).k==(2:Int)&& !(w6 x_1.1 x_1.2.2.2.2.1 x_1.2.1 x_1.2.2.1 x_1.2.2.2.2.2).2.2)=false->∃(y:UdI (M4 k lsn 61 e v from_) k tx lsn),(((0=0/\0=0)/\(x.e.s.log.getD (0+(x.a- (1:Int)).toNat) default).p=y.a/\(Fn.func 194=Fn.func 194/\(0=0/\0=0)/\(0=0/\0=0)/\(0=0/\0=0)/\(0=0/\0=0)/\True)/\True)/\(1=1/\1=1/\yL x.e y.e)/\True/\True/\True/\True/\True/\True/\True/\True/\(1=1/\1=1/\lsn=lsn/\True)/\(1=1/\1=1/\(0=0/\0=0)/\True)/\(1=1/\1=1/\tx=tx/\True)/\(1=1/\1=1/\true=true/\True)/\wT (x.v) (y.v) x.e y.e)/\Lt y.f x.f))))/\(decide (x.a>(0:Int))=false->(True/\True)/\(1=1/\1=1/\yL x.e (M4 k lsn 61 e v from_).1.1)/\True/\True/\True/\True/\True/\True/\True/\True/\(1=1/\1=1/\lsn=lsn/\True)/\(1=1/\1=1/\(0=0/\0=0)/\True)/\(1=1/\1=1/\tx=tx/\True)/\(1=1/\1=1/\true=(M4 k lsn 61 e v from_).2/\True)/\wT (x.v) ((M4 k lsn 61 e v from_).1.2) x.e (M4 k lsn 61 e v from_).1.1)) ⟨⟨⟨e,v,from_,61,hU,by omega,rfl⟩,⟨Z7,rfl,⟨rfl,Z7,Z7,Z7,U6⟩,trivial⟩,⟨rfl,rfl,Z7,Z7,rfl,Z7,rfl,Z7,rfl,Z7,rfl,rfl,Z7,Z7,Z7,Z9⟩,trivial,trivial,trivial,trivial,trivial,trivial,trivial,trivial,⟨rfl,rfl,Z9⟩,⟨rfl,rfl,U6⟩,⟨rfl,rfl,Z9⟩,⟨rfl,rfl,Z9⟩,Z8,Z8,Z8,Z8,S0,Z8,Z8,X8⟩,λx=> ?_⟩
 obtain⟨e',v',a,f,h,hf,heq⟩:=x;dsimp only;have h60:=h.u.rm;have har:=h.ar;refine⟨λhc=> ?_,λhc=> ?_⟩
 ·have h1:1<=a:=by have:=E9 hc;omega
  obtain⟨hr,hrl⟩:=h.u.si.logP.at h1 har.2;obtain⟨p1,p2,p3,p4⟩:=h.u.si.logP.prev h1 har.2;rw[E6];refine⟨Z4 (by omega),⟨by omega,by omega⟩,by unfold Lt;omega,λh3=> ?_,λh3=> ?_⟩
  ·have h3:(Y4 e'.s.log a).k=3:=beq_iff_eq.1 h3;exact⟨⟨e',v',(Y4 e'.s.log a).n,f-1,b70 h h1 h3,by omega,(c1h (by omega) h3 (by omega)).trans heq⟩,⟨⟨Z7,rfl,⟨rfl,Z7,Z7,Z7,U6⟩,trivial⟩,⟨rfl,rfl,Z7,Z7,rfl,Z7,rfl,Z7,rfl,Z7,rfl,rfl,Z7,Z7,Z7,Z9⟩,trivial,trivial,trivial,trivial,trivial,trivial,trivial,trivial,⟨rfl,rfl,Z9⟩,⟨rfl,rfl,U6⟩,⟨rfl,rfl,Z9⟩,⟨rfl,rfl,Z9⟩,Z8,Z8,Z8,Z8,S0,Z8,Z8,X8⟩,by unfold Lt;dsimp only;omega⟩
  ·have h3:(Y4 e'.s.log a).k≠3:=λe=>by
    have h3:((Y4 e'.s.log a).k==3)=false:=h3;rw[e] at h3;cases h3
   refine⟨(e',Y4 e'.s.log a,lsn,tx,k,v'),λh2=>⟨⟨⟨rfl,rfl,rfl,rfl,rfl,rfl,rfl,rfl,rfl,Z9⟩,Z7,Z7,Z7,U6⟩,⟨Z8,⟨rfl,rfl,U6⟩,⟨rfl,rfl,Z7,Z7,rfl,Z7,rfl,Z7,rfl,Z7,rfl,rfl,Z7,Z7,Z7,Z9⟩,Z8,Z8,Z8,Z8,S0,Z8,Z8,Z8,Z8,X8⟩,λ_=> ?_⟩,λh2=>⟨λhq=> ?_,λhq=> ?_⟩,λh2=>⟨λhq=> ?_,λhq=> ?_⟩⟩
   ·have h2:(Y4 e'.s.log a).k=2:=beq_iff_eq.1 h2;obtain⟨hR,hA,_⟩:=a5e h.u h1 har.2 h2;exact⟨(a49 h.u hR).1,hA⟩
   ·have h2:(Y4 e'.s.log a).k=2:=beq_iff_eq.1 h2;by_cases ht:a<=lsn
    ·have e0:w6 e' k (Y4 e'.s.log a) lsn v'=((e',v'),true,false):=if_pos (by omega)
     dsimp only;rw[e0,←heq,vD ht];exact⟨A8,⟨rfl,rfl,Z7,Z7,rfl,Z7,rfl,Z7,rfl,Z7,rfl,rfl,Z7,Z7,Z7,Z9⟩,trivial,trivial,trivial,trivial,trivial,trivial,trivial,trivial,⟨rfl,rfl,Z9⟩,⟨rfl,rfl,U6⟩,⟨rfl,rfl,Z9⟩,⟨rfl,rfl,Z9⟩,Z8,Z8,Z8,Z8,S0,Z8,Z8,X8⟩
    ·have e0:w6 e' k (Y4 e'.s.log a) lsn v'=(((H3 e' k (Y4 e'.s.log a)).1,jI e' k (Y4 e'.s.log a) v'),(H3 e' k (Y4 e'.s.log a)).2,(H3 e' k (Y4 e'.s.log a)).2):=if_neg (by omega)
     have hu:(H3 e' k (Y4 e'.s.log a)).2=false:=by
      have hq:((Y4 e'.s.log a).k==2&& !(w6 e' k (Y4 e'.s.log a) lsn v').2.2)=true:=hq;rw[e0,h2] at hq
      simpa using hq
     dsimp only;rw[e0,←heq,a2n ht (by omega) h2 hu]
     exact⟨A8,⟨rfl,rfl,Z7,Z7,rfl,Z7,rfl,Z7,rfl,Z7,rfl,rfl,Z7,Z7,Z7,Z9⟩,trivial,trivial,trivial,trivial,trivial,trivial,trivial,trivial,⟨rfl,rfl,Z9⟩,⟨rfl,rfl,U6⟩,⟨rfl,rfl,Z9⟩,⟨rfl,rfl,hu,trivial⟩,Z8,Z8,Z8,Z8,S0,Z8,Z8,X8⟩
   ·have h2:(Y4 e'.s.log a).k=2:=beq_iff_eq.1 h2;have hq:((Y4 e'.s.log a).k==2&& !(w6 e' k (Y4 e'.s.log a) lsn v').2.2)=false:=hq;by_cases ht:a<=lsn
    ·have e0:w6 e' k (Y4 e'.s.log a) lsn v'=((e',v'),true,false):=if_pos (by omega)
     rw[e0,h2] at hq;cases hq
    ·have e0:w6 e' k (Y4 e'.s.log a) lsn v'=(((H3 e' k (Y4 e'.s.log a)).1,jI e' k (Y4 e'.s.log a) v'),(H3 e' k (Y4 e'.s.log a)).2,(H3 e' k (Y4 e'.s.log a)).2):=if_neg (by omega)
     have hu:(H3 e' k (Y4 e'.s.log a)).2=true:=by
      rw[e0,h2] at hq
      simpa using hq
     dsimp only;rw[e0];exact⟨⟨(H3 e' k (Y4 e'.s.log a)).1,jI e' k (Y4 e'.s.log a) v',(Y4 e'.s.log a).p,f-1,a3N h h1 h2 hu,by omega,(a3S ht (by omega) h2 hu).symm.trans heq⟩,⟨⟨Z7,rfl,⟨rfl,Z7,Z7,Z7,U6⟩,trivial⟩,⟨rfl,rfl,Z7,Z7,rfl,Z7,rfl,Z7,rfl,Z7,rfl,rfl,Z7,Z7,Z7,Z9⟩,trivial,trivial,trivial,trivial,trivial,trivial,trivial,trivial,⟨rfl,rfl,Z9⟩,⟨rfl,rfl,U6⟩,⟨rfl,rfl,Z9⟩,⟨rfl,rfl,hu,trivial⟩,Z8,Z8,Z8,Z8,S0,Z8,Z8,X8⟩,by unfold Lt;dsimp only;omega⟩
   ·have h2:((Y4 e'.s.log a).k==2)=true->False:=h2;have hq:((Y4 e'.s.log a).k==2&& !(w6 e' k (Y4 e'.s.log a) lsn v').2.2)=true:=hq;simp only[I3] at hq;exact absurd hq.1 h2
   ·have h2:(Y4 e'.s.log a).k≠2:=λe=>h2 (beq_iff_eq.2 e)
    exact⟨⟨e',v',(Y4 e'.s.log a).p,f-1,b88 h h1 h3,by omega,(c03 (by omega) h3 h2 (by omega)).trans heq⟩,⟨⟨Z7,rfl,⟨rfl,Z7,Z7,Z7,U6⟩,trivial⟩,⟨rfl,rfl,Z7,Z7,rfl,Z7,rfl,Z7,rfl,Z7,rfl,rfl,Z7,Z7,Z7,Z9⟩,trivial,trivial,trivial,trivial,trivial,trivial,trivial,trivial,⟨rfl,rfl,Z9⟩,⟨rfl,rfl,U6⟩,⟨rfl,rfl,Z9⟩,⟨rfl,rfl,Z9⟩,Z8,Z8,Z8,Z8,S0,Z8,Z8,X8⟩,by unfold Lt;dsimp only;omega⟩
 ·have ha:a<=lsn:=by have:=yG hc;omega
  rw[←heq,vD ha];exact⟨A8,⟨rfl,rfl,Z7,Z7,rfl,Z7,rfl,Z7,rfl,Z7,rfl,rfl,Z7,Z7,Z7,Z9⟩,trivial,trivial,trivial,trivial,trivial,trivial,trivial,trivial,⟨rfl,rfl,Z9⟩,⟨rfl,rfl,U6⟩,⟨rfl,rfl,Z9⟩,⟨rfl,rfl,Z9⟩,Z8,Z8,Z8,Z8,S0,Z8,Z8,X8⟩
end Go.Proofs.YtokaojbaacnngaaGreat

namespace Go.Proofs.YtokaojbaacnngaaGreat
set_option maxRecDepth 100000
open Go.SS

noncomputable def T1(e:Eng)(k:Nat)(lsn:Int):(Eng×Nat)×Bool:=M4 k lsn 61 e 0 (e.txs.getD k default).last
noncomputable def O8(e:Eng)(k:Nat)(lsn:Int):(Eng×Nat)×Int:=if(T1 e k lsn).2=true then((T1 e k lsn).1,0) else((a3V (T1 e k lsn).1.1,0),15)
theorem a6A{e:Eng}{k:Nat}{tx lsn:Int}(hU:UI e k tx (e.txs.getD k default).last)(h0:0<=lsn):b5n (T1 e k lsn) k tx:=by
 have:=hU.ar;have:=hU.u.rm;exact a5C h0 61 e 0 _ (by omega) hU
theorem iV{e:Eng}{k:Nat}{lsn:Int}(h:(T1 e k lsn).2=true):O8 e k lsn=((T1 e k lsn).1,0):=if_pos h
theorem gK{e:Eng}{k:Nat}{lsn:Int}(h:(T1 e k lsn).2=false):O8 e k lsn=((a3V (T1 e k lsn).1.1,0),15):=if_neg (by rw[h];simp)
theorem b1b{e:Eng}{k:Nat}{lsn:Int}(h:(O8 e k lsn).2=0):(T1 e k lsn).2=true:=by
 cases hu:(T1 e k lsn).2 with
 |true=>rfl
 |false=>rw[gK hu] at h;cases h
noncomputable def b9K:Con:=.reff ⟨Eng×Int×Int×Nat,λx=>[.ref 0 0 0,.int .i64 x.2.1,.int .i64 x.2.2.1],λx=>x.1.bx 0,λx=>.int .i64 (O8 x.1 x.2.2.2 x.2.2.1).2,λx=>(O8 x.1 x.2.2.2 x.2.2.1).1.1.nx (O8 x.1 x.2.2.2 x.2.2.1).1.2,λx=>UI x.1 x.2.2.2 x.2.1 (x.1.txs.getD x.2.2.2 default).last/\0<=x.2.2.1⟩
theorem b4Q:GK 123 b9K:=gk Tryz.func123<|by
 rintro⟨e,tx,lsn,k⟩ ⟨hU,h0⟩;dsimp only at hU h0;have ha:=hU.u.at_;have hk:=hU.u.lt;have ht:=hU.u.t10;have hR:=a6A hU h0;refine D2 (gC uN (gC b4x (gC b4q gN))) Tryz.func123 Z0 [[.box 0,.arr 1,.arr 2,.arr 3,.arr 4,.arr 5,.arr 6,.arr 7,.arr 8,.cel 0 0,.cel 0 1,.cel 0 3,.cel 0 5,.cel 0 7,.cel 0 10,.cel 0 11,.cel 0 12]] (α:=∃(x:(Eng×Int)),((LeG e)/\((rG e x.1)/\tx=x.2/\True)/\N3 x.1.txs.length)/\W2 (U4 x.1.txs x.2) e.txs.length/\Lt (0+(U4 x.1.txs x.2).toNat) e.txs.length/\∃(x_1:(Eng×Int×Int×Int×Nat×Nat)),(((0=0/\0=0)/\(e.txs.getD (0+(U4 x.1.txs x.2).toNat) default).last=x_1.2.1/\(Fn.func 194=Fn.func 194/\(0=0/\0=0)/\(0=0/\0=0)/\(0=0/\0=0)/\(0=0/\0=0)/\True)/\True)/\((1=1/\1=1/\yL e x_1.1)/\(Y6 Z5 e.s.d.sec x_1.1.s.d.sec)/\(Y6 Z3 e.s.d.cache x_1.1.s.d.cache)/\(Y6 Y9 e.s.d.keep x_1.1.s.d.keep)/\(Y6 Y7 e.s.log x_1.1.s.log)/\(0=x_1.2.2.2.2.2/\e.s.fr.length=x_1.1.s.fr.length/\V0 e.s.fr.length (Y8 e.s.fr) (Y8 x_1.1.s.fr))/\(Y6 X5 e.txs x_1.1.txs)/\(Y6 Y5 e.lk.held x_1.1.lk.held)/\(Y6 X6 e.lk.waits x_1.1.lk.waits)/\(1=1/\Z6 1 (λ(x:Nat)=>[T.int .i64 lsn]) λ(x:Nat)=>[T.int .i64 x_1.2.2.1])/\(1=1/\1=1/\(0=0/\0=0)/\True)/\(1=1/\Z6 1 (λ(x:Nat)=>[T.int .i64 tx]) λ(x:Nat)=>[T.int .i64 x_1.2.2.2.1])/\(1=1/\Z6 1 (setRow (λ(x:Nat)=>[T.bool false]) 0 0 [T.bool true]) λ(x:Nat)=>[T.bool true])/\True)/\UI x_1.1 x_1.2.2.2.2.1 x_1.2.2.2.1 x_1.2.1/\(0:Int)<=x_1.2.2.1)/\((!(M4 x_1.2.2.2.2.1 x_1.2.2.1 61 x_1.1 x_1.2.2.2.2.2 x_1.2.1).2)=true->∃(x:(Eng×Nat)),(((0=0/\0=0)/\True)/\((1=1/\1=1/\yL (M4 x_1.2.2.2.2.1 x_1.2.2.1 61 x_1.1 x_1.2.2.2.2.2 x_1.2.1).1.1 x.1)/\wT ((M4 x_1.2.2.2.2.1 x_1.2.2.1 61 x_1.1 x_1.2.2.2.2.2 x_1.2.1).1.2) (x.2) (M4 x_1.2.2.2.2.1 x_1.2.2.1 61 x_1.1 x_1.2.2.2.2.2 x_1.2.1).1.1 x.1)/\B9 x.1.s.d)/\((15:Int)=(O8 e k lsn).2/\True)/\(1=1/\1=1/\(0=0/\x.1.s.d.sec.length=(O8 e k lsn).1.1.s.d.sec.length)/\(0=0/\x.1.s.d.cache.length=(O8 e k lsn).1.1.s.d.cache.length)/\x.1.s.d.armed=(O8 e k lsn).1.1.s.d.armed/\(0=0/\x.1.s.d.keep.length=(O8 e k lsn).1.1.s.d.keep.length)/\x.1.s.ep=(O8 e k lsn).1.1.s.ep/\(0=0/\(u6 x.1.s.d (vJ x.1.s.d x.1.s.ep)).length=(O8 e k lsn).1.1.s.log.length)/\(↑(vJ x.1.s.d x.1.s.ep):Int)=(O8 e k lsn).1.1.s.sure/\(0=0/\0=(O8 e k lsn).1.1.s.fr.length)/\(0:Int)=(O8 e k lsn).1.1.s.hand/\false=(O8 e k lsn).1.1.up/\(0=0/\0=(O8 e k lsn).1.1.txs.length)/\(0=0/\0=(O8 e k lsn).1.1.lk.held.length)/\(0=0/\0=(O8 e k lsn).1.1.lk.waits.length)/\x.1.next=(O8 e k lsn).1.1.next/\True)/\True/\True/\True/\True/\True/\True/\True/\True/\(Y6 Z5 x.1.s.d.sec (O8 e k lsn).1.1.s.d.sec)/\(Y6 Z3 x.1.s.d.cache (O8 e k lsn).1.1.s.d.cache)/\(Y6 Y9 x.1.s.d.keep (O8 e k lsn).1.1.s.d.keep)/\(Y6 Y7 (u6 x.1.s.d (vJ x.1.s.d x.1.s.ep)) (O8 e k lsn).1.1.s.log)/\(0=(O8 e k lsn).1.2/\0=(O8 e k lsn).1.1.s.fr.length/\V0 0 (Y8 []) (Y8 (O8 e k lsn).1.1.s.fr))/\(0=(O8 e k lsn).1.1.txs.length/\Z6 0 (X5 []) (X5 (O8 e k lsn).1.1.txs))/\(0=(O8 e k lsn).1.1.lk.held.length/\Z6 0 (Y5 []) (Y5 (O8 e k lsn).1.1.lk.held))/\(0=(O8 e k lsn).1.1.lk.waits.length/\Z6 0 (X6 []) (X6 (O8 e k lsn).1.1.lk.waits))/\True)/\((!(M4 x_1.2.2.2.2.1 x_1.2.2.1 61 x_1.1 x_1.2.2.2.2.2 x_1.2.1).2)=false->((0:Int)=(O8 e k lsn).2/\True)/\(1=1/\1=1/\yL (M4 x_1.2.2.2.2.1 x_1.2.2.1 61 x_1.1 x_1.2.2.2.2.2 x_1.2.1).1.1 (O8 e k lsn).1.1)/\True/\True/\True/\True/\True/\True/\True/\True/\wT ((M4 x_1.2.2.2.2.1 x_1.2.2.1 61 x_1.1 x_1.2.2.2.2.2 x_1.2.1).1.2) ((O8 e k lsn).1.2) (M4 x_1.2.2.2.2.1 x_1.2.2.1 61 x_1.1 x_1.2.2.2.2.2 x_1.2.1).1.1 (O8 e k lsn).1.1)) ⟨(e,tx),⟨⟨U2 _,U2 _,U2 _,U2 _,U2 _,U2 _,U2 _,U2 _⟩,⟨⟨Z8,Z8,rfl,Z8,rfl,Z8,rfl,⟨rfl,λ_ _=>rfl⟩,rfl,rfl,Z8,Z8,Z8,Z9⟩,Z9⟩,by unfold N3;dsimp only;omega⟩,?_⟩
 dsimp only;rw[ha,z7,E6];refine⟨Y3 hk,hk,(e,(e.txs.getD k default).last,lsn,tx,k,0),⟨⟨Z7,rfl,⟨rfl,Z7,Z7,Z7,U6⟩,trivial⟩,⟨⟨rfl,rfl,Z7,Z7,rfl,Z7,rfl,Z7,rfl,Z7,rfl,rfl,Z7,Z7,Z7,Z9⟩,Z8,Z8,Z8,Z8,S0,Z8,Z8,Z8,Z8,⟨rfl,rfl,U6⟩,Z8,⟨rfl,λi hi=>by match i,hi with|0,_=>rfl⟩,trivial⟩,hU,h0⟩,λhy=> ?_,λhy=> ?_⟩
 ·have hy:(!(T1 e k lsn).2)=true:=hy;have hy:(T1 e k lsn).2=false:=by simpa using hy
  rw[gK hy];exact⟨((T1 e k lsn).1.1,(T1 e k lsn).1.2),⟨U6,⟨⟨rfl,rfl,Z7,Z7,rfl,Z7,rfl,Z7,rfl,Z7,rfl,rfl,Z7,Z7,Z7,Z9⟩,Z8,Z8,Z8,Z8,S0,Z8,Z8,X8⟩,(hR.2 hy).1⟩,Z9,⟨rfl,rfl,Z7,Z7,rfl,Z7,rfl,Z7,rfl,Z7,rfl,rfl,Z7,Z7,Z7,Z9⟩,trivial,trivial,trivial,trivial,trivial,trivial,trivial,trivial,Z8,Z8,Z8,Z8,S0,Z8,Z8,X8⟩
 ·have hy:(!(T1 e k lsn).2)=false:=hy;have hy:(T1 e k lsn).2=true:=by simpa using hy
  rw[iV hy];exact⟨Z9,⟨rfl,rfl,Z7,Z7,rfl,Z7,rfl,Z7,rfl,Z7,rfl,rfl,Z7,Z7,Z7,Z9⟩,trivial,trivial,trivial,trivial,trivial,trivial,trivial,trivial,Z8,Z8,Z8,Z8,S0,Z8,Z8,X8⟩
def vB:Rec:=⟨0,0,0,5,0,0,0,0,[],[]⟩
noncomputable def S7(e:Eng)(k:Nat):(Eng×Nat)×Int:=if(O8 e k 0).2=0 then((a8X (y4 (O8 e k 0).1.1 k vB) k,(O8 e k 0).1.2),0) else((O8 e k 0).1,(O8 e k 0).2)
theorem b7G{e:Eng}{k:Nat}{tx:Int}(h:UE e k tx):a9L e k vB:=by
 unfold a9L vB;dsimp only;exact⟨by omega,by omega,by omega,by omega,λ_=>rfl,λ_ _=>⟨rfl,rfl,rfl,rfl⟩,by omega,by omega,by omega,by omega,by omega,by omega,by decide,by decide,λ_=>rfl,h.lt⟩
theorem b1u{e:Eng}{k:Nat}(h:¬ (O8 e k 0).2=0):S7 e k=((O8 e k 0).1,(O8 e k 0).2):=if_neg h
theorem b3k{e:Eng}{k:Nat}(h:(O8 e k 0).2=0):S7 e k=((a8X (y4 (T1 e k 0).1.1 k vB) k,(T1 e k 0).1.2),0):=by
 unfold S7;rw[if_pos h,iV (b1b h)]
noncomputable def b7j:Con:=.reff ⟨Eng×Int×Nat,λx=>[.ref 0 0 0,.int .i64 x.2.1],λx=>x.1.bx 0,λx=>.int .i64 (S7 x.1 x.2.2).2,λx=>(S7 x.1 x.2.2).1.1.nx (S7 x.1 x.2.2).1.2,λx=>UI x.1 x.2.2 x.2.1 (x.1.txs.getD x.2.2 default).last⟩
theorem b3A:GK 66 b7j:=gk Tryz.func66<|by
 rintro⟨e,tx,k⟩ hU;dsimp only at hU;have hR:=a6A hU (Int.le_refl 0);refine D2 (gC b4Q (gC b1C (gC b6o gN))) Tryz.func66 Z0 [[.box 0,.arr 1,.arr 2,.arr 3,.arr 4,.arr 5,.arr 6,.arr 7,.arr 8,.cel 0 0,.cel 0 1,.cel 0 3,.cel 0 5,.cel 0 7,.cel 0 10,.cel 0 11,.cel 0 12]] (α:=∃(x:(Eng×Int×Int×Nat)),(((0=0/\0=0)/\tx=x.2.1/\(0:Int)=x.2.2.1/\True)/\((1=1/\1=1/\yL e x.1)/\wT (0) (0) e x.1)/\UI x.1 x.2.2.2 x.2.1 (x.1.txs.getD x.2.2.2 default).last/\(0:Int)<=x.2.2.1)/\(((O8 x.1 x.2.2.2 x.2.2.1).2 !=(0:Int))=true->((O8 x.1 x.2.2.2 x.2.2.1).2=(S7 e k).2/\True)/\(1=1/\1=1/\yL (O8 x.1 x.2.2.2 x.2.2.1).1.1 (S7 e k).1.1)/\True/\True/\True/\True/\True/\True/\True/\True/\wT ((O8 x.1 x.2.2.2 x.2.2.1).1.2) ((S7 e k).1.2) (O8 x.1 x.2.2.2 x.2.2.1).1.1 (S7 e k).1.1)/\(((O8 x.1 x.2.2.2 x.2.2.1).2 !=(0:Int))=false->∃(x_1:(Eng×Int×Rec×Nat×Nat)),(((0=0/\0=0)/\tx=x_1.2.1/\((0:Int)=x_1.2.2.1.e/\(0:Int)=x_1.2.2.1.l/\(0:Int)=x_1.2.2.1.t/\(5:Int)=x_1.2.2.1.k/\(0:Int)=x_1.2.2.1.p/\(0:Int)=x_1.2.2.1.n/\(0:Int)=x_1.2.2.1.g/\(0:Int)=x_1.2.2.1.s/\[]=x_1.2.2.1.b/\[]=x_1.2.2.1.a/\True)/\True)/\((1=1/\1=1/\yL (O8 x.1 x.2.2.2 x.2.2.1).1.1 x_1.1)/\wT ((O8 x.1 x.2.2.2 x.2.2.1).1.2) (x_1.2.2.2.2) (O8 x.1 x.2.2.2 x.2.2.1).1.1 x_1.1)/\AddB x_1.1 x_1.2.1 x_1.2.2.2.1 x_1.2.2.1)/\∃(x:(Eng×Int×Nat×Nat)),(((0=0/\0=0)/\tx=x.2.1/\True)/\((1=1/\1=1/\(0=0/\x_1.1.s.d.sec.length=x.1.s.d.sec.length)/\(0=0/\x_1.1.s.d.cache.length=x.1.s.d.cache.length)/\x_1.1.s.d.armed=x.1.s.d.armed/\(0=0/\x_1.1.s.d.keep.length=x.1.s.d.keep.length)/\x_1.1.s.ep=x.1.s.ep/\(0=0/\(x_1.1.s.log++[J2 x_1.1.s (zC x_1.1 x_1.2.2.2.1 x_1.2.2.1)]).length=x.1.s.log.length)/\x_1.1.s.sure=x.1.s.sure/\(0=0/\x_1.1.s.fr.length=x.1.s.fr.length)/\x_1.1.s.hand=x.1.s.hand/\x_1.1.up=x.1.up/\(0=0/\(x_1.1.txs.set x_1.2.2.2.1 (Txn.mk (x_1.1.txs.getD x_1.2.2.2.1 default).id ((x_1.1.s.log.length:Int)+(1:Int)))).length=x.1.txs.length)/\(0=0/\x_1.1.lk.held.length=x.1.lk.held.length)/\(0=0/\x_1.1.lk.waits.length=x.1.lk.waits.length)/\x_1.1.next=x.1.next/\True)/\(Y6 Z5 x_1.1.s.d.sec x.1.s.d.sec)/\(Y6 Z3 x_1.1.s.d.cache x.1.s.d.cache)/\(Y6 Y9 x_1.1.s.d.keep x.1.s.d.keep)/\(Y6 Y7 (x_1.1.s.log++[J2 x_1.1.s (zC x_1.1 x_1.2.2.2.1 x_1.2.2.1)]) x.1.s.log)/\(x_1.2.2.2.2=x.2.2.2/\x_1.1.s.fr.length=x.1.s.fr.length/\V0 x_1.1.s.fr.length (Y8 x_1.1.s.fr) (Y8 x.1.s.fr))/\(Y6 X5 (x_1.1.txs.set x_1.2.2.2.1 (Txn.mk (x_1.1.txs.getD x_1.2.2.2.1 default).id ((x_1.1.s.log.length:Int)+(1:Int)))) x.1.txs)/\(Y6 Y5 x_1.1.lk.held x.1.lk.held)/\(Y6 X6 x_1.1.lk.waits x.1.lk.waits)/\True)/\OvB x.1 x.2.1 x.2.2.1)/\((0:Int)=(S7 e k).2/\True)/\(1=1/\1=1/\(0=0/\x.1.s.d.sec.length=(S7 e k).1.1.s.d.sec.length)/\(0=0/\x.1.s.d.cache.length=(S7 e k).1.1.s.d.cache.length)/\x.1.s.d.armed=(S7 e k).1.1.s.d.armed/\(0=0/\x.1.s.d.keep.length=(S7 e k).1.1.s.d.keep.length)/\x.1.s.ep=(S7 e k).1.1.s.ep/\(0=0/\x.1.s.log.length=(S7 e k).1.1.s.log.length)/\x.1.s.sure=(S7 e k).1.1.s.sure/\(0=0/\x.1.s.fr.length=(S7 e k).1.1.s.fr.length)/\x.1.s.hand=(S7 e k).1.1.s.hand/\x.1.up=(S7 e k).1.1.up/\(0=0/\(List.take x.2.2.1 x.1.txs++List.drop (x.2.2.1+1) x.1.txs).length=(S7 e k).1.1.txs.length)/\(0=0/\(W9 (hF (x.1.txs.getD x.2.2.1 default).id) x.1.lk.held x.1.lk.held.length).length=(S7 e k).1.1.lk.held.length)/\(0=0/\(W9 (wF (x.1.txs.getD x.2.2.1 default).id) x.1.lk.waits x.1.lk.waits.length).length=(S7 e k).1.1.lk.waits.length)/\x.1.next=(S7 e k).1.1.next/\True)/\True/\True/\True/\True/\True/\True/\True/\True/\(Y6 Z5 x.1.s.d.sec (S7 e k).1.1.s.d.sec)/\(Y6 Z3 x.1.s.d.cache (S7 e k).1.1.s.d.cache)/\(Y6 Y9 x.1.s.d.keep (S7 e k).1.1.s.d.keep)/\(Y6 Y7 x.1.s.log (S7 e k).1.1.s.log)/\(x.2.2.2=(S7 e k).1.2/\x.1.s.fr.length=(S7 e k).1.1.s.fr.length/\V0 x.1.s.fr.length (Y8 x.1.s.fr) (Y8 (S7 e k).1.1.s.fr))/\(Y6 X5 (List.take x.2.2.1 x.1.txs++List.drop (x.2.2.1+1) x.1.txs) (S7 e k).1.1.txs)/\(Y6 Y5 (W9 (hF (x.1.txs.getD x.2.2.1 default).id) x.1.lk.held x.1.lk.held.length) (S7 e k).1.1.lk.held)/\(Y6 X6 (W9 (wF (x.1.txs.getD x.2.2.1 default).id) x.1.lk.waits x.1.lk.waits.length) (S7 e k).1.1.lk.waits)/\True)) ⟨(e,tx,0,k),⟨⟨Z7,rfl,Z9⟩,⟨⟨rfl,rfl,Z7,Z7,rfl,Z7,rfl,Z7,rfl,Z7,rfl,rfl,Z7,Z7,Z7,Z9⟩,Z8,Z8,Z8,Z8,S0,Z8,Z8,X8⟩,hU,Int.le_refl _⟩,λhq=> ?_,λhq=> ?_⟩
 ·have h0:¬ (O8 e k 0).2=0:=by simpa using hq
  rw[b1u h0];exact⟨Z9,⟨rfl,rfl,Z7,Z7,rfl,Z7,rfl,Z7,rfl,Z7,rfl,rfl,Z7,Z7,Z7,Z9⟩,trivial,trivial,trivial,trivial,trivial,trivial,trivial,trivial,Z8,Z8,Z8,Z8,S0,Z8,Z8,X8⟩
 ·have h0:(O8 e k 0).2=0:=by simpa using hq
  have hu:=b1b h0;have hE:=hR.1 hu;have hA:=(a49 hE (b7G hE)).1;have hlk:=hE.lk;have h10:=hE.t10;rw[b3k h0];dsimp only;rw[iV hu];have hlen:(y4 (T1 e k 0).1.1 k vB).txs.length=(T1 e k 0).1.1.txs.length:=o5;exact⟨((T1 e k 0).1.1,tx,vB,k,(T1 e k 0).1.2),⟨⟨Z7,rfl,⟨rfl,rfl,rfl,rfl,rfl,rfl,rfl,rfl,rfl,Z9⟩,trivial⟩,⟨⟨rfl,rfl,Z7,Z7,rfl,Z7,rfl,Z7,rfl,Z7,rfl,rfl,Z7,Z7,Z7,Z9⟩,Z8,Z8,Z8,Z8,S0,Z8,Z8,X8⟩,hA⟩,(y4 (T1 e k 0).1.1 k vB,tx,k,(T1 e k 0).1.2),⟨⟨Z7,Z9⟩,⟨⟨rfl,rfl,Z7,Z7,rfl,Z7,rfl,Z7,rfl,Z7,rfl,rfl,Z7,Z7,Z7,Z9⟩,Z8,Z8,Z8,Z8,S0,Z8,Z8,X8⟩,gG hE.lt hE.at_,by dsimp only;rw[hlen];exact hE.lt,(a6x hE.lt).trans hE.id,by dsimp only;omega,by show(T1 e k 0).1.1.lk.held.length<=_;omega,by show(T1 e k 0).1.1.lk.waits.length<=_;omega⟩,⟨rfl,trivial⟩,⟨rfl,rfl,⟨rfl,rfl⟩,⟨rfl,rfl⟩,rfl,⟨rfl,rfl⟩,rfl,⟨rfl,rfl⟩,rfl,⟨rfl,rfl⟩,rfl,rfl,⟨rfl,rfl⟩,⟨rfl,rfl⟩,⟨rfl,rfl⟩,rfl,trivial⟩,trivial,trivial,trivial,trivial,trivial,trivial,trivial,trivial,⟨rfl,Z2 _ _⟩,⟨rfl,Z2 _ _⟩,⟨rfl,Z2 _ _⟩,⟨rfl,Z2 _ _⟩,⟨rfl,rfl,R9 _⟩,⟨rfl,Z2 _ _⟩,⟨rfl,Z2 _ _⟩,⟨rfl,Z2 _ _⟩,trivial⟩
noncomputable def vW(e:Eng)(tx:Int):(Eng×Nat)×Int:=if(I8 e tx).2=0 then S7 e (I8 e tx).1.toNat else((e,0),(I8 e tx).2)
noncomputable def W4(e:Eng)(tx:Int):Eng×Int:=if K8 e=true then((vW e tx).1.1,(vW e tx).2) else(a2w,1)
theorem c0e{e:Eng}{k:Nat}{tx:Int}(h:UE e k tx):M8 e:=by
 have h1:=h.t10;have h2:=h.lk;exact⟨h.si.iv.sm,by omega,by omega,by omega⟩
theorem b9L{e:Eng}{k:Nat}{tx lsn:Int}(hR:b5n (T1 e k lsn) k tx):M8 (O8 e k lsn).1.1:=by
 cases hu:(T1 e k lsn).2 with
 |true=>rw[iV hu];exact c0e (hR.1 hu)
 |false=>rw[gK hu];exact b8n (hR.2 hu).1
theorem b89{e:Eng}{k:Nat}{tx:Int}(hR:b5n (T1 e k 0) k tx):M8 (S7 e k).1.1:=by
 by_cases h0:(O8 e k 0).2=0
 ·have hE:=hR.1 (b1b h0);have hA:=a49 hE (b7G hE);have hS:=b2w hE.si hA.2 hE.rm;have h10:=hE.t10;have hlk:=hE.lk;rw[b3k h0];have b1:=wR (hF ((y4 (T1 e k 0).1.1 k vB).txs.getD k default).id) (T1 e k 0).1.1.lk.held (T1 e k 0).1.1.lk.held.length;have b2:=wR (wF ((y4 (T1 e k 0).1.1 k vB).txs.getD k default).id) (T1 e k 0).1.1.lk.waits (T1 e k 0).1.1.lk.waits.length;have hlen:(y4 (T1 e k 0).1.1 k vB).txs.length=(T1 e k 0).1.1.txs.length:=o5;refine⟨hS.iv.sm,?_,?_,?_⟩
  ·show(List.take k (y4 (T1 e k 0).1.1 k vB).txs++List.drop (k+1) (y4 (T1 e k 0).1.1 k vB).txs).length<=_;rw[B8,List.length_take,List.length_drop,hlen];omega
  ·show(W9 _ (T1 e k 0).1.1.lk.held (T1 e k 0).1.1.lk.held.length).length<=_;omega
  ·show(W9 _ (T1 e k 0).1.1.lk.waits (T1 e k 0).1.1.lk.waits.length).length<=_;omega
 ·rw[b1u h0];exact b9L hR
theorem b3P{e:Eng}{tx:Int}(h:¬ (I8 e tx).2=0):vW e tx=((e,0),(I8 e tx).2):=if_neg h
theorem b2a{e:Eng}{tx:Int}{k:Nat}(h:(I8 e tx).2=0)(hk:(I8 e tx).1=k):vW e tx=S7 e k:=by
 unfold vW;rw[if_pos h,hk,z7]
theorem a38{e:Eng}{tx:Int}(h:M8 e)(ho:K8 e=true):M8 (vW e tx).1.1:=by
 by_cases h0:(I8 e tx).2=0
 ·obtain⟨hu,k,e1,hk,hi,ha⟩:=a3b h0;rw[b2a h0 e1];exact b89 (a6A (b2z ho h hu ha hk hi) (Int.le_refl 0))
 ·rw[b3P h0];exact h
theorem b8z:M8 a2w:=⟨⟨⟨S2 _,S2 _,S2 _⟩,S2 _,S2 _,λi hi=>absurd hi (F3 _)⟩,S2 _,S2 _,S2 _⟩
theorem ab1{e:Eng}{tx:Int}(h:(!K8 e)=true):W4 e tx=(a2w,1):=by unfold W4;rw[if_neg (by simpa using h)]
theorem ab2{e:Eng}{tx:Int}(h:(!K8 e)=false):W4 e tx=((vW e tx).1.1,(vW e tx).2):=by unfold W4;rw[if_pos (by simpa using h)]
theorem b6n{e:Eng}{tx:Int}(h:M8 e):M8 (W4 e tx).1:=by
 unfold W4;split
 ·rename_i ho;exact a38 h ho
 ·exact b8z
noncomputable def cJ:Rle:=⟨Eng×Int,λx=>[.agg x.1.ts,.int .i64 x.2],λ_=>[],λx=>.tup [.agg ((W4 x.1 x.2).1.tm 0),.int .i64 (W4 x.1 x.2).2],λx=>(W4 x.1 x.2).1.hp 0,λx=>eR x.1/\M8 x.1⟩
noncomputable def a9U:Con:=.rmk cJ
theorem a9y:GK 31 a9U:=gk Tryz.func31<|by
 rintro⟨e,tx⟩ ⟨h1,h2⟩;dsimp only at h1 h2;refine⟨D2 (gC fJ (gC b27 (gC a7b (gC b3A gN)))) Tryz.func31 Z0 [[.nilS 0 [0,0] 0 1,.nilS 0 [0,1] 0 2,.nilS 0 [0,3] 0 1,.nilS 0 [0,5] 0 10,.nilS 0 [0,7] 0 5,.nilS 0 [0,10] 0 2,.nilS 0 [0,11] 0 4,.nilS 0 [0,12] 0 2,.fav 0 [0,7],.vl 0 [0,0],.vl 0 [0,1],.vl 0 [0,3],.vl 0 [0,5],.vl 0 [0,7],.vl 0 [0,10],.vl 0 [0,11],.vl 0 [0,12]],[.vl 0 [0,0],.vl 0 [0,1],.vl 0 [0,3],.vl 0 [0,5],.vl 0 [0,7],.vl 0 [0,10],.vl 0 [0,11],.vl 0 [0,12]]] (α:=∃(x:vV.ι),(((y5 e x)/\True)/\eR x)/\((!K8 x)=true->((((0=0/\0=(W4 e tx).1.s.d.sec.length)/\(0=0/\0=(W4 e tx).1.s.d.cache.length)/\false=(W4 e tx).1.s.d.armed/\(0=0/\0=(W4 e tx).1.s.d.keep.length)/\(0:Int)=(W4 e tx).1.s.ep/\(0=0/\0=(W4 e tx).1.s.log.length)/\(0:Int)=(W4 e tx).1.s.sure/\(0=0/\0=(W4 e tx).1.s.fr.length)/\(0:Int)=(W4 e tx).1.s.hand/\false=(W4 e tx).1.up/\(0=0/\0=(W4 e tx).1.txs.length)/\(0=0/\0=(W4 e tx).1.lk.held.length)/\(0=0/\0=(W4 e tx).1.lk.waits.length)/\(0:Int)=(W4 e tx).1.next/\True)/\(1:Int)=(W4 e tx).2/\True)/\True)/\(0=(W4 e tx).1.s.d.sec.length/\Z6 0 (λ(x:Nat)=>[]) (Z5 (W4 e tx).1.s.d.sec))/\(0=(W4 e tx).1.s.d.cache.length/\Z6 0 (λ(x:Nat)=>[]) (Z3 (W4 e tx).1.s.d.cache))/\(0=(W4 e tx).1.s.d.keep.length/\Z6 0 (λ(x:Nat)=>[]) (Y9 (W4 e tx).1.s.d.keep))/\(0=(W4 e tx).1.s.log.length/\Z6 0 (λ(x:Nat)=>[]) (Y7 (W4 e tx).1.s.log))/\(0=0/\0=(W4 e tx).1.s.fr.length/\V0 0 (λ(x:Nat)=>[]) (Y8 (W4 e tx).1.s.fr))/\(0=(W4 e tx).1.txs.length/\Z6 0 (λ(x:Nat)=>[]) (X5 (W4 e tx).1.txs))/\(0=(W4 e tx).1.lk.held.length/\Z6 0 (λ(x:Nat)=>[]) (Y5 (W4 e tx).1.lk.held))/\(0=(W4 e tx).1.lk.waits.length/\Z6 0 (λ(x:Nat)=>[]) (X6 (W4 e tx).1.lk.waits))/\True)/\((!K8 x)=false->∃(x:Eng),(((y5 e x)/\True)/\M8 x)/\∃(x_1:(Eng×Int)),((LeG x)/\((rG x x_1.1)/\tx=x_1.2/\True)/\N3 x_1.1.txs.length)/\(((I8 x_1.1 x_1.2).2==(0:Int))=true->∃(x_2:(Eng×Int×Nat)),(((0=0/\0=0)/\tx=x_2.2.1/\True)/\((1=1/\1=1/\yL x x_2.1)/\wT (0) (0) x x_2.1)/\UI x_2.1 x_2.2.2 x_2.2.1 (x_2.1.txs.getD x_2.2.2 default).last)/\∃(x:Eng),((LeG (S7 x_2.1 x_2.2.2).1.1)/\((rG (S7 x_2.1 x_2.2.2).1.1 x)/\True)/\M8 x)/\(((yL x (W4 e tx).1)/\(S7 x_2.1 x_2.2.2).2=(W4 e tx).2/\True)/\True)/\wT (0) (0) x (W4 e tx).1)/\(((I8 x_1.1 x_1.2).2==(0:Int))=false->∃(x_2:Eng),((LeG x)/\((rG x x_2)/\True)/\M8 x_2)/\(((yL x_2 (W4 e tx).1)/\(I8 x_1.1 x_1.2).2=(W4 e tx).2/\True)/\True)/\wT (0) (0) x_2 (W4 e tx).1))) ⟨e,⟨⟨B5 _,trivial⟩,h1⟩,λhq=> ?_,λhq=> ?_⟩,rfl,qM _ 0⟩
 ·rw[ab1 hq];exact⟨⟨⟨⟨Z7,Z7,rfl,Z7,rfl,Z7,rfl,Z7,rfl,rfl,Z7,Z7,Z7,Z9⟩,Z9⟩,trivial⟩,⟨rfl,U5⟩,⟨rfl,U5⟩,⟨rfl,U5⟩,⟨rfl,U5⟩,⟨rfl,rfl,λi hi=>absurd hi (F3 _)⟩,⟨rfl,U5⟩,⟨rfl,U5⟩,⟨rfl,U5⟩,trivial⟩
 ·have ho:K8 e=true:=by simpa using hq
  have ht:=(yD (t9 ho).2.1).1;have hs:=a38 (tx:=tx) h2 ho;rw[ab2 hq];refine⟨e,⟨⟨B5 _,trivial⟩,h2⟩,(e,tx),⟨⟨U2 _,U2 _,U2 _,U2 _,U2 _,U2 _,U2 _,U2 _⟩,⟨⟨Z8,Z8,rfl,Z8,rfl,Z8,rfl,⟨rfl,λ_ _=>rfl⟩,rfl,rfl,Z8,Z8,Z8,Z9⟩,Z9⟩,by unfold N3;dsimp only;omega⟩,λhk=> ?_,λhk=> ?_⟩
  ·have h0:(I8 e tx).2=0:=by simpa using hk
   obtain⟨hu,k,e1,hk,hi,ha⟩:=a3b h0;rw[b2a h0 e1] at hs ⊢;exact⟨(e,tx,k),⟨⟨Z7,Z9⟩,⟨⟨rfl,rfl,Z7,Z7,rfl,Z7,rfl,Z7,rfl,Z7,rfl,rfl,Z7,Z7,Z7,Z9⟩,Z8,Z8,Z8,Z8,S0,Z8,Z8,X8⟩,b2z ho h2 hu ha hk hi⟩,(S7 e k).1.1,⟨⟨U2 _,U2 _,U2 _,U2 _,U2 _,U2 _,U2 _,U2 _⟩,⟨⟨Z8,Z8,rfl,Z8,rfl,Z8,rfl,⟨rfl,λ_ _=>rfl⟩,rfl,rfl,Z8,Z8,Z8,Z9⟩,trivial⟩,hs⟩,⟨⟨⟨Z7,Z7,rfl,Z7,rfl,Z7,rfl,Z7,rfl,rfl,Z7,Z7,Z7,Z9⟩,Z9⟩,trivial⟩,Z8,Z8,Z8,Z8,S0,Z8,Z8,X8⟩
  ·have h0:¬ (I8 e tx).2=0:=by simpa using hk
   rw[b3P h0];exact⟨e,⟨⟨U2 _,U2 _,U2 _,U2 _,U2 _,U2 _,U2 _,U2 _⟩,⟨⟨Z8,Z8,rfl,Z8,rfl,Z8,rfl,⟨rfl,λ_ _=>rfl⟩,rfl,rfl,Z8,Z8,Z8,Z9⟩,trivial⟩,h2⟩,⟨⟨⟨Z7,Z7,rfl,Z7,rfl,Z7,rfl,Z7,rfl,rfl,Z7,Z7,Z7,Z9⟩,Z9⟩,trivial⟩,Z8,Z8,Z8,Z8,S0,Z8,Z8,X8⟩
end Go.Proofs.YtokaojbaacnngaaGreat

namespace Go.Proofs.YtokaojbaacnngaaGreat
set_option maxRecDepth 100000
open Go.SS

noncomputable def b9A:Con:=.rel ⟨Eng×Nat×Int×Int,λx=>[.agg x.1.ts,.int .i64 x.2.1,.int .i64 x.2.2.1],λx=>.tup [.agg (T1 x.1 x.2.1 x.2.2.1).1.1.ts,.bool (T1 x.1 x.2.1 x.2.2.1).2],λx=>UI x.1 x.2.1 x.2.2.2 (x.1.txs.getD x.2.1 default).last/\0<=x.2.2.1⟩
noncomputable def b9d(e:Eng)(k:Nat)(to tx:Int):Nat->Ann
 |0=>.one (UdI (T1 e k to) k tx to) (λx=>⟨[(1,.int .i64 k),(2,.int .i64 to),(3,.ref 0 0 0),(6,.ref 1 0 0),(7,.bool false),(8,.int .i64 x.a)],[uZ x.e,uZ a2w]⟩) (λx=>x.f) [.box 0,.box 1] [.box 0,.box 1] (λ_=>Z0)
 |_=>.none
theorem b4h(e:Eng)(k:Nat)(r:Rec):(y4 e k (b9 r)).s.log.getD (((e.s.log.length+1:Nat):Int)-1).toNat default=kD e k r:=by
 have e1:(((e.s.log.length+1:Nat):Int)-1).toNat=e.s.log.length:=by omega
 rw[e1,N9]
 show((e.s.log++[kD e k r])[e.s.log.length]?).getD default=_;rw[List.getElem?_concat_length]
 rfl
theorem b47:GK 120 b9A:=gk Tryz.func120<|by
 rintro⟨e,k,to,tx⟩ ⟨hU,h0⟩;dsimp only at hU h0;have har:=hU.ar;have hrm:=hU.u.rm;refine S3 (gC a5u (gC a0b (gC k6 gN))) Tryz.func120 (b9d e k to tx) (α:=W2 (k:Int) e.txs.length/\(∃(x:UdI (T1 e k to) k tx to),((k:Int)=(k:Int)/\to=to/\(0=0/\0=0)/\(0=0/\0=0)/\false=false/\(e.txs.getD (k:Int).toNat default).last=x.a/\True)/\(1=1/\1=1/\y5 e x.e)/\(1=1/\1=1/\0=0/\0=0/\false=false/\0=0/\(0:Int)=(0:Int)/\0=0/\(0:Int)=(0:Int)/\0=0/\(0:Int)=(0:Int)/\false=false/\0=0/\0=0/\0=0/\(0:Int)=(0:Int)/\True)/\True)/\∀(x:UdI (T1 e k to) k tx to),(decide (x.a>to)=true->X2 .i64 (x.a- (1:Int))/\W2 (x.a- (1:Int)) x.e.s.log.length/\(((x.e.s.log.getD (x.a- (1:Int)).toNat default).k==(3:Int))=true->∃(y:UdI (T1 e k to) k tx to),(((k:Int)=(k:Int)/\to=to/\(0=0/\0=0)/\(0=0/\0=0)/\false=false/\(x.e.s.log.getD (x.a- (1:Int)).toNat default).n=y.a/\True)/\(1=1/\1=1/\y5 x.e y.e)/\(1=1/\1=1/\(0=0/\Z6 0 (Z5 []) (Z5 []))/\(0=0/\Z6 0 (Z3 []) (Z3 []))/\false=false/\(0=0/\Z6 0 (Y9 []) (Y9 []))/\(0:Int)=(0:Int)/\(0=0/\Z6 0 (Y7 []) (Y7 []))/\(0:Int)=(0:Int)/\(0=0/\Z6 0 (X1 []) (X1 []))/\(0:Int)=(0:Int)/\false=false/\(0=0/\Z6 0 (X5 []) (X5 []))/\(0=0/\Z6 0 (Y5 []) (Y5 []))/\(0=0/\Z6 0 (X6 []) (X6 []))/\(0:Int)=(0:Int)/\True)/\True)/\Lt y.f x.f)/\(((x.e.s.log.getD (x.a- (1:Int)).toNat default).k==(3:Int))=false->(((x.e.s.log.getD (x.a- (1:Int)).toNat default).k==(2:Int))=true->∃(x_1:(Eng×Nat×Rec)),(((y5 x.e x_1.1)/\(k:Int)=(x_1.2.1:Int)/\((0:Int)=x_1.2.2.e/\(0:Int)=x_1.2.2.l/\(0:Int)=x_1.2.2.t/\(3:Int)=x_1.2.2.k/\(0:Int)=x_1.2.2.p/\(x.e.s.log.getD (x.a- (1:Int)).toNat default).p=x_1.2.2.n/\(x.e.s.log.getD (x.a- (1:Int)).toNat default).g=x_1.2.2.g/\(x.e.s.log.getD (x.a- (1:Int)).toNat default).s=x_1.2.2.s/\[]=x_1.2.2.b/\(x.e.s.log.getD (x.a- (1:Int)).toNat default).b=x_1.2.2.a/\True)/\True)/\x_1.2.1<x_1.1.txs.length/\x_1.1.txs.length<=1000/\x_1.1.s.log.length<=1000)/\∃(x_2:(Sto×Int)),((((Y6 Z5 x_1.1.s.d.sec x_2.1.d.sec)/\(Y6 Z3 x_1.1.s.d.cache x_2.1.d.cache)/\x_1.1.s.d.armed=x_2.1.d.armed/\(Y6 Y9 x_1.1.s.d.keep x_2.1.d.keep)/\x_1.1.s.ep=x_2.1.ep/\(Y6 Y7 (x_1.1.s.log++[J2 x_1.1.s (zC x_1.1 x_1.2.1 x_1.2.2)]) x_2.1.log)/\x_1.1.s.sure=x_2.1.sure/\(Y6 X1 x_1.1.s.fr x_2.1.fr)/\x_1.1.s.hand=x_2.1.hand/\True)/\(↑(x_1.1.s.log.length+1):Int)=x_2.2/\True)/\SInv x_2.1/\(1:Int)<=x_2.2/\x_2.2<=(x_2.1.log.length:Int))/\((!(U7 x_2.1 (x_2.1.log.getD (x_2.2- (1:Int)).toNat default)).2)=true->((Y6 Z5 (U7 x_2.1 (x_2.1.log.getD (x_2.2- (1:Int)).toNat default)).1.d.sec (T1 e k to).1.1.s.d.sec)/\(Y6 Z3 (U7 x_2.1 (x_2.1.log.getD (x_2.2- (1:Int)).toNat default)).1.d.cache (T1 e k to).1.1.s.d.cache)/\(U7 x_2.1 (x_2.1.log.getD (x_2.2- (1:Int)).toNat default)).1.d.armed=(T1 e k to).1.1.s.d.armed/\(Y6 Y9 (U7 x_2.1 (x_2.1.log.getD (x_2.2- (1:Int)).toNat default)).1.d.keep (T1 e k to).1.1.s.d.keep)/\(U7 x_2.1 (x_2.1.log.getD (x_2.2- (1:Int)).toNat default)).1.ep=(T1 e k to).1.1.s.ep/\(Y6 Y7 (U7 x_2.1 (x_2.1.log.getD (x_2.2- (1:Int)).toNat default)).1.log (T1 e k to).1.1.s.log)/\(U7 x_2.1 (x_2.1.log.getD (x_2.2- (1:Int)).toNat default)).1.sure=(T1 e k to).1.1.s.sure/\(Y6 X1 (U7 x_2.1 (x_2.1.log.getD (x_2.2- (1:Int)).toNat default)).1.fr (T1 e k to).1.1.s.fr)/\(U7 x_2.1 (x_2.1.log.getD (x_2.2- (1:Int)).toNat default)).1.hand=(T1 e k to).1.1.s.hand/\x_1.1.up=(T1 e k to).1.1.up/\(Y6 X5 (x_1.1.txs.set x_1.2.1 (Txn.mk (x_1.1.txs.getD x_1.2.1 default).id ((x_1.1.s.log.length:Int)+(1:Int)))) (T1 e k to).1.1.txs)/\(Y6 Y5 x_1.1.lk.held (T1 e k to).1.1.lk.held)/\(Y6 X6 x_1.1.lk.waits (T1 e k to).1.1.lk.waits)/\x_1.1.next=(T1 e k to).1.1.next/\True)/\false=(T1 e k to).2/\True)/\((!(U7 x_2.1 (x_2.1.log.getD (x_2.2- (1:Int)).toNat default)).2)=false->∃(y:UdI (T1 e k to) k tx to),(((k:Int)=(k:Int)/\to=to/\(0=0/\0=0)/\(0=0/\0=0)/\false=false/\(x.e.s.log.getD (x.a- (1:Int)).toNat default).p=y.a/\True)/\(1=1/\1=1/\(Y6 Z5 (U7 x_2.1 (x_2.1.log.getD (x_2.2- (1:Int)).toNat default)).1.d.sec y.e.s.d.sec)/\(Y6 Z3 (U7 x_2.1 (x_2.1.log.getD (x_2.2- (1:Int)).toNat default)).1.d.cache y.e.s.d.cache)/\(U7 x_2.1 (x_2.1.log.getD (x_2.2- (1:Int)).toNat default)).1.d.armed=y.e.s.d.armed/\(Y6 Y9 (U7 x_2.1 (x_2.1.log.getD (x_2.2- (1:Int)).toNat default)).1.d.keep y.e.s.d.keep)/\(U7 x_2.1 (x_2.1.log.getD (x_2.2- (1:Int)).toNat default)).1.ep=y.e.s.ep/\(Y6 Y7 (U7 x_2.1 (x_2.1.log.getD (x_2.2- (1:Int)).toNat default)).1.log y.e.s.log)/\(U7 x_2.1 (x_2.1.log.getD (x_2.2- (1:Int)).toNat default)).1.sure=y.e.s.sure/\(Y6 X1 (U7 x_2.1 (x_2.1.log.getD (x_2.2- (1:Int)).toNat default)).1.fr y.e.s.fr)/\(U7 x_2.1 (x_2.1.log.getD (x_2.2- (1:Int)).toNat default)).1.hand=y.e.s.hand/\x_1.1.up=y.e.up/\(Y6 X5 (x_1.1.txs.set x_1.2.1 (Txn.mk (x_1.1.txs.getD x_1.2.1 default).id ((x_1.1.s.log.length:Int)+(1:Int)))) y.e.txs)/\(Y6 Y5 x_1.1.lk.held y.e.lk.held)/\(Y6 X6 x_1.1.lk.waits y.e.lk.waits)/\x_1.1.next=y.e.next/\True)/\(1=1/\1=1/\(0=0/\Z6 0 (Z5 []) (Z5 []))/\(0=0/\Z6 0 (Z3 []) (Z3 []))/\false=false/\(0=0/\Z6 0 (Y9 []) (Y9 []))/\(0:Int)=(0:Int)/\(0=0/\Z6 0 (Y7 []) (Y7 []))/\(0:Int)=(0:Int)/\(0=0/\Z6 0 (X1 []) (X1 []))/\(0:Int)=(0:Int)/\false=false/\(0=0/\Z6 0 (X5 []) (X5 []))/\(0=0/\Z6 0 (Y5 []) (Y5 []))/\(0=0/\Z6 0 (X6 []) (X6 []))/\(0:Int)=(0:Int)/\True)/\True)/\Lt y.f x.f))/\(((x.e.s.log.getD (x.a- (1:Int)).toNat default).k==(2:Int))=false->∃(y:UdI (T1 e k to) k tx to),(((k:Int)=(k:Int)/\to=to/\(0=0/\0=0)/\(0=0/\0=0)/\false=false/\(x.e.s.log.getD (x.a- (1:Int)).toNat default).p=y.a/\True)/\(1=1/\1=1/\y5 x.e y.e)/\(1=1/\1=1/\(0=0/\Z6 0 (Z5 []) (Z5 []))/\(0=0/\Z6 0 (Z3 []) (Z3 []))/\false=false/\(0=0/\Z6 0 (Y9 []) (Y9 []))/\(0:Int)=(0:Int)/\(0=0/\Z6 0 (Y7 []) (Y7 []))/\(0:Int)=(0:Int)/\(0=0/\Z6 0 (X1 []) (X1 []))/\(0:Int)=(0:Int)/\false=false/\(0=0/\Z6 0 (X5 []) (X5 []))/\(0=0/\Z6 0 (Y5 []) (Y5 []))/\(0=0/\Z6 0 (X6 []) (X6 []))/\(0:Int)=(0:Int)/\True)/\True)/\Lt y.f x.f)))/\(decide (x.a>to)=false->(y5 x.e (T1 e k to).1.1)/\true=(T1 e k to).2/\True)) ⟨Y3 hU.u.lt,⟨⟨e,0,(e.txs.getD k default).last,61,hU,by omega,rfl⟩,⟨rfl,rfl,Z7,Z7,rfl,Z9⟩,⟨rfl,rfl,B5 _⟩,⟨rfl,rfl,rfl,rfl,rfl,rfl,rfl,rfl,rfl,rfl,rfl,rfl,rfl,rfl,rfl,Z9⟩,trivial⟩,λx=> ?_⟩
 obtain⟨e',v',a,f,h,hf,heq⟩:=x;dsimp only;have h60:=h.u.rm;have har:=h.ar;refine⟨λhc=> ?_,λhc=> ?_⟩
 ·have h1:1<=a:=by have:=E9 hc;omega
  have ht:¬a<=to:=by have:=E9 hc;omega
  obtain⟨p1,p2,p3,p4⟩:=h.u.si.logP.prev h1 har.2;refine⟨Z4 (by omega),⟨by omega,by omega⟩,λh3=> ?_,λh3=>⟨λh2=> ?_,λh2=> ?_⟩⟩
  ·have h3:(Y4 e'.s.log a).k=3:=beq_iff_eq.1 h3;exact⟨⟨e',v',(Y4 e'.s.log a).n,f-1,b70 h h1 h3,by omega,(a3D ht (by omega) h3).symm.trans heq⟩,⟨⟨rfl,rfl,Z7,Z7,rfl,Z9⟩,⟨rfl,rfl,B5 _⟩,⟨rfl,rfl,B5 a2w⟩,trivial⟩,by unfold Lt;dsimp only;omega⟩
  ·have h2:(Y4 e'.s.log a).k=2:=beq_iff_eq.1 h2;obtain⟨hR,hA,hb,hS⟩:=a5e h.u h1 har.2 h2;have e1:=b4h e' k (Y4 e'.s.log a);refine⟨(e',k,b9 (Y4 e'.s.log a)),⟨⟨B5 _,rfl,⟨rfl,rfl,rfl,rfl,rfl,rfl,rfl,rfl,rfl,Z9⟩,trivial⟩,h.u.lt,by have:=h.u.t10;dsimp only;omega,by dsimp only;omega⟩,((y4 e' k (b9 (Y4 e'.s.log a))).s,((e'.s.log.length+1:Nat):Int)),⟨⟨yH (y4 e' k (b9 (Y4 e'.s.log a))).s,rfl,trivial⟩,hS.iv,by dsimp only;omega,by rw[lZ];exact Int.le_refl _⟩,λhu=> ?_,λhu=> ?_⟩
   ·dsimp only at hu ⊢;rw[e1] at hu ⊢;have hu:(H3 e' k (Y4 e'.s.log a)).2=false:=by
     have hu:(!(H3 e' k (Y4 e'.s.log a)).2)=true:=hu
     simpa using hu
    have h4:=(a2n (v:=v') ht (by omega) h2 hu).symm.trans heq
    rw[←h4];exact⟨B5 (H3 e' k (Y4 e'.s.log a)).1,Z9⟩
   ·dsimp only at hu ⊢;rw[e1] at hu ⊢;have hu:(H3 e' k (Y4 e'.s.log a)).2=true:=by
     have hu:(!(H3 e' k (Y4 e'.s.log a)).2)=false:=hu
     simpa using hu
    exact⟨⟨(H3 e' k (Y4 e'.s.log a)).1,jI e' k (Y4 e'.s.log a) v',(Y4 e'.s.log a).p,f-1,a3N h h1 h2 hu,by omega,(a3S ht (by omega) h2 hu).symm.trans heq⟩,⟨⟨rfl,rfl,Z7,Z7,rfl,Z9⟩,⟨rfl,rfl,B5 (H3 e' k (Y4 e'.s.log a)).1⟩,⟨rfl,rfl,B5 a2w⟩,trivial⟩,by unfold Lt;dsimp only;omega⟩
  ·have h3:(Y4 e'.s.log a).k≠3:=λe=>by
    have h3:((Y4 e'.s.log a).k==3)=false:=h3;rw[e] at h3;cases h3
   have h2:(Y4 e'.s.log a).k≠2:=λe=>by
    have h2:((Y4 e'.s.log a).k==2)=false:=h2;rw[e] at h2;cases h2
   exact⟨⟨e',v',(Y4 e'.s.log a).p,f-1,b88 h h1 h3,by omega,(a3y ht (by omega) h3 h2).symm.trans heq⟩,⟨⟨rfl,rfl,Z7,Z7,rfl,Z9⟩,⟨rfl,rfl,B5 _⟩,⟨rfl,rfl,B5 a2w⟩,trivial⟩,by unfold Lt;dsimp only;omega⟩
 ·have ha:a<=to:=by have:=yG hc;omega
  rw[←heq,vD ha];exact⟨B5 _,Z9⟩
noncomputable def b9R:Con:=.rel ⟨Eng×Nat×Int,λx=>[.agg x.1.ts,.int .i64 x.2.1],λx=>.tup [.agg (S7 x.1 x.2.1).1.1.ts,.bool ((S7 x.1 x.2.1).2==0)],λx=>UI x.1 x.2.1 x.2.2 (x.1.txs.getD x.2.1 default).last⟩
noncomputable def b8L:Con:=.rel ⟨Eng×Int,λx=>[.agg x.1.ts,.int .i64 x.2],λx=>.tup [.agg (vW x.1 x.2).1.1.ts,.int .i64 (vW x.1 x.2).2],λx=>K8 x.1=true/\M8 x.1⟩
theorem b4i:GK 131 b9R:=gk Tryz.func131<|by
 rintro⟨e,k,tx⟩ hU;dsimp only at hU;have hR:=a6A hU (Int.le_refl 0);refine S3 (gC b47 (gC a5u (gC a4G (gC a3n gN)))) Tryz.func131 Z0 (α:=∃(x:(Eng×Nat×Int×Int)),(((y5 e x.1)/\(k:Int)=(x.2.1:Int)/\(0:Int)=x.2.2.1/\True)/\UI x.1 x.2.1 x.2.2.2 (x.1.txs.getD x.2.1 default).last/\(0:Int)<=x.2.2.1)/\((!(T1 x.1 x.2.1 x.2.2.1).2)=true->∃(x_1:(Eng×Dsk)),(((y5 (T1 x.1 x.2.1 x.2.2.1).1.1 x_1.1)/\(g8 (T1 x.1 x.2.1 x.2.2.1).1.1.s.d x_1.2)/\True)/\B9 x_1.2/\x_1.2.sec.length=69)/\((Y6 Z5 x_1.2.sec (S7 e k).1.1.s.d.sec)/\(Y6 Z3 x_1.2.cache (S7 e k).1.1.s.d.cache)/\x_1.2.armed=(S7 e k).1.1.s.d.armed/\(Y6 Y9 x_1.2.keep (S7 e k).1.1.s.d.keep)/\x_1.1.s.ep=(S7 e k).1.1.s.ep/\(Y6 Y7 (u6 x_1.2 (vJ x_1.2 x_1.1.s.ep)) (S7 e k).1.1.s.log)/\(↑(vJ x_1.2 x_1.1.s.ep):Int)=(S7 e k).1.1.s.sure/\(0=(S7 e k).1.1.s.fr.length/\Z6 0 (X1 []) (X1 (S7 e k).1.1.s.fr))/\(0:Int)=(S7 e k).1.1.s.hand/\false=(S7 e k).1.1.up/\(0=(S7 e k).1.1.txs.length/\Z6 0 (X5 []) (X5 (S7 e k).1.1.txs))/\(0=(S7 e k).1.1.lk.held.length/\Z6 0 (Y5 []) (Y5 (S7 e k).1.1.lk.held))/\(0=(S7 e k).1.1.lk.waits.length/\Z6 0 (X6 []) (X6 (S7 e k).1.1.lk.waits))/\x_1.1.next=(S7 e k).1.1.next/\True)/\false=((S7 e k).2==(0:Int))/\True)/\((!(T1 x.1 x.2.1 x.2.2.1).2)=false->∃(x_1:(Eng×Nat×Rec)),(((y5 (T1 x.1 x.2.1 x.2.2.1).1.1 x_1.1)/\(k:Int)=(x_1.2.1:Int)/\((0:Int)=x_1.2.2.e/\(0:Int)=x_1.2.2.l/\(0:Int)=x_1.2.2.t/\(5:Int)=x_1.2.2.k/\(0:Int)=x_1.2.2.p/\(0:Int)=x_1.2.2.n/\(0:Int)=x_1.2.2.g/\(0:Int)=x_1.2.2.s/\[]=x_1.2.2.b/\[]=x_1.2.2.a/\True)/\True)/\x_1.2.1<x_1.1.txs.length/\x_1.1.txs.length<=1000/\x_1.1.s.log.length<=1000)/\∃(x:(Eng×Nat)),((((Y6 Z5 x_1.1.s.d.sec x.1.s.d.sec)/\(Y6 Z3 x_1.1.s.d.cache x.1.s.d.cache)/\x_1.1.s.d.armed=x.1.s.d.armed/\(Y6 Y9 x_1.1.s.d.keep x.1.s.d.keep)/\x_1.1.s.ep=x.1.s.ep/\(Y6 Y7 (x_1.1.s.log++[J2 x_1.1.s (zC x_1.1 x_1.2.1 x_1.2.2)]) x.1.s.log)/\x_1.1.s.sure=x.1.s.sure/\(Y6 X1 x_1.1.s.fr x.1.s.fr)/\x_1.1.s.hand=x.1.s.hand/\x_1.1.up=x.1.up/\(Y6 X5 (x_1.1.txs.set x_1.2.1 (Txn.mk (x_1.1.txs.getD x_1.2.1 default).id ((x_1.1.s.log.length:Int)+(1:Int)))) x.1.txs)/\(Y6 Y5 x_1.1.lk.held x.1.lk.held)/\(Y6 X6 x_1.1.lk.waits x.1.lk.waits)/\x_1.1.next=x.1.next/\True)/\(k:Int)=(x.2:Int)/\True)/\x.2<x.1.txs.length/\x.1.txs.length<=1000/\x.1.lk.held.length<=1000000/\x.1.lk.waits.length<=1000000)/\((Y6 Z5 x.1.s.d.sec (S7 e k).1.1.s.d.sec)/\(Y6 Z3 x.1.s.d.cache (S7 e k).1.1.s.d.cache)/\x.1.s.d.armed=(S7 e k).1.1.s.d.armed/\(Y6 Y9 x.1.s.d.keep (S7 e k).1.1.s.d.keep)/\x.1.s.ep=(S7 e k).1.1.s.ep/\(Y6 Y7 x.1.s.log (S7 e k).1.1.s.log)/\x.1.s.sure=(S7 e k).1.1.s.sure/\(Y6 X1 x.1.s.fr (S7 e k).1.1.s.fr)/\x.1.s.hand=(S7 e k).1.1.s.hand/\x.1.up=(S7 e k).1.1.up/\(Y6 X5 (List.take x.2 x.1.txs++List.drop (x.2+1) x.1.txs) (S7 e k).1.1.txs)/\(Y6 Y5 (W9 (hF (x.1.txs.getD x.2 default).id) x.1.lk.held x.1.lk.held.length) (S7 e k).1.1.lk.held)/\(Y6 X6 (W9 (wF (x.1.txs.getD x.2 default).id) x.1.lk.waits x.1.lk.waits.length) (S7 e k).1.1.lk.waits)/\x.1.next=(S7 e k).1.1.next/\True)/\true=((S7 e k).2==(0:Int))/\True)) ⟨(e,k,0,tx),⟨⟨B5 _,rfl,Z9⟩,hU,Int.le_refl _⟩,λhq=> ?_,λhq=> ?_⟩
 ·have hu:(T1 e k 0).2=false:=by simpa using hq
  have e0:S7 e k=((a3V (T1 e k 0).1.1,0),15):=by rw[b1u (by rw[gK hu];simp),gK hu]
  rw[e0];exact⟨((T1 e k 0).1.1,(T1 e k 0).1.1.s.d),⟨⟨B5 (T1 e k 0).1.1,xF _,trivial⟩,(hR.2 hu).1,(hR.2 hu).2⟩,B5 (a3V (T1 e k 0).1.1),Z9⟩
 ·have hu:(T1 e k 0).2=true:=by simpa using hq
  have hE:=hR.1 hu;have h1:=hE.lt;have h2:=hE.t10;have h3:=hE.rm;have h4:=hE.lk;have h5:=lZ (T1 e k 0).1.1 k vB;have hl:((T1 e k 0).1.1.txs.set k ⟨((T1 e k 0).1.1.txs.getD k default).id,((T1 e k 0).1.1.s.log.length:Int)+1⟩).length=(T1 e k 0).1.1.txs.length:=o5;rw[b3k (by rw[iV hu])]
  exact⟨((T1 e k 0).1.1,k,vB),⟨⟨B5 (T1 e k 0).1.1,rfl,⟨rfl,rfl,rfl,rfl,rfl,rfl,rfl,rfl,rfl,Z9⟩,trivial⟩,h1,by dsimp only;omega,by dsimp only;omega⟩,(y4 (T1 e k 0).1.1 k vB,k),⟨⟨B5 (y4 (T1 e k 0).1.1 k vB),rfl,trivial⟩,by show k<List.length (List.set _ _ _);omega,by show List.length (List.set _ _ _)<=_;omega,by show(T1 e k 0).1.1.lk.held.length<=_;omega,by show(T1 e k 0).1.1.lk.waits.length<=_;omega⟩,B5 (a8X (y4 (T1 e k 0).1.1 k vB) k),rfl,trivial⟩
theorem c0J(e:Eng)(k:Nat)(lsn:Int):(O8 e k lsn).2=0∨(O8 e k lsn).2=15:=by
 cases hu:(T1 e k lsn).2 with
 |true=>rw[iV hu];exact .inl rfl
 |false=>rw[gK hu];exact .inr rfl
theorem b7M(e:Eng)(k:Nat):(S7 e k).2=0∨(S7 e k).2=15:=by
 unfold S7;split
 ·exact .inl rfl
 ·exact c0J e k 0
theorem c0s{e:Eng}{tx:Int}(h:((I8 e tx).2 !=0)=false):(I8 e tx).2=0:=by simpa using h
theorem c0K{e:Eng}{tx:Int}(h:((I8 e tx).2 !=0)=true):¬ (I8 e tx).2=0:=by simpa using h
theorem b6R:GK 64 b8L:=gk Tryz.func64<|by
 rintro⟨e,tx⟩ ⟨ho,hm⟩;dsimp only at ho hm;have ht:=(yD (t9 ho).2.1).1;refine S3 (gC a1J (gC b4i gN)) Tryz.func64 Z0 (α:=∃(x:(Eng×Int)),(((y5 e x.1)/\tx=x.2/\True)/\N3 x.1.txs.length)/\(((I8 x.1 x.2).2 !=(0:Int))=true->(y5 e (vW e tx).1.1)/\(I8 x.1 x.2).2=(vW e tx).2/\True)/\(((I8 x.1 x.2).2 !=(0:Int))=false->∃(x_1:(Eng×Nat×Int)),(((y5 e x_1.1)/\(I8 x.1 x.2).1=(x_1.2.1:Int)/\True)/\UI x_1.1 x_1.2.1 x_1.2.2 (x_1.1.txs.getD x_1.2.1 default).last)/\((!(S7 x_1.1 x_1.2.1).2==(0:Int))=true->(y5 (S7 x_1.1 x_1.2.1).1.1 (vW e tx).1.1)/\(15:Int)=(vW e tx).2/\True)/\((!(S7 x_1.1 x_1.2.1).2==(0:Int))=false->(y5 (S7 x_1.1 x_1.2.1).1.1 (vW e tx).1.1)/\(0:Int)=(vW e tx).2/\True))) ⟨(e,tx),⟨⟨B5 _,Z9⟩,by unfold N3;dsimp only;omega⟩,λhq=> ?_,λhq=> ?_⟩
 ·rw[b3P (c0K hq)];exact⟨B5 _,Z9⟩
 ·have h0:=c0s hq;obtain⟨hu,k,e1,hk,hi,ha⟩:=a3b h0;rw[b2a h0 e1];refine⟨(e,k,tx),⟨⟨B5 _,e1,trivial⟩,b2z ho hm hu ha hk hi⟩,λhy=> ?_,λhy=> ?_⟩
  ·refine⟨B5 _,?_,trivial⟩
   rcases b7M e k with h|h
   ·have hy:(!((S7 e k).2==0))=true:=hy;rw[h] at hy;cases hy
   ·exact h.symm
  ·refine⟨B5 _,?_,trivial⟩
   rcases b7M e k with h|h
   ·exact h.symm
   ·have hy:(!((S7 e k).2==0))=false:=hy;rw[h] at hy;cases hy
noncomputable def a96:Con:=.rfz ⟨Eng×Int,λx=>[.agg x.1.ts,.int .i64 x.2],λx=>.tup [.agg (W4 x.1 x.2).1.ts,.int .i64 (W4 x.1 x.2).2],λx=>eR x.1/\M8 x.1⟩
theorem a7k:GK 30 a96:=gk Tryz.func30<|by
 rintro⟨e,tx⟩ ⟨h1,h2⟩;dsimp only at h1 h2;refine S3 (gC eE (gC b6R (gC a9D gN))) Tryz.func30 Z0 (α:=∃(x:vV.ι),(((y5 e x)/\True)/\eR x)/\((!K8 x)=true->((W4 e tx).1.s.d.sec.length=0/\(W4 e tx).1.s.d.cache.length=0/\false=(W4 e tx).1.s.d.armed/\(W4 e tx).1.s.d.keep.length=0/\(0:Int)=(W4 e tx).1.s.ep/\(W4 e tx).1.s.log.length=0/\(0:Int)=(W4 e tx).1.s.sure/\(W4 e tx).1.s.fr.length=0/\(0:Int)=(W4 e tx).1.s.hand/\false=(W4 e tx).1.up/\(W4 e tx).1.txs.length=0/\(W4 e tx).1.lk.held.length=0/\(W4 e tx).1.lk.waits.length=0/\(0:Int)=(W4 e tx).1.next/\True)/\(1:Int)=(W4 e tx).2/\True)/\((!K8 x)=false->∃(x:(Eng×Int)),(((y5 e x.1)/\tx=x.2/\True)/\K8 x.1=true/\M8 x.1)/\∃(x_1:Eng),(((y5 (vW x.1 x.2).1.1 x_1)/\True)/\M8 x_1)/\(y5 x_1 (W4 e tx).1)/\(vW x.1 x.2).2=(W4 e tx).2/\True)) ⟨e,⟨⟨B5 _,trivial⟩,h1⟩,λhq=> ?_,λhq=> ?_⟩
 ·rw[ab1 hq];exact⟨⟨rfl,rfl,rfl,rfl,rfl,rfl,rfl,rfl,rfl,rfl,rfl,rfl,rfl,Z9⟩,Z9⟩
 ·have ho:K8 e=true:=by simpa using hq
  rw[ab2 hq];exact⟨(e,tx),⟨⟨B5 _,Z9⟩,ho,h2⟩,(vW e tx).1.1,⟨⟨B5 _,trivial⟩,a38 h2 ho⟩,B5 _,Z9⟩
end Go.Proofs.YtokaojbaacnngaaGreat

