/- A part of the proof. -/
import Derived.Test.YtokaojbaacnngaaGreatY4Y5Y6Y7
import Derived.Test.YtokaojbaacnngaaGreatU13U14U15U16
import Derived.Test.YtokaojbaacnngaaGreatU17U18U19U21
import Derived.Test.YtokaojbaacnngaaGreatU3U4U5
namespace Go.Proofs.YtokaojbaacnngaaGreat
open Go.SS

theorem xI(n:Int):((l8 n).toNat:Int)=n % 256:=by
 unfold l8;rw[eS (Q6 _),IntKind.wrap_u8]
theorem a2N{n:Int}(h:0<=n)(h2:n<=255):((l8 n).toNat:Int)=n:=by
 rw[xI];omega
theorem b8r{n:Nat}(h:n<65536):be (zP n)=n:=by
 have e1:=xI ((n:Int).fdiv 256);have e2:=xI ((n:Int).fdiv 1);rw[Int.fdiv_eq_ediv_of_nonneg _ (by decide)] at e1 e2
 show(0*256+(l8 ((n:Int).fdiv 256)).toNat)*256+(l8 ((n:Int).fdiv 1)).toNat=n;rw[Int.fdiv_eq_ediv_of_nonneg _ (by decide),Int.fdiv_eq_ediv_of_nonneg _ (by decide)]
 omega
theorem b6N{n:Nat}(h:n<4294967296):be (C1 n)=n:=by
 have e1:=xI ((n:Int).fdiv 16777216);have e2:=xI ((n:Int).fdiv 65536);have e3:=xI ((n:Int).fdiv 256);have e4:=xI ((n:Int).fdiv 1);rw[Int.fdiv_eq_ediv_of_nonneg _ (by decide)] at e1 e2 e3 e4
 show(((0*256+(l8 ((n:Int).fdiv 16777216)).toNat)*256+(l8 ((n:Int).fdiv 65536)).toNat)*256+(l8 ((n:Int).fdiv 256)).toNat)*256+(l8 ((n:Int).fdiv 1)).toNat=n;rw[Int.fdiv_eq_ediv_of_nonneg _ (by decide),Int.fdiv_eq_ediv_of_nonneg _ (by decide),Int.fdiv_eq_ediv_of_nonneg _ (by decide),Int.fdiv_eq_ediv_of_nonneg _ (by decide)]
 omega
theorem a94(l:List UInt8):T4 (l++C1 (u3 l))=true/\X6 (l++C1 (u3 l))=l:=by
 have h4:(C1 (u3 l)).length=4:=rfl;have hl:(l++C1 (u3 l)).length-4=l.length:=by rw[A3,h4];omega
 have ht:(l++C1 (u3 l)).take l.length=l:=List.take_left;have hd:(l++C1 (u3 l)).drop l.length=C1 (u3 l):=List.drop_left;have ok:T4 (l++C1 (u3 l))=true:=by
  unfold T4;rw[hl,ht,hd,b6N (fU l),A3,h4];simp
 refine⟨ok,?_⟩
 unfold X6;rw[if_pos ok,hl,ht]
def b2G(L:List (List UInt8)):Prop:=L.length<=100/\∀i,i<L.length->(L.getD i []).length<=255
theorem oU(L:List (List UInt8))(i:Nat):∀k,∃r,W7 L (i+k)=W7 L i++r
 |0=>⟨[],by simp⟩
 |k+1=>by
  obtain⟨r,hr⟩:=oU L i k;refine⟨r++[l8 (L.getD (i+k) []).length]++L.getD (i+k) [],?_⟩
  show W7 L (i+k)++[l8 (L.getD (i+k) []).length]++L.getD (i+k) []=_;rw[hr];simp only[List.append_assoc]
theorem a3i{α:Type}(d:α)(L:List α){i:Nat}(h:i<L.length):L.take (i+1)=L.take i++[L.getD i d]:=by
 rw[List.take_add_one,L5,L4 h]
 rfl
theorem a9u{L:List (List UInt8)}(h:b2G L):∀i,i<=L.length->zZ (T3 L) i=some ((W7 L i).length,L.take i)
 |0,_=>rfl
 |i+1,hi=>by
  obtain⟨r,hr⟩:=oU L (i+1) (L.length- (i+1));rw[show i+1+(L.length- (i+1))=L.length by omega] at hr
  have hc:((l8 (L.getD i []).length).toNat:Int)=(L.getD i []).length:=a2N (by omega) (by have:=h.2 i (by omega);omega)
  have hb:T3 L=W7 L i++([l8 (L.getD i []).length]++(L.getD i []++r)):=by
   unfold T3;rw[hr];show W7 L i++[l8 (L.getD i []).length]++L.getD i []++r=_;simp only[List.append_assoc]
  have g:(T3 L).getD (W7 L i).length 0=l8 (L.getD i []).length:=by
   rw[hb,L5,iA (V2 _)]
   simp
  have hl:(T3 L).length=(W7 L i).length+(1+((L.getD i []).length+r.length)):=by rw[hb];simp only[A3,List.length_cons,List.length_nil]
  have hn:(l8 (L.getD i []).length).toNat=(L.getD i []).length:=by omega
  have e3:List.drop ((W7 L i).length+1) (List.take ((W7 L i).length+1+(L.getD i []).length) (T3 L))=L.getD i []:=by
   rw[hb,←List.append_assoc,←List.append_assoc];rw[List.take_left' (by simp only[A3,List.length_cons,List.length_nil]),List.drop_left' (by simp only[A3,List.length_cons,List.length_nil])]
  conv=>lhs;unfold zZ
  rw[a9u h i (by omega)]
  dsimp only;rw[g,hn,if_pos ⟨by omega,by omega⟩,e3,a3i [] L (by omega)]
  congr 2
  simp only[W7,A3,List.length_cons,List.length_nil]
theorem iO{L:List (List UInt8)}(h:b2G L):S3 (T3 L)=some L:=by
 obtain⟨r,hr⟩:=oU L 0 L.length;rw[C3] at hr;have hc:((l8 L.length).toNat:Int)=L.length:=a2N (by omega) (by have:=h.1;omega)
 have hf:J4 (T3 L)=L.length:=by
  unfold J4 T3;rw[hr];show(l8 L.length).toNat=_;omega
 have hl:(T3 L).length≠0:=by
  unfold T3;rw[hr];simp[W7]
 unfold S3;rw[hf,if_neg (by have:=h.1;omega),a9u h _ (V2 _)]
 dsimp only;rw[show(W7 L L.length).length=(T3 L).length from rfl,if_pos rfl,kV]
theorem b8V{no:Int}{p:Pg}(h:cN p)(h0:0<=no)(h1:no<=255):K0 no (T1 no p)=(p,true):=by
 obtain⟨p1,p2,p3,p4⟩:=h;obtain⟨u1,u2⟩:=a94 (vP no p);have hF:b2G p.sl:=⟨by omega,λi hi=>Nat.le_trans (p4 i hi) (by decide)⟩
 obtain⟨r,hr⟩:=oU p.sl 0 p.sl.length;have hlen:1<=(T3 p.sl).length:=by
  unfold T3;rw[←C3 p.sl.length,hr];simp[W7]
 have e0:vP no p=P6 112::l8 no::(zP p.lsn.toNat++T3 p.sl):=by unfold vP;simp
 have e2:(zP p.lsn.toNat).length=2:=rfl;have hh:yL no (vP no p)=true:=by
  unfold yL;rw[e0];simp only[List.length_cons,A3,e2,J6,o9];exact⟨by omega,rfl,a2N h0 h1⟩
 have d4:(vP no p).drop 4=T3 p.sl:=by
  unfold vP;exact List.drop_left' (by simp[e2])
 have d2:((vP no p).drop 2).take 2=zP p.lsn.toNat:=by
  rw[e0];exact List.take_left' e2
 have hx:pgX (vP no p)=p:=by
  unfold pgX;rw[d4,d2,iO hF,b8r (by omega),Option.getD_some,show((p.lsn.toNat:Nat):Int)=p.lsn by omega]
 have ok:B3 p=true:=iZ ⟨p1,p2,p3,p4⟩;unfold K0 T1;rw[u1,u2,hh,hx,d4,iO hF,ok];rfl
theorem b2O(L:List (List UInt8))(h:∀i,i<L.length->(L.getD i []).length<=30):∀i,i<=L.length->(W7 L i).length<=1+31*i
 |0,_=>by simp[W7]
 |i+1,hi=>by
  have h1:=b2O L h i (by omega)
  have h2:=h i (by omega)
  simp only[W7,A3,List.length_cons,List.length_nil];omega
theorem b9n{no:Int}{p:Pg}(h:cN p):(T1 no p).length<=160/\T1 no p≠[]:=by
 obtain⟨p1,p2,p3,p4⟩:=h;have:=b2O p.sl p4 p.sl.length (V2 _);have e4:(C1 (u3 (vP no p))).length=4:=rfl;have e2:(zP p.lsn.toNat).length=2:=rfl;have hl:(T1 no p).length=8+(T3 p.sl).length:=by
  unfold T1;rw[A3,e4];unfold vP;simp only[A3,List.length_cons,List.length_nil,e2];omega
 refine⟨by rw[hl];unfold T3;omega,λe=> ?_⟩
 rw[e] at hl;simp at hl;omega
end Go.Proofs.YtokaojbaacnngaaGreat

namespace Go.Proofs.YtokaojbaacnngaaGreat
open Go.SS

structure SI(s:Sto):Prop where
 iv:SInv s
 dw:b0C s.d
 pl:∀no,no<8->(R3 s.d no).1.lsn<=s.log.length
theorem b5J{s:Sto}(h:SInv s)(hw:b0C s.d):C5 s.d:=by
 obtain⟨w1,w2,w3,w4,w5⟩:=hw;refine⟨by omega,by omega,h.c,w2,w3,w4,λi hi=> ?_⟩
 have:=h.pd i hi;have:=w5 i hi;unfold R7;rw[L9.2 (by omega),uK (by omega)]
 rfl
theorem SI.dk{s:Sto}(h:SI s):C5 s.d:=b5J h.iv h.dw
theorem mT{d:Dsk}(h:C5 d)(h69:d.sec.length=69):b0C d:=by
 obtain⟨h1,h2,h3,h4,h5,h6,h7⟩:=h;exact⟨h69,h4,h5,h6,λi hi=>(a0r (h7 i hi)).2.2⟩
theorem SI.logP{s:Sto}(h:SI s):xD s.log:=⟨h.iv.l60,λi hi=>by
 obtain⟨a,b⟩:=B2.1 h.iv.rc i hi;exact⟨(Q9 _).1 a,b⟩⟩
theorem b9z{s:Sto}(h:L3 s=true)(hm:mP s):SI s:=by
 have hd:=((w6 s).1 ((K6 s).1 h).1.1);refine⟨b4K h hm,mT hd.1 hd.2.1,λno hn=> ?_⟩
 have hb:=((K6 s).1 h).2.2.1 no hn;have hs:=uA ((K6 s).1 h).1.2.2;unfold m7 at hb;simp only[uL,tW] at hb;omega
theorem b74{s:Sto}{r:Rec}(h:SI s)(hr:R2 (I3 s r)=true)(hl:s.log.length+1<=60):SI (apx s r):=by
 have e:(apx s r).log.length=s.log.length+1:=by show(s.log++[_]).length=_;simp
 have hL:=b2M h.logP hr hl;have hi:=h.iv;have hsu:=hi.su;refine⟨⟨⟨hi.sm.1,by omega,hi.sm.2.2⟩,hi.c,hi.pd,hi.n69,⟨hsu.1,by have:(apx s r).sure=s.sure:=rfl;omega⟩,by omega,B2.2 λi hi=>⟨(Q9 _).2 (hL.2 i hi).1,(hL.2 i hi).2⟩,hi.fr3,λi hi'=> ?_,hi.hd,hi.pg⟩,h.dw,λno hn=> ?_⟩
 ·obtain⟨a,b,c,d⟩:=hi.frp i hi';exact⟨a,b,c,by have:((apx s r).fr.getD i default).pg.lsn<=s.log.length:=d;omega⟩
 ·have:(R3 (apx s r).d no).1.lsn<=s.log.length:=h.pl no hn;omega
theorem gQ{L:List Frm}{k:Nat}(f:Frm)(i:Nat)(hk:k<L.length):(L.set k f).getD i default=if i=k then f else L.getD i default:=by
 by_cases h:i=k
 ·subst h;rw[if_pos rfl,L5,j_k hk]
  rfl
 ·rw[if_neg h,L5,j_l (Ne.symm h),←L5]
theorem a9L{d:Dsk}(h:C5 d)(h69:d.sec.length=69):C5 (G1 d).1/\(G1 d).1.sec.length=69:=by
 unfold G1;split
 ·exact a5T (mT h h69)
 ·exact⟨h,h69⟩
theorem b47{s:Sto}{l:Int}(h:sL s l)(h2:0<=l):0<=(X5 s l).1.sure/\(X5 s l).1.sure<=s.log.length:=by
 obtain⟨_,_,_,_,b5,b6,_,b8,_⟩:=h;by_cases hl:l<=s.sure
 ·rw[zY hl];exact⟨b5,b6⟩
 ·rw[g7 hl];dsimp only;split
  ·exact⟨h2,b8⟩
  ·exact⟨b5,b6⟩
theorem b7k{s:Sto}{k:Nat}(h:SI s)(hk:k<s.fr.length)(hu:(Y0 s k).2=false):C5 (Y0 s k).1.d/\(Y0 s k).1.d.sec.length=69:=by
 obtain⟨f1,f2,f3,f4⟩:=h.iv.frp k hk;have hf:=h.iv.flu f4;have hfd:=a4Y h.dk hf h.logP;cases hd:(s.fr.getD k default).dirty with
 |false=>rw[yO hd] at hu;cases hu
 |true=>
  cases hF:(X5 s (s.fr.getD k default).pg.lsn).2 with
  |false=>rw[wA hd hF];exact hfd
  |true=>
   cases hb:(G1 (X5 s (s.fr.getD k default).pg.lsn).1.d).2 with
   |false=>rw[rM hd hF hb];exact a9L hfd.1 hfd.2
   |true=>rw[nX hd hF hb] at hu;cases hu
theorem b8z{s:Sto}{k:Nat}(h:SI s)(hk:k<s.fr.length)(hu:(Y0 s k).2=true):SI (Y0 s k).1/\(Y0 s k).1.log=s.log/\(Y0 s k).1.fr.length=s.fr.length/\(Y0 s k).1.hand=s.hand:=by
 obtain⟨r1,r2,r3,r4,r5⟩:=s7 s k;refine⟨?_,r3,r1,r2⟩
 cases hd:(s.fr.getD k default).dirty with
 |false=>rw[yO hd];exact h
 |true=>
  have hi:=h.iv;obtain⟨f1,f2,f3,f4⟩:=hi.frp k hk;have hf:=hi.flu f4;have hfd:=a4Y h.dk hf h.logP;have hfr:=a0G s (s.fr.getD k default).pg.lsn;have hsu:=b47 hf f3.1;have hsm:=a5d hi hk;have hop:=λno hno hne=>bW (no:=no) hi hk hno hne hu
  have hpd:=dU (l:=(s.fr.getD k default).pg.lsn) hi.pd;cases hF:(X5 s (s.fr.getD k default).pg.lsn).2 with
  |false=>rw[wA hd hF] at hu;cases hu
  |true=>
   cases hb:(G1 (X5 s (s.fr.getD k default).pg.lsn).1.d).2 with
   |false=>rw[rM hd hF hb] at hu;cases hu
   |true=>
    have hw:=a9L hfd.1 hfd.2;have hpd5:eI (G1 (X5 s (s.fr.getD k default).pg.lsn).1.d).1:=by
     unfold G1;split
     ·exact a92 (j4 _)
     ·exact hpd
    have hc:(Y0 s k).1.d.cache.length<=500:=by
     by_cases h0:(s.fr.getD k default).no=0
     ·exact(hop 1 (by omega) (by omega)).2
     ·exact(hop 0 (by omega) (by omega)).2
    obtain⟨z1,z2⟩:=b9n (no:=(s.fr.getD k default).no) f3;have e0:(Y0 s k).1=wrF ((X5 s (s.fr.getD k default).pg.lsn).1.sd (G1 (X5 s (s.fr.getD k default).pg.lsn).1.d).1) k:=by rw[nX hd hF hb]
    have efr:(Y0 s k).1.fr=s.fr.set k (clF (s.fr.getD k default)):=by
     rw[e0];show(X5 s _).1.fr.set k (clF ((X5 s _).1.fr.getD k default))=_;rw[hfr.1]
    have ed:(Y0 s k).1.d=wrD (G1 (X5 s (s.fr.getD k default).pg.lsn).1.d).1 (1+(s.fr.getD k default).no) (T1 (s.fr.getD k default).no (s.fr.getD k default).pg):=by
     rw[e0];show wrD _ (1+((X5 s _).1.fr.getD k default).no) (T1 ((X5 s _).1.fr.getD k default).no ((X5 s _).1.fr.getD k default).pg)=_;rw[hfr.1];rfl
    have esu:(Y0 s k).1.sure=(X5 s (s.fr.getD k default).pg.lsn).1.sure:=by rw[e0];rfl
    have hPg:∀no,no<8->(R3 (Y0 s k).1.d no).2=true/\(S9 (Y0 s k).1.d (1+no)).length<=1000/\(R3 (Y0 s k).1.d no).1.lsn<=s.log.length:=λno hno=>by
     by_cases hn:(s.fr.getD k default).no=no
     ·have hr:S9 (Y0 s k).1.d (1+no)=T1 (s.fr.getD k default).no (s.fr.getD k default).pg:=by
       rw[ed,a3q,if_pos (by omega)]
      have hp:R3 (Y0 s k).1.d no=((s.fr.getD k default).pg,true):=by
       unfold R3;rw[hr,if_neg z2,←hn];exact b8V f3 f1 (by omega)
      rw[hp,hr];exact⟨rfl,by omega,f4⟩
     ·have hq:=(hop no hno hn).1;have hp:=(lS (d:=(Y0 s k).1.d) (d':=s.d) (no:=no) hq).1;rw[hp,hq];exact⟨(hi.pg no hno).1,(hi.pg no hno).2,h.pl no hno⟩
    refine⟨⟨hsm,hc,?_,by rw[r5];exact hi.n69,⟨by rw[esu];exact hsu.1,by rw[esu,r3];exact hsu.2⟩,by rw[r3];exact hi.l60,by rw[r3];exact hi.rc,by rw[r1];exact hi.fr3,λi hi'=> ?_,by rw[r2];exact hi.hd,λno hno=>⟨(hPg no hno).1,(hPg no hno).2.1⟩⟩,?_,λno hno=>by rw[r3];exact(hPg no hno).2.2⟩
    ·rw[ed];intro i hi';have hi':i<((G1 (X5 s (s.fr.getD k default).pg.lsn).1.d).1.cache++[(⟨1+(s.fr.getD k default).no,T1 (s.fr.getD k default).no (s.fr.getD k default).pg⟩:Pend)]).length:=hi';rw[A3,List.length_singleton] at hi';show 0<=(((G1 (X5 s (s.fr.getD k default).pg.lsn).1.d).1.cache++[(⟨1+(s.fr.getD k default).no,T1 (s.fr.getD k default).no (s.fr.getD k default).pg⟩:Pend)]).getD i default).at_/\(((G1 (X5 s (s.fr.getD k default).pg.lsn).1.d).1.cache++[(⟨1+(s.fr.getD k default).no,T1 (s.fr.getD k default).no (s.fr.getD k default).pg⟩:Pend)]).getD i default).at_<((G1 (X5 s (s.fr.getD k default).pg.lsn).1.d).1.sec.length:Int);rw[dP default _ _ i hi',hw.2];split
     ·exact⟨by dsimp only;omega,by dsimp only;omega⟩
     ·have:=hpd5 i (by omega)
      rw[hw.2] at this;exact this
    ·rw[r1] at hi';rw[efr,gQ _ _ hk,r3];split
     ·exact⟨f1,f2,f3,f4⟩
     ·exact hi.frp i hi'
    ·rw[ed];obtain⟨w1,w2,w3,w4,w5⟩:=mT hw.1 hw.2;refine⟨w1,w2,w3,w4,λi hi'=> ?_⟩
     have hi':i<((G1 (X5 s (s.fr.getD k default).pg.lsn).1.d).1.cache++[(⟨1+(s.fr.getD k default).no,T1 (s.fr.getD k default).no (s.fr.getD k default).pg⟩:Pend)]).length:=hi';rw[A3,List.length_singleton] at hi';show(((G1 (X5 s (s.fr.getD k default).pg.lsn).1.d).1.cache++[(⟨1+(s.fr.getD k default).no,T1 (s.fr.getD k default).no (s.fr.getD k default).pg⟩:Pend)]).getD i default).d.length<=160;rw[dP default _ _ i hi'];split
     ·exact z1
     ·exact w5 i (by omega)
theorem b3a{s:Sto}{no:Nat}(h:SI s)(hno:no<8):0<=(sV no (R3 s.d no).1).no/\(sV no (R3 s.d no).1).no<=7/\cN (sV no (R3 s.d no).1).pg/\(sV no (R3 s.d no).1).pg.lsn<=s.log.length:=⟨by show(0:Int)<=no;omega,by show(no:Int)<=7;omega,oT (h.iv.pg no hno).1,h.pl no hno⟩
theorem a9F{s:Sto}{L:List Frm}{hand:Int}(h:SI s)(hm:mP ⟨s.d,s.ep,s.log,s.sure,L,hand⟩)(h3:L.length<=3)(hf:∀i,i<L.length->0<=(L.getD i default).no/\(L.getD i default).no<=7/\cN (L.getD i default).pg/\(L.getD i default).pg.lsn<=s.log.length)(hh:0<=hand/\hand<=2):SI ⟨s.d,s.ep,s.log,s.sure,L,hand⟩:=
 ⟨⟨hm,h.iv.c,h.iv.pd,h.iv.n69,h.iv.su,h.iv.l60,h.iv.rc,h3,hf,hh,h.iv.pg⟩,h.dw,h.pl⟩
theorem b9B{a:Int}(h:0<=a):0<=a.tmod 3/\a.tmod 3<=2:=by
 rw[Int.tmod_eq_emod_of_nonneg h];omega
theorem b7l{s:Sto}{no:Nat}(h:SI s)(hu:(Y4 s no).2.2=false):C5 (Y4 s no).1.d/\(Y4 s no).1.d.sec.length=69:=by
 by_cases hc:0<=frAt s.fr no
 ·rw[(yZ 0 hc).1] at hu;cases hu
 ·by_cases h3:s.fr.length=3
  ·have hh:=h.iv.hd;cases ho:(Y0 s s.hand.toNat).2 with
   |true=>rw[(u5 0 hc h3 ho).1] at hu;cases hu
   |false=>
    rw[(t3 0 hc h3 ho).1];exact b7k h (by omega) ho
  ·rw[(zC 0 hc h3).1] at hu;cases hu
theorem b8F{s:Sto}{no:Nat}(h:SI s)(hno:no<8)(hu:(Y4 s no).2.2=true):SI (Y4 s no).1/\(Y4 s no).1.log=s.log:=by
 have hm:=a48 h.iv hno;have hh:=h.iv.hd;have h3':=h.iv.fr3;by_cases hc:0<=frAt s.fr no
 ·rw[(yZ 0 hc).1];exact⟨h,rfl⟩
 ·by_cases h3:s.fr.length=3
  ·cases ho:(Y0 s s.hand.toNat).2 with
   |false=>rw[(t3 0 hc h3 ho).1] at hu;cases hu
   |true=>
    obtain⟨o1,o2,o3,o4⟩:=b8z h (show s.hand.toNat<s.fr.length by omega) ho
    rw[(u5 0 hc h3 ho).1] at hm ⊢;have hlen:((Y0 s s.hand.toNat).1.fr.set s.hand.toNat (sV no (R3 (Y0 s s.hand.toNat).1.d no).1)).length=3:=by rw[l9,o3];exact h3
    refine⟨a9F o1 hm (by omega) (λi hi=> ?_) (by rw[o4];exact b9B (by omega)),o2⟩
    rw[gQ _ _ (by omega)]
    split
    ·exact b3a o1 hno
    ·exact o1.iv.frp i (by omega)
  ·rw[(zC 0 hc h3).1] at hm ⊢;have hlen:(s.fr++[sV no (R3 s.d no).1]).length=s.fr.length+1:=by rw[A3];rfl
   refine⟨a9F h hm (by omega) (λi hi=> ?_) hh,rfl⟩
   rw[dP default _ _ i (by omega)]
   split
   ·exact b3a h hno
   ·exact h.iv.frp i (by omega)
theorem b7N{s:Sto}{r:Rec}(h:SI s)(hu:(V0 s r).2=false):C5 (V0 s r).1.d/\(V0 s r).1.d.sec.length=69:=by
 cases hf:(Y4 s r.g.toNat).2.2 with
 |true=>
  unfold V0 at hu;rw[if_pos hf] at hu;cases hu
 |false=>
  have e:V0 s r=((Y4 s r.g.toNat).1,false):=if_neg (by rw[hf];simp)
  rw[e];exact b7l h hf
theorem b7Y{s:Sto}{r:Rec}(h:SI s)(hb:bH s r)(hl:0<=r.l/\r.l<=s.log.length)(ha:r.a.length<=30)(hu:(V0 s r).2=true):SI (V0 s r).1/\(V0 s r).1.log=s.log:=by
 have hm:=b3t hb;obtain⟨_,g1,g2,g3,g4⟩:=hb;have hno:r.g.toNat<8:=by omega
 cases hf:(Y4 s r.g.toNat).2.2 with
 |false=>
  unfold V0 at hu;rw[if_neg (by rw[hf];simp)] at hu
  cases hu
 |true=>
  have e:V0 s r=(b3I (Y4 s r.g.toNat).1 (Y4 s r.g.toNat).2.1 r,true):=if_pos hf;obtain⟨i1,i2⟩:=b8F h hno hf;obtain⟨k1,p1,p2,p3,p4⟩:=fL h.iv hno hf;have h3:=i1.iv.fr3;rw[e] at hm ⊢;refine⟨a9F i1 hm (by rw[l9];omega) (λi hi=> ?_) i1.iv.hd,i2⟩
  rw[l9] at hi;rw[gQ _ _ k1];split
  ·obtain⟨b1,b2,b3,b4⟩:=i1.iv.frp _ k1;refine⟨b1,b2,⟨hl.1,?_,?_,λj hj=> ?_⟩,?_⟩
   ·have:=h.iv.l60;show r.l<=_;omega
   ·show(List.set _ _ _).length=_;rw[l9];exact p3
   ·show((List.set _ _ _).getD j []).length<=30;have hj:j<(List.set ((Y4 s r.g.toNat).1.fr.getD (Y4 s r.g.toNat).2.1 default).pg.sl r.s.toNat r.a).length:=hj;rw[l9] at hj;by_cases hjs:j=r.s.toNat
    ·subst hjs;rw[L5,j_k hj]
     exact ha
    ·rw[L5,j_l (Ne.symm hjs),←L5]
     exact p4 j hj
   ·rw[i2];exact hl.2
  ·exact i1.iv.frp i hi
end Go.Proofs.YtokaojbaacnngaaGreat

namespace Go.Proofs.YtokaojbaacnngaaGreat
open Go.SS

theorem a6j{L:List Txn}{id n:Int}{k:Nat}(hk:k<L.length)(ha:U8 L id=k):U8 (L.set k ⟨(L.getD k default).id,n⟩) id=k:=by
 have h0:¬M3 L.length (t7 L id)<0:=by
  have:M3 L.length (t7 L id)=k:=ha;omega
 obtain⟨i,hi,hp,hl,he⟩:=dC h0;have hik:i=k:=by
  have:M3 L.length (t7 L id)=k:=ha;omega
 subst hik;have e:∀j,t7 (L.set i ⟨(L.getD i default).id,n⟩) id j=t7 L id j:=λj=>by
  unfold t7;by_cases h:j=i
  ·subst h;rw[L5 (l:=L.set j _),j_k hk]
   rfl
  ·rw[L5 (l:=L.set i _),j_l (Ne.symm h),←L5]
 unfold U8;rw[l9];exact H7 hi (by rw[e];exact hp) λj hj=>by rw[e];exact hl j hj
theorem b5A{L:List Txn}{n:Int}{k:Nat}(hk:k<L.length):((L.set k ⟨(L.getD k default).id,n⟩).getD k default).id=(L.getD k default).id:=by
 rw[L5 (l:=L.set k _),j_k hk]
 rfl
theorem b8h(s:Sto)(r:Rec):(V0 s r).1.ep=s.ep:=by
 have hF:(Y4 s r.g.toNat).1.ep=s.ep:=by
  by_cases hc:0<=frAt s.fr r.g.toNat
  ·rw[(yZ 0 hc).1]
  ·by_cases h3:s.fr.length=3
   ·cases ho:(Y0 s s.hand.toNat).2 with
    |true=>rw[(u5 0 hc h3 ho).1];exact(s7 s s.hand.toNat).2.2.2.1
    |false=>rw[(t3 0 hc h3 ho).1];exact(s7 s s.hand.toNat).2.2.2.1
   ·rw[(zC 0 hc h3).1];rfl
 unfold V0;split
 ·exact hF
 ·exact hF
def i8(r:Rec):Rec:=⟨0,0,0,3,0,r.p,r.g,r.s,[],r.b⟩
def nP(e:Eng)(k:Nat)(r:Rec):Rec:=I3 e.s (wQ e k (i8 r))
noncomputable def G7(e:Eng)(k:Nat)(r:Rec):Eng×Bool:=({uI e k (i8 r) with s:=(V0 (uI e k (i8 r)).s (nP e k r)).1},(V0 (uI e k (i8 r)).s (nP e k r)).2)
noncomputable def kO(e:Eng)(k:Nat)(r:Rec)(v:Nat):Nat:=B6 (uI e k (i8 r)).s r.g.toNat v
noncomputable def N3(k:Nat)(to:Int):Nat->Eng->Nat->Int->(Eng×Nat)×Bool
 |0,e,v,_=>((e,v),true)
 |f+1,e,v,a=>if a<=to then((e,v),true) else if(Y6 e.s.log a).k=3 then N3 k to f e v (Y6 e.s.log a).n
  else if(Y6 e.s.log a).k=2 then(if(G7 e k (Y6 e.s.log a)).2=true then N3 k to f (G7 e k (Y6 e.s.log a)).1 (kO e k (Y6 e.s.log a) v) (Y6 e.s.log a).p else(((G7 e k (Y6 e.s.log a)).1,kO e k (Y6 e.s.log a) v),false))
  else N3 k to f e v (Y6 e.s.log a).p
structure UE(e:Eng)(k:Nat)(tx:Int):Prop where
 si:SI e.s
 at_:U8 e.txs tx=k
 lt:k<e.txs.length
 id:(e.txs.getD k default).id=tx
 txr:1<=tx/\tx<=60
 la:1<=(e.txs.getD k default).last/\(e.txs.getD k default).last<=e.s.log.length
 ep:1<=e.s.ep/\e.s.ep<=60
 t10:e.txs.length<=10
 lk:e.lk.held.length<=60/\e.lk.waits.length<=100
 rm:e.s.log.length+1<=60
structure UI(e:Eng)(k:Nat)(tx a:Int):Prop where
 u:UE e k tx
 ar:0<=a/\a<=(e.s.log.length:Int)
 fu:∃f,a.toNat<f/\e.s.log.length+1+und e.s.log f a<=60
theorem b6h{e:Eng}{k:Nat}{tx:Int}{r:Rec}(h:UE e k tx)(hr:b4I e k r):AddB e tx k r/\R2 (I3 e.s (wQ e k r))=true:=by
 have hid:=h.id;have htx:=h.txr;have hl:=h.la;have hrm:=h.rm;have ht:=h.t10;have he:=h.ep;obtain⟨r1,r2,r3,r4,r5,r6,r7,r8,r9,r10,r11,r12,r13,r14,r15,_⟩:=hr;have hok:R2 (I3 e.s (wQ e k r))=true:=by
  refine(Q9 _).2 ?_
  unfold zT I3 wQ;dsimp only;refine⟨he.1,he.2,by omega,by omega,by omega,by omega,by omega,by omega,by omega,by omega,by omega,by omega,by omega,by omega,by omega,λe=>absurd e r1,λ_=>⟨by omega,by omega,by omega,r6,r5,r15,⟨λe=>absurd e r2,λe=>by omega⟩⟩⟩
 exact⟨⟨h.at_,h.lt,hid,hok,by omega,by omega,⟨by omega,by omega⟩⟩,hok⟩
theorem fJ{L:List Rec}{x:Rec}(hL:xD L):∀(f:Nat) (a:Int),a<=L.length->und (L++[x]) f a=und L f a
 |0,_,_=>rfl
 |f+1,a,ha=>by
  unfold und;by_cases h0:a<=0
  ·rw[if_pos h0,if_pos h0]
  ·have e:Y6 (L++[x]) a=Y6 L a:=by
    unfold Y6;rw[L5,oX (by omega),←L5]
   obtain⟨p1,p2,p3,p4⟩:=hL.prev (show 1<=a by omega) ha
   rw[if_neg h0,if_neg h0,e,fJ hL f _ (by omega),fJ hL f _ (by omega)]
theorem a1n(e:Eng)(k:Nat)(r:Rec):(uI e k r).s.log.length=e.s.log.length+1:=by
 show(e.s.log++[_]).length=_;simp
theorem a5C{e:Eng}{k:Nat}{tx a:Int}(h:UE e k tx)(h1:1<=a)(h2:a<=e.s.log.length)(h3:(Y6 e.s.log a).k=2):b4I e k (i8 (Y6 e.s.log a))/\bH (uI e k (i8 (Y6 e.s.log a))).s (nP e k (Y6 e.s.log a))/\(Y6 e.s.log a).b.length<=30/\SI (uI e k (i8 (Y6 e.s.log a))).s:=by
 have hL:=h.si.logP;obtain⟨hr,_⟩:=hL.at h1 h2;obtain⟨p1,p2,p3,p4⟩:=hL.prev h1 h2;obtain⟨_,_,_,_,_,_,_,_,_,_,g1,g2,s1,s2,hb,_,_⟩:=hr;have hR:b4I e k (i8 (Y6 e.s.log a)):=by
  unfold b4I i8;dsimp only;exact⟨by omega,by omega,by omega,by omega,λh=>absurd rfl h,λ_ h=>absurd rfl h,by omega,by omega,g1,g2,s1,s2,by decide,hb,λ_=>rfl,h.lt⟩
 have hok:=(b6h h hR).2;have hS:SI (uI e k (i8 (Y6 e.s.log a))).s:=b74 h.si hok h.rm;exact⟨hR,⟨hS.iv,g1,by show(Y6 e.s.log a).g<8;omega,s1,by show(Y6 e.s.log a).s<4;omega⟩,hb,hS⟩
theorem b65{e:Eng}{k:Nat}{tx a:Int}(h:UE e k tx)(h1:1<=a)(h2:a<=e.s.log.length)(h3:(Y6 e.s.log a).k=2)(hu:(G7 e k (Y6 e.s.log a)).2=false):C5 (G7 e k (Y6 e.s.log a)).1.s.d/\(G7 e k (Y6 e.s.log a)).1.s.d.sec.length=69:=
 b7N (a5C h h1 h2 h3).2.2.2 hu
theorem a4k{e:Eng}{k:Nat}{tx a:Int}(h:UI e k tx a)(h1:1<=a)(h3:(Y6 e.s.log a).k=2)(hu:(G7 e k (Y6 e.s.log a)).2=true):UI (G7 e k (Y6 e.s.log a)).1 k tx (Y6 e.s.log a).p:=by
 obtain⟨hE,⟨a1,a2⟩,f,f1,f2⟩:=h;have hL:=hE.si.logP;obtain⟨p1,p2,p3,p4⟩:=hL.prev h1 a2;obtain⟨hR,hA,hb,hS⟩:=a5C hE h1 a2 h3;have hrm:=hE.rm;have hlen:=a1n e k (i8 (Y6 e.s.log a));obtain⟨s1,s2⟩:=b7Y hS hA ⟨by show(0:Int)<=(e.s.log.length:Int)+1;omega,by show(e.s.log.length:Int)+1<=_;omega⟩ hb hu
 have elog:(G7 e k (Y6 e.s.log a)).1.s.log=e.s.log++[nP e k (Y6 e.s.log a)]:=s2;have elen:(G7 e k (Y6 e.s.log a)).1.s.log.length=e.s.log.length+1:=by rw[elog];simp
 have eep:(G7 e k (Y6 e.s.log a)).1.s.ep=e.s.ep:=b8h (uI e k (i8 (Y6 e.s.log a))).s (nP e k (Y6 e.s.log a));have etx:(G7 e k (Y6 e.s.log a)).1.txs=e.txs.set k ⟨(e.txs.getD k default).id,(e.s.log.length:Int)+1⟩:=rfl;have h2:und e.s.log f a=1+und e.s.log (f-1) (Y6 e.s.log a).p:=by
  rw[oO (by omega) f1 (by omega),if_pos h3]
 have h4:und (e.s.log++[nP e k (Y6 e.s.log a)]) (f-1) (Y6 e.s.log a).p=und e.s.log (f-1) (Y6 e.s.log a).p:=fJ hL _ _ (by omega)
 refine⟨⟨s1,by rw[etx];exact a6j hE.lt hE.at_,by rw[etx,l9];exact hE.lt,by rw[etx];exact(b5A hE.lt).trans hE.id,hE.txr,?_,by rw[eep];exact hE.ep,by rw[etx,l9];exact hE.t10,hE.lk,by rw[elen];omega⟩,⟨p1,by rw[elen];omega⟩,f-1,by omega,by rw[elen,elog,h4];omega⟩
 rw[etx,elen,L5,j_k hE.lt]
 show 1<=(e.s.log.length:Int)+1/\(e.s.log.length:Int)+1<=_;omega
theorem b79{e:Eng}{k:Nat}{tx a:Int}(h:UI e k tx a)(h1:1<=a)(h3:(Y6 e.s.log a).k=3):UI e k tx (Y6 e.s.log a).n:=by
 obtain⟨hE,⟨a1,a2⟩,f,f1,f2⟩:=h;obtain⟨p1,p2,p3,p4⟩:=hE.si.logP.prev h1 a2;have h2:=fO (L:=e.s.log) (by omega) f1 h3
 exact⟨hE,⟨p3,by omega⟩,f-1,by omega,by omega⟩
theorem b8v{e:Eng}{k:Nat}{tx a:Int}(h:UI e k tx a)(h1:1<=a)(h3:(Y6 e.s.log a).k≠3):UI e k tx (Y6 e.s.log a).p:=by
 obtain⟨hE,⟨a1,a2⟩,f,f1,f2⟩:=h;obtain⟨p1,p2,p3,p4⟩:=hE.si.logP.prev h1 a2;have h2:=oO (L:=e.s.log) (by omega) f1 h3
 exact⟨hE,⟨p1,by omega⟩,f-1,by omega,by omega⟩
theorem wB{k:Nat}{to a:Int}{f:Nat}{e:Eng}{v:Nat}(h:a<=to):N3 k to f e v a=((e,v),true):=by
 cases f with
 |zero=>rfl
 |succ f=>unfold N3;rw[if_pos h]
theorem a30{k:Nat}{to a:Int}{f:Nat}{e:Eng}{v:Nat}(h:¬a<=to)(hf:0<f)(h3:(Y6 e.s.log a).k=3):N3 k to f e v a=N3 k to (f-1) e v (Y6 e.s.log a).n:=by
 obtain⟨g,rfl⟩:∃g,f=g+1:=⟨f-1,by omega⟩
 conv=>lhs;unfold N3
 rw[if_neg h,if_pos h3];rfl
theorem a1w{k:Nat}{to a:Int}{f:Nat}{e:Eng}{v:Nat}(h:¬a<=to)(hf:0<f)(h3:(Y6 e.s.log a).k≠3)(h2:(Y6 e.s.log a).k≠2):N3 k to f e v a=N3 k to (f-1) e v (Y6 e.s.log a).p:=by
 obtain⟨g,rfl⟩:∃g,f=g+1:=⟨f-1,by omega⟩
 conv=>lhs;unfold N3
 rw[if_neg h,if_neg h3,if_neg h2];rfl
theorem a3G{k:Nat}{to a:Int}{f:Nat}{e:Eng}{v:Nat}(h:¬a<=to)(hf:0<f)(h2:(Y6 e.s.log a).k=2)(hu:(G7 e k (Y6 e.s.log a)).2=true):N3 k to f e v a=N3 k to (f-1) (G7 e k (Y6 e.s.log a)).1 (kO e k (Y6 e.s.log a) v) (Y6 e.s.log a).p:=by
 obtain⟨g,rfl⟩:∃g,f=g+1:=⟨f-1,by omega⟩
 conv=>lhs;unfold N3
 rw[if_neg h,if_neg (by omega),if_pos h2,if_pos hu]
 rfl
theorem a2S{k:Nat}{to a:Int}{f:Nat}{e:Eng}{v:Nat}(h:¬a<=to)(hf:0<f)(h2:(Y6 e.s.log a).k=2)(hu:(G7 e k (Y6 e.s.log a)).2=false):N3 k to f e v a=(((G7 e k (Y6 e.s.log a)).1,kO e k (Y6 e.s.log a) v),false):=by
 obtain⟨g,rfl⟩:∃g,f=g+1:=⟨f-1,by omega⟩
 conv=>lhs;unfold N3
 rw[if_neg h,if_neg (by omega),if_pos h2,if_neg (by rw[hu];simp)]
def b7R(u:(Eng×Nat)×Bool)(k:Nat)(tx:Int):Prop:=(u.2=true->UE u.1.1 k tx)/\(u.2=false->C5 u.1.1.s.d/\u.1.1.s.d.sec.length=69)
theorem a5z{k:Nat}{tx to:Int}(h0:0<=to):∀(f:Nat) (e:Eng) (v:Nat) (a:Int),a.toNat<f->UI e k tx a->b7R (N3 k to f e v a) k tx
 |0,_,_,_,hf,_=>absurd hf (F2 _)
 |f+1,e,v,a,hf,h=>by
  by_cases ht:a<=to
  ·rw[wB ht];exact⟨λ_=>h.u,λe=>by cases e⟩
  ·have h1:1<=a:=by omega
   obtain⟨p1,p2,p3,p4⟩:=h.u.si.logP.prev h1 h.ar.2;by_cases h3:(Y6 e.s.log a).k=3
   ·rw[a30 ht (by omega) h3]
    exact a5z h0 f _ _ _ (by omega) (b79 h h1 h3)
   ·by_cases h2:(Y6 e.s.log a).k=2
    ·cases hu:(G7 e k (Y6 e.s.log a)).2 with
     |true=>
      rw[a3G ht (by omega) h2 hu]
      exact a5z h0 f _ _ _ (by omega) (a4k h h1 h2 hu)
     |false=>
      rw[a2S ht (by omega) h2 hu]
      exact⟨λe=>(by cases e),λ_=>b65 h.u h1 h.ar.2 h2 hu⟩
    ·rw[a1w ht (by omega) h3 h2]
     exact a5z h0 f _ _ _ (by omega) (b8v h h1 h3)
theorem a9O{L:List Rec}{T:List Txn}{k:Nat}:∀n,k<n->1+und L 61 (T.getD k default).last<=nM L T n
 |0,h=>absurd h (F2 k)
 |n+1,h=>by
  unfold nM;by_cases e:k=n
  ·subst e;omega
  ·have:=a9O (L:=L) (T:=T) (k:=k) n (by omega)
   omega
theorem b2z{e:Eng}{tx:Int}{k:Nat}(ho:M4 e=true)(hm:N8 e)(hu:e.up=true)(ha:U8 e.txs tx=k)(hk:k<e.txs.length)(hi:(e.txs.getD k default).id=tx):UI e k tx (e.txs.getD k default).last:=by
 obtain⟨a1,a2,a3,a4⟩:=xV (q9 ho).2.1;have hl:=fD ho hu hk;have hid:=b8T ho hu hk;have hro:=b3E ho hu;have hnd:=a9O (L:=e.s.log) (T:=e.txs) e.txs.length hk;have hnd:1+und e.s.log 61 (e.txs.getD k default).last<=ndE e:=hnd;have h60:=(dQ (q9 ho).1).1;exact⟨⟨b9z (q9 ho).1 hm.1,ha,hk,hi,by omega,hl,b6X (q9 ho).1,a1,b8D a4,by omega⟩,by omega,61,by omega,by omega⟩
end Go.Proofs.YtokaojbaacnngaaGreat

namespace Go.Proofs.YtokaojbaacnngaaGreat
set_option maxRecDepth 100000
open Go.SS

def a5Q(k:Nat):Option Ob:=some (.arr false 1000000 1 1 λ_=>[.ref k 0 0])
def b3W(b:Bool):Option Ob:=some (.arr true 1000000 1 1 λ_=>[.bool b])
noncomputable def y4(e:Eng)(k:Nat)(r:Rec)(lsn:Int)(v:Nat):(Eng×Nat)×Bool×Bool:=if r.l<=lsn then((e,v),true,false) else(((G7 e k r).1,kO e k r v),(G7 e k r).2,(G7 e k r).2)
def Eng.ux(e:Eng)(v:Nat)(lsn tx:Int)(b:Bool):Y3:=[a0l lsn,a5Q 2,jP (e.tn 3 4 5 6 7 8 9 10),G0 e.s.d.sec,I8 e.s.d.cache,A5 e.s.d.keep,v6 e.s.log,zS v e.s.fr e.s.fr.length,sI e.txs,sB e.lk.held,wtA e.lk.waits,a0l tx,b3W b]
def Eng.uy(e:Eng)(v:Nat)(lsn tx:Int)(b:Bool):Y3:=[a0l lsn,a5Q 2,jP (e.tn 13 14 15 16 17 18 19 20),none,none,none,none,none,none,none,none,a0l tx,b3W b,G0 e.s.d.sec,I8 e.s.d.cache,A5 e.s.d.keep,v6 e.s.log,zS v e.s.fr e.s.fr.length,sI e.txs,sB e.lk.held,wtA e.lk.waits]
noncomputable def b5k:Con:=.reff ⟨Eng×Rec×Int×Int×Nat×Nat,λx=>[.agg x.2.1.ts,.ref 0 0 0,.ref 1 0 0,.ref 11 0 0,.ref 12 0 0],λx=>x.1.ux x.2.2.2.2.2 x.2.2.1 x.2.2.2.1 true,λx=>.bool (y4 x.1 x.2.2.2.2.1 x.2.1 x.2.2.1 x.2.2.2.2.2).2.2,λx=>(y4 x.1 x.2.2.2.2.1 x.2.1 x.2.2.1 x.2.2.2.2.2).1.1.uy (y4 x.1 x.2.2.2.2.1 x.2.1 x.2.2.1 x.2.2.2.2.2).1.2 x.2.2.1 x.2.2.2.1 (y4 x.1 x.2.2.2.2.1 x.2.1 x.2.2.1 x.2.2.2.2.2).2.1,
 λx=>x.2.2.1<x.2.1.l->(AddB x.1 x.2.2.2.1 x.2.2.2.2.1 (i8 x.2.1)/\bH (uI x.1 x.2.2.2.2.1 (i8 x.2.1)).s (nP x.1 x.2.2.2.2.1 x.2.1))⟩
theorem b2o:GK 194 b5k:=gk Tryz.func194<|by
 rintro⟨e,r,lsn,tx,k,v⟩ h;dsimp only at h;refine C4 (gC b7n (gC b3e gN)) Tryz.func194 Z0 [[.box 0,.box 1,.box 2,.arr 3,.arr 4,.arr 5,.arr 6,.arr 7,.arr 8,.arr 9,.arr 10,.box 11,.box 12,.cel 2 0,.cel 2 1,.cel 2 3,.cel 2 5,.cel 2 7,.cel 2 10,.cel 2 11,.cel 2 12]] (α:=(decide (r.l<=lsn)=true->(false=(y4 e k r lsn v).2.2/\True)/\(1=1/\1=1/\lsn=lsn/\True)/\(1=1/\1=1/\(0=0/\0=0)/\True)/\(1=1/\1=1/\yT e (y4 e k r lsn v).1.1)/\True/\True/\True/\True/\True/\True/\True/\True/\(1=1/\1=1/\tx=tx/\True)/\(1=1/\1=1/\true=(y4 e k r lsn v).2.1/\True)/\wN (v) ((y4 e k r lsn v).1.2) e (y4 e k r lsn v).1.1)/\(decide (r.l<=lsn)=false->∃(x:(Eng×Int×Rec×Nat×Nat)),(((0=0/\0=0)/\tx=x.2.1/\((0:Int)=x.2.2.1.e/\(0:Int)=x.2.2.1.l/\(0:Int)=x.2.2.1.t/\(3:Int)=x.2.2.1.k/\(0:Int)=x.2.2.1.p/\r.p=x.2.2.1.n/\r.g=x.2.2.1.g/\r.s=x.2.2.1.s/\[]=x.2.2.1.b/\r.b=x.2.2.1.a/\True)/\True)/\((1=1/\1=1/\yT e x.1)/\wN (v) (x.2.2.2.2) e x.1)/\AddB x.1 x.2.1 x.2.2.2.1 x.2.2.1)/\∃(x_1:(Sto×Rec×Nat)),(((0=0/\0=0)/\(x.1.s.ep=x_1.2.1.e/\(x.1.s.log.length:Int)+(1:Int)=x_1.2.1.l/\(x.1.txs.getD x.2.2.2.1 default).id=x_1.2.1.t/\x.2.2.1.k=x_1.2.1.k/\(x.1.txs.getD x.2.2.2.1 default).last=x_1.2.1.p/\x.2.2.1.n=x_1.2.1.n/\x.2.2.1.g=x_1.2.1.g/\x.2.2.1.s=x_1.2.1.s/\x.2.2.1.b=x_1.2.1.b/\x.2.2.1.a=x_1.2.1.a/\True)/\True)/\((1=1/\1=1/\(0=0/\x.1.s.d.sec.length=x_1.1.d.sec.length)/\(0=0/\x.1.s.d.cache.length=x_1.1.d.cache.length)/\x.1.s.d.armed=x_1.1.d.armed/\(0=0/\x.1.s.d.keep.length=x_1.1.d.keep.length)/\x.1.s.ep=x_1.1.ep/\(0=0/\(x.1.s.log++[I3 x.1.s (wQ x.1 x.2.2.2.1 x.2.2.1)]).length=x_1.1.log.length)/\x.1.s.sure=x_1.1.sure/\(0=0/\x.1.s.fr.length=x_1.1.fr.length)/\x.1.s.hand=x_1.1.hand/\True)/\(Y5 Z5 x.1.s.d.sec x_1.1.d.sec)/\(Y5 Z3 x.1.s.d.cache x_1.1.d.cache)/\(Y5 Y9 x.1.s.d.keep x_1.1.d.keep)/\(Y5 Y7 (x.1.s.log++[I3 x.1.s (wQ x.1 x.2.2.2.1 x.2.2.1)]) x_1.1.log)/\(x.2.2.2.2=x_1.2.2/\x.1.s.fr.length=x_1.1.fr.length/\U9 x.1.s.fr.length (Y8 x.1.s.fr) (Y8 x_1.1.fr))/\True)/\bH x_1.1 x_1.2.1)/\((V0 x_1.1 x_1.2.1).2=(y4 e k r lsn v).2.2/\True)/\(1=1/\1=1/\lsn=lsn/\True)/\(1=1/\1=1/\(0=0/\0=0)/\True)/\(1=1/\1=1/\(0=0/\(V0 x_1.1 x_1.2.1).1.d.sec.length=(y4 e k r lsn v).1.1.s.d.sec.length)/\(0=0/\(V0 x_1.1 x_1.2.1).1.d.cache.length=(y4 e k r lsn v).1.1.s.d.cache.length)/\(V0 x_1.1 x_1.2.1).1.d.armed=(y4 e k r lsn v).1.1.s.d.armed/\(0=0/\(V0 x_1.1 x_1.2.1).1.d.keep.length=(y4 e k r lsn v).1.1.s.d.keep.length)/\(V0 x_1.1 x_1.2.1).1.ep=(y4 e k r lsn v).1.1.s.ep/\(0=0/\(V0 x_1.1 x_1.2.1).1.log.length=(y4 e k r lsn v).1.1.s.log.length)/\(V0 x_1.1 x_1.2.1).1.sure=(y4 e k r lsn v).1.1.s.sure/\(0=0/\(V0 x_1.1 x_1.2.1).1.fr.length=(y4 e k r lsn v).1.1.s.fr.length)/\(V0 x_1.1 x_1.2.1).1.hand=(y4 e k r lsn v).1.1.s.hand/\x.1.up=(y4 e k r lsn v).1.1.up/\(0=0/\(x.1.txs.set x.2.2.2.1 (Txn.mk (x.1.txs.getD x.2.2.2.1 default).id ((x.1.s.log.length:Int)+(1:Int)))).length=(y4 e k r lsn v).1.1.txs.length)/\(0=0/\x.1.lk.held.length=(y4 e k r lsn v).1.1.lk.held.length)/\(0=0/\x.1.lk.waits.length=(y4 e k r lsn v).1.1.lk.waits.length)/\x.1.next=(y4 e k r lsn v).1.1.next/\True)/\True/\True/\True/\True/\True/\True/\True/\True/\(1=1/\1=1/\tx=tx/\True)/\(1=1/\1=1/\(V0 x_1.1 x_1.2.1).2=(y4 e k r lsn v).2.1/\True)/\(Y5 Z5 (V0 x_1.1 x_1.2.1).1.d.sec (y4 e k r lsn v).1.1.s.d.sec)/\(Y5 Z3 (V0 x_1.1 x_1.2.1).1.d.cache (y4 e k r lsn v).1.1.s.d.cache)/\(Y5 Y9 (V0 x_1.1 x_1.2.1).1.d.keep (y4 e k r lsn v).1.1.s.d.keep)/\(Y5 Y7 (V0 x_1.1 x_1.2.1).1.log (y4 e k r lsn v).1.1.s.log)/\(B6 x_1.1 x_1.2.1.g.toNat x_1.2.2=(y4 e k r lsn v).1.2/\(V0 x_1.1 x_1.2.1).1.fr.length=(y4 e k r lsn v).1.1.s.fr.length/\U9 (V0 x_1.1 x_1.2.1).1.fr.length (Y8 (V0 x_1.1 x_1.2.1).1.fr) (Y8 (y4 e k r lsn v).1.1.s.fr))/\(Y5 X0 (x.1.txs.set x.2.2.2.1 (Txn.mk (x.1.txs.getD x.2.2.2.1 default).id ((x.1.s.log.length:Int)+(1:Int)))) (y4 e k r lsn v).1.1.txs)/\(Y5 X7 x.1.lk.held (y4 e k r lsn v).1.1.lk.held)/\(Y5 W8 x.1.lk.waits (y4 e k r lsn v).1.1.lk.waits)/\True)) ⟨λhc=> ?_,λhc=> ?_⟩
 ·have e0:y4 e k r lsn v=((e,v),true,false):=if_pos (F3 hc);rw[e0];exact⟨Z9,⟨rfl,rfl,Z9⟩,⟨rfl,rfl,T2⟩,⟨rfl,rfl,Z7,Z7,rfl,Z7,rfl,Z7,rfl,Z7,rfl,rfl,Z7,Z7,Z7,Z9⟩,trivial,trivial,trivial,trivial,trivial,trivial,trivial,trivial,⟨rfl,rfl,Z9⟩,⟨rfl,rfl,Z9⟩,Z8,Z8,Z8,Z8,S2,Z8,Z8,X8⟩
 ·have hc:=yQ hc;obtain⟨hA,hP⟩:=h (by omega)
  have e0:y4 e k r lsn v=(((G7 e k r).1,kO e k r v),(G7 e k r).2,(G7 e k r).2):=if_neg hc;rw[e0];exact⟨(e,tx,i8 r,k,v),⟨⟨Z7,rfl,⟨rfl,rfl,rfl,rfl,rfl,rfl,rfl,rfl,rfl,Z9⟩,trivial⟩,⟨⟨rfl,rfl,Z7,Z7,rfl,Z7,rfl,Z7,rfl,Z7,rfl,rfl,Z7,Z7,Z7,Z9⟩,Z8,Z8,Z8,Z8,S2,Z8,Z8,X8⟩,hA⟩,((uI e k (i8 r)).s,nP e k r,v),⟨⟨Z7,⟨rfl,rfl,rfl,rfl,rfl,rfl,rfl,rfl,rfl,Z9⟩,trivial⟩,⟨⟨rfl,rfl,Z7,Z7,rfl,Z7,rfl,Z7,rfl,Z7,Z9⟩,Z8,Z8,Z8,Z8,S2,trivial⟩,hP⟩,Z9,⟨rfl,rfl,Z9⟩,⟨rfl,rfl,T2⟩,⟨rfl,rfl,Z7,Z7,rfl,Z7,rfl,Z7,rfl,Z7,rfl,rfl,Z7,Z7,Z7,Z9⟩,trivial,trivial,trivial,trivial,trivial,trivial,trivial,trivial,⟨rfl,rfl,Z9⟩,⟨rfl,rfl,Z9⟩,Z8,Z8,Z8,Z8,S2,Z8,Z8,X8⟩
def Eng.vx(e:Eng)(v:Nat)(lsn tx:Int):Y3:=[jP (e.tn 1 2 3 4 5 6 7 8),G0 e.s.d.sec,I8 e.s.d.cache,A5 e.s.d.keep,v6 e.s.log,zS v e.s.fr e.s.fr.length,sI e.txs,sB e.lk.held,wtA e.lk.waits,a0l lsn,a5Q 0,a0l tx,b3W true]
def Eng.vy(e:Eng)(v:Nat)(lsn tx:Int)(b:Bool):Y3:=[jP (e.tn 13 14 15 16 17 18 19 20),none,none,none,none,none,none,none,none,a0l lsn,a5Q 0,a0l tx,b3W b,G0 e.s.d.sec,I8 e.s.d.cache,A5 e.s.d.keep,v6 e.s.log,zS v e.s.fr e.s.fr.length,sI e.txs,sB e.lk.held,wtA e.lk.waits]
noncomputable def b7L:Con:=.reff ⟨Eng×Int×Int×Int×Nat×Nat,λx=>[.ref 0 0 0,.int .i64 x.2.1,.fn (.func 194) [.ref 9 0 0,.ref 10 0 0,.ref 11 0 0,.ref 12 0 0]],λx=>x.1.vx x.2.2.2.2.2 x.2.2.1 x.2.2.2.1,λ_=>.tup [],λx=>(N3 x.2.2.2.2.1 x.2.2.1 61 x.1 x.2.2.2.2.2 x.2.1).1.1.vy (N3 x.2.2.2.2.1 x.2.2.1 61 x.1 x.2.2.2.2.2 x.2.1).1.2 x.2.2.1 x.2.2.2.1 (N3 x.2.2.2.2.1 x.2.2.1 61 x.1 x.2.2.2.2.2 x.2.1).2,λx=>UI x.1 x.2.2.2.2.1 x.2.2.2.1 x.2.1/\0<=x.2.2.1⟩
structure UdI(u0:(Eng×Nat)×Bool)(k:Nat)(tx to:Int) where
 e:Eng
 v:Nat
 a:Int
 f:Nat
 h:UI e k tx a
 hf:a.toNat<f
 eq:N3 k to f e v a=u0
noncomputable def b7s(e:Eng)(from_ lsn tx:Int)(k v:Nat):Nat->Ann
 |0=>.one (UdI (N3 k lsn 61 e v from_) k tx lsn) (λx=>⟨[(0,.ref 0 0 0),(1,.int .i64 x.a),(2,.fn (.func 194) [.ref 9 0 0,.ref 10 0 0,.ref 11 0 0,.ref 12 0 0])],x.e.vy x.v lsn tx true⟩) (λx=>x.f) [.box 0,.arr 1,.arr 2,.arr 3,.arr 4,.arr 5,.arr 6,.arr 7,.arr 8,.box 9,.box 10,.box 11,.box 12,.cel 0 0,.cel 0 1,.cel 0 3,.cel 0 5,.cel 0 7,.cel 0 10,.cel 0 11,.cel 0 12] [.box 0,.arr 1,.arr 2,.arr 3,.arr 4,.arr 5,.arr 6,.arr 7,.arr 8,.box 9,.box 10,.box 11,.box 12,.cel 0 0,.cel 0 1,.cel 0 3,.cel 0 5,.cel 0 7,.cel 0 10,.cel 0 11,.cel 0 12] (λ_=>Z0)
 |_=>.none
theorem b9P{k:Nat}{to a:Int}{f:Nat}{e:Eng}{v:Nat}(hf:0<f)(h3:(Y6 e.s.log a).k=3)(hn:(Y6 e.s.log a).n<=a):N3 k to (f-1) e v (Y6 e.s.log a).n=N3 k to f e v a:=by
 by_cases ht:a<=to
 ·rw[wB ht,wB (by omega)]
 ·rw[a30 ht hf h3]
theorem b9Q{k:Nat}{to a:Int}{f:Nat}{e:Eng}{v:Nat}(hf:0<f)(h3:(Y6 e.s.log a).k≠3)(h2:(Y6 e.s.log a).k≠2)(hn:(Y6 e.s.log a).p<=a):N3 k to (f-1) e v (Y6 e.s.log a).p=N3 k to f e v a:=by
 by_cases ht:a<=to
 ·rw[wB ht,wB (by omega)]
 ·rw[a1w ht hf h3 h2]
theorem b5q:GK 193 b7L:=gk Tryz.func193<|by
 rintro⟨e,from_,lsn,tx,k,v⟩ ⟨hU,h0⟩;dsimp only at hU h0;have h60:=hU.u.rm;have har:=hU.ar;refine C4 (gC b2o gN) Tryz.func193 (b7s e from_ lsn tx k v) [[.box 0,.arr 1,.arr 2,.arr 3,.arr 4,.arr 5,.arr 6,.arr 7,.arr 8,.box 9,.box 10,.box 11,.box 12,.cel 0 0,.cel 0 1,.cel 0 3,.cel 0 5,.cel 0 7,.cel 0 10,.cel 0 11,.cel 0 12]] (α:=(∃(x:UdI (N3 k lsn 61 e v from_) k tx lsn),((0=0/\0=0)/\from_=x.a/\(Fn.func 194=Fn.func 194/\(0=0/\0=0)/\(0=0/\0=0)/\(0=0/\0=0)/\(0=0/\0=0)/\True)/\True)/\(1=1/\1=1/\yT e x.e)/\True/\True/\True/\True/\True/\True/\True/\True/\(1=1/\1=1/\lsn=lsn/\True)/\(1=1/\1=1/\(0=0/\0=0)/\True)/\(1=1/\1=1/\tx=tx/\True)/\(1=1/\1=1/\true=true/\True)/\wN (v) (x.v) e x.e)/\∀(x:UdI (N3 k lsn 61 e v from_) k tx lsn),(decide (x.a>(0:Int))=true->X4 .i64 (x.a- (1:Int))/\W4 (x.a- (1:Int)) x.e.s.log.length/\Lt (0+(x.a- (1:Int)).toNat) x.e.s.log.length/\(((x.e.s.log.getD (0+(x.a- (1:Int)).toNat) default).k==(3:Int))=true->∃(y:UdI (N3 k lsn 61 e v from_) k tx lsn),(((0=0/\0=0)/\(x.e.s.log.getD (0+(x.a- (1:Int)).toNat) default).n=y.a/\(Fn.func 194=Fn.func 194/\(0=0/\0=0)/\(0=0/\0=0)/\(0=0/\0=0)/\(0=0/\0=0)/\True)/\True)/\(1=1/\1=1/\yT x.e y.e)/\True/\True/\True/\True/\True/\True/\True/\True/\(1=1/\1=1/\lsn=lsn/\True)/\(1=1/\1=1/\(0=0/\0=0)/\True)/\(1=1/\1=1/\tx=tx/\True)/\(1=1/\1=1/\true=true/\True)/\wN (x.v) (y.v) x.e y.e)/\Lt y.f x.f)/\(((x.e.s.log.getD (0+(x.a- (1:Int)).toNat) default).k==(3:Int))=false->∃(x_1:(Eng×Rec×Int×Int×Nat×Nat)),(((x.e.s.log.getD (0+(x.a- (1:Int)).toNat) default).k==(2:Int))=true->((EqR (x.e.s.log.getD (0+(x.a- (1:Int)).toNat) default) x_1.2.1)/\(0=0/\0=0)/\(0=0/\0=0)/\(0=0/\0=0)/\(0=0/\0=0)/\True)/\((1=1/\Z6 1 (λ(x:Nat)=>[T.int .i64 lsn]) λ(x:Nat)=>[T.int .i64 x_1.2.2.1])/\(1=1/\1=1/\(0=0/\0=0)/\True)/\(1=1/\1=1/\yT x.e x_1.1)/\(Y5 Z5 x.e.s.d.sec x_1.1.s.d.sec)/\(Y5 Z3 x.e.s.d.cache x_1.1.s.d.cache)/\(Y5 Y9 x.e.s.d.keep x_1.1.s.d.keep)/\(Y5 Y7 x.e.s.log x_1.1.s.log)/\(x.v=x_1.2.2.2.2.2/\x.e.s.fr.length=x_1.1.s.fr.length/\U9 x.e.s.fr.length (Y8 x.e.s.fr) (Y8 x_1.1.s.fr))/\(Y5 X0 x.e.txs x_1.1.txs)/\(Y5 X7 x.e.lk.held x_1.1.lk.held)/\(Y5 W8 x.e.lk.waits x_1.1.lk.waits)/\(1=1/\Z6 1 (λ(x:Nat)=>[T.int .i64 tx]) λ(x:Nat)=>[T.int .i64 x_1.2.2.2.1])/\(1=1/\Z6 1 (λ(x:Nat)=>[T.bool true]) λ(x:Nat)=>[T.bool true])/\True)/\(x_1.2.2.1<x_1.2.1.l->AddB x_1.1 x_1.2.2.2.1 x_1.2.2.2.2.1 (i8 x_1.2.1)/\bH (apx x_1.1.s (wQ x_1.1 x_1.2.2.2.2.1 (i8 x_1.2.1))) (nP x_1.1 x_1.2.2.2.2.1 x_1.2.1)))/\(((x.e.s.log.getD (0+(x.a- (1:Int)).toNat) default).k==(2:Int))=true->(((x.e.s.log.getD (0+(x.a- (1:Int)).toNat) default).k==(2:Int)&& !(y4 x_1.1 x_1.2.2.2.2.1 x_1.2.1 x_1.2.2.1 x_1.2.2.2.2.2).2.2)=true->(True/\True)/\(1=1/\1=1/\yT (y4 x_1.1 x_1.2.2.2.2.1 x_1.2.1 x_1.2.2.1 x_1.2.2.2.2.2).1.1 (N3 k lsn 61 e v from_).1.1)/\True/\True/\True/\True/\True/\True/\True/\True/\(1=1/\1=1/\x_1.2.2.1=lsn/\True)/\(1=1/\1=1/\(0=0/\0=0)/\True)/\(1=1/\1=1/\x_1.2.2.2.1=tx/\True)/\(1=1/\1=1/\(y4 x_1.1 x_1.2.2.2.2.1 x_1.2.1 x_1.2.2.1 x_1.2.2.2.2.2).2.1=(N3 k lsn 61 e v from_).2/\True)/\wN ((y4 x_1.1 x_1.2.2.2.2.1 x_1.2.1 x_1.2.2.1 x_1.2.2.2.2.2).1.2) ((N3 k lsn 61 e v from_).1.2) (y4 x_1.1 x_1.2.2.2.2.1 x_1.2.1 x_1.2.2.1 x_1.2.2.2.2.2).1.1 (N3 k lsn 61 e v from_).1.1)/\(((x.e.s.log.getD (0+(x.a- (1:Int)).toNat) default).k==(2:Int)&& !(y4 x_1.1 x_1.2.2.2.2.1 x_1.2.1 x_1.2.2.1 x_1.2.2.2.2.2).2.2)=false->∃(y:UdI (N3 k lsn 61 e v from_) k tx lsn),(((0=0/\0=0)/\(x.e.s.log.getD (0+(x.a- (1:Int)).toNat) default).p=y.a/\(Fn.func 194=Fn.func 194/\(0=0/\0=0)/\(0=0/\0=0)/\(0=0/\0=0)/\(0=0/\0=0)/\True)/\True)/\(1=1/\1=1/\yT (y4 x_1.1 x_1.2.2.2.2.1 x_1.2.1 x_1.2.2.1 x_1.2.2.2.2.2).1.1 y.e)/\True/\True/\True/\True/\True/\True/\True/\True/\(1=1/\1=1/\x_1.2.2.1=lsn/\True)/\(1=1/\1=1/\(0=0/\0=0)/\True)/\(1=1/\1=1/\x_1.2.2.2.1=tx/\True)/\(1=1/\1=1/\(y4 x_1.1 x_1.2.2.2.2.1 x_1.2.1 x_1.2.2.1 x_1.2.2.2.2.2).2.1=true/\True)/\wN ((y4 x_1.1 x_1.2.2.2.2.1 x_1.2.1 x_1.2.2.1 x_1.2.2.2.2.2).1.2) (y.v) (y4 x_1.1 x_1.2.2.2.2.1 x_1.2.1 x_1.2.2.1 x_1.2.2.2.2.2).1.1 y.e)/\Lt y.f x.f))/\((((x.e.s.log.getD (0+(x.a- (1:Int)).toNat) default).k==(2:Int))=true->False)->(((x.e.s.log.getD (0+(x.a- (1:Int)).toNat) default).k==(2:Int)&& !(y4 x_1.1 x_1.2.2.2.2.1 x_1.2.1 x_1.2.2.1 x_1.2.2.2.2.2).2.2)=true->(True/\True)/\(1=1/\1=1/\yT x.e (N3 k lsn 61 e v from_).1.1)/\True/\True/\True/\True/\True/\True/\True/\True/\(1=1/\1=1/\lsn=lsn/\True)/\(1=1/\1=1/\(0=0/\0=0)/\True)/\(1=1/\1=1/\tx=tx/\True)/\(1=1/\1=1/\true=(N3 k lsn 61 e v from_).2/\True)/\wN (x.v) ((N3 k lsn 61 e v from_).1.2) x.e (N3 k lsn 61 e v from_).1.1)/\(((x.e.s.log.getD (0+(x.a- (1:Int)).toNat) default).k==(2:Int)&& !(y4 x_1.1 x_1.2.2.2.2.1 x_1.2.1 x_1.2.2.1 x_1.2.2.2.2.2).2.2)=false->∃(y:UdI (N3 k lsn 61 e v from_) k tx lsn),(((0=0/\0=0)/\(x.e.s.log.getD (0+(x.a- (1:Int)).toNat) default).p=y.a/\(Fn.func 194=Fn.func 194/\(0=0/\0=0)/\(0=0/\0=0)/\(0=0/\0=0)/\(0=0/\0=0)/\True)/\True)/\(1=1/\1=1/\yT x.e y.e)/\True/\True/\True/\True/\True/\True/\True/\True/\(1=1/\1=1/\lsn=lsn/\True)/\(1=1/\1=1/\(0=0/\0=0)/\True)/\(1=1/\1=1/\tx=tx/\True)/\(1=1/\1=1/\true=true/\True)/\wN (x.v) (y.v) x.e y.e)/\Lt y.f x.f))))/\(decide (x.a>(0:Int))=false->(True/\True)/\(1=1/\1=1/\yT x.e (N3 k lsn 61 e v from_).1.1)/\True/\True/\True/\True/\True/\True/\True/\True/\(1=1/\1=1/\lsn=lsn/\True)/\(1=1/\1=1/\(0=0/\0=0)/\True)/\(1=1/\1=1/\tx=tx/\True)/\(1=1/\1=1/\true=(N3 k lsn 61 e v from_).2/\True)/\wN (x.v) ((N3 k lsn 61 e v from_).1.2) x.e (N3 k lsn 61 e v from_).1.1)) ⟨⟨⟨e,v,from_,61,hU,by omega,rfl⟩,⟨Z7,rfl,⟨rfl,Z7,Z7,Z7,T2⟩,trivial⟩,⟨rfl,rfl,Z7,Z7,rfl,Z7,rfl,Z7,rfl,Z7,rfl,rfl,Z7,Z7,Z7,Z9⟩,trivial,trivial,trivial,trivial,trivial,trivial,trivial,trivial,⟨rfl,rfl,Z9⟩,⟨rfl,rfl,T2⟩,⟨rfl,rfl,Z9⟩,⟨rfl,rfl,Z9⟩,Z8,Z8,Z8,Z8,S2,Z8,Z8,X8⟩,λx=> ?_⟩
 obtain⟨e',v',a,f,h,hf,heq⟩:=x;dsimp only;have h60:=h.u.rm;have har:=h.ar;refine⟨λhc=> ?_,λhc=> ?_⟩
 ·have h1:1<=a:=by have:=F3 hc;omega
  obtain⟨hr,hrl⟩:=h.u.si.logP.at h1 har.2;obtain⟨p1,p2,p3,p4⟩:=h.u.si.logP.prev h1 har.2;rw[C3];refine⟨Z4 (by omega),⟨by omega,by omega⟩,by unfold Lt;omega,λh3=> ?_,λh3=> ?_⟩
  ·have h3:(Y6 e'.s.log a).k=3:=beq_iff_eq.1 h3;exact⟨⟨e',v',(Y6 e'.s.log a).n,f-1,b79 h h1 h3,by omega,(b9P (by omega) h3 (by omega)).trans heq⟩,⟨⟨Z7,rfl,⟨rfl,Z7,Z7,Z7,T2⟩,trivial⟩,⟨rfl,rfl,Z7,Z7,rfl,Z7,rfl,Z7,rfl,Z7,rfl,rfl,Z7,Z7,Z7,Z9⟩,trivial,trivial,trivial,trivial,trivial,trivial,trivial,trivial,⟨rfl,rfl,Z9⟩,⟨rfl,rfl,T2⟩,⟨rfl,rfl,Z9⟩,⟨rfl,rfl,Z9⟩,Z8,Z8,Z8,Z8,S2,Z8,Z8,X8⟩,by unfold Lt;dsimp only;omega⟩
  ·have h3:(Y6 e'.s.log a).k≠3:=λe=>by
    have h3:((Y6 e'.s.log a).k==3)=false:=h3;rw[e] at h3;cases h3
   refine⟨(e',Y6 e'.s.log a,lsn,tx,k,v'),λh2=>⟨⟨⟨rfl,rfl,rfl,rfl,rfl,rfl,rfl,rfl,rfl,Z9⟩,Z7,Z7,Z7,T2⟩,⟨Z8,⟨rfl,rfl,T2⟩,⟨rfl,rfl,Z7,Z7,rfl,Z7,rfl,Z7,rfl,Z7,rfl,rfl,Z7,Z7,Z7,Z9⟩,Z8,Z8,Z8,Z8,S2,Z8,Z8,Z8,Z8,X8⟩,λ_=> ?_⟩,λh2=>⟨λhq=> ?_,λhq=> ?_⟩,λh2=>⟨λhq=> ?_,λhq=> ?_⟩⟩
   ·have h2:(Y6 e'.s.log a).k=2:=beq_iff_eq.1 h2;obtain⟨hR,hA,_⟩:=a5C h.u h1 har.2 h2;exact⟨(b6h h.u hR).1,hA⟩
   ·have h2:(Y6 e'.s.log a).k=2:=beq_iff_eq.1 h2;by_cases ht:a<=lsn
    ·have e0:y4 e' k (Y6 e'.s.log a) lsn v'=((e',v'),true,false):=if_pos (by omega)
     dsimp only;rw[e0,←heq,wB ht];exact⟨v5,⟨rfl,rfl,Z7,Z7,rfl,Z7,rfl,Z7,rfl,Z7,rfl,rfl,Z7,Z7,Z7,Z9⟩,trivial,trivial,trivial,trivial,trivial,trivial,trivial,trivial,⟨rfl,rfl,Z9⟩,⟨rfl,rfl,T2⟩,⟨rfl,rfl,Z9⟩,⟨rfl,rfl,Z9⟩,Z8,Z8,Z8,Z8,S2,Z8,Z8,X8⟩
    ·have e0:y4 e' k (Y6 e'.s.log a) lsn v'=(((G7 e' k (Y6 e'.s.log a)).1,kO e' k (Y6 e'.s.log a) v'),(G7 e' k (Y6 e'.s.log a)).2,(G7 e' k (Y6 e'.s.log a)).2):=if_neg (by omega)
     have hu:(G7 e' k (Y6 e'.s.log a)).2=false:=by
      have hq:((Y6 e'.s.log a).k==2&& !(y4 e' k (Y6 e'.s.log a) lsn v').2.2)=true:=hq;rw[e0,h2] at hq
      simpa using hq
     dsimp only;rw[e0,←heq,a2S ht (by omega) h2 hu]
     exact⟨v5,⟨rfl,rfl,Z7,Z7,rfl,Z7,rfl,Z7,rfl,Z7,rfl,rfl,Z7,Z7,Z7,Z9⟩,trivial,trivial,trivial,trivial,trivial,trivial,trivial,trivial,⟨rfl,rfl,Z9⟩,⟨rfl,rfl,T2⟩,⟨rfl,rfl,Z9⟩,⟨rfl,rfl,hu,trivial⟩,Z8,Z8,Z8,Z8,S2,Z8,Z8,X8⟩
   ·have h2:(Y6 e'.s.log a).k=2:=beq_iff_eq.1 h2;have hq:((Y6 e'.s.log a).k==2&& !(y4 e' k (Y6 e'.s.log a) lsn v').2.2)=false:=hq;by_cases ht:a<=lsn
    ·have e0:y4 e' k (Y6 e'.s.log a) lsn v'=((e',v'),true,false):=if_pos (by omega)
     rw[e0,h2] at hq;cases hq
    ·have e0:y4 e' k (Y6 e'.s.log a) lsn v'=(((G7 e' k (Y6 e'.s.log a)).1,kO e' k (Y6 e'.s.log a) v'),(G7 e' k (Y6 e'.s.log a)).2,(G7 e' k (Y6 e'.s.log a)).2):=if_neg (by omega)
     have hu:(G7 e' k (Y6 e'.s.log a)).2=true:=by
      rw[e0,h2] at hq
      simpa using hq
     dsimp only;rw[e0];exact⟨⟨(G7 e' k (Y6 e'.s.log a)).1,kO e' k (Y6 e'.s.log a) v',(Y6 e'.s.log a).p,f-1,a4k h h1 h2 hu,by omega,(a3G ht (by omega) h2 hu).symm.trans heq⟩,⟨⟨Z7,rfl,⟨rfl,Z7,Z7,Z7,T2⟩,trivial⟩,⟨rfl,rfl,Z7,Z7,rfl,Z7,rfl,Z7,rfl,Z7,rfl,rfl,Z7,Z7,Z7,Z9⟩,trivial,trivial,trivial,trivial,trivial,trivial,trivial,trivial,⟨rfl,rfl,Z9⟩,⟨rfl,rfl,T2⟩,⟨rfl,rfl,Z9⟩,⟨rfl,rfl,hu,trivial⟩,Z8,Z8,Z8,Z8,S2,Z8,Z8,X8⟩,by unfold Lt;dsimp only;omega⟩
   ·have h2:((Y6 e'.s.log a).k==2)=true->False:=h2;have hq:((Y6 e'.s.log a).k==2&& !(y4 e' k (Y6 e'.s.log a) lsn v').2.2)=true:=hq;simp only[J6] at hq;exact absurd hq.1 h2
   ·have h2:(Y6 e'.s.log a).k≠2:=λe=>h2 (beq_iff_eq.2 e)
    exact⟨⟨e',v',(Y6 e'.s.log a).p,f-1,b8v h h1 h3,by omega,(b9Q (by omega) h3 h2 (by omega)).trans heq⟩,⟨⟨Z7,rfl,⟨rfl,Z7,Z7,Z7,T2⟩,trivial⟩,⟨rfl,rfl,Z7,Z7,rfl,Z7,rfl,Z7,rfl,Z7,rfl,rfl,Z7,Z7,Z7,Z9⟩,trivial,trivial,trivial,trivial,trivial,trivial,trivial,trivial,⟨rfl,rfl,Z9⟩,⟨rfl,rfl,T2⟩,⟨rfl,rfl,Z9⟩,⟨rfl,rfl,Z9⟩,Z8,Z8,Z8,Z8,S2,Z8,Z8,X8⟩,by unfold Lt;dsimp only;omega⟩
 ·have ha:a<=lsn:=by have:=yQ hc;omega
  rw[←heq,wB ha];exact⟨v5,⟨rfl,rfl,Z7,Z7,rfl,Z7,rfl,Z7,rfl,Z7,rfl,rfl,Z7,Z7,Z7,Z9⟩,trivial,trivial,trivial,trivial,trivial,trivial,trivial,trivial,⟨rfl,rfl,Z9⟩,⟨rfl,rfl,T2⟩,⟨rfl,rfl,Z9⟩,⟨rfl,rfl,Z9⟩,Z8,Z8,Z8,Z8,S2,Z8,Z8,X8⟩
end Go.Proofs.YtokaojbaacnngaaGreat

namespace Go.Proofs.YtokaojbaacnngaaGreat
set_option maxRecDepth 100000
open Go.SS

noncomputable def N5(e:Eng)(k:Nat)(lsn:Int):(Eng×Nat)×Bool:=N3 k lsn 61 e 0 (e.txs.getD k default).last
noncomputable def K3(e:Eng)(k:Nat)(lsn:Int):(Eng×Nat)×Int:=if(N5 e k lsn).2=true then((N5 e k lsn).1,0) else((a61 (N5 e k lsn).1.1,0),15)
theorem b26{e:Eng}{k:Nat}{tx lsn:Int}(hU:UI e k tx (e.txs.getD k default).last)(h0:0<=lsn):b7R (N5 e k lsn) k tx:=by
 have:=hU.ar;have:=hU.u.rm;exact a5z h0 61 e 0 _ (by omega) hU
theorem b0U{e:Eng}{k:Nat}{lsn:Int}(h:(N5 e k lsn).2=true):K3 e k lsn=((N5 e k lsn).1,0):=if_pos h
theorem b2r{e:Eng}{k:Nat}{lsn:Int}(h:(N5 e k lsn).2=false):K3 e k lsn=((a61 (N5 e k lsn).1.1,0),15):=if_neg (by rw[h];simp)
noncomputable def b75:Con:=.reff ⟨Eng×Int×Int×Nat,λx=>[.ref 0 0 0,.int .i64 x.2.1,.int .i64 x.2.2.1],λx=>x.1.bx 0,λx=>.int .i64 (K3 x.1 x.2.2.2 x.2.2.1).2,λx=>(K3 x.1 x.2.2.2 x.2.2.1).1.1.nx (K3 x.1 x.2.2.2 x.2.2.1).1.2,λx=>UI x.1 x.2.2.2 x.2.1 (x.1.txs.getD x.2.2.2 default).last/\0<=x.2.2.1⟩
theorem b51:GK 123 b75:=gk Tryz.func123<|by
 rintro⟨e,tx,lsn,k⟩ ⟨hU,h0⟩;dsimp only at hU h0;have ha:=hU.u.at_;have hk:=hU.u.lt;have ht:=hU.u.t10;have hR:=b26 hU h0;refine C4 (gC vE (gC b5q (gC b39 gN))) Tryz.func123 Z0 [[.box 0,.arr 1,.arr 2,.arr 3,.arr 4,.arr 5,.arr 6,.arr 7,.arr 8,.cel 0 0,.cel 0 1,.cel 0 3,.cel 0 5,.cel 0 7,.cel 0 10,.cel 0 11,.cel 0 12]] (α:=∃(x:(Eng×Int)),((LeG e)/\((qI e x.1)/\tx=x.2/\True)/\M7 x.1.txs.length)/\W4 (U8 x.1.txs x.2) e.txs.length/\Lt (0+(U8 x.1.txs x.2).toNat) e.txs.length/\∃(x_1:(Eng×Int×Int×Int×Nat×Nat)),(((0=0/\0=0)/\(e.txs.getD (0+(U8 x.1.txs x.2).toNat) default).last=x_1.2.1/\(Fn.func 194=Fn.func 194/\(0=0/\0=0)/\(0=0/\0=0)/\(0=0/\0=0)/\(0=0/\0=0)/\True)/\True)/\((1=1/\1=1/\yT e x_1.1)/\(Y5 Z5 e.s.d.sec x_1.1.s.d.sec)/\(Y5 Z3 e.s.d.cache x_1.1.s.d.cache)/\(Y5 Y9 e.s.d.keep x_1.1.s.d.keep)/\(Y5 Y7 e.s.log x_1.1.s.log)/\(0=x_1.2.2.2.2.2/\e.s.fr.length=x_1.1.s.fr.length/\U9 e.s.fr.length (Y8 e.s.fr) (Y8 x_1.1.s.fr))/\(Y5 X0 e.txs x_1.1.txs)/\(Y5 X7 e.lk.held x_1.1.lk.held)/\(Y5 W8 e.lk.waits x_1.1.lk.waits)/\(1=1/\Z6 1 (λ(x:Nat)=>[T.int .i64 lsn]) λ(x:Nat)=>[T.int .i64 x_1.2.2.1])/\(1=1/\1=1/\(0=0/\0=0)/\True)/\(1=1/\Z6 1 (λ(x:Nat)=>[T.int .i64 tx]) λ(x:Nat)=>[T.int .i64 x_1.2.2.2.1])/\(1=1/\Z6 1 (setRow (λ(x:Nat)=>[T.bool false]) 0 0 [T.bool true]) λ(x:Nat)=>[T.bool true])/\True)/\UI x_1.1 x_1.2.2.2.2.1 x_1.2.2.2.1 x_1.2.1/\(0:Int)<=x_1.2.2.1)/\((!(N3 x_1.2.2.2.2.1 x_1.2.2.1 61 x_1.1 x_1.2.2.2.2.2 x_1.2.1).2)=true->∃(x:(Eng×Nat)),(((0=0/\0=0)/\True)/\((1=1/\1=1/\yT (N3 x_1.2.2.2.2.1 x_1.2.2.1 61 x_1.1 x_1.2.2.2.2.2 x_1.2.1).1.1 x.1)/\wN ((N3 x_1.2.2.2.2.1 x_1.2.2.1 61 x_1.1 x_1.2.2.2.2.2 x_1.2.1).1.2) (x.2) (N3 x_1.2.2.2.2.1 x_1.2.2.1 61 x_1.1 x_1.2.2.2.2.2 x_1.2.1).1.1 x.1)/\C5 x.1.s.d)/\((15:Int)=(K3 e k lsn).2/\True)/\(1=1/\1=1/\(0=0/\x.1.s.d.sec.length=(K3 e k lsn).1.1.s.d.sec.length)/\(0=0/\x.1.s.d.cache.length=(K3 e k lsn).1.1.s.d.cache.length)/\x.1.s.d.armed=(K3 e k lsn).1.1.s.d.armed/\(0=0/\x.1.s.d.keep.length=(K3 e k lsn).1.1.s.d.keep.length)/\x.1.s.ep=(K3 e k lsn).1.1.s.ep/\(0=0/\(v7 x.1.s.d (vR x.1.s.d x.1.s.ep)).length=(K3 e k lsn).1.1.s.log.length)/\(↑(vR x.1.s.d x.1.s.ep):Int)=(K3 e k lsn).1.1.s.sure/\(0=0/\0=(K3 e k lsn).1.1.s.fr.length)/\(0:Int)=(K3 e k lsn).1.1.s.hand/\false=(K3 e k lsn).1.1.up/\(0=0/\0=(K3 e k lsn).1.1.txs.length)/\(0=0/\0=(K3 e k lsn).1.1.lk.held.length)/\(0=0/\0=(K3 e k lsn).1.1.lk.waits.length)/\x.1.next=(K3 e k lsn).1.1.next/\True)/\True/\True/\True/\True/\True/\True/\True/\True/\(Y5 Z5 x.1.s.d.sec (K3 e k lsn).1.1.s.d.sec)/\(Y5 Z3 x.1.s.d.cache (K3 e k lsn).1.1.s.d.cache)/\(Y5 Y9 x.1.s.d.keep (K3 e k lsn).1.1.s.d.keep)/\(Y5 Y7 (v7 x.1.s.d (vR x.1.s.d x.1.s.ep)) (K3 e k lsn).1.1.s.log)/\(0=(K3 e k lsn).1.2/\0=(K3 e k lsn).1.1.s.fr.length/\U9 0 (Y8 []) (Y8 (K3 e k lsn).1.1.s.fr))/\(0=(K3 e k lsn).1.1.txs.length/\Z6 0 (X0 []) (X0 (K3 e k lsn).1.1.txs))/\(0=(K3 e k lsn).1.1.lk.held.length/\Z6 0 (X7 []) (X7 (K3 e k lsn).1.1.lk.held))/\(0=(K3 e k lsn).1.1.lk.waits.length/\Z6 0 (W8 []) (W8 (K3 e k lsn).1.1.lk.waits))/\True)/\((!(N3 x_1.2.2.2.2.1 x_1.2.2.1 61 x_1.1 x_1.2.2.2.2.2 x_1.2.1).2)=false->((0:Int)=(K3 e k lsn).2/\True)/\(1=1/\1=1/\yT (N3 x_1.2.2.2.2.1 x_1.2.2.1 61 x_1.1 x_1.2.2.2.2.2 x_1.2.1).1.1 (K3 e k lsn).1.1)/\True/\True/\True/\True/\True/\True/\True/\True/\wN ((N3 x_1.2.2.2.2.1 x_1.2.2.1 61 x_1.1 x_1.2.2.2.2.2 x_1.2.1).1.2) ((K3 e k lsn).1.2) (N3 x_1.2.2.2.2.1 x_1.2.2.1 61 x_1.1 x_1.2.2.2.2.2 x_1.2.1).1.1 (K3 e k lsn).1.1)) ⟨(e,tx),⟨⟨U0 _,U0 _,U0 _,U0 _,U0 _,U0 _,U0 _,U0 _⟩,⟨⟨Z8,Z8,rfl,Z8,rfl,Z8,rfl,⟨rfl,λ_ _=>rfl⟩,rfl,rfl,Z8,Z8,Z8,Z9⟩,Z9⟩,by unfold M7;dsimp only;omega⟩,?_⟩
 dsimp only;rw[ha,u9,C3];refine⟨Y2 hk,hk,(e,(e.txs.getD k default).last,lsn,tx,k,0),⟨⟨Z7,rfl,⟨rfl,Z7,Z7,Z7,T2⟩,trivial⟩,⟨⟨rfl,rfl,Z7,Z7,rfl,Z7,rfl,Z7,rfl,Z7,rfl,rfl,Z7,Z7,Z7,Z9⟩,Z8,Z8,Z8,Z8,S2,Z8,Z8,Z8,Z8,⟨rfl,rfl,T2⟩,Z8,⟨rfl,λi hi=>by match i,hi with|0,_=>rfl⟩,trivial⟩,hU,h0⟩,λhy=> ?_,λhy=> ?_⟩
 ·have hy:(!(N5 e k lsn).2)=true:=hy;have hy:(N5 e k lsn).2=false:=by simpa using hy
  rw[b2r hy];exact⟨((N5 e k lsn).1.1,(N5 e k lsn).1.2),⟨T2,⟨⟨rfl,rfl,Z7,Z7,rfl,Z7,rfl,Z7,rfl,Z7,rfl,rfl,Z7,Z7,Z7,Z9⟩,Z8,Z8,Z8,Z8,S2,Z8,Z8,X8⟩,(hR.2 hy).1⟩,Z9,⟨rfl,rfl,Z7,Z7,rfl,Z7,rfl,Z7,rfl,Z7,rfl,rfl,Z7,Z7,Z7,Z9⟩,trivial,trivial,trivial,trivial,trivial,trivial,trivial,trivial,Z8,Z8,Z8,Z8,S2,Z8,Z8,X8⟩
 ·have hy:(!(N5 e k lsn).2)=false:=hy;have hy:(N5 e k lsn).2=true:=by simpa using hy
  rw[b0U hy];exact⟨Z9,⟨rfl,rfl,Z7,Z7,rfl,Z7,rfl,Z7,rfl,Z7,rfl,rfl,Z7,Z7,Z7,Z9⟩,trivial,trivial,trivial,trivial,trivial,trivial,trivial,trivial,Z8,Z8,Z8,Z8,S2,Z8,Z8,X8⟩
noncomputable def O7(e:Eng)(tx lsn:Int):(Eng×Nat)×Int:=if(M5 e tx).2=0 then(if(W2 lsn 1 (e.txs.getD (M5 e tx).1.toNat default).last&&(e.s.log.getD (lsn-1).toNat default).t==tx)=true then K3 e (M5 e tx).1.toNat lsn else((e,0),5)) else((e,0),(M5 e tx).2)
theorem b13{e:Eng}{tx lsn:Int}(h:¬ (M5 e tx).2=0):O7 e tx lsn=((e,0),(M5 e tx).2):=if_neg h
theorem b0Z{e:Eng}{tx lsn:Int}{k:Nat}(h:(M5 e tx).2=0)(hk:(M5 e tx).1=k)(hc:(W2 lsn 1 (e.txs.getD k default).last&&(e.s.log.getD (lsn-1).toNat default).t==tx)=false):O7 e tx lsn=((e,0),5):=by
 unfold O7;rw[if_pos h,hk,u9,if_neg (by rw[hc];simp)]
theorem a9s{e:Eng}{tx lsn:Int}{k:Nat}(h:(M5 e tx).2=0)(hk:(M5 e tx).1=k)(hc:(W2 lsn 1 (e.txs.getD k default).last&&(e.s.log.getD (lsn-1).toNat default).t==tx)=true):O7 e tx lsn=K3 e k lsn:=by
 unfold O7;rw[if_pos h,hk,u9,if_pos hc]
theorem b6k{a:Bool}(h:(!a)=true):a=false:=by cases a with|true=>cases h|false=>rfl
theorem a5M{a b:Bool}:(!a|| !b)= !(a&&b):=by cases a<;>rfl
noncomputable def b3q:Con:=.reff ⟨Eng×Int×Int,λx=>[.ref 0 0 0,.int .i64 x.2.1,.int .i64 x.2.2],λx=>x.1.bx 0,λx=>.int .i64 (O7 x.1 x.2.1 x.2.2).2,λx=>(O7 x.1 x.2.1 x.2.2).1.1.nx (O7 x.1 x.2.1 x.2.2).1.2,λx=>M4 x.1=true/\N8 x.1⟩
theorem b1J:GK 61 b3q:=gk Tryz.func61<|by
 rintro⟨e,tx,lsn⟩ ⟨ho,hm⟩;dsimp only at ho hm;obtain⟨a1,a2,a3,a4⟩:=xV (q9 ho).2.1;refine C4 (gC a7P (gC vE (gC O5 (gC b51 gN)))) Tryz.func61 Z0 [[.box 0,.arr 1,.arr 2,.arr 3,.arr 4,.arr 5,.arr 6,.arr 7,.arr 8,.cel 0 0,.cel 0 1,.cel 0 3,.cel 0 5,.cel 0 7,.cel 0 10,.cel 0 11,.cel 0 12]] (α:=∃(x:(Eng×Int)),((LeG e)/\((qI e x.1)/\tx=x.2/\True)/\M7 x.1.txs.length)/\(((M5 x.1 x.2).2 !=(0:Int))=true->((M5 x.1 x.2).2=(O7 e tx lsn).2/\True)/\(1=1/\1=1/\yT e (O7 e tx lsn).1.1)/\True/\True/\True/\True/\True/\True/\True/\True/\wN (0) ((O7 e tx lsn).1.2) e (O7 e tx lsn).1.1)/\(((M5 x.1 x.2).2 !=(0:Int))=false->∃(x:(Eng×Int)),((LeG e)/\((qI e x.1)/\tx=x.2/\True)/\M7 x.1.txs.length)/\W4 (U8 x.1.txs x.2) e.txs.length/\Lt (0+(U8 x.1.txs x.2).toNat) e.txs.length/\((!W2 lsn (1:Int) (e.txs.getD (0+(U8 x.1.txs x.2).toNat) default).last)=false->X4 .i64 (lsn- (1:Int)))/\((!W2 lsn (1:Int) (e.txs.getD (0+(U8 x.1.txs x.2).toNat) default).last)=false->W4 (lsn- (1:Int)) e.s.log.length)/\((!W2 lsn (1:Int) (e.txs.getD (0+(U8 x.1.txs x.2).toNat) default).last)=false->Lt (0+(lsn- (1:Int)).toNat) e.s.log.length)/\((!W2 lsn (1:Int) (e.txs.getD (0+(U8 x.1.txs x.2).toNat) default).last||(e.s.log.getD (0+(lsn- (1:Int)).toNat) default).t !=tx)=true->((5:Int)=(O7 e tx lsn).2/\True)/\(1=1/\1=1/\yT e (O7 e tx lsn).1.1)/\True/\True/\True/\True/\True/\True/\True/\True/\wN (0) ((O7 e tx lsn).1.2) e (O7 e tx lsn).1.1)/\((!W2 lsn (1:Int) (e.txs.getD (0+(U8 x.1.txs x.2).toNat) default).last||(e.s.log.getD (0+(lsn- (1:Int)).toNat) default).t !=tx)=false->∃(x:(Eng×Int×Int×Nat)),(((0=0/\0=0)/\tx=x.2.1/\lsn=x.2.2.1/\True)/\((1=1/\1=1/\yT e x.1)/\wN (0) (0) e x.1)/\UI x.1 x.2.2.2 x.2.1 (x.1.txs.getD x.2.2.2 default).last/\(0:Int)<=x.2.2.1)/\((K3 x.1 x.2.2.2 x.2.2.1).2=(O7 e tx lsn).2/\True)/\(1=1/\1=1/\yT (K3 x.1 x.2.2.2 x.2.2.1).1.1 (O7 e tx lsn).1.1)/\True/\True/\True/\True/\True/\True/\True/\True/\wN ((K3 x.1 x.2.2.2 x.2.2.1).1.2) ((O7 e tx lsn).1.2) (K3 x.1 x.2.2.2 x.2.2.1).1.1 (O7 e tx lsn).1.1))) ⟨(e,tx),⟨⟨U0 _,U0 _,U0 _,U0 _,U0 _,U0 _,U0 _,U0 _⟩,⟨⟨Z8,Z8,rfl,Z8,rfl,Z8,rfl,⟨rfl,λ_ _=>rfl⟩,rfl,rfl,Z8,Z8,Z8,Z9⟩,Z9⟩,by unfold M7;dsimp only;omega⟩,λhq=> ?_,λhq=>⟨(e,tx),⟨⟨U0 _,U0 _,U0 _,U0 _,U0 _,U0 _,U0 _,U0 _⟩,⟨⟨Z8,Z8,rfl,Z8,rfl,Z8,rfl,⟨rfl,λ_ _=>rfl⟩,rfl,rfl,Z8,Z8,Z8,Z9⟩,Z9⟩,by unfold M7;dsimp only;omega⟩,?_⟩⟩
 ·have h0:¬ (M5 e tx).2=0:=by simpa using hq
  rw[b13 h0];exact⟨Z9,⟨rfl,rfl,Z7,Z7,rfl,Z7,rfl,Z7,rfl,Z7,rfl,rfl,Z7,Z7,Z7,Z9⟩,trivial,trivial,trivial,trivial,trivial,trivial,trivial,trivial,Z8,Z8,Z8,Z8,S2,Z8,Z8,X8⟩
 ·have h0:(M5 e tx).2=0:=by simpa using hq
  obtain⟨hu,k,e1,hk,hi,ha⟩:=a2i h0;have hl:=fD ho hu hk;have hU:=b2z ho hm hu ha hk hi;dsimp only;rw[ha,u9,C3,C3];have hin:(!W2 lsn 1 (e.txs.getD k default).last)=false->1<=lsn/\lsn<=(e.txs.getD k default).last:=λh=>b2i h
  refine⟨Y2 hk,hk,λh=>by have:=hin h;exact Z4 (by have:=hU.u.rm;omega),λh=>by have:=hin h;exact⟨by omega,by omega⟩,λh=>by have:=hin h;unfold Lt;omega,λhc=> ?_,λhc=> ?_⟩
  ·have hc:(W2 lsn 1 (e.txs.getD k default).last&&(e.s.log.getD (lsn-1).toNat default).t==tx)=false:=by
    unfold bne at hc;rw[a5M] at hc;exact b6k hc
   rw[b0Z h0 e1 hc];exact⟨Z9,⟨rfl,rfl,Z7,Z7,rfl,Z7,rfl,Z7,rfl,Z7,rfl,rfl,Z7,Z7,Z7,Z9⟩,trivial,trivial,trivial,trivial,trivial,trivial,trivial,trivial,Z8,Z8,Z8,Z8,S2,Z8,Z8,X8⟩
  ·have hc:(W2 lsn 1 (e.txs.getD k default).last&&(e.s.log.getD (lsn-1).toNat default).t==tx)=true:=by
    unfold bne at hc;rw[a5M] at hc
    simpa using hc
   have hl1:1<=lsn:=by
    simp only[J6] at hc;exact(uA hc.1).1
   rw[a9s h0 e1 hc];exact⟨(e,tx,lsn,k),⟨⟨Z7,rfl,Z9⟩,⟨⟨rfl,rfl,Z7,Z7,rfl,Z7,rfl,Z7,rfl,Z7,rfl,rfl,Z7,Z7,Z7,Z9⟩,Z8,Z8,Z8,Z8,S2,Z8,Z8,X8⟩,hU,by dsimp only;omega⟩,⟨rfl,trivial⟩,⟨rfl,rfl,⟨rfl,rfl⟩,⟨rfl,rfl⟩,rfl,⟨rfl,rfl⟩,rfl,⟨rfl,rfl⟩,rfl,⟨rfl,rfl⟩,rfl,rfl,⟨rfl,rfl⟩,⟨rfl,rfl⟩,⟨rfl,rfl⟩,rfl,trivial⟩,trivial,trivial,trivial,trivial,trivial,trivial,trivial,trivial,⟨rfl,Z2 _ _⟩,⟨rfl,Z2 _ _⟩,⟨rfl,Z2 _ _⟩,⟨rfl,Z2 _ _⟩,⟨rfl,rfl,S5 _⟩,⟨rfl,Z2 _ _⟩,⟨rfl,Z2 _ _⟩,⟨rfl,Z2 _ _⟩,trivial⟩
theorem b9c{e:Eng}{k:Nat}{tx:Int}(h:UE e k tx):N8 e:=by
 have h1:=h.t10;have h2:=h.lk;exact⟨h.si.iv.sm,by omega,by omega,by omega⟩
theorem b8b{e:Eng}{k:Nat}{tx lsn:Int}(hR:b7R (N5 e k lsn) k tx):N8 (K3 e k lsn).1.1:=by
 cases hu:(N5 e k lsn).2 with
 |true=>rw[b0U hu];exact b9c (hR.1 hu)
 |false=>rw[b2r hu];exact b7O (hR.2 hu).1
theorem a1z{e:Eng}{tx lsn:Int}(h:N8 e)(ho:M4 e=true):N8 (O7 e tx lsn).1.1:=by
 by_cases h0:(M5 e tx).2=0
 ·obtain⟨hu,k,e1,hk,hi,ha⟩:=a2i h0;cases hc:(W2 lsn 1 (e.txs.getD k default).last&&(e.s.log.getD (lsn-1).toNat default).t==tx) with
  |true=>
   rw[a9s h0 e1 hc];have hl1:1<=lsn:=by
    simp only[J6] at hc;exact(uA hc.1).1
   exact b8b (b26 (b2z ho h hu ha hk hi) (by omega))
  |false=>
   rw[b0Z h0 e1 hc];exact h
 ·rw[b13 h0];exact h
theorem b7a:N8 a24:=⟨⟨⟨S7 _,S7 _,S7 _⟩,S7 _,S7 _,λi hi=>absurd hi (F2 _)⟩,S7 _,S7 _,S7 _⟩
noncomputable def W5(e:Eng)(tx lsn:Int):Eng×Int:=if M4 e=true then((O7 e tx lsn).1.1,(O7 e tx lsn).2) else(a24,1)
theorem ro1{e:Eng}{tx lsn:Int}(h:(!M4 e)=true):W5 e tx lsn=(a24,1):=by unfold W5;rw[if_neg (by simpa using h)]
theorem ro2{e:Eng}{tx lsn:Int}(h:(!M4 e)=false):W5 e tx lsn=((O7 e tx lsn).1.1,(O7 e tx lsn).2):=by unfold W5;rw[if_pos (by simpa using h)]
theorem b33{e:Eng}{tx lsn:Int}(h:N8 e):N8 (W5 e tx lsn).1:=by
 unfold W5;split
 ·rename_i ho;exact a1z h ho
 ·exact b7a
noncomputable def a3c:Rle:=⟨Eng×Int×Int,λx=>[.agg x.1.ts,.int .i64 x.2.1,.int .i64 x.2.2],λ_=>[],λx=>.tup [.agg ((W5 x.1 x.2.1 x.2.2).1.tm 0),.int .i64 (W5 x.1 x.2.1 x.2.2).2],λx=>(W5 x.1 x.2.1 x.2.2).1.hp 0,λx=>eG x.1/\N8 x.1⟩
noncomputable def b4w:Con:=.rmk a3c
theorem b1s:GK 27 b4w:=gk Tryz.func27<|by
 rintro⟨e,tx,lsn⟩ ⟨h1,h2⟩;dsimp only at h1 h2;refine⟨C4 (gC fZ (gC b14 (gC b1J gN))) Tryz.func27 Z0 [[.nilS 0 [0,0] 0 1,.nilS 0 [0,1] 0 2,.nilS 0 [0,3] 0 1,.nilS 0 [0,5] 0 10,.nilS 0 [0,7] 0 5,.nilS 0 [0,10] 0 2,.nilS 0 [0,11] 0 4,.nilS 0 [0,12] 0 2,.fav 0 [0,7],.vl 0 [0,0],.vl 0 [0,1],.vl 0 [0,3],.vl 0 [0,5],.vl 0 [0,7],.vl 0 [0,10],.vl 0 [0,11],.vl 0 [0,12]],[.vl 0 [0,0],.vl 0 [0,1],.vl 0 [0,3],.vl 0 [0,5],.vl 0 [0,7],.vl 0 [0,10],.vl 0 [0,11],.vl 0 [0,12]]] (α:=∃(x:wW.ι),(((y5 e x)/\True)/\eG x)/\((!M4 x)=true->((((0=0/\0=(W5 e tx lsn).1.s.d.sec.length)/\(0=0/\0=(W5 e tx lsn).1.s.d.cache.length)/\false=(W5 e tx lsn).1.s.d.armed/\(0=0/\0=(W5 e tx lsn).1.s.d.keep.length)/\(0:Int)=(W5 e tx lsn).1.s.ep/\(0=0/\0=(W5 e tx lsn).1.s.log.length)/\(0:Int)=(W5 e tx lsn).1.s.sure/\(0=0/\0=(W5 e tx lsn).1.s.fr.length)/\(0:Int)=(W5 e tx lsn).1.s.hand/\false=(W5 e tx lsn).1.up/\(0=0/\0=(W5 e tx lsn).1.txs.length)/\(0=0/\0=(W5 e tx lsn).1.lk.held.length)/\(0=0/\0=(W5 e tx lsn).1.lk.waits.length)/\(0:Int)=(W5 e tx lsn).1.next/\True)/\(1:Int)=(W5 e tx lsn).2/\True)/\True)/\(0=(W5 e tx lsn).1.s.d.sec.length/\Z6 0 (λ(x:Nat)=>[]) (Z5 (W5 e tx lsn).1.s.d.sec))/\(0=(W5 e tx lsn).1.s.d.cache.length/\Z6 0 (λ(x:Nat)=>[]) (Z3 (W5 e tx lsn).1.s.d.cache))/\(0=(W5 e tx lsn).1.s.d.keep.length/\Z6 0 (λ(x:Nat)=>[]) (Y9 (W5 e tx lsn).1.s.d.keep))/\(0=(W5 e tx lsn).1.s.log.length/\Z6 0 (λ(x:Nat)=>[]) (Y7 (W5 e tx lsn).1.s.log))/\(0=0/\0=(W5 e tx lsn).1.s.fr.length/\U9 0 (λ(x:Nat)=>[]) (Y8 (W5 e tx lsn).1.s.fr))/\(0=(W5 e tx lsn).1.txs.length/\Z6 0 (λ(x:Nat)=>[]) (X0 (W5 e tx lsn).1.txs))/\(0=(W5 e tx lsn).1.lk.held.length/\Z6 0 (λ(x:Nat)=>[]) (X7 (W5 e tx lsn).1.lk.held))/\(0=(W5 e tx lsn).1.lk.waits.length/\Z6 0 (λ(x:Nat)=>[]) (W8 (W5 e tx lsn).1.lk.waits))/\True)/\((!M4 x)=false->∃(x:Eng),(((y5 e x)/\True)/\N8 x)/\∃(x_1:(Eng×Int×Int)),(((0=0/\0=0)/\tx=x_1.2.1/\lsn=x_1.2.2/\True)/\((1=1/\1=1/\yT x x_1.1)/\wN (0) (0) x x_1.1)/\M4 x_1.1=true/\N8 x_1.1)/\∃(x:Eng),((LeG (O7 x_1.1 x_1.2.1 x_1.2.2).1.1)/\((qI (O7 x_1.1 x_1.2.1 x_1.2.2).1.1 x)/\True)/\N8 x)/\(((yT x (W5 e tx lsn).1)/\(O7 x_1.1 x_1.2.1 x_1.2.2).2=(W5 e tx lsn).2/\True)/\True)/\wN (0) (0) x (W5 e tx lsn).1)) ⟨e,⟨⟨A4 _,trivial⟩,h1⟩,λhq=> ?_,λhq=> ?_⟩,rfl,qS _ 0⟩
 ·rw[ro1 hq];exact⟨⟨⟨⟨Z7,Z7,rfl,Z7,rfl,Z7,rfl,Z7,rfl,rfl,Z7,Z7,Z7,Z9⟩,Z9⟩,trivial⟩,⟨rfl,U5⟩,⟨rfl,U5⟩,⟨rfl,U5⟩,⟨rfl,U5⟩,⟨rfl,rfl,λi hi=>absurd hi (F2 _)⟩,⟨rfl,U5⟩,⟨rfl,U5⟩,⟨rfl,U5⟩,trivial⟩
 ·have ho:M4 e=true:=by simpa using hq
  rw[ro2 hq];exact⟨e,⟨⟨A4 _,trivial⟩,h2⟩,(e,tx,lsn),⟨⟨Z7,rfl,Z9⟩,⟨⟨rfl,rfl,Z7,Z7,rfl,Z7,rfl,Z7,rfl,Z7,rfl,rfl,Z7,Z7,Z7,Z9⟩,Z8,Z8,Z8,Z8,S2,Z8,Z8,X8⟩,ho,h2⟩,(O7 e tx lsn).1.1,⟨⟨U0 _,U0 _,U0 _,U0 _,U0 _,U0 _,U0 _,U0 _⟩,⟨⟨Z8,Z8,rfl,Z8,rfl,Z8,rfl,⟨rfl,λ_ _=>rfl⟩,rfl,rfl,Z8,Z8,Z8,Z9⟩,trivial⟩,a1z h2 ho⟩,⟨⟨⟨Z7,Z7,rfl,Z7,rfl,Z7,rfl,Z7,rfl,rfl,Z7,Z7,Z7,Z9⟩,Z9⟩,trivial⟩,Z8,Z8,Z8,Z8,S2,Z8,Z8,X8⟩
end Go.Proofs.YtokaojbaacnngaaGreat

namespace Go.Proofs.YtokaojbaacnngaaGreat
set_option maxRecDepth 100000
open Go.SS

noncomputable def b7M:Con:=.rel ⟨Eng×Nat×Int×Int,λx=>[.agg x.1.ts,.int .i64 x.2.1,.int .i64 x.2.2.1],λx=>.tup [.agg (N5 x.1 x.2.1 x.2.2.1).1.1.ts,.bool (N5 x.1 x.2.1 x.2.2.1).2],λx=>UI x.1 x.2.1 x.2.2.2 (x.1.txs.getD x.2.1 default).last/\0<=x.2.2.1⟩
noncomputable def b8j(e:Eng)(k:Nat)(to tx:Int):Nat->Ann
 |0=>.one (UdI (N5 e k to) k tx to) (λx=>⟨[(1,.int .i64 k),(2,.int .i64 to),(3,.ref 0 0 0),(6,.ref 1 0 0),(7,.bool false),(8,.int .i64 x.a)],[vQ x.e,vQ a24]⟩) (λx=>x.f) [.box 0,.box 1] [.box 0,.box 1] (λ_=>Z0)
 |_=>.none
theorem b3C(e:Eng)(k:Nat)(r:Rec):(uI e k (i8 r)).s.log.getD (((e.s.log.length+1:Nat):Int)-1).toNat default=nP e k r:=by
 have e1:(((e.s.log.length+1:Nat):Int)-1).toNat=e.s.log.length:=by omega
 rw[e1,L5]
 show((e.s.log++[nP e k r])[e.s.log.length]?).getD default=_;rw[List.getElem?_concat_length]
 rfl
theorem b5l:GK 120 b7M:=gk Tryz.func120<|by
 rintro⟨e,k,to,tx⟩ ⟨hU,h0⟩;dsimp only at hU h0;have har:=hU.ar;have hrm:=hU.u.rm;refine S6 (gC b3H (gC a1m (gC wS gN))) Tryz.func120 (b8j e k to tx) (α:=W4 (k:Int) e.txs.length/\(∃(x:UdI (N5 e k to) k tx to),((k:Int)=(k:Int)/\to=to/\(0=0/\0=0)/\(0=0/\0=0)/\false=false/\(e.txs.getD (k:Int).toNat default).last=x.a/\True)/\(1=1/\1=1/\y5 e x.e)/\(1=1/\1=1/\0=0/\0=0/\false=false/\0=0/\(0:Int)=(0:Int)/\0=0/\(0:Int)=(0:Int)/\0=0/\(0:Int)=(0:Int)/\false=false/\0=0/\0=0/\0=0/\(0:Int)=(0:Int)/\True)/\True)/\∀(x:UdI (N5 e k to) k tx to),(decide (x.a>to)=true->X4 .i64 (x.a- (1:Int))/\W4 (x.a- (1:Int)) x.e.s.log.length/\(((x.e.s.log.getD (x.a- (1:Int)).toNat default).k==(3:Int))=true->∃(y:UdI (N5 e k to) k tx to),(((k:Int)=(k:Int)/\to=to/\(0=0/\0=0)/\(0=0/\0=0)/\false=false/\(x.e.s.log.getD (x.a- (1:Int)).toNat default).n=y.a/\True)/\(1=1/\1=1/\y5 x.e y.e)/\(1=1/\1=1/\(0=0/\Z6 0 (Z5 []) (Z5 []))/\(0=0/\Z6 0 (Z3 []) (Z3 []))/\false=false/\(0=0/\Z6 0 (Y9 []) (Y9 []))/\(0:Int)=(0:Int)/\(0=0/\Z6 0 (Y7 []) (Y7 []))/\(0:Int)=(0:Int)/\(0=0/\Z6 0 (X3 []) (X3 []))/\(0:Int)=(0:Int)/\false=false/\(0=0/\Z6 0 (X0 []) (X0 []))/\(0=0/\Z6 0 (X7 []) (X7 []))/\(0=0/\Z6 0 (W8 []) (W8 []))/\(0:Int)=(0:Int)/\True)/\True)/\Lt y.f x.f)/\(((x.e.s.log.getD (x.a- (1:Int)).toNat default).k==(3:Int))=false->(((x.e.s.log.getD (x.a- (1:Int)).toNat default).k==(2:Int))=true->∃(x_1:(Eng×Nat×Rec)),(((y5 x.e x_1.1)/\(k:Int)=(x_1.2.1:Int)/\((0:Int)=x_1.2.2.e/\(0:Int)=x_1.2.2.l/\(0:Int)=x_1.2.2.t/\(3:Int)=x_1.2.2.k/\(0:Int)=x_1.2.2.p/\(x.e.s.log.getD (x.a- (1:Int)).toNat default).p=x_1.2.2.n/\(x.e.s.log.getD (x.a- (1:Int)).toNat default).g=x_1.2.2.g/\(x.e.s.log.getD (x.a- (1:Int)).toNat default).s=x_1.2.2.s/\[]=x_1.2.2.b/\(x.e.s.log.getD (x.a- (1:Int)).toNat default).b=x_1.2.2.a/\True)/\True)/\x_1.2.1<x_1.1.txs.length/\x_1.1.txs.length<=1000/\x_1.1.s.log.length<=1000)/\∃(x_2:(Sto×Int)),((((Y5 Z5 x_1.1.s.d.sec x_2.1.d.sec)/\(Y5 Z3 x_1.1.s.d.cache x_2.1.d.cache)/\x_1.1.s.d.armed=x_2.1.d.armed/\(Y5 Y9 x_1.1.s.d.keep x_2.1.d.keep)/\x_1.1.s.ep=x_2.1.ep/\(Y5 Y7 (x_1.1.s.log++[I3 x_1.1.s (wQ x_1.1 x_1.2.1 x_1.2.2)]) x_2.1.log)/\x_1.1.s.sure=x_2.1.sure/\(Y5 X3 x_1.1.s.fr x_2.1.fr)/\x_1.1.s.hand=x_2.1.hand/\True)/\(↑(x_1.1.s.log.length+1):Int)=x_2.2/\True)/\SInv x_2.1/\(1:Int)<=x_2.2/\x_2.2<=(x_2.1.log.length:Int))/\((!(V0 x_2.1 (x_2.1.log.getD (x_2.2- (1:Int)).toNat default)).2)=true->((Y5 Z5 (V0 x_2.1 (x_2.1.log.getD (x_2.2- (1:Int)).toNat default)).1.d.sec (N5 e k to).1.1.s.d.sec)/\(Y5 Z3 (V0 x_2.1 (x_2.1.log.getD (x_2.2- (1:Int)).toNat default)).1.d.cache (N5 e k to).1.1.s.d.cache)/\(V0 x_2.1 (x_2.1.log.getD (x_2.2- (1:Int)).toNat default)).1.d.armed=(N5 e k to).1.1.s.d.armed/\(Y5 Y9 (V0 x_2.1 (x_2.1.log.getD (x_2.2- (1:Int)).toNat default)).1.d.keep (N5 e k to).1.1.s.d.keep)/\(V0 x_2.1 (x_2.1.log.getD (x_2.2- (1:Int)).toNat default)).1.ep=(N5 e k to).1.1.s.ep/\(Y5 Y7 (V0 x_2.1 (x_2.1.log.getD (x_2.2- (1:Int)).toNat default)).1.log (N5 e k to).1.1.s.log)/\(V0 x_2.1 (x_2.1.log.getD (x_2.2- (1:Int)).toNat default)).1.sure=(N5 e k to).1.1.s.sure/\(Y5 X3 (V0 x_2.1 (x_2.1.log.getD (x_2.2- (1:Int)).toNat default)).1.fr (N5 e k to).1.1.s.fr)/\(V0 x_2.1 (x_2.1.log.getD (x_2.2- (1:Int)).toNat default)).1.hand=(N5 e k to).1.1.s.hand/\x_1.1.up=(N5 e k to).1.1.up/\(Y5 X0 (x_1.1.txs.set x_1.2.1 (Txn.mk (x_1.1.txs.getD x_1.2.1 default).id ((x_1.1.s.log.length:Int)+(1:Int)))) (N5 e k to).1.1.txs)/\(Y5 X7 x_1.1.lk.held (N5 e k to).1.1.lk.held)/\(Y5 W8 x_1.1.lk.waits (N5 e k to).1.1.lk.waits)/\x_1.1.next=(N5 e k to).1.1.next/\True)/\false=(N5 e k to).2/\True)/\((!(V0 x_2.1 (x_2.1.log.getD (x_2.2- (1:Int)).toNat default)).2)=false->∃(y:UdI (N5 e k to) k tx to),(((k:Int)=(k:Int)/\to=to/\(0=0/\0=0)/\(0=0/\0=0)/\false=false/\(x.e.s.log.getD (x.a- (1:Int)).toNat default).p=y.a/\True)/\(1=1/\1=1/\(Y5 Z5 (V0 x_2.1 (x_2.1.log.getD (x_2.2- (1:Int)).toNat default)).1.d.sec y.e.s.d.sec)/\(Y5 Z3 (V0 x_2.1 (x_2.1.log.getD (x_2.2- (1:Int)).toNat default)).1.d.cache y.e.s.d.cache)/\(V0 x_2.1 (x_2.1.log.getD (x_2.2- (1:Int)).toNat default)).1.d.armed=y.e.s.d.armed/\(Y5 Y9 (V0 x_2.1 (x_2.1.log.getD (x_2.2- (1:Int)).toNat default)).1.d.keep y.e.s.d.keep)/\(V0 x_2.1 (x_2.1.log.getD (x_2.2- (1:Int)).toNat default)).1.ep=y.e.s.ep/\(Y5 Y7 (V0 x_2.1 (x_2.1.log.getD (x_2.2- (1:Int)).toNat default)).1.log y.e.s.log)/\(V0 x_2.1 (x_2.1.log.getD (x_2.2- (1:Int)).toNat default)).1.sure=y.e.s.sure/\(Y5 X3 (V0 x_2.1 (x_2.1.log.getD (x_2.2- (1:Int)).toNat default)).1.fr y.e.s.fr)/\(V0 x_2.1 (x_2.1.log.getD (x_2.2- (1:Int)).toNat default)).1.hand=y.e.s.hand/\x_1.1.up=y.e.up/\(Y5 X0 (x_1.1.txs.set x_1.2.1 (Txn.mk (x_1.1.txs.getD x_1.2.1 default).id ((x_1.1.s.log.length:Int)+(1:Int)))) y.e.txs)/\(Y5 X7 x_1.1.lk.held y.e.lk.held)/\(Y5 W8 x_1.1.lk.waits y.e.lk.waits)/\x_1.1.next=y.e.next/\True)/\(1=1/\1=1/\(0=0/\Z6 0 (Z5 []) (Z5 []))/\(0=0/\Z6 0 (Z3 []) (Z3 []))/\false=false/\(0=0/\Z6 0 (Y9 []) (Y9 []))/\(0:Int)=(0:Int)/\(0=0/\Z6 0 (Y7 []) (Y7 []))/\(0:Int)=(0:Int)/\(0=0/\Z6 0 (X3 []) (X3 []))/\(0:Int)=(0:Int)/\false=false/\(0=0/\Z6 0 (X0 []) (X0 []))/\(0=0/\Z6 0 (X7 []) (X7 []))/\(0=0/\Z6 0 (W8 []) (W8 []))/\(0:Int)=(0:Int)/\True)/\True)/\Lt y.f x.f))/\(((x.e.s.log.getD (x.a- (1:Int)).toNat default).k==(2:Int))=false->∃(y:UdI (N5 e k to) k tx to),(((k:Int)=(k:Int)/\to=to/\(0=0/\0=0)/\(0=0/\0=0)/\false=false/\(x.e.s.log.getD (x.a- (1:Int)).toNat default).p=y.a/\True)/\(1=1/\1=1/\y5 x.e y.e)/\(1=1/\1=1/\(0=0/\Z6 0 (Z5 []) (Z5 []))/\(0=0/\Z6 0 (Z3 []) (Z3 []))/\false=false/\(0=0/\Z6 0 (Y9 []) (Y9 []))/\(0:Int)=(0:Int)/\(0=0/\Z6 0 (Y7 []) (Y7 []))/\(0:Int)=(0:Int)/\(0=0/\Z6 0 (X3 []) (X3 []))/\(0:Int)=(0:Int)/\false=false/\(0=0/\Z6 0 (X0 []) (X0 []))/\(0=0/\Z6 0 (X7 []) (X7 []))/\(0=0/\Z6 0 (W8 []) (W8 []))/\(0:Int)=(0:Int)/\True)/\True)/\Lt y.f x.f)))/\(decide (x.a>to)=false->(y5 x.e (N5 e k to).1.1)/\true=(N5 e k to).2/\True)) ⟨Y2 hU.u.lt,⟨⟨e,0,(e.txs.getD k default).last,61,hU,by omega,rfl⟩,⟨rfl,rfl,Z7,Z7,rfl,Z9⟩,⟨rfl,rfl,A4 _⟩,⟨rfl,rfl,rfl,rfl,rfl,rfl,rfl,rfl,rfl,rfl,rfl,rfl,rfl,rfl,rfl,Z9⟩,trivial⟩,λx=> ?_⟩
 obtain⟨e',v',a,f,h,hf,heq⟩:=x;dsimp only;have h60:=h.u.rm;have har:=h.ar;refine⟨λhc=> ?_,λhc=> ?_⟩
 ·have h1:1<=a:=by have:=F3 hc;omega
  have ht:¬a<=to:=by have:=F3 hc;omega
  obtain⟨p1,p2,p3,p4⟩:=h.u.si.logP.prev h1 har.2;refine⟨Z4 (by omega),⟨by omega,by omega⟩,λh3=> ?_,λh3=>⟨λh2=> ?_,λh2=> ?_⟩⟩
  ·have h3:(Y6 e'.s.log a).k=3:=beq_iff_eq.1 h3;exact⟨⟨e',v',(Y6 e'.s.log a).n,f-1,b79 h h1 h3,by omega,(a30 ht (by omega) h3).symm.trans heq⟩,⟨⟨rfl,rfl,Z7,Z7,rfl,Z9⟩,⟨rfl,rfl,A4 _⟩,⟨rfl,rfl,A4 a24⟩,trivial⟩,by unfold Lt;dsimp only;omega⟩
  ·have h2:(Y6 e'.s.log a).k=2:=beq_iff_eq.1 h2;obtain⟨hR,hA,hb,hS⟩:=a5C h.u h1 har.2 h2;have e1:=b3C e' k (Y6 e'.s.log a);refine⟨(e',k,i8 (Y6 e'.s.log a)),⟨⟨A4 _,rfl,⟨rfl,rfl,rfl,rfl,rfl,rfl,rfl,rfl,rfl,Z9⟩,trivial⟩,h.u.lt,by have:=h.u.t10;dsimp only;omega,by dsimp only;omega⟩,((uI e' k (i8 (Y6 e'.s.log a))).s,((e'.s.log.length+1:Nat):Int)),⟨⟨yP (uI e' k (i8 (Y6 e'.s.log a))).s,rfl,trivial⟩,hS.iv,by dsimp only;omega,by rw[a1n];exact Int.le_refl _⟩,λhu=> ?_,λhu=> ?_⟩
   ·dsimp only at hu ⊢;rw[e1] at hu ⊢;have hu:(G7 e' k (Y6 e'.s.log a)).2=false:=by
     have hu:(!(G7 e' k (Y6 e'.s.log a)).2)=true:=hu
     simpa using hu
    have h4:=(a2S (v:=v') ht (by omega) h2 hu).symm.trans heq
    rw[←h4];exact⟨A4 (G7 e' k (Y6 e'.s.log a)).1,Z9⟩
   ·dsimp only at hu ⊢;rw[e1] at hu ⊢;have hu:(G7 e' k (Y6 e'.s.log a)).2=true:=by
     have hu:(!(G7 e' k (Y6 e'.s.log a)).2)=false:=hu
     simpa using hu
    exact⟨⟨(G7 e' k (Y6 e'.s.log a)).1,kO e' k (Y6 e'.s.log a) v',(Y6 e'.s.log a).p,f-1,a4k h h1 h2 hu,by omega,(a3G ht (by omega) h2 hu).symm.trans heq⟩,⟨⟨rfl,rfl,Z7,Z7,rfl,Z9⟩,⟨rfl,rfl,A4 (G7 e' k (Y6 e'.s.log a)).1⟩,⟨rfl,rfl,A4 a24⟩,trivial⟩,by unfold Lt;dsimp only;omega⟩
  ·have h3:(Y6 e'.s.log a).k≠3:=λe=>by
    have h3:((Y6 e'.s.log a).k==3)=false:=h3;rw[e] at h3;cases h3
   have h2:(Y6 e'.s.log a).k≠2:=λe=>by
    have h2:((Y6 e'.s.log a).k==2)=false:=h2;rw[e] at h2;cases h2
   exact⟨⟨e',v',(Y6 e'.s.log a).p,f-1,b8v h h1 h3,by omega,(a1w ht (by omega) h3 h2).symm.trans heq⟩,⟨⟨rfl,rfl,Z7,Z7,rfl,Z9⟩,⟨rfl,rfl,A4 _⟩,⟨rfl,rfl,A4 a24⟩,trivial⟩,by unfold Lt;dsimp only;omega⟩
 ·have ha:a<=to:=by have:=yQ hc;omega
  rw[←heq,wB ha];exact⟨A4 _,Z9⟩
theorem b9q{e:Eng}{tx:Int}(h:((M5 e tx).2 !=0)=false):(M5 e tx).2=0:=by simpa using h
theorem b9k{e:Eng}{tx:Int}(h:((M5 e tx).2 !=0)=true):¬ (M5 e tx).2=0:=by simpa using h
noncomputable def b9i:Con:=.rel ⟨Eng×Int×Int,λx=>[.agg x.1.ts,.int .i64 x.2.1,.int .i64 x.2.2],λx=>.tup [.agg (O7 x.1 x.2.1 x.2.2).1.1.ts,.int .i64 (O7 x.1 x.2.1 x.2.2).2],λx=>M4 x.1=true/\N8 x.1⟩
theorem b7t:GK 60 b9i:=gk Tryz.func60<|by
 rintro⟨e,tx,lsn⟩ ⟨ho,hm⟩;dsimp only at ho hm;have ht:=(xV (q9 ho).2.1).1;refine S6 (gC a0Q (gC z8 (gC b5l (gC a1P gN)))) Tryz.func60 Z0 (α:=∃(x:(Eng×Int)),(((y5 e x.1)/\tx=x.2/\True)/\M7 x.1.txs.length)/\(((M5 x.1 x.2).2 !=(0:Int))=true->(y5 e (O7 e tx lsn).1.1)/\(M5 x.1 x.2).2=(O7 e tx lsn).2/\True)/\(((M5 x.1 x.2).2 !=(0:Int))=false->W4 (M5 x.1 x.2).1 e.txs.length/\((!W2 lsn (1:Int) (e.txs.getD (M5 x.1 x.2).1.toNat default).last)=false->X4 .i64 (lsn- (1:Int)))/\((!W2 lsn (1:Int) (e.txs.getD (M5 x.1 x.2).1.toNat default).last)=false->W4 (lsn- (1:Int)) e.s.log.length)/\((!W2 lsn (1:Int) (e.txs.getD (M5 x.1 x.2).1.toNat default).last||(e.s.log.getD (lsn- (1:Int)).toNat default).t !=tx)=true->(y5 e (O7 e tx lsn).1.1)/\(5:Int)=(O7 e tx lsn).2/\True)/\((!W2 lsn (1:Int) (e.txs.getD (M5 x.1 x.2).1.toNat default).last||(e.s.log.getD (lsn- (1:Int)).toNat default).t !=tx)=false->∃(x_1:(Eng×Nat×Int×Int)),(((y5 e x_1.1)/\(M5 x.1 x.2).1=(x_1.2.1:Int)/\lsn=x_1.2.2.1/\True)/\UI x_1.1 x_1.2.1 x_1.2.2.2 (x_1.1.txs.getD x_1.2.1 default).last/\(0:Int)<=x_1.2.2.1)/\((!(N5 x_1.1 x_1.2.1 x_1.2.2.1).2)=true->∃(x:(Eng×Dsk)),(((y5 (N5 x_1.1 x_1.2.1 x_1.2.2.1).1.1 x.1)/\(k4 (N5 x_1.1 x_1.2.1 x_1.2.2.1).1.1.s.d x.2)/\True)/\C5 x.2/\x.2.sec.length=69)/\((Y5 Z5 x.2.sec (O7 e tx lsn).1.1.s.d.sec)/\(Y5 Z3 x.2.cache (O7 e tx lsn).1.1.s.d.cache)/\x.2.armed=(O7 e tx lsn).1.1.s.d.armed/\(Y5 Y9 x.2.keep (O7 e tx lsn).1.1.s.d.keep)/\x.1.s.ep=(O7 e tx lsn).1.1.s.ep/\(Y5 Y7 (v7 x.2 (vR x.2 x.1.s.ep)) (O7 e tx lsn).1.1.s.log)/\(↑(vR x.2 x.1.s.ep):Int)=(O7 e tx lsn).1.1.s.sure/\(0=(O7 e tx lsn).1.1.s.fr.length/\Z6 0 (X3 []) (X3 (O7 e tx lsn).1.1.s.fr))/\(0:Int)=(O7 e tx lsn).1.1.s.hand/\false=(O7 e tx lsn).1.1.up/\(0=(O7 e tx lsn).1.1.txs.length/\Z6 0 (X0 []) (X0 (O7 e tx lsn).1.1.txs))/\(0=(O7 e tx lsn).1.1.lk.held.length/\Z6 0 (X7 []) (X7 (O7 e tx lsn).1.1.lk.held))/\(0=(O7 e tx lsn).1.1.lk.waits.length/\Z6 0 (W8 []) (W8 (O7 e tx lsn).1.1.lk.waits))/\x.1.next=(O7 e tx lsn).1.1.next/\True)/\(15:Int)=(O7 e tx lsn).2/\True)/\((!(N5 x_1.1 x_1.2.1 x_1.2.2.1).2)=false->(y5 (N5 x_1.1 x_1.2.1 x_1.2.2.1).1.1 (O7 e tx lsn).1.1)/\(0:Int)=(O7 e tx lsn).2/\True)))) ⟨(e,tx),⟨⟨A4 _,Z9⟩,by unfold M7;dsimp only;omega⟩,λhq=> ?_,λhq=> ?_⟩
 ·rw[b13 (b9k hq)];exact⟨A4 _,Z9⟩
 ·have h0:=b9q hq;obtain⟨hu,k,e1,hk,hi,ha⟩:=a2i h0;have hU:=b2z ho hm hu ha hk hi;have hl:=fD ho hu hk;have hrm:=hU.u.rm;dsimp only;rw[e1,u9];have hin:(!W2 lsn 1 (e.txs.getD k default).last)=false->1<=lsn/\lsn<=(e.txs.getD k default).last:=λh=>b2i h
  refine⟨Y2 hk,λh=>by have:=hin h;exact Z4 (by omega),λh=>by have:=hin h;exact⟨by omega,by omega⟩,λhc=> ?_,λhc=> ?_⟩
  ·have hc:(W2 lsn 1 (e.txs.getD k default).last&&(e.s.log.getD (lsn-1).toNat default).t==tx)=false:=by
    unfold bne at hc;rw[a5M] at hc;exact b6k hc
   rw[b0Z h0 e1 hc];exact⟨A4 _,Z9⟩
  ·have hc:(W2 lsn 1 (e.txs.getD k default).last&&(e.s.log.getD (lsn-1).toNat default).t==tx)=true:=by
    unfold bne at hc;rw[a5M] at hc
    simpa using hc
   have hl1:1<=lsn:=by
    simp only[J6] at hc;exact(uA hc.1).1
   have hR:=b26 hU (show 0<=lsn by omega)
   rw[a9s h0 e1 hc];refine⟨(e,k,lsn,tx),⟨⟨A4 _,rfl,Z9⟩,hU,by dsimp only;omega⟩,λhy=> ?_,λhy=> ?_⟩
   ·have hu:(N5 e k lsn).2=false:=by simpa using hy
    rw[b2r hu];exact⟨((N5 e k lsn).1.1,(N5 e k lsn).1.1.s.d),⟨⟨A4 (N5 e k lsn).1.1,xN _,trivial⟩,(hR.2 hu).1,(hR.2 hu).2⟩,A4 (a61 (N5 e k lsn).1.1),Z9⟩
   ·have hu:(N5 e k lsn).2=true:=by simpa using hy
    rw[b0U hu];exact⟨A4 (N5 e k lsn).1.1,Z9⟩
noncomputable def b5s:Con:=.rfz ⟨Eng×Int×Int,λx=>[.agg x.1.ts,.int .i64 x.2.1,.int .i64 x.2.2],λx=>.tup [.agg (W5 x.1 x.2.1 x.2.2).1.ts,.int .i64 (W5 x.1 x.2.1 x.2.2).2],λx=>eG x.1/\N8 x.1⟩
theorem a9g:GK 26 b5s:=gk Tryz.func26<|by
 rintro⟨e,tx,lsn⟩ ⟨h1,h2⟩;dsimp only at h1 h2;refine S6 (gC gM (gC b7t (gC a6s gN))) Tryz.func26 Z0 (α:=∃(x:wW.ι),(((y5 e x)/\True)/\eG x)/\((!M4 x)=true->((W5 e tx lsn).1.s.d.sec.length=0/\(W5 e tx lsn).1.s.d.cache.length=0/\false=(W5 e tx lsn).1.s.d.armed/\(W5 e tx lsn).1.s.d.keep.length=0/\(0:Int)=(W5 e tx lsn).1.s.ep/\(W5 e tx lsn).1.s.log.length=0/\(0:Int)=(W5 e tx lsn).1.s.sure/\(W5 e tx lsn).1.s.fr.length=0/\(0:Int)=(W5 e tx lsn).1.s.hand/\false=(W5 e tx lsn).1.up/\(W5 e tx lsn).1.txs.length=0/\(W5 e tx lsn).1.lk.held.length=0/\(W5 e tx lsn).1.lk.waits.length=0/\(0:Int)=(W5 e tx lsn).1.next/\True)/\(1:Int)=(W5 e tx lsn).2/\True)/\((!M4 x)=false->∃(x:(Eng×Int×Int)),(((y5 e x.1)/\tx=x.2.1/\lsn=x.2.2/\True)/\M4 x.1=true/\N8 x.1)/\∃(x_1:Eng),(((y5 (O7 x.1 x.2.1 x.2.2).1.1 x_1)/\True)/\N8 x_1)/\(y5 x_1 (W5 e tx lsn).1)/\(O7 x.1 x.2.1 x.2.2).2=(W5 e tx lsn).2/\True)) ⟨e,⟨⟨A4 _,trivial⟩,h1⟩,λhq=> ?_,λhq=> ?_⟩
 ·rw[ro1 hq];exact⟨⟨rfl,rfl,rfl,rfl,rfl,rfl,rfl,rfl,rfl,rfl,rfl,rfl,rfl,Z9⟩,Z9⟩
 ·have ho:M4 e=true:=by simpa using hq
  rw[ro2 hq];exact⟨(e,tx,lsn),⟨⟨A4 _,rfl,Z9⟩,ho,h2⟩,(O7 e tx lsn).1.1,⟨⟨A4 _,trivial⟩,a1z h2 ho⟩,A4 _,Z9⟩
end Go.Proofs.YtokaojbaacnngaaGreat

