/- A part of the proof. -/
import Derived.Test.YtghgljelnhfihaaGreatY4Y5Y6Y7
import Derived.Test.YtghgljelnhfihaaGreatU13U14U15U16
import Derived.Test.YtghgljelnhfihaaGreatU17U18U19U21
import Derived.Test.YtghgljelnhfihaaGreatU3U4U5
namespace Go.Proofs.YtghgljelnhfihaaGreat
open Go.SS

theorem vC(n:Int):((j4 n).toNat:Int)=n % 256:=by
 unfold j4;rw[a0i (P1 _),IntKind.wrap_u8]
theorem a4X{n:Int}(h:0<=n)(h2:n<=255):((j4 n).toNat:Int)=n:=by
 rw[vC];omega
theorem b9t{n:Nat}(h:n<65536):be (i6 n)=n:=by
 have e1:=vC ((n:Int).fdiv 256);have e2:=vC ((n:Int).fdiv 1);rw[Int.fdiv_eq_ediv_of_nonneg _ (by decide)] at e1 e2
 show(0*256+(j4 ((n:Int).fdiv 256)).toNat)*256+(j4 ((n:Int).fdiv 1)).toNat=n;rw[Int.fdiv_eq_ediv_of_nonneg _ (by decide),Int.fdiv_eq_ediv_of_nonneg _ (by decide)]
 omega
theorem b94{n:Nat}(h:n<4294967296):be (E4 n)=n:=by
 have e1:=vC ((n:Int).fdiv 16777216);have e2:=vC ((n:Int).fdiv 65536);have e3:=vC ((n:Int).fdiv 256);have e4:=vC ((n:Int).fdiv 1);rw[Int.fdiv_eq_ediv_of_nonneg _ (by decide)] at e1 e2 e3 e4
 show(((0*256+(j4 ((n:Int).fdiv 16777216)).toNat)*256+(j4 ((n:Int).fdiv 65536)).toNat)*256+(j4 ((n:Int).fdiv 256)).toNat)*256+(j4 ((n:Int).fdiv 1)).toNat=n;rw[Int.fdiv_eq_ediv_of_nonneg _ (by decide),Int.fdiv_eq_ediv_of_nonneg _ (by decide),Int.fdiv_eq_ediv_of_nonneg _ (by decide),Int.fdiv_eq_ediv_of_nonneg _ (by decide)]
 omega
theorem b2G(l:List UInt8):S3 (l++E4 (t6 l))=true/\X1 (l++E4 (t6 l))=l:=by
 have h4:(E4 (t6 l)).length=4:=rfl;have hl:(l++E4 (t6 l)).length-4=l.length:=by rw[K6,h4];omega
 have ht:(l++E4 (t6 l)).take l.length=l:=List.take_left;have hd:(l++E4 (t6 l)).drop l.length=E4 (t6 l):=List.drop_left;have ok:S3 (l++E4 (t6 l))=true:=by
  unfold S3;rw[hl,ht,hd,b94 (bB l),K6,h4];simp
 refine⟨ok,?_⟩
 unfold X1;rw[if_pos ok,hl,ht]
def b1V(L:List (List UInt8)):Prop:=L.length<=100/\∀i,i<L.length->(L.getD i []).length<=255
theorem mZ(L:List (List UInt8))(i:Nat):∀k,∃r,W2 L (i+k)=W2 L i++r
 |0=>⟨[],by simp⟩
 |k+1=>by
  obtain⟨r,hr⟩:=mZ L i k;refine⟨r++[j4 (L.getD (i+k) []).length]++L.getD (i+k) [],?_⟩
  show W2 L (i+k)++[j4 (L.getD (i+k) []).length]++L.getD (i+k) []=_;rw[hr];simp only[List.append_assoc]
theorem a5H{α:Type}(d:α)(L:List α){i:Nat}(h:i<L.length):L.take (i+1)=L.take i++[L.getD i d]:=by
 rw[List.take_add_one,P8,K7 h]
 rfl
theorem b0f{L:List (List UInt8)}(h:b1V L):∀i,i<=L.length->zD (S2 L) i=some ((W2 L i).length,L.take i)
 |0,_=>rfl
 |i+1,hi=>by
  obtain⟨r,hr⟩:=mZ L (i+1) (L.length- (i+1));rw[show i+1+(L.length- (i+1))=L.length by omega] at hr
  have hc:((j4 (L.getD i []).length).toNat:Int)=(L.getD i []).length:=a4X (by omega) (by have:=h.2 i (by omega);omega)
  have hb:S2 L=W2 L i++([j4 (L.getD i []).length]++(L.getD i []++r)):=by
   unfold S2;rw[hr];show W2 L i++[j4 (L.getD i []).length]++L.getD i []++r=_;simp only[List.append_assoc]
  have g:(S2 L).getD (W2 L i).length 0=j4 (L.getD i []).length:=by
   rw[hb,P8,rK (W4 _)]
   simp
  have hl:(S2 L).length=(W2 L i).length+(1+((L.getD i []).length+r.length)):=by rw[hb];simp only[K6,List.length_cons,List.length_nil]
  have hn:(j4 (L.getD i []).length).toNat=(L.getD i []).length:=by omega
  have e3:List.drop ((W2 L i).length+1) (List.take ((W2 L i).length+1+(L.getD i []).length) (S2 L))=L.getD i []:=by
   rw[hb,←List.append_assoc,←List.append_assoc];rw[List.take_left' (by simp only[K6,List.length_cons,List.length_nil]),List.drop_left' (by simp only[K6,List.length_cons,List.length_nil])]
  conv=>lhs;unfold zD
  rw[b0f h i (by omega)]
  dsimp only;rw[g,hn,if_pos ⟨by omega,by omega⟩,e3,a5H [] L (by omega)]
  congr 2
  simp only[W2,K6,List.length_cons,List.length_nil]
theorem dP{L:List (List UInt8)}(h:b1V L):Q6 (S2 L)=some L:=by
 obtain⟨r,hr⟩:=mZ L 0 L.length;rw[G9] at hr;have hc:((j4 L.length).toNat:Int)=L.length:=a4X (by omega) (by have:=h.1;omega)
 have hf:H8 (S2 L)=L.length:=by
  unfold H8 S2;rw[hr];show(j4 L.length).toNat=_;omega
 have hl:(S2 L).length≠0:=by
  unfold S2;rw[hr];simp[W2]
 unfold Q6;rw[hf,if_neg (by have:=h.1;omega),b0f h _ (W4 _)]
 dsimp only;rw[show(W2 L L.length).length=(S2 L).length from rfl,if_pos rfl,nJ]
theorem b7h{no:Int}{p:Pg}(h:eB p)(h0:0<=no)(h1:no<=255):I7 no (S6 no p)=(p,true):=by
 obtain⟨p1,p2,p3,p4⟩:=h;obtain⟨u1,u2⟩:=b2G (uN no p);have hF:b1V p.sl:=⟨by omega,λi hi=>Nat.le_trans (p4 i hi) (by decide)⟩
 obtain⟨r,hr⟩:=mZ p.sl 0 p.sl.length;have hlen:1<=(S2 p.sl).length:=by
  unfold S2;rw[←G9 p.sl.length,hr];simp[W2]
 have e0:uN no p=P2 112::j4 no::(i6 p.Q.toNat++S2 p.sl):=by unfold uN;simp
 have e2:(i6 p.Q.toNat).length=2:=rfl;have hh:wV no (uN no p)=true:=by
  unfold wV;rw[e0];simp only[List.length_cons,K6,e2,L3,k4];exact⟨by omega,rfl,a4X h0 h1⟩
 have d4:(uN no p).drop 4=S2 p.sl:=by
  unfold uN;exact List.drop_left' (by simp[e2])
 have d2:((uN no p).drop 2).take 2=i6 p.Q.toNat:=by
  rw[e0];exact List.take_left' e2
 have hx:pgX (uN no p)=p:=by
  unfold pgX;rw[d4,d2,dP hF,b9t (by omega),Option.getD_some,show((p.Q.toNat:Nat):Int)=p.Q by omega]
 have ok:A2 p=true:=pO ⟨p1,p2,p3,p4⟩;unfold I7 S6;rw[u1,u2,hh,hx,d4,dP hF,ok];rfl
theorem b3m(L:List (List UInt8))(h:∀i,i<L.length->(L.getD i []).length<=30):∀i,i<=L.length->(W2 L i).length<=1+31*i
 |0,_=>by simp[W2]
 |i+1,hi=>by
  have h1:=b3m L h i (by omega)
  have h2:=h i (by omega)
  simp only[W2,K6,List.length_cons,List.length_nil];omega
theorem b1d{no:Int}{p:Pg}(h:eB p):(S6 no p).length<=160/\S6 no p≠[]:=by
 obtain⟨p1,p2,p3,p4⟩:=h;have:=b3m p.sl p4 p.sl.length (W4 _);have e4:(E4 (t6 (uN no p))).length=4:=rfl;have e2:(i6 p.Q.toNat).length=2:=rfl;have hl:(S6 no p).length=8+(S2 p.sl).length:=by
  unfold S6;rw[K6,e4];unfold uN;simp only[K6,List.length_cons,List.length_nil,e2];omega
 refine⟨by rw[hl];unfold S2;omega,λe=> ?_⟩
 rw[e] at hl;simp at hl;omega
end Go.Proofs.YtghgljelnhfihaaGreat

namespace Go.Proofs.YtghgljelnhfihaaGreat
open Go.SS

structure SI(s:Sto):Prop where
 iv:SInv s
 dw:b3D s.d
 pl:∀no,no<8->(T6 s.d no).1.Q<=s.L.length
theorem b4n{s:Sto}(h:SInv s)(hw:b3D s.d):G5 s.d:=by
 obtain⟨w1,w2,w3,w4,w5⟩:=hw;refine⟨by omega,by omega,h.c,w2,w3,w4,λi hi=> ?_⟩
 have:=h.pd i hi;have:=w5 i hi;unfold P7;rw[Q1.2 (by omega),uV (by omega)]
 rfl
theorem SI.dk{s:Sto}(h:SI s):G5 s.d:=b4n h.iv h.dw
theorem jU{d:Dsk}(h:G5 d)(h69:d.E.length=69):b3D d:=by
 obtain⟨h1,h2,h3,h4,h5,h6,h7⟩:=h;exact⟨h69,h4,h5,h6,λi hi=>(kC (h7 i hi)).2.2⟩
theorem SI.logP{s:Sto}(h:SI s):q8 s.L:=⟨h.iv.l60,λi hi=>by
 obtain⟨a,b⟩:=J6.1 h.iv.rc i hi;exact⟨(R7 _).1 a,b⟩⟩
theorem c1z{s:Sto}(h:J8 s=true)(hm:SmS s):SI s:=by
 have hd:=((B7 s).1 ((M2 s).1 h).1.1);refine⟨a5W h hm,jU hd.1 hd.2.1,λno hn=> ?_⟩
 have hb:=((M2 s).1 h).2.2.1 no hn;have hs:=sU ((M2 s).1 h).1.2.2;unfold l9 at hb;simp only[yP,rX] at hb;omega
theorem b3j{s:Sto}{r:Rec}(h:SI s)(hr:R1 (R9 s r)=true)(hl:s.L.length+1<=60):SI (apx s r):=by
 have e:(apx s r).L.length=s.L.length+1:=by show(s.L++[_]).length=_;simp
 have hL:=a2a h.logP hr hl;have hi:=h.iv;have hsu:=hi.su;refine⟨⟨⟨hi.sm.1,by omega,hi.sm.2.2⟩,hi.c,hi.pd,hi.n69,⟨hsu.1,by have:(apx s r).S=s.S:=rfl;omega⟩,by omega,J6.2 λi hi=>⟨(R7 _).2 (hL.2 i hi).1,(hL.2 i hi).2⟩,hi.fr3,λi hi'=> ?_,hi.hd,hi.pg⟩,h.dw,λno hn=> ?_⟩
 ·obtain⟨a,b,c,d⟩:=hi.frp i hi';exact⟨a,b,c,by have:((apx s r).fr.getD i dz).pg.Q<=s.L.length:=d;omega⟩
 ·have:(T6 (apx s r).d no).1.Q<=s.L.length:=h.pl no hn;omega
theorem a0u{L:List Frm}{k:Nat}(f:Frm)(i:Nat)(hk:k<L.length):(L.set k f).getD i dz=if i=k then f else L.getD i dz:=by
 by_cases h:i=k
 ·subst h;rw[if_pos rfl,P8,j_j hk]
  rfl
 ·rw[if_neg h,P8,aP (Ne.symm h),←P8]
theorem b0b{d:Dsk}(h:G5 d)(h69:d.E.length=69):G5 (E8 d).1/\(E8 d).1.E.length=69:=by
 unfold E8;split
 ·exact a61 (jU h h69)
 ·exact⟨h,h69⟩
theorem b4f{s:Sto}{l:Int}(h:wU s l)(h2:0<=l):0<=(X7 s l).1.S/\(X7 s l).1.S<=s.L.length:=by
 obtain⟨_,_,_,_,b5,b6,_,b8,_⟩:=h;by_cases hl:l<=s.S
 ·rw[q7 hl];exact⟨b5,b6⟩
 ·rw[j6 hl];dsimp only;split
  ·exact⟨h2,b8⟩
  ·exact⟨b5,b6⟩
theorem b9D{s:Sto}{k:Nat}(h:SI s)(hk:k<s.fr.length)(hu:(Y4 s k).2=false):G5 (Y4 s k).1.d/\(Y4 s k).1.d.E.length=69:=by
 obtain⟨f1,f2,f3,f4⟩:=h.iv.frp k hk;have hf:=h.iv.flu f4;have hfd:=a0a h.dk hf h.logP;cases hd:(s.fr.getD k dz).D with
 |false=>rw[zQ hd] at hu;cases hu
 |true=>
  cases hF:(X7 s (s.fr.getD k dz).pg.Q).2 with
  |false=>rw[uF hd hF];exact hfd
  |true=>
   cases hb:(E8 (X7 s (s.fr.getD k dz).pg.Q).1.d).2 with
   |false=>rw[qT hd hF hb];exact b0b hfd.1 hfd.2
   |true=>rw[oX hd hF hb] at hu;cases hu
theorem b7D{s:Sto}{k:Nat}(h:SI s)(hk:k<s.fr.length)(hu:(Y4 s k).2=true):SI (Y4 s k).1/\(Y4 s k).1.L=s.L/\(Y4 s k).1.fr.length=s.fr.length/\(Y4 s k).1.J=s.J:=by
 obtain⟨r1,r2,r3,r4,r5⟩:=w7 s k;refine⟨?_,r3,r1,r2⟩
 cases hd:(s.fr.getD k dz).D with
 |false=>rw[zQ hd];exact h
 |true=>
  have hi:=h.iv;obtain⟨f1,f2,f3,f4⟩:=hi.frp k hk;have hf:=hi.flu f4;have hfd:=a0a h.dk hf h.logP;have hfr:=pZ s (s.fr.getD k dz).pg.Q;have hsu:=b4f hf f3.1;have hsm:=a6h hi hk;have hop:=λno hno hne=>a2H (no:=no) hi hk hno hne hu
  have hpd:=aQ (l:=(s.fr.getD k dz).pg.Q) hi.pd;cases hF:(X7 s (s.fr.getD k dz).pg.Q).2 with
  |false=>rw[uF hd hF] at hu;cases hu
  |true=>
   cases hb:(E8 (X7 s (s.fr.getD k dz).pg.Q).1.d).2 with
   |false=>rw[qT hd hF hb] at hu;cases hu
   |true=>
    have hw:=b0b hfd.1 hfd.2;have hpd5:iE (E8 (X7 s (s.fr.getD k dz).pg.Q).1.d).1:=by
     unfold E8;split
     ·exact b3R (o9 _)
     ·exact hpd
    have hc:(Y4 s k).1.d.C.length<=500:=by
     by_cases h0:(s.fr.getD k dz).no=0
     ·exact(hop 1 (by omega) (by omega)).2
     ·exact(hop 0 (by omega) (by omega)).2
    obtain⟨z1,z2⟩:=b1d (no:=(s.fr.getD k dz).no) f3;have e0:(Y4 s k).1=wrF ((X7 s (s.fr.getD k dz).pg.Q).1.sd (E8 (X7 s (s.fr.getD k dz).pg.Q).1.d).1) k:=by rw[oX hd hF hb]
    have efr:(Y4 s k).1.fr=s.fr.set k (nU (s.fr.getD k dz)):=by
     rw[e0];show(X7 s _).1.fr.set k (nU ((X7 s _).1.fr.getD k dz))=_;rw[hfr.1]
    have ed:(Y4 s k).1.d=wrD (E8 (X7 s (s.fr.getD k dz).pg.Q).1.d).1 (1+(s.fr.getD k dz).no) (S6 (s.fr.getD k dz).no (s.fr.getD k dz).pg):=by
     rw[e0];show wrD _ (1+((X7 s _).1.fr.getD k dz).no) (S6 ((X7 s _).1.fr.getD k dz).no ((X7 s _).1.fr.getD k dz).pg)=_;rw[hfr.1];rfl
    have esu:(Y4 s k).1.S=(X7 s (s.fr.getD k dz).pg.Q).1.S:=by rw[e0];rfl
    have hPg:∀no,no<8->(T6 (Y4 s k).1.d no).2=true/\(U6 (Y4 s k).1.d (1+no)).length<=1000/\(T6 (Y4 s k).1.d no).1.Q<=s.L.length:=λno hno=>by
     by_cases hn:(s.fr.getD k dz).no=no
     ·have hr:U6 (Y4 s k).1.d (1+no)=S6 (s.fr.getD k dz).no (s.fr.getD k dz).pg:=by
       rw[ed,lD,if_pos (by omega)]
      have hp:T6 (Y4 s k).1.d no=((s.fr.getD k dz).pg,true):=by
       unfold T6;rw[hr,if_neg z2,←hn];exact b7h f3 f1 (by omega)
      rw[hp,hr];exact⟨rfl,by omega,f4⟩
     ·have hq:=(hop no hno hn).1;have hp:=(y9 (d:=(Y4 s k).1.d) (d':=s.d) (no:=no) hq).1;rw[hp,hq];exact⟨(hi.pg no hno).1,(hi.pg no hno).2,h.pl no hno⟩
    refine⟨⟨hsm,hc,?_,by rw[r5];exact hi.n69,⟨by rw[esu];exact hsu.1,by rw[esu,r3];exact hsu.2⟩,by rw[r3];exact hi.l60,by rw[r3];exact hi.rc,by rw[r1];exact hi.fr3,λi hi'=> ?_,by rw[r2];exact hi.hd,λno hno=>⟨(hPg no hno).1,(hPg no hno).2.1⟩⟩,?_,λno hno=>by rw[r3];exact(hPg no hno).2.2⟩
    ·rw[ed];intro i hi';have hi':i<((E8 (X7 s (s.fr.getD k dz).pg.Q).1.d).1.C++[(⟨1+(s.fr.getD k dz).no,S6 (s.fr.getD k dz).no (s.fr.getD k dz).pg⟩:Pend)]).length:=hi';rw[K6,List.length_singleton] at hi';show 0<=(((E8 (X7 s (s.fr.getD k dz).pg.Q).1.d).1.C++[(⟨1+(s.fr.getD k dz).no,S6 (s.fr.getD k dz).no (s.fr.getD k dz).pg⟩:Pend)]).getD i dz).at_/\(((E8 (X7 s (s.fr.getD k dz).pg.Q).1.d).1.C++[(⟨1+(s.fr.getD k dz).no,S6 (s.fr.getD k dz).no (s.fr.getD k dz).pg⟩:Pend)]).getD i dz).at_<((E8 (X7 s (s.fr.getD k dz).pg.Q).1.d).1.E.length:Int);rw[yQ dz _ _ i hi',hw.2];split
     ·exact⟨by dsimp only;omega,by dsimp only;omega⟩
     ·have:=hpd5 i (by omega)
      rw[hw.2] at this;exact this
    ·rw[r1] at hi';rw[efr,a0u _ _ hk,r3];split
     ·exact⟨f1,f2,f3,f4⟩
     ·exact hi.frp i hi'
    ·rw[ed];obtain⟨w1,w2,w3,w4,w5⟩:=jU hw.1 hw.2;refine⟨w1,w2,w3,w4,λi hi'=> ?_⟩
     have hi':i<((E8 (X7 s (s.fr.getD k dz).pg.Q).1.d).1.C++[(⟨1+(s.fr.getD k dz).no,S6 (s.fr.getD k dz).no (s.fr.getD k dz).pg⟩:Pend)]).length:=hi';rw[K6,List.length_singleton] at hi';show(((E8 (X7 s (s.fr.getD k dz).pg.Q).1.d).1.C++[(⟨1+(s.fr.getD k dz).no,S6 (s.fr.getD k dz).no (s.fr.getD k dz).pg⟩:Pend)]).getD i dz).d.length<=160;rw[yQ dz _ _ i hi'];split
     ·exact z1
     ·exact w5 i (by omega)
theorem b04{s:Sto}{no:Nat}(h:SI s)(hno:no<8):0<=(d8 no (T6 s.d no).1).no/\(d8 no (T6 s.d no).1).no<=7/\eB (d8 no (T6 s.d no).1).pg/\(d8 no (T6 s.d no).1).pg.Q<=s.L.length:=⟨by show(0:Int)<=no;omega,by show(no:Int)<=7;omega,qR (h.iv.pg no hno).1,h.pl no hno⟩
theorem b07{s:Sto}{L:List Frm}{hand:Int}(h:SI s)(hm:SmS ⟨s.d,s.ep,s.L,s.S,L,hand⟩)(h3:L.length<=3)(hf:∀i,i<L.length->0<=(L.getD i dz).no/\(L.getD i dz).no<=7/\eB (L.getD i dz).pg/\(L.getD i dz).pg.Q<=s.L.length)(hh:0<=hand/\hand<=2):SI ⟨s.d,s.ep,s.L,s.S,L,hand⟩:=
 ⟨⟨hm,h.iv.c,h.iv.pd,h.iv.n69,h.iv.su,h.iv.l60,h.iv.rc,h3,hf,hh,h.iv.pg⟩,h.dw,h.pl⟩
theorem c0P{a:Int}(h:0<=a):0<=a.tmod 3/\a.tmod 3<=2:=by
 rw[Int.tmod_eq_emod_of_nonneg h];omega
theorem b9o{s:Sto}{no:Nat}(h:SI s)(hu:(Z1 s no).2.2=false):G5 (Z1 s no).1.d/\(Z1 s no).1.d.E.length=69:=by
 by_cases hc:0<=frAt s.fr no
 ·rw[(g7 0 hc).1] at hu;cases hu
 ·by_cases h3:s.fr.length=3
  ·have hh:=h.iv.hd;cases ho:(Y4 s s.J.toNat).2 with
   |true=>rw[(x5 0 hc h3 ho).1] at hu;cases hu
   |false=>
    rw[(l6 0 hc h3 ho).1];exact b9D h (by omega) ho
  ·rw[(zW 0 hc h3).1] at hu;cases hu
theorem b8R{s:Sto}{no:Nat}(h:SI s)(hno:no<8)(hu:(Z1 s no).2.2=true):SI (Z1 s no).1/\(Z1 s no).1.L=s.L:=by
 have hm:=a6j h.iv hno;have hh:=h.iv.hd;have h3':=h.iv.fr3;by_cases hc:0<=frAt s.fr no
 ·rw[(g7 0 hc).1];exact⟨h,rfl⟩
 ·by_cases h3:s.fr.length=3
  ·cases ho:(Y4 s s.J.toNat).2 with
   |false=>rw[(l6 0 hc h3 ho).1] at hu;cases hu
   |true=>
    obtain⟨o1,o2,o3,o4⟩:=b7D h (show s.J.toNat<s.fr.length by omega) ho
    rw[(x5 0 hc h3 ho).1] at hm ⊢;have hlen:((Y4 s s.J.toNat).1.fr.set s.J.toNat (d8 no (T6 (Y4 s s.J.toNat).1.d no).1)).length=3:=by rw[B1,o3];exact h3
    refine⟨b07 o1 hm (by omega) (λi hi=> ?_) (by rw[o4];exact c0P (by omega)),o2⟩
    rw[a0u _ _ (by omega)]
    split
    ·exact b04 o1 hno
    ·exact o1.iv.frp i (by omega)
  ·rw[(zW 0 hc h3).1] at hm ⊢;have hlen:(s.fr++[d8 no (T6 s.d no).1]).length=s.fr.length+1:=by rw[K6];rfl
   refine⟨b07 h hm (by omega) (λi hi=> ?_) hh,rfl⟩
   rw[yQ dz _ _ i (by omega)]
   split
   ·exact b04 h hno
   ·exact h.iv.frp i (by omega)
theorem b8T{s:Sto}{r:Rec}(h:SI s)(hu:(V2 s r).2=false):G5 (V2 s r).1.d/\(V2 s r).1.d.E.length=69:=by
 cases hf:(Z1 s r.g.toNat).2.2 with
 |true=>
  unfold V2 at hu;rw[if_pos hf] at hu;cases hu
 |false=>
  have e:V2 s r=((Z1 s r.g.toNat).1,false):=if_neg (by rw[hf];simp)
  rw[e];exact b9o h hf
theorem b8h{s:Sto}{r:Rec}(h:SI s)(hb:a2j s r)(hl:0<=r.l/\r.l<=s.L.length)(ha:r.a.length<=30)(hu:(V2 s r).2=true):SI (V2 s r).1/\(V2 s r).1.L=s.L:=by
 have hm:=b59 hb;obtain⟨_,g1,g2,g3,g4⟩:=hb;have hno:r.g.toNat<8:=by omega
 cases hf:(Z1 s r.g.toNat).2.2 with
 |false=>
  unfold V2 at hu;rw[if_neg (by rw[hf];simp)] at hu
  cases hu
 |true=>
  have e:V2 s r=(b2c (Z1 s r.g.toNat).1 (Z1 s r.g.toNat).2.1 r,true):=if_pos hf;obtain⟨i1,i2⟩:=b8R h hno hf;obtain⟨k1,p1,p2,p3,p4⟩:=bI h.iv hno hf;have h3:=i1.iv.fr3;rw[e] at hm ⊢;refine⟨b07 i1 hm (by rw[B1];omega) (λi hi=> ?_) i1.iv.hd,i2⟩
  rw[B1] at hi;rw[a0u _ _ k1];split
  ·obtain⟨b1,b2,b3,b4⟩:=i1.iv.frp _ k1;refine⟨b1,b2,⟨hl.1,?_,?_,λj hj=> ?_⟩,?_⟩
   ·have:=h.iv.l60;show r.l<=_;omega
   ·show(List.set _ _ _).length=_;rw[B1];exact p3
   ·show((List.set _ _ _).getD j []).length<=30;have hj:j<(List.set ((Z1 s r.g.toNat).1.fr.getD (Z1 s r.g.toNat).2.1 dz).pg.sl r.s.toNat r.a).length:=hj;rw[B1] at hj;by_cases hjs:j=r.s.toNat
    ·subst hjs;rw[P8,j_j hj]
     exact ha
    ·rw[P8,aP (Ne.symm hjs),←P8]
     exact p4 j hj
   ·rw[i2];exact hl.2
  ·exact i1.iv.frp i hi
end Go.Proofs.YtghgljelnhfihaaGreat

namespace Go.Proofs.YtghgljelnhfihaaGreat
open Go.SS

theorem eZ{L:List Txn}{id n:Int}{k:Nat}(hk:k<L.length)(ha:U4 L id=k):U4 (L.set k ⟨(L.getD k dz).id,n⟩) id=k:=by
 have h0:¬P9 L.length (C9 L id)<0:=by
  have:P9 L.length (C9 L id)=k:=ha;omega
 obtain⟨i,hi,hp,hl,he⟩:=mO h0;have hik:i=k:=by
  have:P9 L.length (C9 L id)=k:=ha;omega
 subst hik;have e:∀j,C9 (L.set i ⟨(L.getD i dz).id,n⟩) id j=C9 L id j:=λj=>by
  unfold C9;by_cases h:j=i
  ·subst h;rw[P8 (l:=L.set j _),j_j hk]
   rfl
  ·rw[P8 (l:=L.set i _),aP (Ne.symm h),←P8]
 unfold U4;rw[B1];exact M6 hi (by rw[e];exact hp) λj hj=>by rw[e];exact hl j hj
theorem aE{L:List Txn}{n:Int}{k:Nat}(hk:k<L.length):((L.set k ⟨(L.getD k dz).id,n⟩).getD k dz).id=(L.getD k dz).id:=by
 rw[P8 (l:=L.set k _),j_j hk]
 rfl
theorem b9O(s:Sto)(r:Rec):(V2 s r).1.ep=s.ep:=by
 have hF:(Z1 s r.g.toNat).1.ep=s.ep:=by
  by_cases hc:0<=frAt s.fr r.g.toNat
  ·rw[(g7 0 hc).1]
  ·by_cases h3:s.fr.length=3
   ·cases ho:(Y4 s s.J.toNat).2 with
    |true=>rw[(x5 0 hc h3 ho).1];exact(w7 s s.J.toNat).2.2.2.1
    |false=>rw[(l6 0 hc h3 ho).1];exact(w7 s s.J.toNat).2.2.2.1
   ·rw[(zW 0 hc h3).1];rfl
 unfold V2;split
 ·exact hF
 ·exact hF
def x6(r:Rec):Rec:=⟨0,0,0,3,0,r.p,r.g,r.s,[],r.b⟩
def nG(e:Eng)(k:Nat)(r:Rec):Rec:=R9 e.s (M3 e k (x6 r))
noncomputable def K4(e:Eng)(k:Nat)(r:Rec):Eng×Bool:=({J0 e k (x6 r) with s:=(V2 (J0 e k (x6 r)).s (nG e k r)).1},(V2 (J0 e k (x6 r)).s (nG e k r)).2)
noncomputable def lQ(e:Eng)(k:Nat)(r:Rec)(v:Nat):Nat:=z7 (J0 e k (x6 r)).s r.g.toNat v
noncomputable def L8(k:Nat)(to:Int):Nat->Eng->Nat->Int->(Eng×Nat)×Bool
 |0,e,v,_=>((e,v),true)
 |f+1,e,v,a=>if a<=to then((e,v),true) else if(Z3 e.s.L a).k=3 then L8 k to f e v (Z3 e.s.L a).n
  else if(Z3 e.s.L a).k=2 then(if(K4 e k (Z3 e.s.L a)).2=true then L8 k to f (K4 e k (Z3 e.s.L a)).1 (lQ e k (Z3 e.s.L a) v) (Z3 e.s.L a).p else(((K4 e k (Z3 e.s.L a)).1,lQ e k (Z3 e.s.L a) v),false))
  else L8 k to f e v (Z3 e.s.L a).p
structure UE(e:Eng)(k:Nat)(tx:Int):Prop where
 si:SI e.s
 at_:U4 e.X tx=k
 lt:k<e.X.length
 id:(e.X.getD k dz).id=tx
 txr:1<=tx/\tx<=60
 la:1<=(e.X.getD k dz).Z/\(e.X.getD k dz).Z<=e.s.L.length
 ep:1<=e.s.ep/\e.s.ep<=60
 t10:e.X.length<=10
 lk:e.lk.H.length<=60/\e.lk.W.length<=100
 rm:e.s.L.length+1<=60
structure UI(e:Eng)(k:Nat)(tx a:Int):Prop where
 u:UE e k tx
 ar:0<=a/\a<=(e.s.L.length:Int)
 fu:∃f,a.toNat<f/\e.s.L.length+1+und e.s.L f a<=60
theorem a6x{e:Eng}{k:Nat}{tx:Int}{r:Rec}(h:UE e k tx)(hr:cK e k r):AddB e tx k r/\R1 (R9 e.s (M3 e k r))=true:=by
 have hid:=h.id;have htx:=h.txr;have hl:=h.la;have hrm:=h.rm;have ht:=h.t10;have he:=h.ep;obtain⟨r1,r2,r3,r4,r5,r6,r7,r8,r9,r10,r11,r12,r13,r14,r15,_⟩:=hr;have hok:R1 (R9 e.s (M3 e k r))=true:=by
  refine(R7 _).2 ?_
  unfold F8 R9 M3;dsimp only;refine⟨he.1,he.2,by omega,by omega,by omega,by omega,by omega,by omega,by omega,by omega,by omega,by omega,by omega,by omega,by omega,λe=>absurd e r1,λ_=>⟨by omega,by omega,by omega,r6,r5,r15,⟨λe=>absurd e r2,λe=>by omega⟩⟩⟩
 exact⟨⟨h.at_,h.lt,hid,hok,by omega,by omega,⟨by omega,by omega⟩⟩,hok⟩
theorem yG{L:List Rec}{x:Rec}(hL:q8 L):∀(f:Nat) (a:Int),a<=L.length->und (L++[x]) f a=und L f a
 |0,_,_=>rfl
 |f+1,a,ha=>by
  unfold und;by_cases h0:a<=0
  ·rw[if_pos h0,if_pos h0]
  ·have e:Z3 (L++[x]) a=Z3 L a:=by
    unfold Z3;rw[P8,tX (by omega),←P8]
   obtain⟨p1,p2,p3,p4⟩:=hL.prev (show 1<=a by omega) ha
   rw[if_neg h0,if_neg h0,e,yG hL f _ (by omega),yG hL f _ (by omega)]
theorem zK(e:Eng)(k:Nat)(r:Rec):(J0 e k r).s.L.length=e.s.L.length+1:=by
 show(e.s.L++[_]).length=_;simp
theorem a6c{e:Eng}{k:Nat}{tx a:Int}(h:UE e k tx)(h1:1<=a)(h2:a<=e.s.L.length)(h3:(Z3 e.s.L a).k=2):cK e k (x6 (Z3 e.s.L a))/\a2j (J0 e k (x6 (Z3 e.s.L a))).s (nG e k (Z3 e.s.L a))/\(Z3 e.s.L a).b.length<=30/\SI (J0 e k (x6 (Z3 e.s.L a))).s:=by
 have hL:=h.si.logP;obtain⟨hr,_⟩:=hL.at h1 h2;obtain⟨p1,p2,p3,p4⟩:=hL.prev h1 h2;obtain⟨_,_,_,_,_,_,_,_,_,_,g1,g2,s1,s2,hb,_,_⟩:=hr;have hR:cK e k (x6 (Z3 e.s.L a)):=by
  unfold cK x6;dsimp only;exact⟨by omega,by omega,by omega,by omega,λh=>absurd rfl h,λ_ h=>absurd rfl h,by omega,by omega,g1,g2,s1,s2,by decide,hb,λ_=>rfl,h.lt⟩
 have hok:=(a6x h hR).2;have hS:SI (J0 e k (x6 (Z3 e.s.L a))).s:=b3j h.si hok h.rm;exact⟨hR,⟨hS.iv,g1,by show(Z3 e.s.L a).g<8;omega,s1,by show(Z3 e.s.L a).s<4;omega⟩,hb,hS⟩
theorem b7J{e:Eng}{k:Nat}{tx a:Int}(h:UE e k tx)(h1:1<=a)(h2:a<=e.s.L.length)(h3:(Z3 e.s.L a).k=2)(hu:(K4 e k (Z3 e.s.L a)).2=false):G5 (K4 e k (Z3 e.s.L a)).1.s.d/\(K4 e k (Z3 e.s.L a)).1.s.d.E.length=69:=
 b8T (a6c h h1 h2 h3).2.2.2 hu
theorem a5R{e:Eng}{k:Nat}{tx a:Int}(h:UI e k tx a)(h1:1<=a)(h3:(Z3 e.s.L a).k=2)(hu:(K4 e k (Z3 e.s.L a)).2=true):UI (K4 e k (Z3 e.s.L a)).1 k tx (Z3 e.s.L a).p:=by
 obtain⟨hE,⟨a1,a2⟩,f,f1,f2⟩:=h;have hL:=hE.si.logP;obtain⟨p1,p2,p3,p4⟩:=hL.prev h1 a2;obtain⟨hR,hA,hb,hS⟩:=a6c hE h1 a2 h3;have hrm:=hE.rm;have hlen:=zK e k (x6 (Z3 e.s.L a));obtain⟨s1,s2⟩:=b8h hS hA ⟨by show(0:Int)<=(e.s.L.length:Int)+1;omega,by show(e.s.L.length:Int)+1<=_;omega⟩ hb hu
 have elog:(K4 e k (Z3 e.s.L a)).1.s.L=e.s.L++[nG e k (Z3 e.s.L a)]:=s2;have elen:(K4 e k (Z3 e.s.L a)).1.s.L.length=e.s.L.length+1:=by rw[elog];simp
 have eep:(K4 e k (Z3 e.s.L a)).1.s.ep=e.s.ep:=b9O (J0 e k (x6 (Z3 e.s.L a))).s (nG e k (Z3 e.s.L a));have etx:(K4 e k (Z3 e.s.L a)).1.X=e.X.set k ⟨(e.X.getD k dz).id,(e.s.L.length:Int)+1⟩:=rfl;have h2:und e.s.L f a=1+und e.s.L (f-1) (Z3 e.s.L a).p:=by
  rw[tU (by omega) f1 (by omega),if_pos h3]
 have h4:und (e.s.L++[nG e k (Z3 e.s.L a)]) (f-1) (Z3 e.s.L a).p=und e.s.L (f-1) (Z3 e.s.L a).p:=yG hL _ _ (by omega)
 refine⟨⟨s1,by rw[etx];exact eZ hE.lt hE.at_,by rw[etx,B1];exact hE.lt,by rw[etx];exact(aE hE.lt).trans hE.id,hE.txr,?_,by rw[eep];exact hE.ep,by rw[etx,B1];exact hE.t10,hE.lk,by rw[elen];omega⟩,⟨p1,by rw[elen];omega⟩,f-1,by omega,by rw[elen,elog,h4];omega⟩
 rw[etx,elen,P8,j_j hE.lt]
 show 1<=(e.s.L.length:Int)+1/\(e.s.L.length:Int)+1<=_;omega
theorem b8W{e:Eng}{k:Nat}{tx a:Int}(h:UI e k tx a)(h1:1<=a)(h3:(Z3 e.s.L a).k=3):UI e k tx (Z3 e.s.L a).n:=by
 obtain⟨hE,⟨a1,a2⟩,f,f1,f2⟩:=h;obtain⟨p1,p2,p3,p4⟩:=hE.si.logP.prev h1 a2;have h2:=mJ (L:=e.s.L) (by omega) f1 h3
 exact⟨hE,⟨p3,by omega⟩,f-1,by omega,by omega⟩
theorem b8v{e:Eng}{k:Nat}{tx a:Int}(h:UI e k tx a)(h1:1<=a)(h3:(Z3 e.s.L a).k≠3):UI e k tx (Z3 e.s.L a).p:=by
 obtain⟨hE,⟨a1,a2⟩,f,f1,f2⟩:=h;obtain⟨p1,p2,p3,p4⟩:=hE.si.logP.prev h1 a2;have h2:=tU (L:=e.s.L) (by omega) f1 h3
 exact⟨hE,⟨p1,by omega⟩,f-1,by omega,by omega⟩
theorem vV{k:Nat}{to a:Int}{f:Nat}{e:Eng}{v:Nat}(h:a<=to):L8 k to f e v a=((e,v),true):=by
 cases f with
 |zero=>rfl
 |succ f=>unfold L8;rw[if_pos h]
theorem aG{k:Nat}{to a:Int}{f:Nat}{e:Eng}{v:Nat}(h:¬a<=to)(hf:0<f)(h3:(Z3 e.s.L a).k=3):L8 k to f e v a=L8 k to (f-1) e v (Z3 e.s.L a).n:=by
 obtain⟨g,rfl⟩:∃g,f=g+1:=⟨f-1,by omega⟩
 conv=>lhs;unfold L8
 rw[if_neg h,if_pos h3];rfl
theorem aK{k:Nat}{to a:Int}{f:Nat}{e:Eng}{v:Nat}(h:¬a<=to)(hf:0<f)(h3:(Z3 e.s.L a).k≠3)(h2:(Z3 e.s.L a).k≠2):L8 k to f e v a=L8 k to (f-1) e v (Z3 e.s.L a).p:=by
 obtain⟨g,rfl⟩:∃g,f=g+1:=⟨f-1,by omega⟩
 conv=>lhs;unfold L8
 rw[if_neg h,if_neg h3,if_neg h2];rfl
theorem a0q{k:Nat}{to a:Int}{f:Nat}{e:Eng}{v:Nat}(h:¬a<=to)(hf:0<f)(h2:(Z3 e.s.L a).k=2)(hu:(K4 e k (Z3 e.s.L a)).2=true):L8 k to f e v a=L8 k to (f-1) (K4 e k (Z3 e.s.L a)).1 (lQ e k (Z3 e.s.L a) v) (Z3 e.s.L a).p:=by
 obtain⟨g,rfl⟩:∃g,f=g+1:=⟨f-1,by omega⟩
 conv=>lhs;unfold L8
 rw[if_neg h,if_neg (by omega),if_pos h2,if_pos hu]
 rfl
theorem a3q{k:Nat}{to a:Int}{f:Nat}{e:Eng}{v:Nat}(h:¬a<=to)(hf:0<f)(h2:(Z3 e.s.L a).k=2)(hu:(K4 e k (Z3 e.s.L a)).2=false):L8 k to f e v a=(((K4 e k (Z3 e.s.L a)).1,lQ e k (Z3 e.s.L a) v),false):=by
 obtain⟨g,rfl⟩:∃g,f=g+1:=⟨f-1,by omega⟩
 conv=>lhs;unfold L8
 rw[if_neg h,if_neg (by omega),if_pos h2,if_neg (by rw[hu];simp)]
def b34(u:(Eng×Nat)×Bool)(k:Nat)(tx:Int):Prop:=(u.2=true->UE u.1.1 k tx)/\(u.2=false->G5 u.1.1.s.d/\u.1.1.s.d.E.length=69)
theorem a5Z{k:Nat}{tx to:Int}(h0:0<=to):∀(f:Nat) (e:Eng) (v:Nat) (a:Int),a.toNat<f->UI e k tx a->b34 (L8 k to f e v a) k tx
 |0,_,_,_,hf,_=>absurd hf (J5 _)
 |f+1,e,v,a,hf,h=>by
  by_cases ht:a<=to
  ·rw[vV ht];exact⟨λ_=>h.u,λe=>by cases e⟩
  ·have h1:1<=a:=by omega
   obtain⟨p1,p2,p3,p4⟩:=h.u.si.logP.prev h1 h.ar.2;by_cases h3:(Z3 e.s.L a).k=3
   ·rw[aG ht (by omega) h3]
    exact a5Z h0 f _ _ _ (by omega) (b8W h h1 h3)
   ·by_cases h2:(Z3 e.s.L a).k=2
    ·cases hu:(K4 e k (Z3 e.s.L a)).2 with
     |true=>
      rw[a0q ht (by omega) h2 hu]
      exact a5Z h0 f _ _ _ (by omega) (a5R h h1 h2 hu)
     |false=>
      rw[a3q ht (by omega) h2 hu]
      exact⟨λe=>(by cases e),λ_=>b7J h.u h1 h.ar.2 h2 hu⟩
    ·rw[aK ht (by omega) h3 h2]
     exact a5Z h0 f _ _ _ (by omega) (b8v h h1 h3)
theorem b3T{L:List Rec}{T:List Txn}{k:Nat}:∀n,k<n->1+und L 61 (T.getD k dz).Z<=A0 L T n
 |0,h=>absurd h (J5 k)
 |n+1,h=>by
  unfold A0;by_cases e:k=n
  ·subst e;omega
  ·have:=b3T (L:=L) (T:=T) (k:=k) n (by omega)
   omega
theorem a1N{e:Eng}{tx:Int}{k:Nat}(ho:N6 e=true)(hm:y8 e)(hu:e.up=true)(ha:U4 e.X tx=k)(hk:k<e.X.length)(hi:(e.X.getD k dz).id=tx):UI e k tx (e.X.getD k dz).Z:=by
 obtain⟨a1,a2,a3,a4⟩:=k8 (J4 ho).2.1;have hl:=dD ho hu hk;have hid:=b7j ho hu hk;have hro:=a53 ho hu;have hnd:=b3T (L:=e.s.L) (T:=e.X) e.X.length hk;have hnd:1+und e.s.L 61 (e.X.getD k dz).Z<=C4 e:=hnd;have h60:=(pR (J4 ho).1).1;exact⟨⟨c1z (J4 ho).1 hm.1,ha,hk,hi,by omega,hl,b2T (J4 ho).1,a1,a30 a4,by omega⟩,by omega,61,by omega,by omega⟩
end Go.Proofs.YtghgljelnhfihaaGreat

namespace Go.Proofs.YtghgljelnhfihaaGreat
set_option maxRecDepth 100000
open Go.SS

def a6V(k:Nat):Option Ob:=some (.arr false 1000000 1 1 λ_=>[.ref k 0 0])
def b4P(b:Bool):Option Ob:=some (.arr true 1000000 1 1 λ_=>[.bool b])
noncomputable def t8(e:Eng)(k:Nat)(r:Rec)(lsn:Int)(v:Nat):(Eng×Nat)×Bool×Bool:=if r.l<=lsn then((e,v),true,false) else(((K4 e k r).1,lQ e k r v),(K4 e k r).2,(K4 e k r).2)
def Eng.ux(e:Eng)(v:Nat)(lsn tx:Int)(b:Bool):Y1:=[uU lsn,a6V 2,fZ (e.tn 3 4 5 6 7 8 9 10),A1 e.s.d.E,C8 e.s.d.C,x7 e.s.d.keep,b9 e.s.L,vL v e.s.fr e.s.fr.length,qM e.X,xH e.lk.H,nC e.lk.W,uU tx,b4P b]
def Eng.uy(e:Eng)(v:Nat)(lsn tx:Int)(b:Bool):Y1:=[uU lsn,a6V 2,fZ (e.tn 13 14 15 16 17 18 19 20),none,none,none,none,none,none,none,none,uU tx,b4P b,A1 e.s.d.E,C8 e.s.d.C,x7 e.s.d.keep,b9 e.s.L,vL v e.s.fr e.s.fr.length,qM e.X,xH e.lk.H,nC e.lk.W]
noncomputable def b4C:Con:=.reff ⟨Eng×Rec×Int×Int×Nat×Nat,λx=>[.agg x.2.1.ts,.ref 0 0 0,.ref 1 0 0,.ref 11 0 0,.ref 12 0 0],λx=>x.1.ux x.2.2.2.2.2 x.2.2.1 x.2.2.2.1 true,λx=>.bool (t8 x.1 x.2.2.2.2.1 x.2.1 x.2.2.1 x.2.2.2.2.2).2.2,λx=>(t8 x.1 x.2.2.2.2.1 x.2.1 x.2.2.1 x.2.2.2.2.2).1.1.uy (t8 x.1 x.2.2.2.2.1 x.2.1 x.2.2.1 x.2.2.2.2.2).1.2 x.2.2.1 x.2.2.2.1 (t8 x.1 x.2.2.2.2.1 x.2.1 x.2.2.1 x.2.2.2.2.2).2.1,
 λx=>x.2.2.1<x.2.1.l->(AddB x.1 x.2.2.2.1 x.2.2.2.2.1 (x6 x.2.1)/\a2j (J0 x.1 x.2.2.2.2.1 (x6 x.2.1)).s (nG x.1 x.2.2.2.2.1 x.2.1))⟩
theorem b0r:GK 211 b4C:=gk Tryz.func211<|by
 rintro⟨e,r,lsn,tx,k,v⟩ h;dsimp only at h;refine v8 (gC b0d (gC b3b gN)) Tryz.func211 Y5 [[.box 0,.box 1,.box 2,.arr 3,.arr 4,.arr 5,.arr 6,.arr 7,.arr 8,.arr 9,.arr 10,.box 11,.box 12,.cel 2 0,.cel 2 1,.cel 2 3,.cel 2 5,.cel 2 7,.cel 2 10,.cel 2 11,.cel 2 12]] (α:=let pc:=(1=1/\1=1/\tx=tx/\True);let pb:=(1=1/\1=1/\lsn=lsn/\True);let pa:=(1=1/\1=1/\(0=0/\0=0)/\True);let q:=(t8 e k r lsn v);let w:=q.1.1;(decide (r.l<=lsn)=true->(false=q.2.2/\True)/\pb/\pa/\(1=1/\1=1/\uR e w)/\True/\True/\True/\True/\True/\True/\True/\True/\pc/\(1=1/\1=1/\true=q.2.1/\True)/\rO (v) (q.1.2) e w)/\(decide (r.l<=lsn)=false->∃(x:(Eng×Int×Rec×Nat×Nat)),let pd:=x.2.2.2;let f:=(x.1.X.getD pd.1 dz);let m:=x.1.s;let y:=(x.1.X.set pd.1 (Txn.mk f.id ((m.L.length:Int)+1)));let u:=x.2.2.1;let i:=(m.L++[R9 x.1.s (M3 x.1 pd.1 u)]);(((0=0/\0=0)/\tx=x.2.1/\(0=u.e/\0=u.l/\0=u.t/\3=u.k/\0=u.p/\r.p=u.n/\r.g=u.g/\r.s=u.s/\[]=u.b/\r.b=u.a/\True)/\True)/\((1=1/\1=1/\uR e x.1)/\rO (v) (pd.2) e x.1)/\AddB x.1 x.2.1 pd.1 u)/\∃(x_1:(Sto×Rec×Nat)),let c:=x_1.1;let j:=x_1.2.1;let z:=(V2 x_1.1 j);(((0=0/\0=0)/\(m.ep=j.e/\(m.L.length:Int)+1=j.l/\f.id=j.t/\u.k=j.k/\f.Z=j.p/\u.n=j.n/\u.g=j.g/\u.s=j.s/\u.b=j.b/\u.a=j.a/\True)/\True)/\((1=1/\1=1/\(0=0/\m.d.E.length=c.d.E.length)/\(0=0/\m.d.C.length=c.d.C.length)/\m.d.A=c.d.A/\(0=0/\m.d.keep.length=c.d.keep.length)/\m.ep=c.ep/\(0=0/\i.length=c.L.length)/\m.S=c.S/\(0=0/\m.fr.length=c.fr.length)/\m.J=c.J/\True)/\(Y8 Z5 m.d.E c.d.E)/\(Y8 Y9 m.d.C c.d.C)/\(Y8 Y6 m.d.keep c.d.keep)/\(Y8 Y3 i c.L)/\(pd.2=x_1.2.2/\m.fr.length=c.fr.length/\T9 m.fr.length (Y2 m.fr) (Y2 c.fr))/\True)/\a2j x_1.1 j)/\(z.2=q.2.2/\True)/\pb/\pa/\(1=1/\1=1/\(0=0/\z.1.d.E.length=w.s.d.E.length)/\(0=0/\z.1.d.C.length=w.s.d.C.length)/\z.1.d.A=w.s.d.A/\(0=0/\z.1.d.keep.length=w.s.d.keep.length)/\z.1.ep=w.s.ep/\(0=0/\z.1.L.length=w.s.L.length)/\z.1.S=w.s.S/\(0=0/\z.1.fr.length=w.s.fr.length)/\z.1.J=w.s.J/\x.1.up=w.up/\(0=0/\y.length=w.X.length)/\(0=0/\x.1.lk.H.length=w.lk.H.length)/\(0=0/\x.1.lk.W.length=w.lk.W.length)/\x.1.N=w.N/\True)/\True/\True/\True/\True/\True/\True/\True/\True/\pc/\(1=1/\1=1/\z.2=q.2.1/\True)/\(Y8 Z5 z.1.d.E w.s.d.E)/\(Y8 Y9 z.1.d.C w.s.d.C)/\(Y8 Y6 z.1.d.keep w.s.d.keep)/\(Y8 Y3 z.1.L w.s.L)/\(z7 x_1.1 j.g.toNat x_1.2.2=q.1.2/\z.1.fr.length=w.s.fr.length/\T9 z.1.fr.length (Y2 z.1.fr) (Y2 w.s.fr))/\(Y8 X0 y w.X)/\(Y8 Y7 x.1.lk.H w.lk.H)/\(Y8 Y0 x.1.lk.W w.lk.W)/\True)) ⟨λhc=> ?_,λhc=> ?_⟩
 ·have e0:t8 e k r lsn v=((e,v),true,false):=if_pos (C7 hc);rw[e0];exact⟨Z9,⟨rfl,rfl,Z9⟩,⟨rfl,rfl,U3⟩,⟨rfl,rfl,Z8,Z8,rfl,Z8,rfl,Z8,rfl,Z8,rfl,rfl,Z8,Z8,Z8,Z9⟩,trivial,trivial,trivial,trivial,trivial,trivial,trivial,trivial,⟨rfl,rfl,Z9⟩,⟨rfl,rfl,Z9⟩,Z7,Z7,Z7,Z7,Q2,Z7,Z7,X5⟩
 ·have hc:=l7 hc;obtain⟨hA,hP⟩:=h (by omega)
  have e0:t8 e k r lsn v=(((K4 e k r).1,lQ e k r v),(K4 e k r).2,(K4 e k r).2):=if_neg hc;rw[e0];exact⟨(e,tx,x6 r,k,v),⟨⟨Z8,rfl,⟨rfl,rfl,rfl,rfl,rfl,rfl,rfl,rfl,rfl,Z9⟩,trivial⟩,⟨⟨rfl,rfl,Z8,Z8,rfl,Z8,rfl,Z8,rfl,Z8,rfl,rfl,Z8,Z8,Z8,Z9⟩,Z7,Z7,Z7,Z7,Q2,Z7,Z7,X5⟩,hA⟩,((J0 e k (x6 r)).s,nG e k r,v),⟨⟨Z8,⟨rfl,rfl,rfl,rfl,rfl,rfl,rfl,rfl,rfl,Z9⟩,trivial⟩,⟨⟨rfl,rfl,Z8,Z8,rfl,Z8,rfl,Z8,rfl,Z8,Z9⟩,Z7,Z7,Z7,Z7,Q2,trivial⟩,hP⟩,Z9,⟨rfl,rfl,Z9⟩,⟨rfl,rfl,U3⟩,⟨rfl,rfl,Z8,Z8,rfl,Z8,rfl,Z8,rfl,Z8,rfl,rfl,Z8,Z8,Z8,Z9⟩,trivial,trivial,trivial,trivial,trivial,trivial,trivial,trivial,⟨rfl,rfl,Z9⟩,⟨rfl,rfl,Z9⟩,Z7,Z7,Z7,Z7,Q2,Z7,Z7,X5⟩
def Eng.vx(e:Eng)(v:Nat)(lsn tx:Int):Y1:=[fZ (e.tn 1 2 3 4 5 6 7 8),A1 e.s.d.E,C8 e.s.d.C,x7 e.s.d.keep,b9 e.s.L,vL v e.s.fr e.s.fr.length,qM e.X,xH e.lk.H,nC e.lk.W,uU lsn,a6V 0,uU tx,b4P true]
def Eng.vy(e:Eng)(v:Nat)(lsn tx:Int)(b:Bool):Y1:=[fZ (e.tn 13 14 15 16 17 18 19 20),none,none,none,none,none,none,none,none,uU lsn,a6V 0,uU tx,b4P b,A1 e.s.d.E,C8 e.s.d.C,x7 e.s.d.keep,b9 e.s.L,vL v e.s.fr e.s.fr.length,qM e.X,xH e.lk.H,nC e.lk.W]
noncomputable def b9A:Con:=.reff ⟨Eng×Int×Int×Int×Nat×Nat,λx=>[.ref 0 0 0,.int .i64 x.2.1,.fn (.func 211) [.ref 9 0 0,.ref 10 0 0,.ref 11 0 0,.ref 12 0 0]],λx=>x.1.vx x.2.2.2.2.2 x.2.2.1 x.2.2.2.1,λ_=>.tup [],λx=>(L8 x.2.2.2.2.1 x.2.2.1 61 x.1 x.2.2.2.2.2 x.2.1).1.1.vy (L8 x.2.2.2.2.1 x.2.2.1 61 x.1 x.2.2.2.2.2 x.2.1).1.2 x.2.2.1 x.2.2.2.1 (L8 x.2.2.2.2.1 x.2.2.1 61 x.1 x.2.2.2.2.2 x.2.1).2,λx=>UI x.1 x.2.2.2.2.1 x.2.2.2.1 x.2.1/\0<=x.2.2.1⟩
structure UdI(u0:(Eng×Nat)×Bool)(k:Nat)(tx to:Int) where
 e:Eng
 v:Nat
 a:Int
 f:Nat
 h:UI e k tx a
 hf:a.toNat<f
 eq:L8 k to f e v a=u0
noncomputable def b8q(e:Eng)(from_ lsn tx:Int)(k v:Nat):Nat->Ann
 |0=>.one (UdI (L8 k lsn 61 e v from_) k tx lsn) (λx=>⟨[(0,.ref 0 0 0),(1,.int .i64 x.a),(2,.fn (.func 211) [.ref 9 0 0,.ref 10 0 0,.ref 11 0 0,.ref 12 0 0])],x.e.vy x.v lsn tx true⟩) (λx=>x.f) [.box 0,.arr 1,.arr 2,.arr 3,.arr 4,.arr 5,.arr 6,.arr 7,.arr 8,.box 9,.box 10,.box 11,.box 12,.cel 0 0,.cel 0 1,.cel 0 3,.cel 0 5,.cel 0 7,.cel 0 10,.cel 0 11,.cel 0 12] [.box 0,.arr 1,.arr 2,.arr 3,.arr 4,.arr 5,.arr 6,.arr 7,.arr 8,.box 9,.box 10,.box 11,.box 12,.cel 0 0,.cel 0 1,.cel 0 3,.cel 0 5,.cel 0 7,.cel 0 10,.cel 0 11,.cel 0 12] (λ_=>Y5)
 |_=>.none
theorem c2f{k:Nat}{to a:Int}{f:Nat}{e:Eng}{v:Nat}(hf:0<f)(h3:(Z3 e.s.L a).k=3)(hn:(Z3 e.s.L a).n<=a):L8 k to (f-1) e v (Z3 e.s.L a).n=L8 k to f e v a:=by
 by_cases ht:a<=to
 ·rw[vV ht,vV (by omega)]
 ·rw[aG ht hf h3]
theorem c2d{k:Nat}{to a:Int}{f:Nat}{e:Eng}{v:Nat}(hf:0<f)(h3:(Z3 e.s.L a).k≠3)(h2:(Z3 e.s.L a).k≠2)(hn:(Z3 e.s.L a).p<=a):L8 k to (f-1) e v (Z3 e.s.L a).p=L8 k to f e v a:=by
 by_cases ht:a<=to
 ·rw[vV ht,vV (by omega)]
 ·rw[aK ht hf h3 h2]
theorem b6n:GK 197 b9A:=gk Tryz.func197<|by
 rintro⟨e,from_,lsn,tx,k,v⟩ ⟨hU,h0⟩;dsimp only at hU h0;have h60:=hU.u.rm;have har:=hU.ar;refine v8 (gC b0r gN) Tryz.func197 (b8q e from_ lsn tx k v) [[.box 0,.arr 1,.arr 2,.arr 3,.arr 4,.arr 5,.arr 6,.arr 7,.arr 8,.box 9,.box 10,.box 11,.box 12,.cel 0 0,.cel 0 1,.cel 0 3,.cel 0 5,.cel 0 7,.cel 0 10,.cel 0 11,.cel 0 12]] (α:=let pe:=(True/\True);let c:=(1=1/\1=1/\true=true/\True);let g:=(1=1/\1=1/\tx=tx/\True);let m:=(1=1/\1=1/\lsn=lsn/\True);let u:=(L8 k lsn 61 e v from_);let pb:=(1=1/\1=1/\true=u.2/\True);let z:=(0=0/\0=0);let j:=(1=1/\1=1/\z/\True);let w:=(Fn.func 211=Fn.func 211/\z/\z/\z/\z/\True);(∃(x:UdI (L8 k lsn 61 e v from_) k tx lsn),(z/\from_=x.a/\w/\True)/\(1=1/\1=1/\uR e x.e)/\True/\True/\True/\True/\True/\True/\True/\True/\m/\j/\g/\c/\rO (v) (x.v) e x.e)/\∀(x:UdI (L8 k lsn 61 e v from_) k tx lsn),let pf:=x.e.s;let pd:=(1=1/\1=1/\uR x.e u.1.1);let r:=(pf.L.getD (0+(x.a-1).toNat) dz);(decide (x.a>0)=true->W7 .i64 (x.a-1)/\V3 (x.a-1) pf.L.length/\Lt (0+(x.a-1).toNat) pf.L.length/\((r.k==3)=true->∃(y:UdI (L8 k lsn 61 e v from_) k tx lsn),((z/\r.n=y.a/\w/\True)/\(1=1/\1=1/\uR x.e y.e)/\True/\True/\True/\True/\True/\True/\True/\True/\m/\j/\g/\c/\rO (x.v) (y.v) x.e y.e)/\Lt y.f x.f)/\((r.k==3)=false->∃(x_1:(Eng×Rec×Int×Int×Nat×Nat)),let t:=x_1.1;let b:=x_1.2.2;let pc:=(1=1/\1=1/\b.1=lsn/\True);let pa:=(1=1/\1=1/\b.2.1=tx/\True);let q:=(t8 x_1.1 b.2.2.1 x_1.2.1 b.1 b.2.2.2);let i:=(r.k==2&& ! q.2.2);((r.k==2)=true->((EqR r x_1.2.1)/\z/\z/\z/\z/\True)/\((1=1/\Z6 1 (λ(x:Nat)=>[T.int .i64 lsn]) λ(x:Nat)=>[T.int .i64 b.1])/\j/\(1=1/\1=1/\uR x.e t)/\(Y8 Z5 pf.d.E t.s.d.E)/\(Y8 Y9 pf.d.C t.s.d.C)/\(Y8 Y6 pf.d.keep t.s.d.keep)/\(Y8 Y3 pf.L t.s.L)/\(x.v=b.2.2.2/\pf.fr.length=t.s.fr.length/\T9 pf.fr.length (Y2 pf.fr) (Y2 t.s.fr))/\(Y8 X0 x.e.X t.X)/\(Y8 Y7 x.e.lk.H t.lk.H)/\(Y8 Y0 x.e.lk.W t.lk.W)/\(1=1/\Z6 1 (λ(x:Nat)=>[T.int .i64 tx]) λ(x:Nat)=>[T.int .i64 b.2.1])/\(1=1/\Z6 1 (λ(x:Nat)=>[T.bool true]) λ(x:Nat)=>[T.bool true])/\True)/\(b.1<x_1.2.1.l->AddB x_1.1 b.2.1 b.2.2.1 (x6 x_1.2.1)/\a2j (apx t.s (M3 x_1.1 b.2.2.1 (x6 x_1.2.1))) (nG x_1.1 b.2.2.1 x_1.2.1)))/\((r.k==2)=true->(i=true->pe/\(1=1/\1=1/\uR q.1.1 u.1.1)/\True/\True/\True/\True/\True/\True/\True/\True/\pc/\j/\pa/\(1=1/\1=1/\q.2.1=u.2/\True)/\rO (q.1.2) (u.1.2) q.1.1 u.1.1)/\(i=false->∃(y:UdI (L8 k lsn 61 e v from_) k tx lsn),((z/\r.p=y.a/\w/\True)/\(1=1/\1=1/\uR q.1.1 y.e)/\True/\True/\True/\True/\True/\True/\True/\True/\pc/\j/\pa/\(1=1/\1=1/\q.2.1=true/\True)/\rO (q.1.2) (y.v) q.1.1 y.e)/\Lt y.f x.f))/\(((r.k==2)=true->False)->(i=true->pe/\pd/\True/\True/\True/\True/\True/\True/\True/\True/\m/\j/\g/\pb/\rO (x.v) (u.1.2) x.e u.1.1)/\(i=false->∃(y:UdI (L8 k lsn 61 e v from_) k tx lsn),((z/\r.p=y.a/\w/\True)/\(1=1/\1=1/\uR x.e y.e)/\True/\True/\True/\True/\True/\True/\True/\True/\m/\j/\g/\c/\rO (x.v) (y.v) x.e y.e)/\Lt y.f x.f))))/\(decide (x.a>0)=false->pe/\pd/\True/\True/\True/\True/\True/\True/\True/\True/\m/\j/\g/\pb/\rO (x.v) (u.1.2) x.e u.1.1)) ⟨⟨⟨e,v,from_,61,hU,by omega,rfl⟩,⟨Z8,rfl,⟨rfl,Z8,Z8,Z8,U3⟩,trivial⟩,⟨rfl,rfl,Z8,Z8,rfl,Z8,rfl,Z8,rfl,Z8,rfl,rfl,Z8,Z8,Z8,Z9⟩,trivial,trivial,trivial,trivial,trivial,trivial,trivial,trivial,⟨rfl,rfl,Z9⟩,⟨rfl,rfl,U3⟩,⟨rfl,rfl,Z9⟩,⟨rfl,rfl,Z9⟩,Z7,Z7,Z7,Z7,Q2,Z7,Z7,X5⟩,λx=> ?_⟩
 obtain⟨e',v',a,f,h,hf,heq⟩:=x;dsimp only;have h60:=h.u.rm;have har:=h.ar;refine⟨λhc=> ?_,λhc=> ?_⟩
 ·have h1:1<=a:=by have:=C7 hc;omega
  obtain⟨hr,hrl⟩:=h.u.si.logP.at h1 har.2;obtain⟨p1,p2,p3,p4⟩:=h.u.si.logP.prev h1 har.2;rw[G9];refine⟨Z4 (by omega),⟨by omega,by omega⟩,by unfold Lt;omega,λh3=> ?_,λh3=> ?_⟩
  ·have h3:(Z3 e'.s.L a).k=3:=beq_iff_eq.1 h3;exact⟨⟨e',v',(Z3 e'.s.L a).n,f-1,b8W h h1 h3,by omega,(c2f (by omega) h3 (by omega)).trans heq⟩,⟨⟨Z8,rfl,⟨rfl,Z8,Z8,Z8,U3⟩,trivial⟩,⟨rfl,rfl,Z8,Z8,rfl,Z8,rfl,Z8,rfl,Z8,rfl,rfl,Z8,Z8,Z8,Z9⟩,trivial,trivial,trivial,trivial,trivial,trivial,trivial,trivial,⟨rfl,rfl,Z9⟩,⟨rfl,rfl,U3⟩,⟨rfl,rfl,Z9⟩,⟨rfl,rfl,Z9⟩,Z7,Z7,Z7,Z7,Q2,Z7,Z7,X5⟩,by unfold Lt;dsimp only;omega⟩
  ·have h3:(Z3 e'.s.L a).k≠3:=λe=>by
    have h3:((Z3 e'.s.L a).k==3)=false:=h3;rw[e] at h3;cases h3
   refine⟨(e',Z3 e'.s.L a,lsn,tx,k,v'),λh2=>⟨⟨⟨rfl,rfl,rfl,rfl,rfl,rfl,rfl,rfl,rfl,Z9⟩,Z8,Z8,Z8,U3⟩,⟨Z7,⟨rfl,rfl,U3⟩,⟨rfl,rfl,Z8,Z8,rfl,Z8,rfl,Z8,rfl,Z8,rfl,rfl,Z8,Z8,Z8,Z9⟩,Z7,Z7,Z7,Z7,Q2,Z7,Z7,Z7,Z7,X5⟩,λ_=> ?_⟩,λh2=>⟨λhq=> ?_,λhq=> ?_⟩,λh2=>⟨λhq=> ?_,λhq=> ?_⟩⟩
   ·have h2:(Z3 e'.s.L a).k=2:=beq_iff_eq.1 h2;obtain⟨hR,hA,_⟩:=a6c h.u h1 har.2 h2;exact⟨(a6x h.u hR).1,hA⟩
   ·have h2:(Z3 e'.s.L a).k=2:=beq_iff_eq.1 h2;by_cases ht:a<=lsn
    ·have e0:t8 e' k (Z3 e'.s.L a) lsn v'=((e',v'),true,false):=if_pos (by omega)
     dsimp only;rw[e0,←heq,vV ht];exact⟨A7,⟨rfl,rfl,Z8,Z8,rfl,Z8,rfl,Z8,rfl,Z8,rfl,rfl,Z8,Z8,Z8,Z9⟩,trivial,trivial,trivial,trivial,trivial,trivial,trivial,trivial,⟨rfl,rfl,Z9⟩,⟨rfl,rfl,U3⟩,⟨rfl,rfl,Z9⟩,⟨rfl,rfl,Z9⟩,Z7,Z7,Z7,Z7,Q2,Z7,Z7,X5⟩
    ·have e0:t8 e' k (Z3 e'.s.L a) lsn v'=(((K4 e' k (Z3 e'.s.L a)).1,lQ e' k (Z3 e'.s.L a) v'),(K4 e' k (Z3 e'.s.L a)).2,(K4 e' k (Z3 e'.s.L a)).2):=if_neg (by omega)
     have hu:(K4 e' k (Z3 e'.s.L a)).2=false:=by
      have hq:((Z3 e'.s.L a).k==2&& !(t8 e' k (Z3 e'.s.L a) lsn v').2.2)=true:=hq;rw[e0,h2] at hq
      simpa using hq
     dsimp only;rw[e0,←heq,a3q ht (by omega) h2 hu]
     exact⟨A7,⟨rfl,rfl,Z8,Z8,rfl,Z8,rfl,Z8,rfl,Z8,rfl,rfl,Z8,Z8,Z8,Z9⟩,trivial,trivial,trivial,trivial,trivial,trivial,trivial,trivial,⟨rfl,rfl,Z9⟩,⟨rfl,rfl,U3⟩,⟨rfl,rfl,Z9⟩,⟨rfl,rfl,hu,trivial⟩,Z7,Z7,Z7,Z7,Q2,Z7,Z7,X5⟩
   ·have h2:(Z3 e'.s.L a).k=2:=beq_iff_eq.1 h2;have hq:((Z3 e'.s.L a).k==2&& !(t8 e' k (Z3 e'.s.L a) lsn v').2.2)=false:=hq;by_cases ht:a<=lsn
    ·have e0:t8 e' k (Z3 e'.s.L a) lsn v'=((e',v'),true,false):=if_pos (by omega)
     rw[e0,h2] at hq;cases hq
    ·have e0:t8 e' k (Z3 e'.s.L a) lsn v'=(((K4 e' k (Z3 e'.s.L a)).1,lQ e' k (Z3 e'.s.L a) v'),(K4 e' k (Z3 e'.s.L a)).2,(K4 e' k (Z3 e'.s.L a)).2):=if_neg (by omega)
     have hu:(K4 e' k (Z3 e'.s.L a)).2=true:=by
      rw[e0,h2] at hq
      simpa using hq
     dsimp only;rw[e0];exact⟨⟨(K4 e' k (Z3 e'.s.L a)).1,lQ e' k (Z3 e'.s.L a) v',(Z3 e'.s.L a).p,f-1,a5R h h1 h2 hu,by omega,(a0q ht (by omega) h2 hu).symm.trans heq⟩,⟨⟨Z8,rfl,⟨rfl,Z8,Z8,Z8,U3⟩,trivial⟩,⟨rfl,rfl,Z8,Z8,rfl,Z8,rfl,Z8,rfl,Z8,rfl,rfl,Z8,Z8,Z8,Z9⟩,trivial,trivial,trivial,trivial,trivial,trivial,trivial,trivial,⟨rfl,rfl,Z9⟩,⟨rfl,rfl,U3⟩,⟨rfl,rfl,Z9⟩,⟨rfl,rfl,hu,trivial⟩,Z7,Z7,Z7,Z7,Q2,Z7,Z7,X5⟩,by unfold Lt;dsimp only;omega⟩
   ·have h2:((Z3 e'.s.L a).k==2)=true->False:=h2;have hq:((Z3 e'.s.L a).k==2&& !(t8 e' k (Z3 e'.s.L a) lsn v').2.2)=true:=hq;simp only[L3] at hq;exact absurd hq.1 h2
   ·have h2:(Z3 e'.s.L a).k≠2:=λe=>h2 (beq_iff_eq.2 e)
    exact⟨⟨e',v',(Z3 e'.s.L a).p,f-1,b8v h h1 h3,by omega,(c2d (by omega) h3 h2 (by omega)).trans heq⟩,⟨⟨Z8,rfl,⟨rfl,Z8,Z8,Z8,U3⟩,trivial⟩,⟨rfl,rfl,Z8,Z8,rfl,Z8,rfl,Z8,rfl,Z8,rfl,rfl,Z8,Z8,Z8,Z9⟩,trivial,trivial,trivial,trivial,trivial,trivial,trivial,trivial,⟨rfl,rfl,Z9⟩,⟨rfl,rfl,U3⟩,⟨rfl,rfl,Z9⟩,⟨rfl,rfl,Z9⟩,Z7,Z7,Z7,Z7,Q2,Z7,Z7,X5⟩,by unfold Lt;dsimp only;omega⟩
 ·have ha:a<=lsn:=by have:=l7 hc;omega
  rw[←heq,vV ha];exact⟨A7,⟨rfl,rfl,Z8,Z8,rfl,Z8,rfl,Z8,rfl,Z8,rfl,rfl,Z8,Z8,Z8,Z9⟩,trivial,trivial,trivial,trivial,trivial,trivial,trivial,trivial,⟨rfl,rfl,Z9⟩,⟨rfl,rfl,U3⟩,⟨rfl,rfl,Z9⟩,⟨rfl,rfl,Z9⟩,Z7,Z7,Z7,Z7,Q2,Z7,Z7,X5⟩
end Go.Proofs.YtghgljelnhfihaaGreat

namespace Go.Proofs.YtghgljelnhfihaaGreat
set_option maxRecDepth 100000
open Go.SS

noncomputable def U7(e:Eng)(k:Nat)(lsn:Int):(Eng×Nat)×Bool:=L8 k lsn 61 e 0 (e.X.getD k dz).Z
noncomputable def O2(e:Eng)(k:Nat)(lsn:Int):(Eng×Nat)×Int:=if(U7 e k lsn).2=true then((U7 e k lsn).1,0) else((nH (U7 e k lsn).1.1,0),15)
theorem a21{e:Eng}{k:Nat}{tx lsn:Int}(hU:UI e k tx (e.X.getD k dz).Z)(h0:0<=lsn):b34 (U7 e k lsn) k tx:=by
 have:=hU.ar;have:=hU.u.rm;exact a5Z h0 61 e 0 _ (by omega) hU
theorem pS{e:Eng}{k:Nat}{lsn:Int}(h:(U7 e k lsn).2=true):O2 e k lsn=((U7 e k lsn).1,0):=if_pos h
theorem jP{e:Eng}{k:Nat}{lsn:Int}(h:(U7 e k lsn).2=false):O2 e k lsn=((nH (U7 e k lsn).1.1,0),15):=if_neg (by rw[h];simp)
theorem b1S{e:Eng}{k:Nat}{lsn:Int}(h:(O2 e k lsn).2=0):(U7 e k lsn).2=true:=by
 cases hu:(U7 e k lsn).2 with
 |true=>rfl
 |false=>rw[jP hu] at h;cases h
noncomputable def b8L:Con:=.reff ⟨Eng×Int×Int×Nat,λx=>[.ref 0 0 0,.int .i64 x.2.1,.int .i64 x.2.2.1],λx=>x.1.bx 0,λx=>.int .i64 (O2 x.1 x.2.2.2 x.2.2.1).2,λx=>(O2 x.1 x.2.2.2 x.2.2.1).1.1.nx (O2 x.1 x.2.2.2 x.2.2.1).1.2,λx=>UI x.1 x.2.2.2 x.2.1 (x.1.X.getD x.2.2.2 dz).Z/\0<=x.2.2.1⟩
theorem b5R:GK 105 b8L:=gk Tryz.func105<|by
 rintro⟨e,tx,lsn,k⟩ ⟨hU,h0⟩;dsimp only at hU h0;have ha:=hU.u.at_;have hk:=hU.u.lt;have ht:=hU.u.t10;have hR:=a21 hU h0;refine v8 (gC tP (gC b6n (gC b45 gN))) Tryz.func105 Y5 [[.box 0,.arr 1,.arr 2,.arr 3,.arr 4,.arr 5,.arr 6,.arr 7,.arr 8,.cel 0 0,.cel 0 1,.cel 0 3,.cel 0 5,.cel 0 7,.cel 0 10,.cel 0 11,.cel 0 12]] (α:=let z:=(0=0/\0=0);let q:=(O2 e k lsn);let r:=q.1.1;let m:=r.s.d;∃(x:(Eng×Int)),let w:=(U4 x.1.X x.2);((LeG e)/\((a2f e x.1)/\tx=x.2/\True)/\O6 x.1.X.length)/\V3 w e.X.length/\Lt (0+w.toNat) e.X.length/\∃(x_1:(Eng×Int×Int×Int×Nat×Nat)),let y:=x_1.1;let v:=x_1.2.2;let p:=(L8 v.2.2.1 v.1 61 x_1.1 v.2.2.2 x_1.2.1);((z/\(e.X.getD (0+w.toNat) dz).Z=x_1.2.1/\(Fn.func 211=Fn.func 211/\z/\z/\z/\z/\True)/\True)/\((1=1/\1=1/\uR e y)/\(Y8 Z5 e.s.d.E y.s.d.E)/\(Y8 Y9 e.s.d.C y.s.d.C)/\(Y8 Y6 e.s.d.keep y.s.d.keep)/\(Y8 Y3 e.s.L y.s.L)/\(0=v.2.2.2/\e.s.fr.length=y.s.fr.length/\T9 e.s.fr.length (Y2 e.s.fr) (Y2 y.s.fr))/\(Y8 X0 e.X y.X)/\(Y8 Y7 e.lk.H y.lk.H)/\(Y8 Y0 e.lk.W y.lk.W)/\(1=1/\Z6 1 (λ(x:Nat)=>[T.int .i64 lsn]) λ(x:Nat)=>[T.int .i64 v.1])/\(1=1/\1=1/\z/\True)/\(1=1/\Z6 1 (λ(x:Nat)=>[T.int .i64 tx]) λ(x:Nat)=>[T.int .i64 v.2.1])/\(1=1/\Z6 1 (setRow (λ(x:Nat)=>[T.bool false]) 0 0 [T.bool true]) λ(x:Nat)=>[T.bool true])/\True)/\UI x_1.1 v.2.2.1 v.2.1 x_1.2.1/\0<=v.1)/\((! p.2)=true->∃(x:(Eng×Nat)),let u:=x.1.s;let j:=(vJ u.d u.ep);((z/\True)/\((1=1/\1=1/\uR p.1.1 x.1)/\rO (p.1.2) (x.2) p.1.1 x.1)/\G5 u.d)/\(15=q.2/\True)/\(1=1/\1=1/\(0=0/\u.d.E.length=m.E.length)/\(0=0/\u.d.C.length=m.C.length)/\u.d.A=m.A/\(0=0/\u.d.keep.length=m.keep.length)/\u.ep=r.s.ep/\(0=0/\(v3 u.d j).length=r.s.L.length)/\(↑j:Int)=r.s.S/\(0=0/\0=r.s.fr.length)/\0=r.s.J/\false=r.up/\(0=0/\0=r.X.length)/\(0=0/\0=r.lk.H.length)/\(0=0/\0=r.lk.W.length)/\x.1.N=r.N/\True)/\True/\True/\True/\True/\True/\True/\True/\True/\(Y8 Z5 u.d.E m.E)/\(Y8 Y9 u.d.C m.C)/\(Y8 Y6 u.d.keep m.keep)/\(Y8 Y3 (v3 u.d j) r.s.L)/\(0=q.1.2/\0=r.s.fr.length/\T9 0 (Y2 []) (Y2 r.s.fr))/\(0=r.X.length/\Z6 0 (X0 []) (X0 r.X))/\(0=r.lk.H.length/\Z6 0 (Y7 []) (Y7 r.lk.H))/\(0=r.lk.W.length/\Z6 0 (Y0 []) (Y0 r.lk.W))/\True)/\((! p.2)=false->(0=q.2/\True)/\(1=1/\1=1/\uR p.1.1 r)/\True/\True/\True/\True/\True/\True/\True/\True/\rO (p.1.2) (q.1.2) p.1.1 r)) ⟨(e,tx),⟨⟨S8 _,S8 _,S8 _,S8 _,S8 _,S8 _,S8 _,S8 _⟩,⟨⟨Z7,Z7,rfl,Z7,rfl,Z7,rfl,⟨rfl,λ_ _=>rfl⟩,rfl,rfl,Z7,Z7,Z7,Z9⟩,Z9⟩,by unfold O6;dsimp only;omega⟩,?_⟩
 dsimp only;rw[ha,F5,G9];refine⟨X8 hk,hk,(e,(e.X.getD k dz).Z,lsn,tx,k,0),⟨⟨Z8,rfl,⟨rfl,Z8,Z8,Z8,U3⟩,trivial⟩,⟨⟨rfl,rfl,Z8,Z8,rfl,Z8,rfl,Z8,rfl,Z8,rfl,rfl,Z8,Z8,Z8,Z9⟩,Z7,Z7,Z7,Z7,Q2,Z7,Z7,Z7,Z7,⟨rfl,rfl,U3⟩,Z7,⟨rfl,λi hi=>by match i,hi with|0,_=>rfl⟩,trivial⟩,hU,h0⟩,λhy=> ?_,λhy=> ?_⟩
 ·have hy:(!(U7 e k lsn).2)=true:=hy;have hy:(U7 e k lsn).2=false:=by simpa using hy
  rw[jP hy];exact⟨((U7 e k lsn).1.1,(U7 e k lsn).1.2),⟨U3,⟨⟨rfl,rfl,Z8,Z8,rfl,Z8,rfl,Z8,rfl,Z8,rfl,rfl,Z8,Z8,Z8,Z9⟩,Z7,Z7,Z7,Z7,Q2,Z7,Z7,X5⟩,(hR.2 hy).1⟩,Z9,⟨rfl,rfl,Z8,Z8,rfl,Z8,rfl,Z8,rfl,Z8,rfl,rfl,Z8,Z8,Z8,Z9⟩,trivial,trivial,trivial,trivial,trivial,trivial,trivial,trivial,Z7,Z7,Z7,Z7,Q2,Z7,Z7,X5⟩
 ·have hy:(!(U7 e k lsn).2)=false:=hy;have hy:(U7 e k lsn).2=true:=by simpa using hy
  rw[pS hy];exact⟨Z9,⟨rfl,rfl,Z8,Z8,rfl,Z8,rfl,Z8,rfl,Z8,rfl,rfl,Z8,Z8,Z8,Z9⟩,trivial,trivial,trivial,trivial,trivial,trivial,trivial,trivial,Z7,Z7,Z7,Z7,Q2,Z7,Z7,X5⟩
def wJ:Rec:=⟨0,0,0,5,0,0,0,0,[],[]⟩
noncomputable def T4(e:Eng)(k:Nat):(Eng×Nat)×Int:=if(O2 e k 0).2=0 then((qU (J0 (O2 e k 0).1.1 k wJ) k,(O2 e k 0).1.2),0) else((O2 e k 0).1,(O2 e k 0).2)
theorem b6Z{e:Eng}{k:Nat}{tx:Int}(h:UE e k tx):cK e k wJ:=by
 unfold cK wJ;dsimp only;exact⟨by omega,by omega,by omega,by omega,λ_=>rfl,λ_ _=>⟨rfl,rfl,rfl,rfl⟩,by omega,by omega,by omega,by omega,by omega,by omega,by decide,by decide,λ_=>rfl,h.lt⟩
theorem b1b{e:Eng}{k:Nat}(h:¬ (O2 e k 0).2=0):T4 e k=((O2 e k 0).1,(O2 e k 0).2):=if_neg h
theorem a5X{e:Eng}{k:Nat}(h:(O2 e k 0).2=0):T4 e k=((qU (J0 (U7 e k 0).1.1 k wJ) k,(U7 e k 0).1.2),0):=by
 unfold T4;rw[if_pos h,pS (b1S h)]
noncomputable def b35:Con:=.reff ⟨Eng×Int×Nat,λx=>[.ref 0 0 0,.int .i64 x.2.1],λx=>x.1.bx 0,λx=>.int .i64 (T4 x.1 x.2.2).2,λx=>(T4 x.1 x.2.2).1.1.nx (T4 x.1 x.2.2).1.2,λx=>UI x.1 x.2.2 x.2.1 (x.1.X.getD x.2.2 dz).Z⟩
theorem b3s:GK 51 b35:=gk Tryz.func51<|by
 rintro⟨e,tx,k⟩ hU;dsimp only at hU;have hR:=a21 hU (Int.le_refl 0);refine v8 (gC b5R (gC b0d (gC b5D gN))) Tryz.func51 Y5 [[.box 0,.arr 1,.arr 2,.arr 3,.arr 4,.arr 5,.arr 6,.arr 7,.arr 8,.cel 0 0,.cel 0 1,.cel 0 3,.cel 0 5,.cel 0 7,.cel 0 10,.cel 0 11,.cel 0 12]] (α:=let pa:=(T4 e k).1.1.s.fr.length;∃(x:(Eng×Int×Int×Nat)),let q:=(O2 x.1 x.2.2.2 x.2.2.1);(((0=0/\0=0)/\tx=x.2.1/\0=x.2.2.1/\True)/\((1=1/\1=1/\uR e x.1)/\rO (0) (0) e x.1)/\UI x.1 x.2.2.2 x.2.1 (x.1.X.getD x.2.2.2 dz).Z/\0<=x.2.2.1)/\((q.2 !=0)=true->(q.2=(T4 e k).2/\True)/\(1=1/\1=1/\uR q.1.1 (T4 e k).1.1)/\True/\True/\True/\True/\True/\True/\True/\True/\rO (q.1.2) ((T4 e k).1.2) q.1.1 (T4 e k).1.1)/\((q.2 !=0)=false->∃(x_1:(Eng×Int×Rec×Nat×Nat)),let z:=x_1.1;let r:=x_1.2.2;let m:=(z.s.L++[R9 z.s (M3 x_1.1 r.2.1 r.1)]);let y:=(z.X.set r.2.1 (Txn.mk (z.X.getD r.2.1 dz).id ((z.s.L.length:Int)+1)));(((0=0/\0=0)/\tx=x_1.2.1/\(0=r.1.e/\0=r.1.l/\0=r.1.t/\5=r.1.k/\0=r.1.p/\0=r.1.n/\0=r.1.g/\0=r.1.s/\[]=r.1.b/\[]=r.1.a/\True)/\True)/\((1=1/\1=1/\uR q.1.1 z)/\rO (q.1.2) (r.2.2) q.1.1 z)/\AddB x_1.1 x_1.2.1 r.2.1 r.1)/\∃(x:(Eng×Int×Nat×Nat)),let j:=x.1.lk;let w:=(List.take x.2.2.1 x.1.X++List.drop (x.2.2.1+1) x.1.X);let v:=(x.1.X.getD x.2.2.1 dz).id;let i:=(X9 (wF v) j.W j.W.length);let c:=(X9 (hF v) j.H j.H.length);let u:=x.1.s;let f:=u.fr.length;(((0=0/\0=0)/\tx=x.2.1/\True)/\((1=1/\1=1/\(0=0/\z.s.d.E.length=u.d.E.length)/\(0=0/\z.s.d.C.length=u.d.C.length)/\z.s.d.A=u.d.A/\(0=0/\z.s.d.keep.length=u.d.keep.length)/\z.s.ep=u.ep/\(0=0/\m.length=u.L.length)/\z.s.S=u.S/\(0=0/\z.s.fr.length=f)/\z.s.J=u.J/\z.up=x.1.up/\(0=0/\y.length=x.1.X.length)/\(0=0/\z.lk.H.length=j.H.length)/\(0=0/\z.lk.W.length=j.W.length)/\z.N=x.1.N/\True)/\(Y8 Z5 z.s.d.E u.d.E)/\(Y8 Y9 z.s.d.C u.d.C)/\(Y8 Y6 z.s.d.keep u.d.keep)/\(Y8 Y3 m u.L)/\(r.2.2=x.2.2.2/\z.s.fr.length=f/\T9 z.s.fr.length (Y2 z.s.fr) (Y2 u.fr))/\(Y8 X0 y x.1.X)/\(Y8 Y7 z.lk.H j.H)/\(Y8 Y0 z.lk.W j.W)/\True)/\OvB x.1 x.2.1 x.2.2.1)/\(0=(T4 e k).2/\True)/\(1=1/\1=1/\(0=0/\u.d.E.length=(T4 e k).1.1.s.d.E.length)/\(0=0/\u.d.C.length=(T4 e k).1.1.s.d.C.length)/\u.d.A=(T4 e k).1.1.s.d.A/\(0=0/\u.d.keep.length=(T4 e k).1.1.s.d.keep.length)/\u.ep=(T4 e k).1.1.s.ep/\(0=0/\u.L.length=(T4 e k).1.1.s.L.length)/\u.S=(T4 e k).1.1.s.S/\(0=0/\f=pa)/\u.J=(T4 e k).1.1.s.J/\x.1.up=(T4 e k).1.1.up/\(0=0/\w.length=(T4 e k).1.1.X.length)/\(0=0/\c.length=(T4 e k).1.1.lk.H.length)/\(0=0/\i.length=(T4 e k).1.1.lk.W.length)/\x.1.N=(T4 e k).1.1.N/\True)/\True/\True/\True/\True/\True/\True/\True/\True/\(Y8 Z5 u.d.E (T4 e k).1.1.s.d.E)/\(Y8 Y9 u.d.C (T4 e k).1.1.s.d.C)/\(Y8 Y6 u.d.keep (T4 e k).1.1.s.d.keep)/\(Y8 Y3 u.L (T4 e k).1.1.s.L)/\(x.2.2.2=(T4 e k).1.2/\f=pa/\T9 u.fr.length (Y2 u.fr) (Y2 (T4 e k).1.1.s.fr))/\(Y8 X0 w (T4 e k).1.1.X)/\(Y8 Y7 c (T4 e k).1.1.lk.H)/\(Y8 Y0 i (T4 e k).1.1.lk.W)/\True)) ⟨(e,tx,0,k),⟨⟨Z8,rfl,Z9⟩,⟨⟨rfl,rfl,Z8,Z8,rfl,Z8,rfl,Z8,rfl,Z8,rfl,rfl,Z8,Z8,Z8,Z9⟩,Z7,Z7,Z7,Z7,Q2,Z7,Z7,X5⟩,hU,Int.le_refl _⟩,λhq=> ?_,λhq=> ?_⟩
 ·have h0:¬ (O2 e k 0).2=0:=by simpa using hq
  rw[b1b h0];exact⟨Z9,⟨rfl,rfl,Z8,Z8,rfl,Z8,rfl,Z8,rfl,Z8,rfl,rfl,Z8,Z8,Z8,Z9⟩,trivial,trivial,trivial,trivial,trivial,trivial,trivial,trivial,Z7,Z7,Z7,Z7,Q2,Z7,Z7,X5⟩
 ·have h0:(O2 e k 0).2=0:=by simpa using hq
  have hu:=b1S h0;have hE:=hR.1 hu;have hA:=(a6x hE (b6Z hE)).1;have hlk:=hE.lk;have h10:=hE.t10;rw[a5X h0];dsimp only;rw[pS hu];have hlen:(J0 (U7 e k 0).1.1 k wJ).X.length=(U7 e k 0).1.1.X.length:=B1;exact⟨((U7 e k 0).1.1,tx,wJ,k,(U7 e k 0).1.2),⟨⟨Z8,rfl,⟨rfl,rfl,rfl,rfl,rfl,rfl,rfl,rfl,rfl,Z9⟩,trivial⟩,⟨⟨rfl,rfl,Z8,Z8,rfl,Z8,rfl,Z8,rfl,Z8,rfl,rfl,Z8,Z8,Z8,Z9⟩,Z7,Z7,Z7,Z7,Q2,Z7,Z7,X5⟩,hA⟩,(J0 (U7 e k 0).1.1 k wJ,tx,k,(U7 e k 0).1.2),⟨⟨Z8,Z9⟩,⟨⟨rfl,rfl,Z8,Z8,rfl,Z8,rfl,Z8,rfl,Z8,rfl,rfl,Z8,Z8,Z8,Z9⟩,Z7,Z7,Z7,Z7,Q2,Z7,Z7,X5⟩,eZ hE.lt hE.at_,by dsimp only;rw[hlen];exact hE.lt,(aE hE.lt).trans hE.id,by dsimp only;omega,by show(U7 e k 0).1.1.lk.H.length<=_;omega,by show(U7 e k 0).1.1.lk.W.length<=_;omega⟩,⟨rfl,trivial⟩,⟨rfl,rfl,⟨rfl,rfl⟩,⟨rfl,rfl⟩,rfl,⟨rfl,rfl⟩,rfl,⟨rfl,rfl⟩,rfl,⟨rfl,rfl⟩,rfl,rfl,⟨rfl,rfl⟩,⟨rfl,rfl⟩,⟨rfl,rfl⟩,rfl,trivial⟩,trivial,trivial,trivial,trivial,trivial,trivial,trivial,trivial,⟨rfl,Z2 _ _⟩,⟨rfl,Z2 _ _⟩,⟨rfl,Z2 _ _⟩,⟨rfl,Z2 _ _⟩,⟨rfl,rfl,U2 _⟩,⟨rfl,Z2 _ _⟩,⟨rfl,Z2 _ _⟩,⟨rfl,Z2 _ _⟩,trivial⟩
noncomputable def D4(e:Eng)(tx lsn:Int):(Eng×Nat)×Int:=if(V4 e tx).2=0 then(if(V9 lsn 1 (e.X.getD (V4 e tx).1.toNat dz).Z&&(e.s.L.getD (lsn-1).toNat dz).t==tx)=true then O2 e (V4 e tx).1.toNat lsn else((e,0),5)) else((e,0),(V4 e tx).2)
theorem b6Q{e:Eng}{tx lsn:Int}(h:¬ (V4 e tx).2=0):D4 e tx lsn=((e,0),(V4 e tx).2):=if_neg h
theorem b68{e:Eng}{tx lsn:Int}{k:Nat}(h:(V4 e tx).2=0)(hk:(V4 e tx).1=k)(hc:(V9 lsn 1 (e.X.getD k dz).Z&&(e.s.L.getD (lsn-1).toNat dz).t==tx)=false):D4 e tx lsn=((e,0),5):=by
 unfold D4;rw[if_pos h,hk,F5,if_neg (by rw[hc];simp)]
theorem b65{e:Eng}{tx lsn:Int}{k:Nat}(h:(V4 e tx).2=0)(hk:(V4 e tx).1=k)(hc:(V9 lsn 1 (e.X.getD k dz).Z&&(e.s.L.getD (lsn-1).toNat dz).t==tx)=true):D4 e tx lsn=O2 e k lsn:=by
 unfold D4;rw[if_pos h,hk,F5,if_pos hc]
theorem c08{a:Bool}(h:(!a)=true):a=false:=by cases a with|true=>cases h|false=>rfl
theorem b60{a b:Bool}:(!a|| !b)= !(a&&b):=by cases a<;>rfl
noncomputable def yJ(e:Eng)(tx:Int):(Eng×Nat)×Int:=if(V4 e tx).2=0 then T4 e (V4 e tx).1.toNat else((e,0),(V4 e tx).2)
noncomputable def v7(e:Eng)(tx:Int):Eng×Int:=if N6 e=true then((yJ e tx).1.1,(yJ e tx).2) else(v4,1)
theorem c1t{e:Eng}{k:Nat}{tx:Int}(h:UE e k tx):y8 e:=by
 have h1:=h.t10;have h2:=h.lk;exact⟨h.si.iv.sm,by omega,by omega,by omega⟩
theorem b8E{e:Eng}{k:Nat}{tx lsn:Int}(hR:b34 (U7 e k lsn) k tx):y8 (O2 e k lsn).1.1:=by
 cases hu:(U7 e k lsn).2 with
 |true=>rw[pS hu];exact c1t (hR.1 hu)
 |false=>rw[jP hu];exact b7R (hR.2 hu).1
theorem b9q{e:Eng}{k:Nat}{tx:Int}(hR:b34 (U7 e k 0) k tx):y8 (T4 e k).1.1:=by
 by_cases h0:(O2 e k 0).2=0
 ·have hE:=hR.1 (b1S h0);have hA:=a6x hE (b6Z hE);have hS:=b3j hE.si hA.2 hE.rm;have h10:=hE.t10;have hlk:=hE.lk;rw[a5X h0];have b1:=yW (hF ((J0 (U7 e k 0).1.1 k wJ).X.getD k dz).id) (U7 e k 0).1.1.lk.H (U7 e k 0).1.1.lk.H.length;have b2:=yW (wF ((J0 (U7 e k 0).1.1 k wJ).X.getD k dz).id) (U7 e k 0).1.1.lk.W (U7 e k 0).1.1.lk.W.length;have hlen:(J0 (U7 e k 0).1.1 k wJ).X.length=(U7 e k 0).1.1.X.length:=B1;refine⟨hS.iv.sm,?_,?_,?_⟩
  ·show(List.take k (J0 (U7 e k 0).1.1 k wJ).X++List.drop (k+1) (J0 (U7 e k 0).1.1 k wJ).X).length<=_;rw[K6,List.length_take,List.length_drop,hlen];omega
  ·show(X9 _ (U7 e k 0).1.1.lk.H (U7 e k 0).1.1.lk.H.length).length<=_;omega
  ·show(X9 _ (U7 e k 0).1.1.lk.W (U7 e k 0).1.1.lk.W.length).length<=_;omega
 ·rw[b1b h0];exact b8E hR
theorem a6u{e:Eng}{tx:Int}(h:¬ (V4 e tx).2=0):yJ e tx=((e,0),(V4 e tx).2):=if_neg h
theorem a2X{e:Eng}{tx:Int}{k:Nat}(h:(V4 e tx).2=0)(hk:(V4 e tx).1=k):yJ e tx=T4 e k:=by
 unfold yJ;rw[if_pos h,hk,F5]
theorem b8D{e:Eng}{tx:Int}(h:y8 e)(ho:N6 e=true):y8 (yJ e tx).1.1:=by
 by_cases h0:(V4 e tx).2=0
 ·obtain⟨hu,k,e1,hk,hi,ha⟩:=x4 h0;rw[a2X h0 e1];exact b9q (a21 (a1N ho h hu ha hk hi) (Int.le_refl 0))
 ·rw[a6u h0];exact h
theorem ab2{e:Eng}{tx:Int}(h:(!N6 e)=false):v7 e tx=((yJ e tx).1.1,(yJ e tx).2):=by unfold v7;rw[if_pos (by simpa using h)]
end Go.Proofs.YtghgljelnhfihaaGreat

namespace Go.Proofs.YtghgljelnhfihaaGreat
set_option maxRecDepth 100000
open Go.SS

noncomputable def b8p:Con:=.rel ⟨Eng×Nat×Int×Int,λx=>[.agg x.1.ts,.int .i64 x.2.1,.int .i64 x.2.2.1],λx=>.tup [.agg (U7 x.1 x.2.1 x.2.2.1).1.1.ts,.bool (U7 x.1 x.2.1 x.2.2.1).2],λx=>UI x.1 x.2.1 x.2.2.2 (x.1.X.getD x.2.1 dz).Z/\0<=x.2.2.1⟩
noncomputable def b7F(e:Eng)(k:Nat)(to tx:Int):Nat->Ann
 |0=>.one (UdI (U7 e k to) k tx to) (λx=>⟨[(1,.int .i64 k),(2,.int .i64 to),(3,.ref 0 0 0),(6,.ref 1 0 0),(7,.bool false),(8,.int .i64 x.a)],[B9 x.e,B9 v4]⟩) (λx=>x.f) [.box 0,.box 1] [.box 0,.box 1] (λ_=>Y5)
 |_=>.none
theorem b6g(e:Eng)(k:Nat)(r:Rec):(J0 e k (x6 r)).s.L.getD (((e.s.L.length+1:Nat):Int)-1).toNat dz=nG e k r:=by
 have e1:(((e.s.L.length+1:Nat):Int)-1).toNat=e.s.L.length:=by omega
 rw[e1,P8]
 show((e.s.L++[nG e k r])[e.s.L.length]?).getD dz=_;rw[List.getElem?_concat_length]
 rfl
theorem a69:GK 134 b8p:=gk Tryz.func134<|by
 rintro⟨e,k,to,tx⟩ ⟨hU,h0⟩;dsimp only at hU h0;have har:=hU.ar;have hrm:=hU.u.rm;refine Q5 (gC qO (gC nV (gC N5 gN))) Tryz.func134 (b7F e k to tx) (α:=let j:=(0=0/\0=0);let u:=(U7 e k to);let c:=u.1.1;let r:=(1=1/\1=1/\(0=0/\Z6 0 (Z5 []) (Z5 []))/\(0=0/\Z6 0 (Y9 []) (Y9 []))/\false=false/\(0=0/\Z6 0 (Y6 []) (Y6 []))/\(0:Int)=0/\(0=0/\Z6 0 (Y3 []) (Y3 []))/\(0:Int)=0/\(0=0/\Z6 0 (X2 []) (X2 []))/\(0:Int)=0/\false=false/\(0=0/\Z6 0 (X0 []) (X0 []))/\(0=0/\Z6 0 (Y7 []) (Y7 []))/\(0=0/\Z6 0 (Y0 []) (Y0 []))/\(0:Int)=0/\True);V3 (k:Int) e.X.length/\(∃(x:UdI (U7 e k to) k tx to),((k:Int)=(k:Int)/\to=to/\j/\j/\false=false/\(e.X.getD (k:Int).toNat dz).Z=x.a/\True)/\(1=1/\1=1/\R8 e x.e)/\(1=1/\1=1/\0=0/\0=0/\false=false/\0=0/\(0:Int)=0/\0=0/\(0:Int)=0/\0=0/\(0:Int)=0/\false=false/\0=0/\0=0/\0=0/\(0:Int)=0/\True)/\True)/\∀(x:UdI (U7 e k to) k tx to),let z:=(x.e.s.L.getD (x.a-1).toNat dz);(decide (x.a>to)=true->W7 .i64 (x.a-1)/\V3 (x.a-1) x.e.s.L.length/\((z.k==3)=true->∃(y:UdI (U7 e k to) k tx to),(((k:Int)=(k:Int)/\to=to/\j/\j/\false=false/\z.n=y.a/\True)/\(1=1/\1=1/\R8 x.e y.e)/\r/\True)/\Lt y.f x.f)/\((z.k==3)=false->((z.k==2)=true->∃(x_1:(Eng×Nat×Rec)),let m:=x_1.2.2;let w:=x_1.1;let pa:=w.s.L.length;let v:=(w.X.set x_1.2.1 (Txn.mk (w.X.getD x_1.2.1 dz).id ((pa:Int)+1)));(((R8 x.e w)/\(k:Int)=(x_1.2.1:Int)/\(0=m.e/\0=m.l/\0=m.t/\3=m.k/\0=m.p/\z.p=m.n/\z.g=m.g/\z.s=m.s/\[]=m.b/\z.b=m.a/\True)/\True)/\x_1.2.1<w.X.length/\w.X.length<=1000/\pa<=1000)/\∃(x_2:(Sto×Int)),let i:=x_2.1;let q:=(V2 x_2.1 (i.L.getD (x_2.2- (1:Int)).toNat dz));((((Y8 Z5 w.s.d.E i.d.E)/\(Y8 Y9 w.s.d.C i.d.C)/\w.s.d.A=i.d.A/\(Y8 Y6 w.s.d.keep i.d.keep)/\w.s.ep=i.ep/\(Y8 Y3 (w.s.L++[R9 w.s (M3 x_1.1 x_1.2.1 m)]) i.L)/\w.s.S=i.S/\(Y8 X2 w.s.fr i.fr)/\w.s.J=i.J/\True)/\(↑(pa+1):Int)=x_2.2/\True)/\SInv i/\1<=x_2.2/\x_2.2<=(i.L.length:Int))/\((! q.2)=true->((Y8 Z5 q.1.d.E c.s.d.E)/\(Y8 Y9 q.1.d.C c.s.d.C)/\q.1.d.A=c.s.d.A/\(Y8 Y6 q.1.d.keep c.s.d.keep)/\q.1.ep=c.s.ep/\(Y8 Y3 q.1.L c.s.L)/\q.1.S=c.s.S/\(Y8 X2 q.1.fr c.s.fr)/\q.1.J=c.s.J/\w.up=c.up/\(Y8 X0 v c.X)/\(Y8 Y7 w.lk.H c.lk.H)/\(Y8 Y0 w.lk.W c.lk.W)/\w.N=c.N/\True)/\false=u.2/\True)/\((! q.2)=false->∃(y:UdI (U7 e k to) k tx to),(((k:Int)=(k:Int)/\to=to/\j/\j/\false=false/\z.p=y.a/\True)/\(1=1/\1=1/\(Y8 Z5 q.1.d.E y.e.s.d.E)/\(Y8 Y9 q.1.d.C y.e.s.d.C)/\q.1.d.A=y.e.s.d.A/\(Y8 Y6 q.1.d.keep y.e.s.d.keep)/\q.1.ep=y.e.s.ep/\(Y8 Y3 q.1.L y.e.s.L)/\q.1.S=y.e.s.S/\(Y8 X2 q.1.fr y.e.s.fr)/\q.1.J=y.e.s.J/\w.up=y.e.up/\(Y8 X0 v y.e.X)/\(Y8 Y7 w.lk.H y.e.lk.H)/\(Y8 Y0 w.lk.W y.e.lk.W)/\w.N=y.e.N/\True)/\r/\True)/\Lt y.f x.f))/\((z.k==2)=false->∃(y:UdI (U7 e k to) k tx to),(((k:Int)=(k:Int)/\to=to/\j/\j/\false=false/\z.p=y.a/\True)/\(1=1/\1=1/\R8 x.e y.e)/\r/\True)/\Lt y.f x.f)))/\(decide (x.a>to)=false->(R8 x.e c)/\true=u.2/\True)) ⟨X8 hU.u.lt,⟨⟨e,0,(e.X.getD k dz).Z,61,hU,by omega,rfl⟩,⟨rfl,rfl,Z8,Z8,rfl,Z9⟩,⟨rfl,rfl,R4 _⟩,⟨rfl,rfl,rfl,rfl,rfl,rfl,rfl,rfl,rfl,rfl,rfl,rfl,rfl,rfl,rfl,Z9⟩,trivial⟩,λx=> ?_⟩
 obtain⟨e',v',a,f,h,hf,heq⟩:=x;dsimp only;have h60:=h.u.rm;have har:=h.ar;refine⟨λhc=> ?_,λhc=> ?_⟩
 ·have h1:1<=a:=by have:=C7 hc;omega
  have ht:¬a<=to:=by have:=C7 hc;omega
  obtain⟨p1,p2,p3,p4⟩:=h.u.si.logP.prev h1 har.2;refine⟨Z4 (by omega),⟨by omega,by omega⟩,λh3=> ?_,λh3=>⟨λh2=> ?_,λh2=> ?_⟩⟩
  ·have h3:(Z3 e'.s.L a).k=3:=beq_iff_eq.1 h3;exact⟨⟨e',v',(Z3 e'.s.L a).n,f-1,b8W h h1 h3,by omega,(aG ht (by omega) h3).symm.trans heq⟩,⟨⟨rfl,rfl,Z8,Z8,rfl,Z9⟩,⟨rfl,rfl,R4 _⟩,⟨rfl,rfl,R4 v4⟩,trivial⟩,by unfold Lt;dsimp only;omega⟩
  ·have h2:(Z3 e'.s.L a).k=2:=beq_iff_eq.1 h2;obtain⟨hR,hA,hb,hS⟩:=a6c h.u h1 har.2 h2;have e1:=b6g e' k (Z3 e'.s.L a);refine⟨(e',k,x6 (Z3 e'.s.L a)),⟨⟨R4 _,rfl,⟨rfl,rfl,rfl,rfl,rfl,rfl,rfl,rfl,rfl,Z9⟩,trivial⟩,h.u.lt,by have:=h.u.t10;dsimp only;omega,by dsimp only;omega⟩,((J0 e' k (x6 (Z3 e'.s.L a))).s,((e'.s.L.length+1:Nat):Int)),⟨⟨zE (J0 e' k (x6 (Z3 e'.s.L a))).s,rfl,trivial⟩,hS.iv,by dsimp only;omega,by rw[zK];exact Int.le_refl _⟩,λhu=> ?_,λhu=> ?_⟩
   ·dsimp only at hu ⊢;rw[e1] at hu ⊢;have hu:(K4 e' k (Z3 e'.s.L a)).2=false:=by
     have hu:(!(K4 e' k (Z3 e'.s.L a)).2)=true:=hu
     simpa using hu
    have h4:=(a3q (v:=v') ht (by omega) h2 hu).symm.trans heq
    rw[←h4];exact⟨R4 (K4 e' k (Z3 e'.s.L a)).1,Z9⟩
   ·dsimp only at hu ⊢;rw[e1] at hu ⊢;have hu:(K4 e' k (Z3 e'.s.L a)).2=true:=by
     have hu:(!(K4 e' k (Z3 e'.s.L a)).2)=false:=hu
     simpa using hu
    exact⟨⟨(K4 e' k (Z3 e'.s.L a)).1,lQ e' k (Z3 e'.s.L a) v',(Z3 e'.s.L a).p,f-1,a5R h h1 h2 hu,by omega,(a0q ht (by omega) h2 hu).symm.trans heq⟩,⟨⟨rfl,rfl,Z8,Z8,rfl,Z9⟩,⟨rfl,rfl,R4 (K4 e' k (Z3 e'.s.L a)).1⟩,⟨rfl,rfl,R4 v4⟩,trivial⟩,by unfold Lt;dsimp only;omega⟩
  ·have h3:(Z3 e'.s.L a).k≠3:=λe=>by
    have h3:((Z3 e'.s.L a).k==3)=false:=h3;rw[e] at h3;cases h3
   have h2:(Z3 e'.s.L a).k≠2:=λe=>by
    have h2:((Z3 e'.s.L a).k==2)=false:=h2;rw[e] at h2;cases h2
   exact⟨⟨e',v',(Z3 e'.s.L a).p,f-1,b8v h h1 h3,by omega,(aK ht (by omega) h3 h2).symm.trans heq⟩,⟨⟨rfl,rfl,Z8,Z8,rfl,Z9⟩,⟨rfl,rfl,R4 _⟩,⟨rfl,rfl,R4 v4⟩,trivial⟩,by unfold Lt;dsimp only;omega⟩
 ·have ha:a<=to:=by have:=l7 hc;omega
  rw[←heq,vV ha];exact⟨R4 _,Z9⟩
noncomputable def b7I:Con:=.rel ⟨Eng×Nat×Int,λx=>[.agg x.1.ts,.int .i64 x.2.1],λx=>.tup [.agg (T4 x.1 x.2.1).1.1.ts,.bool ((T4 x.1 x.2.1).2==0)],λx=>UI x.1 x.2.1 x.2.2 (x.1.X.getD x.2.1 dz).Z⟩
noncomputable def b8J:Con:=.rel ⟨Eng×Int,λx=>[.agg x.1.ts,.int .i64 x.2],λx=>.tup [.agg (yJ x.1 x.2).1.1.ts,.int .i64 (yJ x.1 x.2).2],λx=>N6 x.1=true/\y8 x.1⟩
theorem a7k:GK 283 b7I:=gk Tryz.func283<|by
 rintro⟨e,k,tx⟩ hU;dsimp only at hU;have hR:=a21 hU (Int.le_refl 0);refine Q5 (gC a69 (gC qO (gC rU (gC jF gN)))) Tryz.func283 Y5 (α:=let i:=(T4 e k).1.1.s.d.A;let c:=(T4 e k).1.1.s.d.C;let f:=(T4 e k).1.1.s.d.E;let w:=(T4 e k).1.1.s.d.keep;∃(x:(Eng×Nat×Int×Int)),let q:=(U7 x.1 x.2.1 x.2.2.1);(((R8 e x.1)/\(k:Int)=(x.2.1:Int)/\0=x.2.2.1/\True)/\UI x.1 x.2.1 x.2.2.2 (x.1.X.getD x.2.1 dz).Z/\0<=x.2.2.1)/\((! q.2)=true->∃(x_1:(Eng×Dsk)),let m:=x_1.2;let j:=(vJ x_1.2 x_1.1.s.ep);(((R8 q.1.1 x_1.1)/\(yM q.1.1.s.d m)/\True)/\G5 m/\m.E.length=69)/\((Y8 Z5 m.E f)/\(Y8 Y9 m.C c)/\m.A=i/\(Y8 Y6 m.keep w)/\x_1.1.s.ep=(T4 e k).1.1.s.ep/\(Y8 Y3 (v3 x_1.2 j) (T4 e k).1.1.s.L)/\(↑j:Int)=(T4 e k).1.1.s.S/\(0=(T4 e k).1.1.s.fr.length/\Z6 0 (X2 []) (X2 (T4 e k).1.1.s.fr))/\0=(T4 e k).1.1.s.J/\false=(T4 e k).1.1.up/\(0=(T4 e k).1.1.X.length/\Z6 0 (X0 []) (X0 (T4 e k).1.1.X))/\(0=(T4 e k).1.1.lk.H.length/\Z6 0 (Y7 []) (Y7 (T4 e k).1.1.lk.H))/\(0=(T4 e k).1.1.lk.W.length/\Z6 0 (Y0 []) (Y0 (T4 e k).1.1.lk.W))/\x_1.1.N=(T4 e k).1.1.N/\True)/\false=((T4 e k).2==0)/\True)/\((! q.2)=false->∃(x_1:(Eng×Nat×Rec)),let u:=x_1.2.2;let r:=x_1.1;(((R8 q.1.1 r)/\(k:Int)=(x_1.2.1:Int)/\(0=u.e/\0=u.l/\0=u.t/\5=u.k/\0=u.p/\0=u.n/\0=u.g/\0=u.s/\[]=u.b/\[]=u.a/\True)/\True)/\x_1.2.1<r.X.length/\r.X.length<=1000/\r.s.L.length<=1000)/\∃(x:(Eng×Nat)),let y:=(x.1.X.getD x.2 dz).id;let v:=x.1.lk;let z:=x.1.s;((((Y8 Z5 r.s.d.E z.d.E)/\(Y8 Y9 r.s.d.C z.d.C)/\r.s.d.A=z.d.A/\(Y8 Y6 r.s.d.keep z.d.keep)/\r.s.ep=z.ep/\(Y8 Y3 (r.s.L++[R9 r.s (M3 x_1.1 x_1.2.1 u)]) z.L)/\r.s.S=z.S/\(Y8 X2 r.s.fr z.fr)/\r.s.J=z.J/\r.up=x.1.up/\(Y8 X0 (r.X.set x_1.2.1 (Txn.mk (r.X.getD x_1.2.1 dz).id ((r.s.L.length:Int)+1))) x.1.X)/\(Y8 Y7 r.lk.H v.H)/\(Y8 Y0 r.lk.W v.W)/\r.N=x.1.N/\True)/\(k:Int)=(x.2:Int)/\True)/\x.2<x.1.X.length/\x.1.X.length<=1000/\v.H.length<=1000000/\v.W.length<=1000000)/\((Y8 Z5 z.d.E f)/\(Y8 Y9 z.d.C c)/\z.d.A=i/\(Y8 Y6 z.d.keep w)/\z.ep=(T4 e k).1.1.s.ep/\(Y8 Y3 z.L (T4 e k).1.1.s.L)/\z.S=(T4 e k).1.1.s.S/\(Y8 X2 z.fr (T4 e k).1.1.s.fr)/\z.J=(T4 e k).1.1.s.J/\x.1.up=(T4 e k).1.1.up/\(Y8 X0 (List.take x.2 x.1.X++List.drop (x.2+1) x.1.X) (T4 e k).1.1.X)/\(Y8 Y7 (X9 (hF y) v.H v.H.length) (T4 e k).1.1.lk.H)/\(Y8 Y0 (X9 (wF y) v.W v.W.length) (T4 e k).1.1.lk.W)/\x.1.N=(T4 e k).1.1.N/\True)/\true=((T4 e k).2==0)/\True)) ⟨(e,k,0,tx),⟨⟨R4 _,rfl,Z9⟩,hU,Int.le_refl _⟩,λhq=> ?_,λhq=> ?_⟩
 ·have hu:(U7 e k 0).2=false:=by simpa using hq
  have e0:T4 e k=((nH (U7 e k 0).1.1,0),15):=by rw[b1b (by rw[jP hu];simp),jP hu]
  rw[e0];exact⟨((U7 e k 0).1.1,(U7 e k 0).1.1.s.d),⟨⟨R4 (U7 e k 0).1.1,uX _,trivial⟩,(hR.2 hu).1,(hR.2 hu).2⟩,R4 (nH (U7 e k 0).1.1),Z9⟩
 ·have hu:(U7 e k 0).2=true:=by simpa using hq
  have hE:=hR.1 hu;have h1:=hE.lt;have h2:=hE.t10;have h3:=hE.rm;have h4:=hE.lk;have h5:=zK (U7 e k 0).1.1 k wJ;have hl:((U7 e k 0).1.1.X.set k ⟨((U7 e k 0).1.1.X.getD k dz).id,((U7 e k 0).1.1.s.L.length:Int)+1⟩).length=(U7 e k 0).1.1.X.length:=B1;rw[a5X (by rw[pS hu])]
  exact⟨((U7 e k 0).1.1,k,wJ),⟨⟨R4 (U7 e k 0).1.1,rfl,⟨rfl,rfl,rfl,rfl,rfl,rfl,rfl,rfl,rfl,Z9⟩,trivial⟩,h1,by dsimp only;omega,by dsimp only;omega⟩,(J0 (U7 e k 0).1.1 k wJ,k),⟨⟨R4 (J0 (U7 e k 0).1.1 k wJ),rfl,trivial⟩,by show k<List.length (List.set _ _ _);omega,by show List.length (List.set _ _ _)<=_;omega,by show(U7 e k 0).1.1.lk.H.length<=_;omega,by show(U7 e k 0).1.1.lk.W.length<=_;omega⟩,R4 (qU (J0 (U7 e k 0).1.1 k wJ) k),rfl,trivial⟩
theorem c0n(e:Eng)(k:Nat)(lsn:Int):(O2 e k lsn).2=0∨(O2 e k lsn).2=15:=by
 cases hu:(U7 e k lsn).2 with
 |true=>rw[pS hu];exact .inl rfl
 |false=>rw[jP hu];exact .inr rfl
theorem b7g(e:Eng)(k:Nat):(T4 e k).2=0∨(T4 e k).2=15:=by
 unfold T4;split
 ·exact .inl rfl
 ·exact c0n e k 0
theorem b6N{e:Eng}{tx:Int}(h:((V4 e tx).2 !=0)=false):(V4 e tx).2=0:=by simpa using h
theorem b7k{e:Eng}{tx:Int}(h:((V4 e tx).2 !=0)=true):¬ (V4 e tx).2=0:=by simpa using h
theorem b5U:GK 193 b8J:=gk Tryz.func193<|by
 rintro⟨e,tx⟩ ⟨ho,hm⟩;dsimp only at ho hm;have ht:=(k8 (J4 ho).2.1).1;refine Q5 (gC y6 (gC a7k gN)) Tryz.func193 Y5 (α:=let q:=(yJ e tx);∃(x:(Eng×Int)),let r:=(V4 x.1 x.2);(((R8 e x.1)/\tx=x.2/\True)/\O6 x.1.X.length)/\((r.2 !=0)=true->(R8 e q.1.1)/\r.2=q.2/\True)/\((r.2 !=0)=false->∃(x_1:(Eng×Nat×Int)),let p:=(T4 x_1.1 x_1.2.1);(((R8 e x_1.1)/\r.1=(x_1.2.1:Int)/\True)/\UI x_1.1 x_1.2.1 x_1.2.2 (x_1.1.X.getD x_1.2.1 dz).Z)/\((! p.2==0)=true->(R8 p.1.1 q.1.1)/\15=q.2/\True)/\((! p.2==0)=false->(R8 p.1.1 q.1.1)/\0=q.2/\True))) ⟨(e,tx),⟨⟨R4 _,Z9⟩,by unfold O6;dsimp only;omega⟩,λhq=> ?_,λhq=> ?_⟩
 ·rw[a6u (b7k hq)];exact⟨R4 _,Z9⟩
 ·have h0:=b6N hq;obtain⟨hu,k,e1,hk,hi,ha⟩:=x4 h0;rw[a2X h0 e1];refine⟨(e,k,tx),⟨⟨R4 _,e1,trivial⟩,a1N ho hm hu ha hk hi⟩,λhy=> ?_,λhy=> ?_⟩
  ·refine⟨R4 _,?_,trivial⟩
   rcases b7g e k with h|h
   ·have hy:(!((T4 e k).2==0))=true:=hy;rw[h] at hy;cases hy
   ·exact h.symm
  ·refine⟨R4 _,?_,trivial⟩
   rcases b7g e k with h|h
   ·exact h.symm
   ·have hy:(!((T4 e k).2==0))=false:=hy;rw[h] at hy;cases hy
noncomputable def c1D:Con:=.rel ⟨Eng×Int×Int,λx=>[.agg x.1.ts,.int .i64 x.2.1,.int .i64 x.2.2],λx=>.tup [.agg (D4 x.1 x.2.1 x.2.2).1.1.ts,.int .i64 (D4 x.1 x.2.1 x.2.2).2],λx=>N6 x.1=true/\y8 x.1⟩
theorem b8F:GK 67 c1D:=gk Tryz.func67<|by
 rintro⟨e,tx,lsn⟩ ⟨ho,hm⟩;dsimp only at ho hm;have ht:=(k8 (J4 ho).2.1).1;refine Q5 (gC y6 (gC E3 (gC a69 (gC rU gN)))) Tryz.func67 Y5 (α:=let p:=(D4 e tx lsn);let z:=p.1.1;∃(x:(Eng×Int)),let v:=(V4 x.1 x.2);let r:=(e.X.getD v.1.toNat dz).Z;let w:=(!V9 lsn (1:Int) r);let u:=(!V9 lsn (1:Int) r||(e.s.L.getD (lsn-1).toNat dz).t !=tx);(((R8 e x.1)/\tx=x.2/\True)/\O6 x.1.X.length)/\((v.2 !=0)=true->(R8 e z)/\v.2=p.2/\True)/\((v.2 !=0)=false->V3 v.1 e.X.length/\(w=false->W7 .i64 (lsn-1))/\(w=false->V3 (lsn-1) e.s.L.length)/\(u=true->(R8 e z)/\5=p.2/\True)/\(u=false->∃(x_1:(Eng×Nat×Int×Int)),let y:=x_1.2;let q:=(U7 x_1.1 y.1 y.2.1);(((R8 e x_1.1)/\v.1=(y.1:Int)/\lsn=y.2.1/\True)/\UI x_1.1 y.1 y.2.2 (x_1.1.X.getD y.1 dz).Z/\0<=y.2.1)/\((! q.2)=true->∃(x:(Eng×Dsk)),(((R8 q.1.1 x.1)/\(yM q.1.1.s.d x.2)/\True)/\G5 x.2/\x.2.E.length=69)/\((Y8 Z5 x.2.E z.s.d.E)/\(Y8 Y9 x.2.C z.s.d.C)/\x.2.A=z.s.d.A/\(Y8 Y6 x.2.keep z.s.d.keep)/\x.1.s.ep=z.s.ep/\(Y8 Y3 (v3 x.2 (vJ x.2 x.1.s.ep)) z.s.L)/\(↑(vJ x.2 x.1.s.ep):Int)=z.s.S/\(0=z.s.fr.length/\Z6 0 (X2 []) (X2 z.s.fr))/\0=z.s.J/\false=z.up/\(0=z.X.length/\Z6 0 (X0 []) (X0 z.X))/\(0=z.lk.H.length/\Z6 0 (Y7 []) (Y7 z.lk.H))/\(0=z.lk.W.length/\Z6 0 (Y0 []) (Y0 z.lk.W))/\x.1.N=z.N/\True)/\15=p.2/\True)/\((! q.2)=false->(R8 q.1.1 z)/\0=p.2/\True)))) ⟨(e,tx),⟨⟨R4 _,Z9⟩,by unfold O6;dsimp only;omega⟩,λhq=> ?_,λhq=> ?_⟩
 ·rw[b6Q (b7k hq)];exact⟨R4 _,Z9⟩
 ·have h0:=b6N hq;obtain⟨hu,k,e1,hk,hi,ha⟩:=x4 h0;have hU:=a1N ho hm hu ha hk hi;have hl:=dD ho hu hk;have hrm:=hU.u.rm;dsimp only;rw[e1,F5];have hin:(!V9 lsn 1 (e.X.getD k dz).Z)=false->1<=lsn/\lsn<=(e.X.getD k dz).Z:=λh=>b2J h
  refine⟨X8 hk,λh=>by have:=hin h;exact Z4 (by omega),λh=>by have:=hin h;exact⟨by omega,by omega⟩,λhc=> ?_,λhc=> ?_⟩
  ·have hc:(V9 lsn 1 (e.X.getD k dz).Z&&(e.s.L.getD (lsn-1).toNat dz).t==tx)=false:=by
    unfold bne at hc;rw[b60] at hc;exact c08 hc
   rw[b68 h0 e1 hc];exact⟨R4 _,Z9⟩
  ·have hc:(V9 lsn 1 (e.X.getD k dz).Z&&(e.s.L.getD (lsn-1).toNat dz).t==tx)=true:=by
    unfold bne at hc;rw[b60] at hc
    simpa using hc
   have hl1:1<=lsn:=by
    simp only[L3] at hc;exact(sU hc.1).1
   have hR:=a21 hU (show 0<=lsn by omega)
   rw[b65 h0 e1 hc];refine⟨(e,k,lsn,tx),⟨⟨R4 _,rfl,Z9⟩,hU,by dsimp only;omega⟩,λhy=> ?_,λhy=> ?_⟩
   ·have hu:(U7 e k lsn).2=false:=by simpa using hy
    rw[jP hu];exact⟨((U7 e k lsn).1.1,(U7 e k lsn).1.1.s.d),⟨⟨R4 (U7 e k lsn).1.1,uX _,trivial⟩,(hR.2 hu).1,(hR.2 hu).2⟩,R4 (nH (U7 e k lsn).1.1),Z9⟩
   ·have hu:(U7 e k lsn).2=true:=by simpa using hy
    rw[pS hu];exact⟨R4 (U7 e k lsn).1.1,Z9⟩
end Go.Proofs.YtghgljelnhfihaaGreat

