/- A part of the proof. -/
import Derived.Test.YtpdnnhnfongoeaaGreatY1
import Derived.Test.YtpdnnhnfongoeaaGreatU1
namespace Go.Proofs.YtpdnnhnfongoeaaGreat
open Go.SS Go.Proofs.Tryz
noncomputable section
theorem tC(n:Int):((yL n).toNat:Int)=n % 256:=by
 unfold yL;rw[a2p (O8 _),IntKind.wrap_u8]
theorem a70{n:Int}(h:0<=n)(d:n<=255):((yL n).toNat:Int)=n:=by
 rw[tC];omega
theorem c7a{n:Nat}(h:n<65536):be (zA n)=n:=by
 have d:=tC ((n:Int).fdiv 256);have e:=tC ((n:Int).fdiv 1);rw[Int.fdiv_eq_ediv_of_nonneg _ K3] at d e
 show(0*256+(yL ((n:Int).fdiv 256)).toNat)*256+(yL ((n:Int).fdiv 1)).toNat=n;rw[Int.fdiv_eq_ediv_of_nonneg _ K3,Int.fdiv_eq_ediv_of_nonneg _ K3]
 omega
theorem c7I{n:Nat}(h:n<4294967296):be (z8 n)=n:=by
 have e:=tC ((n:Int).fdiv 16777216);have f:=tC ((n:Int).fdiv 65536);have d:=tC ((n:Int).fdiv 256);have g:=tC ((n:Int).fdiv 1);rw[Int.fdiv_eq_ediv_of_nonneg _ K3] at e f d g
 show(((0*256+(yL ((n:Int).fdiv 16777216)).toNat)*256+(yL ((n:Int).fdiv 65536)).toNat)*256+(yL ((n:Int).fdiv 256)).toNat)*256+(yL ((n:Int).fdiv 1)).toNat=n;rw[Int.fdiv_eq_ediv_of_nonneg _ K3,Int.fdiv_eq_ediv_of_nonneg _ K3,Int.fdiv_eq_ediv_of_nonneg _ K3,Int.fdiv_eq_ediv_of_nonneg _ K3]
 omega
theorem b8v(l:Bz):S0 (l++z8 (zS l))=true/\X1 (l++z8 (zS l))=l:=by
 have d:(z8 (zS l)).length=4:=rfl;have L:(l++z8 (zS l)).length-4=l.length:=by rw[F6,d];omega
 have h:(l++z8 (zS l)).take l.length=l:=List.take_left;have hd:(l++z8 (zS l)).drop l.length=z8 (zS l):=List.drop_left;have ok:S0 (l++z8 (zS l))=true:=by
  unfold S0;rw[L,h,hd,c7I (a1S l),F6,d];simp
 refine⟨ok,?_⟩
 unfold X1;rw[if_pos ok,L,h]
def b7y(L:List (Bz)):Prop:=L.length<=100/\∀i,i<L.length->(L.getD i []).length<=255
theorem iT(L:List (Bz))(i:Nat):∀k,∃r,V7 L (i+k)=V7 L i++r
 |0=>⟨[],W7⟩
 |k+1=>by
  obtain⟨r,h⟩:=iT L i k;refine⟨r++[yL (L.getD (i+k) []).length]++L.getD (i+k) [],?_⟩
  show V7 L (i+k)++[yL (L.getD (i+k) []).length]++L.getD (i+k) []=_;rw[h];simp only[List.append_assoc]
theorem a85{α:Type}(d:α)(L:List α){i:Nat}(h:i<L.length):L.take (i+1)=L.take i++[L.getD i d]:=by
 rw[List.take_add_one,P4,I3 h]
 rfl
theorem b42{L:List (Bz)}(h:b7y L):∀i,i<=L.length->xO (S5 L) i=some ((V7 L i).length,L.take i)
 |0,_=>rfl
 |i+1,hi=>by
  obtain⟨r,R⟩:=iT L (i+1) (L.length- (i+1));rw[show i+1+(L.length- (i+1))=L.length by omega] at R
  have C:((yL (L.getD i []).length).toNat:Int)=(L.getD i []).length:=a70 Z9 (by have:=h.2 i Z9;omega)
  have B:S5 L=V7 L i++([yL (L.getD i []).length]++(L.getD i []++r)):=by
   unfold S5;rw[R];show V7 L i++[yL (L.getD i []).length]++L.getD i []++r=_;simp only[List.append_assoc]
  have g:(S5 L).getD (V7 L i).length 0=yL (L.getD i []).length:=by
   rw[B,P4,qA (U9 _)]
   simp
  have l:(S5 L).length=(V7 L i).length+(1+((L.getD i []).length+r.length)):=by rw[B];simp only[F6,List.length_cons,List.length_nil]
  have n:(yL (L.getD i []).length).toNat=(L.getD i []).length:=Z9
  have e:List.drop ((V7 L i).length+1) (List.take ((V7 L i).length+1+(L.getD i []).length) (S5 L))=L.getD i []:=by
   rw[B,←List.append_assoc,←List.append_assoc];rw[List.take_left' (by simp only[F6,List.length_cons,List.length_nil]),List.drop_left' (by simp only[F6,List.length_cons,List.length_nil])]
  conv=>lhs;unfold xO
  rw[b42 h i Z9]
  dsimp only;rw[g,n,if_pos ⟨Z9,Z9⟩,e,a85 [] L Z9]
  congr 2
  simp only[V7,F6,List.length_cons,List.length_nil]
theorem a0U{L:List (Bz)}(h:b7y L):Q3 (S5 L)=some L:=by
 obtain⟨r,R⟩:=iT L 0 L.length;rw[D6] at R;have C:((yL L.length).toNat:Int)=L.length:=a70 Z9 (by have:=h.1;omega)
 have f:C4 (S5 L)=L.length:=by
  unfold C4 S5;rw[R];show(yL L.length).toNat=_;omega
 have l:(S5 L).length≠0:=by
  unfold S5;rw[R];simp[V7]
 unfold Q3;rw[f,if_neg (by have:=h.1;omega),b42 h _ (U9 _)]
 dsimp only;rw[show(V7 L L.length).length=(S5 L).length from rfl,if_pos rfl,j_l]
theorem c8M{no:Int}{p:Pg}(h:PgP p)(t:0<=no)(v:no<=255):E7 no (S4 no p)=(p,true):=by
 obtain⟨l,q,j,d⟩:=h;obtain⟨U,u⟩:=b8v (sC no p);have hF:b7y p.sl:=⟨Z9,λi hi=>Nat.le_trans (d i hi) K3⟩
 obtain⟨r,R⟩:=iT p.sl 0 p.sl.length;have n:1<=(S5 p.sl).length:=by
  unfold S5;rw[←D6 p.sl.length,R];simp[V7]
 have f:sC no p=R1 112::yL no::(zA p.Q.toNat++S5 p.sl):=by unfold sC;simp
 have e:(zA p.Q.toNat).length=2:=rfl;have o:uU no (sC no p)=true:=by
  unfold uU;rw[f];simp only[List.length_cons,F6,e,I4,q8];exact⟨Z9,rfl,a70 t v⟩
 have g:(sC no p).drop 4=S5 p.sl:=by
  unfold sC;exact List.drop_left' (by simp[e])
 have d2:((sC no p).drop 2).take 2=zA p.Q.toNat:=by
  rw[f];exact List.take_left' e
 have x:pgX (sC no p)=p:=by
  unfold pgX;rw[g,d2,a0U hF,c7a Z9,Option.getD_some,show((p.Q.toNat:Nat):Int)=p.Q by omega]
 have ok:k7 p=true:=mR ⟨l,q,j,d⟩;unfold E7 S4;rw[U,u,o,x,g,a0U hF,ok];rfl
theorem b9m(L:List (Bz))(h:∀i,i<L.length->(L.getD i []).length<=30):∀i,i<=L.length->(V7 L i).length<=1+31*i
 |0,_=>by simp[V7]
 |i+1,hi=>by
  have d:=b9m L h i Z9
  have e:=h i Z9
  simp only[V7,F6,List.length_cons,List.length_nil];omega
theorem c79{no:Int}{p:Pg}(h:PgP p):(S4 no p).length<=160/\S4 no p≠[]:=by
 obtain⟨j,n,i,d⟩:=h;have:=b9m p.sl d p.sl.length (U9 _);have f:(z8 (zS (sC no p))).length=4:=rfl;have g:(zA p.Q.toNat).length=2:=rfl;have l:(S4 no p).length=8+(S5 p.sl).length:=by
  unfold S4;rw[F6,f];unfold sC;simp only[F6,List.length_cons,List.length_nil,g];omega
 refine⟨by rw[l];unfold S5;omega,λe=>?_⟩
 rw[e] at l;simp at l;omega
structure SI(s:Sto):Prop where
 iv:SInv s
 dw:b9H s.d
 pl:∀no,no<8->(P7 s.d no).1.Q<=s.L.length
theorem c0K{s:Sto}(h:SInv s)(W:b9H s.d):G4 s.d:=by
 obtain⟨l,g,f,e,j⟩:=W;refine⟨Z9,Z9,h.c,g,f,e,λi hi=>?_⟩
 have:=h.pd i hi;have:=j i hi;unfold P3;rw[K7.2 Z9,tQ Z9]
 rfl
theorem SI.dk{s:Sto}(h:SI s):G4 s.d:=c0K h.iv h.dw
theorem eB{d:Dsk}(h:G4 d)(e:d.E.length=69):b9H d:=by
 obtain⟨o,n,q,g,l,f,j⟩:=h;exact⟨e,g,l,f,λi hi=>(a4j (j i hi)).2.2⟩
theorem SI.logP{s:Sto}(h:SI s):xL s.L:=⟨h.iv.l60,λi hi=>by
 obtain⟨a,b⟩:=C5.1 h.iv.rc i hi;exact⟨(Q4 _).1 a,b⟩⟩
theorem c4S{s:Sto}(h:G2 s=true)(M:iH s):SI s:=by
 have hd:=((o8 s).1 ((G8 s).1 h).1.1);refine⟨a9q h M,eB hd.1 hd.2.1,λno n=>?_⟩
 have B:=((G8 s).1 h).2.2.1 no n;have d:=mC ((G8 s).1 h).1.2.2;unfold c8 at B;simp only[wU,uI] at B;omega
theorem a8v{s:Sto}{r:Rec}(h:SI s)(R:P0 (P9 s r)=true)(l:s.L.length+1<=60):SI (apx s r):=by
 have e:(apx s r).L.length=s.L.length+1:=by show(s.L++[_]).length=_;simp
 have L:=b7X h.logP R l;have hi:=h.iv;have u:=hi.su;refine⟨⟨⟨hi.sm.1,Z9,hi.sm.2.2⟩,hi.c,hi.pd,hi.n69,⟨u.1,by have:(apx s r).S=s.S:=rfl;omega⟩,Z9,C5.2 λi hi=>⟨(Q4 _).2 (L.2 i hi).1,(L.2 i hi).2⟩,hi.fr3,λi f=>?_,hi.hd,hi.pg⟩,h.dw,λno n=>?_⟩
 ·obtain⟨a,b,c,d⟩:=hi.frp i f;exact⟨a,b,c,by have:((apx s r).fr.getD i dz).pg.Q<=s.L.length:=d;omega⟩
 ·have:(P7 (apx s r).d no).1.Q<=s.L.length:=h.pl no n;omega
theorem a2z{L:List Frm}{k:Nat}(f:Frm)(i:Nat)(hk:k<L.length):(L.set k f).getD i dz=if i=k then f else L.getD i dz:=by
 by_cases h:i=k
 ·subst h;rw[if_pos rfl,P4,j_j hk]
  rfl
 ·rw[if_neg h,P4,j_k (Ne.symm h),←P4]
theorem b4Y{d:Dsk}(h:G4 d)(e:d.E.length=69):G4 (z6 d).1/\(z6 d).1.E.length=69:=by
 unfold z6;split
 ·exact b0Y (eB h e)
 ·exact⟨h,e⟩
theorem c0C{s:Sto}{l:Int}(h:mG s l)(e:0<=l):0<=(V8 s l).1.S/\(V8 s l).1.S<=s.L.length:=by
 obtain⟨_,_,_,_,B,d,_,f,_⟩:=h;by_cases hl:l<=s.S
 ·rw[xI hl];exact⟨B,d⟩
 ·rw[xV hl];dsimp only;split
  ·exact⟨e,f⟩
  ·exact⟨B,d⟩
theorem c7l{s:Sto}{k:Nat}(h:SI s)(g:k<s.fr.length)(u:(X3 s k).2=false):G4 (X3 s k).1.d/\(X3 s k).1.d.E.length=69:=by
 obtain⟨i,F,j,f4⟩:=h.iv.frp k g;have f:=h.iv.flu f4;have e:=b0M h.dk f h.logP;cases hd:(s.fr.getD k dz).D with
 |false=>rw[uJ hd] at u;cases u
 |true=>
  cases hF:(V8 s (s.fr.getD k dz).pg.Q).2 with
  |false=>rw[rO hd hF];exact e
  |true=>
   cases B:(z6 (V8 s (s.fr.getD k dz).pg.Q).1.d).2 with
   |false=>rw[mU hd hF B];exact b4Y e.1 e.2
   |true=>rw[fA hd hF B] at u;cases u
theorem c5e{s:Sto}{k:Nat}(h:SI s)(hk:k<s.fr.length)(u:(X3 s k).2=true):SI (X3 s k).1/\(X3 s k).1.L=s.L/\(X3 s k).1.fr.length=s.fr.length/\(X3 s k).1.J=s.J:=by
 obtain⟨r1,z,r3,O,C⟩:=u2 s k;refine⟨?_,r3,r1,z⟩
 cases hd:(s.fr.getD k dz).D with
 |false=>rw[uJ hd];exact h
 |true=>
  have hi:=h.iv;obtain⟨v,I,F,f4⟩:=hi.frp k hk;have x:=hi.flu f4;have j:=b0M h.dk x h.logP;have r:=a4H s (s.fr.getD k dz).pg.Q;have f:=c0C x F.1;have M:=a9U hi hk;have e:=λno o q=>a44 (no:=no) hi hk o q u
  have t:=a12 (l:=(s.fr.getD k dz).pg.Q) hi.pd;cases hF:(V8 s (s.fr.getD k dz).pg.Q).2 with
  |false=>rw[rO hd hF] at u;cases u
  |true=>
   cases B:(z6 (V8 s (s.fr.getD k dz).pg.Q).1.d).2 with
   |false=>rw[mU hd hF B] at u;cases u
   |true=>
    have hw:=b4Y j.1 j.2;have hpd5:aR (z6 (V8 s (s.fr.getD k dz).pg.Q).1.d).1:=by
     unfold z6;split
     ·exact b9Y (xX _)
     ·exact t
    have J:(X3 s k).1.d.C.length<=500:=by
     by_cases L:(s.fr.getD k dz).no=0
     ·exact(e 1 Z9 Z9).2
     ·exact(e 0 Z9 Z9).2
    obtain⟨A,Z⟩:=c79 (no:=(s.fr.getD k dz).no) F;have n:(X3 s k).1=wrF ((V8 s (s.fr.getD k dz).pg.Q).1.sd (z6 (V8 s (s.fr.getD k dz).pg.Q).1.d).1) k:=by rw[fA hd hF B]
    have efr:(X3 s k).1.fr=s.fr.set k (clF (s.fr.getD k dz)):=by
     rw[n];show(V8 s _).1.fr.set k (clF ((V8 s _).1.fr.getD k dz))=_;rw[r.1]
    have ed:(X3 s k).1.d=wrD (z6 (V8 s (s.fr.getD k dz).pg.Q).1.d).1 (1+(s.fr.getD k dz).no) (S4 (s.fr.getD k dz).no (s.fr.getD k dz).pg):=by
     rw[n];show wrD _ (1+((V8 s _).1.fr.getD k dz).no) (S4 ((V8 s _).1.fr.getD k dz).no ((V8 s _).1.fr.getD k dz).pg)=_;rw[r.1];rfl
    have U:(X3 s k).1.S=(V8 s (s.fr.getD k dz).pg.Q).1.S:=by rw[n];rfl
    have g:∀no,no<8->(P7 (X3 s k).1.d no).2=true/\(S1 (X3 s k).1.d (1+no)).length<=1000/\(P7 (X3 s k).1.d no).1.Q<=s.L.length:=λno o=>by
     by_cases N:(s.fr.getD k dz).no=no
     ·have R:S1 (X3 s k).1.d (1+no)=S4 (s.fr.getD k dz).no (s.fr.getD k dz).pg:=by
       rw[ed,a6M,if_pos Z9]
      have hp:P7 (X3 s k).1.d no=((s.fr.getD k dz).pg,true):=by
       unfold P7;rw[R,if_neg Z,←N];exact c8M F v Z9
      rw[hp,R];exact⟨rfl,Z9,f4⟩
     ·have Q:=(e no o N).1;have hp:=(cZ (d:=(X3 s k).1.d) (d':=s.d) (no:=no) Q).1;rw[hp,Q];exact⟨(hi.pg no o).1,(hi.pg no o).2,h.pl no o⟩
    refine⟨⟨M,J,?_,by rw[C];exact hi.n69,⟨by rw[U];exact f.1,by rw[U,r3];exact f.2⟩,by rw[r3];exact hi.l60,by rw[r3];exact hi.rc,by rw[r1];exact hi.fr3,λi hi'=>?_,by rw[z];exact hi.hd,λno o=>⟨(g no o).1,(g no o).2.1⟩⟩,?_,λno o=>by rw[r3];exact(g no o).2.2⟩
    ·rw[ed];intro i hi';have hi':i<((z6 (V8 s (s.fr.getD k dz).pg.Q).1.d).1.C++[(⟨1+(s.fr.getD k dz).no,S4 (s.fr.getD k dz).no (s.fr.getD k dz).pg⟩:Pend)]).length:=hi';rw[F6,List.length_singleton] at hi';show 0<=(((z6 (V8 s (s.fr.getD k dz).pg.Q).1.d).1.C++[(⟨1+(s.fr.getD k dz).no,S4 (s.fr.getD k dz).no (s.fr.getD k dz).pg⟩:Pend)]).getD i dz).at_/\(((z6 (V8 s (s.fr.getD k dz).pg.Q).1.d).1.C++[(⟨1+(s.fr.getD k dz).no,S4 (s.fr.getD k dz).no (s.fr.getD k dz).pg⟩:Pend)]).getD i dz).at_<((z6 (V8 s (s.fr.getD k dz).pg.Q).1.d).1.E.length:Int);rw[cT dz _ _ i hi',hw.2];split
     ·exact⟨X5,X5⟩
     ·have:=hpd5 i Z9
      rw[hw.2] at this;exact this
    ·rw[r1] at hi';rw[efr,a2z _ _ hk,r3];split
     ·exact⟨v,I,F,f4⟩
     ·exact hi.frp i hi'
    ·rw[ed];obtain⟨w1,w2,w3,w4,w5⟩:=eB hw.1 hw.2;refine⟨w1,w2,w3,w4,λi hi'=>?_⟩
     have hi':i<((z6 (V8 s (s.fr.getD k dz).pg.Q).1.d).1.C++[(⟨1+(s.fr.getD k dz).no,S4 (s.fr.getD k dz).no (s.fr.getD k dz).pg⟩:Pend)]).length:=hi';rw[F6,List.length_singleton] at hi';show(((z6 (V8 s (s.fr.getD k dz).pg.Q).1.d).1.C++[(⟨1+(s.fr.getD k dz).no,S4 (s.fr.getD k dz).no (s.fr.getD k dz).pg⟩:Pend)]).getD i dz).d.length<=160;rw[cT dz _ _ i hi'];split
     ·exact A
     ·exact w5 i Z9
theorem b6a{s:Sto}{no:Nat}(h:SI s)(o:no<8):0<=(pA no (P7 s.d no).1).no/\(pA no (P7 s.d no).1).no<=7/\PgP (pA no (P7 s.d no).1).pg/\(pA no (P7 s.d no).1).pg.Q<=s.L.length:=⟨by show(0:Int)<=no;omega,by show(no:Int)<=7;omega,iL (h.iv.pg no o).1,h.pl no o⟩
theorem b6i{s:Sto}{L:List Frm}{hand:Int}(h:SI s)(M:iH ⟨s.d,s.ep,s.L,s.S,L,hand⟩)(g:L.length<=3)(f:∀i,i<L.length->0<=(L.getD i dz).no/\(L.getD i dz).no<=7/\PgP (L.getD i dz).pg/\(L.getD i dz).pg.Q<=s.L.length)(e:0<=hand/\hand<=2):SI ⟨s.d,s.ep,s.L,s.S,L,hand⟩:=
 ⟨⟨M,h.iv.c,h.iv.pd,h.iv.n69,h.iv.su,h.iv.l60,h.iv.rc,g,f,e,h.iv.pg⟩,h.dw,h.pl⟩
theorem c8l{a:Int}(h:0<=a):0<=a.tmod 3/\a.tmod 3<=2:=by
 rw[Int.tmod_eq_emod_of_nonneg h];omega
theorem rN{s:Sto}{no:Nat}(h:SI s)(u:(Y3 s no).2.2=false):G4 (Y3 s no).1.d/\(Y3 s no).1.d.E.length=69:=by
 by_cases C:0<=frAt s.fr no
 ·rw[(yM 0 C).1] at u;cases u
 ·by_cases h3:s.fr.length=3
  ·have hh:=h.iv.hd;cases ho:(X3 s s.J.toNat).2 with
   |true=>rw[(m6 0 C h3 ho).1] at u;cases u
   |false=>
    rw[(m4 0 C h3 ho).1];exact c7l h Z9 ho
  ·rw[(yF 0 C h3).1] at u;cases u
theorem rQ{s:Sto}{no:Nat}(h:SI s)(o:no<8)(u:(Y3 s no).2.2=true):SI (Y3 s no).1/\(Y3 s no).1.L=s.L:=by
 have hm:=a9Y h.iv o;have f:=h.iv.hd;have g:=h.iv.fr3;by_cases hc:0<=frAt s.fr no
 ·rw[(yM 0 hc).1];exact⟨h,rfl⟩
 ·by_cases h3:s.fr.length=3
  ·cases ho:(X3 s s.J.toNat).2 with
   |false=>rw[(m4 0 hc h3 ho).1] at u;cases u
   |true=>
    obtain⟨O,l,e,j⟩:=c5e h (show s.J.toNat<s.fr.length by omega) ho
    rw[(m6 0 hc h3 ho).1] at hm ⊢;have hlen:((X3 s s.J.toNat).1.fr.set s.J.toNat (pA no (P7 (X3 s s.J.toNat).1.d no).1)).length=3:=by rw[b9,e];exact h3
    refine⟨b6i O hm Z9 (λi hi=>?_) (by rw[j];exact c8l Z9),l⟩
    rw[a2z _ _ Z9]
    split
    ·exact b6a O o
    ·exact O.iv.frp i Z9
  ·rw[(yF 0 hc h3).1] at hm ⊢;have hlen:(s.fr++[pA no (P7 s.d no).1]).length=s.fr.length+1:=by rw[F6];rfl
   refine⟨b6i h hm Z9 (λi hi=>?_) f,rfl⟩
   rw[cT dz _ _ i Z9]
   split
   ·exact b6a h o
   ·exact h.iv.frp i Z9
theorem b7M{s:Sto}{r:Rec}(h:SI s)(u:(U0 s r).2=false):G4 (U0 s r).1.d/\(U0 s r).1.d.E.length=69:=by
 cases f:(Y3 s r.g.toNat).2.2 with
 |true=>
  unfold U0 at u;rw[if_pos f] at u;cases u
 |false=>
  have e:U0 s r=((Y3 s r.g.toNat).1,false):=if_neg (by rw[f];simp)
  rw[e];exact rN h f
theorem b6h{s:Sto}{r:Rec}(h:SI s)(B:mF s r)(hl:0<=r.l/\r.l<=s.L.length)(A:r.a.length<=30)(u:(U0 s r).2=true):SI (U0 s r).1/\(U0 s r).1.L=s.L:=by
 have M:=c2Y B;obtain⟨_,v,C,F,q⟩:=B;have o:r.g.toNat<8:=Z9
 cases f:(Y3 s r.g.toNat).2.2 with
 |false=>
  unfold U0 at u;rw[if_neg (by rw[f];simp)] at u
  cases u
 |true=>
  have e:U0 s r=(c16 (Y3 s r.g.toNat).1 (Y3 s r.g.toNat).2.1 r,true):=if_pos f;obtain⟨i1,I⟩:=rQ h o f;obtain⟨k1,t,x,d,n⟩:=xM h.iv o f;have z:=i1.iv.fr3;rw[e] at M ⊢;refine⟨b6i i1 M (by rw[b9];omega) (λi hi=>?_) i1.iv.hd,I⟩
  rw[b9] at hi;rw[a2z _ _ k1];split
  ·obtain⟨b1,b2,b3,b4⟩:=i1.iv.frp _ k1;refine⟨b1,b2,⟨hl.1,?_,?_,λj hj=>?_⟩,?_⟩
   ·have:=h.iv.l60;show r.l<=_;omega
   ·show(List.set _ _ _).length=_;rw[b9];exact d
   ·show((List.set _ _ _).getD j []).length<=30;have hj:j<(List.set ((Y3 s r.g.toNat).1.fr.getD (Y3 s r.g.toNat).2.1 dz).pg.sl r.s.toNat r.a).length:=hj;rw[b9] at hj;by_cases hjs:j=r.s.toNat
    ·subst hjs;rw[P4,j_j hj]
     exact A
    ·rw[P4,j_k (Ne.symm hjs),←P4]
     exact n j hj
   ·rw[I];exact hl.2
  ·exact i1.iv.frp i hi
theorem a0o{L:List Txn}{id n:Int}{k:Nat}(hk:k<L.length)(A:T9 L id=k):T9 (L.set k ⟨(L.getD k dz).id,n⟩) id=k:=by
 have g:¬S6 L.length (x9 L id)<0:=by
  have:S6 L.length (x9 L id)=k:=A;omega
 obtain⟨i,hi,hp,f,o⟩:=lZ g;have d:i=k:=by
  have:S6 L.length (x9 L id)=k:=A;omega
 subst d;have e:∀j,x9 (L.set i ⟨(L.getD i dz).id,n⟩) id j=x9 L id j:=λj=>by
  unfold x9;by_cases h:j=i
  ·subst h;rw[P4 (l:=L.set j _),j_j hk]
   rfl
  ·rw[P4 (l:=L.set i _),j_k (Ne.symm h),←P4]
 unfold T9;rw[b9];exact O0 hi (by rw[e];exact hp) λj J=>by rw[e];exact f j J
theorem b0H{L:List Txn}{n:Int}{k:Nat}(h:k<L.length):((L.set k ⟨(L.getD k dz).id,n⟩).getD k dz).id=(L.getD k dz).id:=by
 rw[P4 (l:=L.set k _),j_j h]
 rfl
theorem c7s(s:Sto)(r:Rec):(U0 s r).1.ep=s.ep:=by
 have hF:(Y3 s r.g.toNat).1.ep=s.ep:=by
  by_cases h:0<=frAt s.fr r.g.toNat
  ·rw[(yM 0 h).1]
  ·by_cases h3:s.fr.length=3
   ·cases ho:(X3 s s.J.toNat).2 with
    |true=>rw[(m6 0 h h3 ho).1];exact(u2 s s.J.toNat).2.2.2.1
    |false=>rw[(m4 0 h h3 ho).1];exact(u2 s s.J.toNat).2.2.2.1
   ·rw[(yF 0 h h3).1];rfl
 unfold U0;split
 ·exact hF
 ·exact hF
def xB(r:Rec):Rec:=⟨0,0,0,3,0,r.p,r.g,r.s,[],r.b⟩
def dU(e:Eng)(k:Nat)(r:Rec):Rec:=P9 e.s (C1 e k (xB r))
def B5(e:Eng)(k:Nat)(r:Rec):Eng×Bool:=({F1 e k (xB r) with s:=(U0 (F1 e k (xB r)).s (dU e k r)).1},(U0 (F1 e k (xB r)).s (dU e k r)).2)
def bV(e:Eng)(k:Nat)(r:Rec)(v:Nat):Nat:=P8 (F1 e k (xB r)).s r.g.toNat v
def H6(k:Nat)(to:Int):Nat->Eng->Nat->Int->(Eng×Nat)×Bool
 |0,e,v,_=>((e,v),true)
 |f+1,e,v,a=>if a<=to then((e,v),true) else if(Y8 e.s.L a).k=3 then H6 k to f e v (Y8 e.s.L a).n
  else if(Y8 e.s.L a).k=2 then(if(B5 e k (Y8 e.s.L a)).2=true then H6 k to f (B5 e k (Y8 e.s.L a)).1 (bV e k (Y8 e.s.L a) v) (Y8 e.s.L a).p else(((B5 e k (Y8 e.s.L a)).1,bV e k (Y8 e.s.L a) v),false))
  else H6 k to f e v (Y8 e.s.L a).p
structure UE(e:Eng)(k:Nat)(tx:Int):Prop where
 si:SI e.s
 at_:T9 e.X tx=k
 lt:k<e.X.length
 id:(e.X.getD k dz).id=tx
 txr:1<=tx/\tx<=60
 la:1<=(e.X.getD k dz).Z/\(e.X.getD k dz).Z<=e.s.L.length
 ep:1<=e.s.ep/\e.s.ep<=60
 t10:e.X.length<=10
 lk:e.lk.H.length<=60/\e.lk.W.length<=100
 rm:e.s.L.length+1<=60
structure UI(e:Eng)(k:Nat)(tx a:Int):Prop where
 u:UE e k tx
 ar:0<=a/\a<=(e.s.L.length:Int)
 fu:∃f,a.toNat<f/\e.s.L.length+1+und e.s.L f a<=60
theorem a4i{e:Eng}{k:Nat}{tx:Int}{r:Rec}(h:UE e k tx)(l:a3x e k r):AddB e tx k r/\P0 (P9 e.s (C1 e k r))=true:=by
 have f:=h.id;have x:=h.txr;have L:=h.la;have M:=h.rm;have B:=h.t10;have g:=h.ep;obtain⟨j,o,A,F,v,n,I,J,C,u,z,t,i,q,R,_⟩:=l;have d:P0 (P9 e.s (C1 e k r))=true:=by
  refine(Q4 _).2 ?_
  unfold zK P9 C1;dsimp only;refine⟨g.1,g.2,Z9,Z9,Z9,Z9,Z9,Z9,Z9,Z9,Z9,Z9,Z9,Z9,Z9,λe=>absurd e j,λ_=>⟨Z9,Z9,Z9,n,v,R,⟨λe=>absurd e o,λe=>Z9⟩⟩⟩
 exact⟨⟨h.at_,h.lt,f,d,Z9,Z9,⟨Z9,Z9⟩⟩,d⟩
theorem a02{L:List Rec}{x:Rec}(d:xL L):∀(f:Nat) (a:Int),a<=L.length->und (L++[x]) f a=und L f a
 |0,_,_=>rfl
 |f+1,a,ha=>by
  unfold und;by_cases h:a<=0
  ·rw[if_pos h,if_pos h]
  ·have e:Y8 (L++[x]) a=Y8 L a:=by
    unfold Y8;rw[P4,rL Z9,←P4]
   obtain⟨j,l,g,i⟩:=d.prev (show 1<=a by omega) ha
   rw[if_neg h,if_neg h,e,a02 d f _ Z9,a02 d f _ Z9]
theorem sF(e:Eng)(k:Nat)(r:Rec):(F1 e k r).s.L.length=e.s.L.length+1:=by
 show(e.s.L++[_]).length=_;simp
theorem a9P{e:Eng}{k:Nat}{tx a:Int}(h:UE e k tx)(n:1<=a)(i:a<=e.s.L.length)(z:(Y8 e.s.L a).k=2):a3x e k (xB (Y8 e.s.L a))/\mF (F1 e k (xB (Y8 e.s.L a))).s (dU e k (Y8 e.s.L a))/\(Y8 e.s.L a).b.length<=30/\SI (F1 e k (xB (Y8 e.s.L a))).s:=by
 have L:=h.si.logP;obtain⟨r,_⟩:=L.at n i;obtain⟨v,x,t,u⟩:=L.prev n i;obtain⟨_,_,_,_,_,_,_,_,_,_,f,o,j,q,B,_,_⟩:=r;have R:a3x e k (xB (Y8 e.s.L a)):=by
  unfold a3x xB;dsimp only;exact⟨Z9,Z9,Z9,Z9,λh=>absurd rfl h,λ_ h=>absurd rfl h,Z9,Z9,f,o,j,q,K3,B,λ_=>rfl,h.lt⟩
 have d:=(a4i h R).2;have l:SI (F1 e k (xB (Y8 e.s.L a))).s:=a8v h.si d h.rm;exact⟨R,⟨l.iv,f,by show(Y8 e.s.L a).g<8;omega,j,by show(Y8 e.s.L a).s<4;omega⟩,B,l⟩
theorem c5l{e:Eng}{k:Nat}{tx a:Int}(h:UE e k tx)(g:1<=a)(f:a<=e.s.L.length)(i:(Y8 e.s.L a).k=2)(u:(B5 e k (Y8 e.s.L a)).2=false):G4 (B5 e k (Y8 e.s.L a)).1.s.d/\(B5 e k (Y8 e.s.L a)).1.s.d.E.length=69:=
 b7M (a9P h g f i).2.2.2 u
theorem a9g{e:Eng}{k:Nat}{tx a:Int}(h:UI e k tx a)(l:1<=a)(j:(Y8 e.s.L a).k=2)(u:(B5 e k (Y8 e.s.L a)).2=true):UI (B5 e k (Y8 e.s.L a)).1 k tx (Y8 e.s.L a).p:=by
 obtain⟨d,⟨R,A⟩,f,F,Q⟩:=h;have L:=d.si.logP;obtain⟨o,O,C,I⟩:=L.prev l A;obtain⟨U,z,B,v⟩:=a9P d l A j;have M:=d.rm;have N:=sF e k (xB (Y8 e.s.L a));obtain⟨q,r⟩:=b6h v z ⟨by show(0:Int)<=(e.s.L.length:Int)+1;omega,by show(e.s.L.length:Int)+1<=_;omega⟩ B u
 have g:(B5 e k (Y8 e.s.L a)).1.s.L=e.s.L++[dU e k (Y8 e.s.L a)]:=r;have n:(B5 e k (Y8 e.s.L a)).1.s.L.length=e.s.L.length+1:=by rw[g];simp
 have i:(B5 e k (Y8 e.s.L a)).1.s.ep=e.s.ep:=c7s (F1 e k (xB (Y8 e.s.L a))).s (dU e k (Y8 e.s.L a));have x:(B5 e k (Y8 e.s.L a)).1.X=e.X.set k ⟨(e.X.getD k dz).id,(e.s.L.length:Int)+1⟩:=rfl;have J:und e.s.L f a=1+und e.s.L (f-1) (Y8 e.s.L a).p:=by
  rw[iO Z9 F Z9,if_pos j]
 have t:und (e.s.L++[dU e k (Y8 e.s.L a)]) (f-1) (Y8 e.s.L a).p=und e.s.L (f-1) (Y8 e.s.L a).p:=a02 L _ _ Z9
 refine⟨⟨q,by rw[x];exact a0o d.lt d.at_,by rw[x,b9];exact d.lt,by rw[x];exact(b0H d.lt).trans d.id,d.txr,?_,by rw[i];exact d.ep,by rw[x,b9];exact d.t10,d.lk,by rw[n];omega⟩,⟨o,by rw[n];omega⟩,f-1,Z9,by rw[n,g,t];omega⟩
 rw[x,n,P4,j_j d.lt]
 show 1<=(e.s.L.length:Int)+1/\(e.s.L.length:Int)+1<=_;omega
theorem c6A{e:Eng}{k:Nat}{tx a:Int}(h:UI e k tx a)(i:1<=a)(j:(Y8 e.s.L a).k=3):UI e k tx (Y8 e.s.L a).n:=by
 obtain⟨d,⟨r,A⟩,f,F,l⟩:=h;obtain⟨o,u,g,q⟩:=d.si.logP.prev i A;have t:=a2h (L:=e.s.L) Z9 F j
 exact⟨d,⟨g,Z9⟩,f-1,Z9,Z9⟩
theorem c58{e:Eng}{k:Nat}{tx a:Int}(h:UI e k tx a)(i:1<=a)(j:(Y8 e.s.L a).k≠3):UI e k tx (Y8 e.s.L a).p:=by
 obtain⟨d,⟨q,A⟩,f,F,l⟩:=h;obtain⟨g,t,n,o⟩:=d.si.logP.prev i A;have r:=iO (L:=e.s.L) Z9 F j
 exact⟨d,⟨g,Z9⟩,f-1,Z9,Z9⟩
theorem rY{k:Nat}{to a:Int}{f:Nat}{e:Eng}{v:Nat}(h:a<=to):H6 k to f e v a=((e,v),true):=by
 cases f with
 |zero=>rfl
 |succ f=>unfold H6;rw[if_pos h]
theorem a77{k:Nat}{to a:Int}{f:Nat}{e:Eng}{v:Nat}(h:¬a<=to)(F:0<f)(d:(Y8 e.s.L a).k=3):H6 k to f e v a=H6 k to (f-1) e v (Y8 e.s.L a).n:=by
 obtain⟨g,rfl⟩:∃g,f=g+1:=⟨f-1,Z9⟩
 conv=>lhs;unfold H6
 rw[if_neg h,if_pos d];rfl
theorem a7Z{k:Nat}{to a:Int}{f:Nat}{e:Eng}{v:Nat}(h:¬a<=to)(F:0<f)(i:(Y8 e.s.L a).k≠3)(d:(Y8 e.s.L a).k≠2):H6 k to f e v a=H6 k to (f-1) e v (Y8 e.s.L a).p:=by
 obtain⟨g,rfl⟩:∃g,f=g+1:=⟨f-1,Z9⟩
 conv=>lhs;unfold H6
 rw[if_neg h,if_neg i,if_neg d];rfl
theorem a8Q{k:Nat}{to a:Int}{f:Nat}{e:Eng}{v:Nat}(h:¬a<=to)(F:0<f)(d:(Y8 e.s.L a).k=2)(u:(B5 e k (Y8 e.s.L a)).2=true):H6 k to f e v a=H6 k to (f-1) (B5 e k (Y8 e.s.L a)).1 (bV e k (Y8 e.s.L a) v) (Y8 e.s.L a).p:=by
 obtain⟨g,rfl⟩:∃g,f=g+1:=⟨f-1,Z9⟩
 conv=>lhs;unfold H6
 rw[if_neg h,if_neg Z9,if_pos d,if_pos u]
 rfl
theorem a58{k:Nat}{to a:Int}{f:Nat}{e:Eng}{v:Nat}(h:¬a<=to)(F:0<f)(d:(Y8 e.s.L a).k=2)(u:(B5 e k (Y8 e.s.L a)).2=false):H6 k to f e v a=(((B5 e k (Y8 e.s.L a)).1,bV e k (Y8 e.s.L a) v),false):=by
 obtain⟨g,rfl⟩:∃g,f=g+1:=⟨f-1,Z9⟩
 conv=>lhs;unfold H6
 rw[if_neg h,if_neg Z9,if_pos d,if_neg (by rw[u];simp)]
def c0q(u:(Eng×Nat)×Bool)(k:Nat)(tx:Int):Prop:=(u.2=true->UE u.1.1 k tx)/\(u.2=false->G4 u.1.1.s.d/\u.1.1.s.d.E.length=69)
theorem a9y{k:Nat}{tx to:Int}(d:0<=to):∀(f:Nat) (e:Eng) (v:Nat) (a:Int),a.toNat<f->UI e k tx a->c0q (H6 k to f e v a) k tx
 |0,_,_,_,hf,_=>absurd hf (D4 _)
 |f+1,e,v,a,hf,h=>by
  by_cases ht:a<=to
  ·rw[rY ht];exact⟨λ_=>h.u,λe=>by cases e⟩
  ·have h1:1<=a:=by omega
   obtain⟨j,l,g,i⟩:=h.u.si.logP.prev h1 h.ar.2;by_cases h3:(Y8 e.s.L a).k=3
   ·rw[a77 ht Z9 h3]
    exact a9y d f _ _ _ Z9 (c6A h h1 h3)
   ·by_cases h2:(Y8 e.s.L a).k=2
    ·cases hu:(B5 e k (Y8 e.s.L a)).2 with
     |true=>
      rw[a8Q ht Z9 h2 hu]
      exact a9y d f _ _ _ Z9 (a9g h h1 h2 hu)
     |false=>
      rw[a58 ht Z9 h2 hu]
      exact⟨λe=>(by cases e),λ_=>c5l h.u h1 h.ar.2 h2 hu⟩
    ·rw[a7Z ht Z9 h3 h2]
     exact a9y d f _ _ _ Z9 (c58 h h1 h3)
theorem b93{L:List Rec}{T:List Txn}{k:Nat}:∀n,k<n->1+und L 61 (T.getD k dz).Z<=tR L T n
 |0,h=>absurd h (D4 k)
 |n+1,h=>by
  unfold tR;by_cases e:k=n
  ·subst e;omega
  ·have:=b93 (L:=L) (T:=T) (k:=k) n Z9
   omega
theorem c4v{e:Eng}{tx:Int}{k:Nat}(h:R2 e=true)(M:M2 e)(u:e.up=true)(j:T9 e.X tx=k)(f:k<e.X.length)(hi:(e.X.getD k dz).id=tx):UI e k tx (e.X.getD k dz).Z:=by
 obtain⟨i,q,r,A⟩:=xK (u6 h).2.1;have l:=a9n h u f;have n:=c8Q h u f;have o:=c0Y h u;have d:=b93 (L:=e.s.L) (T:=e.X) e.X.length f;have d:1+und e.s.L 61 (e.X.getD k dz).Z<=nM e:=d;have g:=(a2C (u6 h).1).1;exact⟨⟨c4S (u6 h).1 M.1,j,f,hi,Z9,l,c6Z (u6 h).1,i,b6x A,Z9⟩,Z9,61,Z9,Z9⟩
set_option maxRecDepth 100000
def b0R(k:Nat):Option Ob:=some (.arr false 1000000 1 1 λ_=>[.ref k 0 0])
def fJ(b:Bool):Option Ob:=some (.arr true 1000000 1 1 λ_=>[.bool b])
def qE(e:Eng)(k:Nat)(r:Rec)(lsn:Int)(v:Nat):(Eng×Nat)×Bool×Bool:=if r.l<=lsn then((e,v),true,false) else(((B5 e k r).1,bV e k r v),(B5 e k r).2,(B5 e k r).2)
def Eng.ux(e:Eng)(v:Nat)(lsn tx:Int)(b:Bool):X9:=[sL lsn,b0R 2,gS (e.tn 3 4 5 6 7 8 9 10),A4 e.s.d.E,D5 e.s.d.C,A3 e.s.d.keep,k4 e.s.L,xD v e.s.fr e.s.fr.length,sQ e.X,zB e.lk.H,sT e.lk.W,sL tx,fJ b]
def Eng.uy(e:Eng)(v:Nat)(lsn tx:Int)(b:Bool):X9:=[sL lsn,b0R 2,gS (e.tn 13 14 15 16 17 18 19 20),none,none,none,none,none,none,none,none,sL tx,fJ b,A4 e.s.d.E,D5 e.s.d.C,A3 e.s.d.keep,k4 e.s.L,xD v e.s.fr e.s.fr.length,sQ e.X,zB e.lk.H,sT e.lk.W]
def c05:Con:=.reff ⟨Eng×Rec×Int×Int×Nat×Nat,λx=>[.agg x.2.1.ts,.ref 0 0 0,.ref 1 0 0,.ref 11 0 0,.ref 12 0 0],λx=>x.1.ux x.2.2.2.2.2 x.2.2.1 x.2.2.2.1 true,λx=>.bool (qE x.1 x.2.2.2.2.1 x.2.1 x.2.2.1 x.2.2.2.2.2).2.2,λx=>(qE x.1 x.2.2.2.2.1 x.2.1 x.2.2.1 x.2.2.2.2.2).1.1.uy (qE x.1 x.2.2.2.2.1 x.2.1 x.2.2.1 x.2.2.2.2.2).1.2 x.2.2.1 x.2.2.2.1 (qE x.1 x.2.2.2.2.1 x.2.1 x.2.2.1 x.2.2.2.2.2).2.1,
 λx=>x.2.2.1<x.2.1.l->(AddB x.1 x.2.2.2.1 x.2.2.2.2.1 (xB x.2.1)/\mF (F1 x.1 x.2.2.2.2.1 (xB x.2.1)).s (dU x.1 x.2.2.2.2.1 x.2.1))⟩
theorem b5k:GK 346 c05:=gk func346<|by
 rintro⟨e,r,lsn,tx,k,v⟩ h;dsimp only at h;refine C7 (gC a5R (gC a48 gN)) func346 Z3 [[.box 0,.box 1,.box 2,.arr 3,.arr 4,.arr 5,.arr 6,.arr 7,.arr 8,.arr 9,.arr 10,.box 11,.box 12,.cel 2 0,.cel 2 1,.cel 2 3,.cel 2 5,.cel 2 7,.cel 2 10,.cel 2 11,.cel 2 12]] (α:=let pa:=(1=1/\1=1/\tx=tx/\True);let i:=(1=1/\1=1/\lsn=lsn/\True);let f:=(1=1/\1=1/\(0=0/\0=0)/\True);let q:=(qE e k r lsn v);bd (r.l<=lsn) ((false=q.2.2/\True)/\i/\f/\BxG e q.1.1/\True/\True/\True/\True/\True/\True/\True/\True/\pa/\(1=1/\1=1/\true=q.2.1/\True)/\uL (v) (q.1.2) e q.1.1) (∃(x:(Eng×Int×Rec×Nat×Nat)),let c:=x.2.2.2;let m:=x.1.s;let y:=(x.1.X.getD c.1 dz);let u:=(x.1.X.set c.1 (Txn.mk y.id ((m.L.length:Int)+1)));let z:=x.2.2.1;let w:=(m.L++[P9 x.1.s (C1 x.1 c.1 z)]);(((0=0/\0=0)/\tx=x.2.1/\(0=z.e/\0=z.l/\0=z.t/\3=z.k/\0=z.p/\r.p=z.n/\r.g=z.g/\r.s=z.s/\[]=z.b/\r.b=z.a/\True)/\True)/\(iQ (v) (c.2) e x.1)/\AddB x.1 x.2.1 c.1 z)/\∃(X:(Sto×Rec×Nat)),let j:=(U0 X.1 X.2.1);(((0=0/\0=0)/\(m.ep=X.2.1.e/\(m.L.length:Int)+1=X.2.1.l/\y.id=X.2.1.t/\z.k=X.2.1.k/\y.Z=X.2.1.p/\z.n=X.2.1.n/\z.g=X.2.1.g/\z.s=X.2.1.s/\z.b=X.2.1.b/\z.a=X.2.1.a/\True)/\True)/\(nQ {x.1.s with L:=w} X.1/\(Z0 Z5 m.d.E X.1.d.E)/\(Z0 Z1 m.d.C X.1.d.C)/\(Z0 Y9 m.d.keep X.1.d.keep)/\(Z0 Y1 w X.1.L)/\(c.2=X.2.2/\m.fr.length=X.1.fr.length/\V2 m.fr.length (Y5 m.fr) (Y5 X.1.fr))/\True)/\mF X.1 X.2.1)/\(j.2=q.2.2/\True)/\i/\f/\BxG {x.1 with s:=j.1,X:=u} q.1.1/\True/\True/\True/\True/\True/\True/\True/\True/\pa/\(1=1/\1=1/\j.2=q.2.1/\True)/\uL (P8 X.1 X.2.1.g.toNat X.2.2) (q.1.2) {x.1 with s:=j.1,X:=u} q.1.1)) ⟨λhc=>?_,λhc=>?_⟩
 ·have f:qE e k r lsn v=((e,v),true,false):=if_pos (G6 hc);rw[f];exact Z8
 ·have hc:=m9 hc;obtain⟨hA,hP⟩:=h Z9
  have f:qE e k r lsn v=(((B5 e k r).1,bV e k r v),(B5 e k r).2,(B5 e k r).2):=if_neg hc;rw[f];exact⟨(e,tx,xB r,k,v),⟨Z8,Z8,hA⟩,((F1 e k (xB r)).s,dU e k r,v),⟨Z8,Z8,hP⟩,Z8⟩
def Eng.vx(e:Eng)(v:Nat)(lsn tx:Int):X9:=[gS (e.tn 1 2 3 4 5 6 7 8),A4 e.s.d.E,D5 e.s.d.C,A3 e.s.d.keep,k4 e.s.L,xD v e.s.fr e.s.fr.length,sQ e.X,zB e.lk.H,sT e.lk.W,sL lsn,b0R 0,sL tx,fJ true]
def Eng.vy(e:Eng)(v:Nat)(lsn tx:Int)(b:Bool):X9:=[gS (e.tn 13 14 15 16 17 18 19 20),none,none,none,none,none,none,none,none,sL lsn,b0R 0,sL tx,fJ b,A4 e.s.d.E,D5 e.s.d.C,A3 e.s.d.keep,k4 e.s.L,xD v e.s.fr e.s.fr.length,sQ e.X,zB e.lk.H,sT e.lk.W]
def c7h:Con:=.reff ⟨Eng×Int×Int×Int×Nat×Nat,λx=>[.ref 0 0 0,Ji x.2.1,.fn (.func 346) [.ref 9 0 0,.ref 10 0 0,.ref 11 0 0,.ref 12 0 0]],λx=>x.1.vx x.2.2.2.2.2 x.2.2.1 x.2.2.2.1,λ_=>.tup [],λx=>(H6 x.2.2.2.2.1 x.2.2.1 61 x.1 x.2.2.2.2.2 x.2.1).1.1.vy (H6 x.2.2.2.2.1 x.2.2.1 61 x.1 x.2.2.2.2.2 x.2.1).1.2 x.2.2.1 x.2.2.2.1 (H6 x.2.2.2.2.1 x.2.2.1 61 x.1 x.2.2.2.2.2 x.2.1).2,λx=>UI x.1 x.2.2.2.2.1 x.2.2.2.1 x.2.1/\0<=x.2.2.1⟩
structure UdI(u0:(Eng×Nat)×Bool)(k:Nat)(tx to:Int) where
 e:Eng
 v:Nat
 a:Int
 f:Nat
 h:UI e k tx a
 hf:a.toNat<f
 eq:H6 k to f e v a=u0
def c53(e:Eng)(F lsn tx:Int)(k v:Nat):Nat->Ann
 |0=>.one (UdI (H6 k lsn 61 e v F) k tx lsn) (λx=>⟨[(0,.ref 0 0 0),(1,Ji x.a),(2,.fn (.func 346) [.ref 9 0 0,.ref 10 0 0,.ref 11 0 0,.ref 12 0 0])],x.e.vy x.v lsn tx true⟩) (λx=>x.f) a8N a8N (λ_=>Z3)
 |_=>.none
theorem c9u{k:Nat}{to a:Int}{f:Nat}{e:Eng}{v:Nat}(F:0<f)(d:(Y8 e.s.L a).k=3)(N:(Y8 e.s.L a).n<=a):H6 k to (f-1) e v (Y8 e.s.L a).n=H6 k to f e v a:=by
 by_cases h:a<=to
 ·rw[rY h,rY Z9]
 ·rw[a77 h F d]
theorem c9t{k:Nat}{to a:Int}{f:Nat}{e:Eng}{v:Nat}(F:0<f)(g:(Y8 e.s.L a).k≠3)(d:(Y8 e.s.L a).k≠2)(n:(Y8 e.s.L a).p<=a):H6 k to (f-1) e v (Y8 e.s.L a).p=H6 k to f e v a:=by
 by_cases h:a<=to
 ·rw[rY h,rY Z9]
 ·rw[a7Z h F g d]
theorem c3j:GK 268 c7h:=gk func268<|by
 rintro⟨e,F,lsn,tx,k,v⟩ ⟨i,o⟩;dsimp only at i o;have j:=i.u.rm;have r:=i.ar;refine C7 (gC b5k gN) func268 (c53 e F lsn tx k v) [a8N] (α:=let c:=(1=1/\1=1/\true=true/\True);let b:=(1=1/\1=1/\tx=tx/\True);let g:=(1=1/\1=1/\lsn=lsn/\True);let j:=(H6 k lsn 61 e v F);let u:=(0=0/\0=0);let m:=(1=1/\1=1/\u/\True);let w:=(Fn.func 346=Fn.func 346/\u/\u/\u/\u/\True);(∃(x:UdI (H6 k lsn 61 e v F) k tx lsn),(u/\F=x.a/\w/\True)/\BxG e x.e/\True/\True/\True/\True/\True/\True/\True/\True/\g/\m/\b/\c/\uL (v) (x.v) e x.e)/\∀(x:UdI (H6 k lsn 61 e v F) k tx lsn),let pa:=x.e.s;let z:=((True/\True)/\BxG x.e j.1.1/\True/\True/\True/\True/\True/\True/\True/\True/\g/\m/\b/\(1=1/\1=1/\true=j.2/\True)/\uL (x.v) (j.1.2) x.e j.1.1);let r:=(pa.L.getD (0+(x.a-1).toNat) dz);bd (x.a>0) (Ri (x.a-1)/\W9 (x.a-1) pa.L.length/\Lt (0+(x.a-1).toNat) pa.L.length/\br (r.k==3) (∃(y:UdI (H6 k lsn 61 e v F) k tx lsn),((u/\r.n=y.a/\w/\True)/\BxG x.e y.e/\True/\True/\True/\True/\True/\True/\True/\True/\g/\m/\b/\c/\uL (x.v) (y.v) x.e y.e)/\Lt y.f x.f) (∃(X:(Eng×Rec×Int×Int×Nat×Nat)),let t:=(1=1/\1=1/\X.2.2.1=lsn/\True);let i:=(1=1/\1=1/\X.2.2.2.1=tx/\True);let q:=(qE X.1 X.2.2.2.2.1 X.2.1 X.2.2.1 X.2.2.2.2.2);((r.k==2)=true->((EqR r X.2.1)/\u/\u/\u/\u/\True)/\((1=1/\Z7 1 (λ(x:Nat)=>[Ji lsn]) λ(x:Nat)=>[Ji X.2.2.1])/\m/\BxG x.e X.1/\(Z0 Z5 pa.d.E X.1.s.d.E)/\(Z0 Z1 pa.d.C X.1.s.d.C)/\(Z0 Y9 pa.d.keep X.1.s.d.keep)/\(Z0 Y1 pa.L X.1.s.L)/\(x.v=X.2.2.2.2.2/\pa.fr.length=X.1.s.fr.length/\V2 pa.fr.length (Y5 pa.fr) (Y5 X.1.s.fr))/\(Z0 X2 x.e.X X.1.X)/\(Z0 Z2 x.e.lk.H X.1.lk.H)/\(Z0 Y7 x.e.lk.W X.1.lk.W)/\(1=1/\Z7 1 (λ(x:Nat)=>[Ji tx]) λ(x:Nat)=>[Ji X.2.2.2.1])/\(1=1/\Z7 1 (λ(x:Nat)=>[T.bool true]) λ(x:Nat)=>[T.bool true])/\True)/\(X.2.2.1<X.2.1.l->AddB X.1 X.2.2.2.1 X.2.2.2.2.1 (xB X.2.1)/\mF (apx X.1.s (C1 X.1 X.2.2.2.2.1 (xB X.2.1))) (dU X.1 X.2.2.2.2.1 X.2.1)))/\((r.k==2)=true->br (r.k==2&& ! q.2.2) ((True/\True)/\BxG q.1.1 j.1.1/\True/\True/\True/\True/\True/\True/\True/\True/\t/\m/\i/\(1=1/\1=1/\q.2.1=j.2/\True)/\uL (q.1.2) (j.1.2) q.1.1 j.1.1) (∃(y:UdI (H6 k lsn 61 e v F) k tx lsn),((u/\r.p=y.a/\w/\True)/\BxG q.1.1 y.e/\True/\True/\True/\True/\True/\True/\True/\True/\t/\m/\i/\(1=1/\1=1/\q.2.1=true/\True)/\uL (q.1.2) (y.v) q.1.1 y.e)/\Lt y.f x.f))/\(((r.k==2)=true->False)->br (r.k==2&& ! q.2.2) z (∃(y:UdI (H6 k lsn 61 e v F) k tx lsn),((u/\r.p=y.a/\w/\True)/\BxG x.e y.e/\True/\True/\True/\True/\True/\True/\True/\True/\g/\m/\b/\c/\uL (x.v) (y.v) x.e y.e)/\Lt y.f x.f)))) z) ⟨⟨⟨e,v,F,61,i,Z9,rfl⟩,Z8⟩,λx=>?_⟩
 obtain⟨e',v',a,f,h,C,q⟩:=x;dsimp only;have j:=h.u.rm;have r:=h.ar;refine⟨λhc=>?_,λhc=>?_⟩
 ·have h1:1<=a:=by have:=G6 hc;omega
  obtain⟨J,L⟩:=h.u.si.logP.at h1 r.2;obtain⟨I,B,t,z⟩:=h.u.si.logP.prev h1 r.2;rw[D6];refine⟨Z4 Z9,⟨Z9,Z9⟩,Q2,λg=>?_,λg=>?_⟩
  ·have g:(Y8 e'.s.L a).k=3:=beq_iff_eq.1 g;exact⟨⟨e',v',(Y8 e'.s.L a).n,f-1,c6A h h1 g,Z9,(c9u Z9 g Z9).trans q⟩,Z8,K0⟩
  ·have g:(Y8 e'.s.L a).k≠3:=λe=>by
    have g:((Y8 e'.s.L a).k==3)=false:=g;rw[e] at g;cases g
   refine⟨(e',Y8 e'.s.L a,lsn,tx,k,v'),λh2=>⟨Z8,Z8,λ_=>?_⟩,λh2=>⟨λhq=>?_,λhq=>?_⟩,λh2=>⟨λhq=>?_,λhq=>?_⟩⟩
   ·have h2:(Y8 e'.s.L a).k=2:=beq_iff_eq.1 h2;obtain⟨R,A,_⟩:=a9P h.u h1 r.2 h2;exact⟨(a4i h.u R).1,A⟩
   ·have h2:(Y8 e'.s.L a).k=2:=beq_iff_eq.1 h2;by_cases ht:a<=lsn
    ·have e0:qE e' k (Y8 e'.s.L a) lsn v'=((e',v'),true,false):=if_pos Z9
     dsimp only;rw[e0,←q,rY ht];exact Z8
    ·have e0:qE e' k (Y8 e'.s.L a) lsn v'=(((B5 e' k (Y8 e'.s.L a)).1,bV e' k (Y8 e'.s.L a) v'),(B5 e' k (Y8 e'.s.L a)).2,(B5 e' k (Y8 e'.s.L a)).2):=if_neg Z9
     have U:(B5 e' k (Y8 e'.s.L a)).2=false:=by
      have hq:((Y8 e'.s.L a).k==2&& !(qE e' k (Y8 e'.s.L a) lsn v').2.2)=true:=hq;rw[e0,h2] at hq
      simpa using hq
     dsimp only;rw[e0,←q,a58 ht Z9 h2 U]
     exact⟨Z8,Z8,Z6,Z6,Z6,Z6,Z6,Z6,Z6,Z6,Z8,Z8,Z8,⟨rfl,rfl,U,Z6⟩,Z8⟩
   ·have h2:(Y8 e'.s.L a).k=2:=beq_iff_eq.1 h2;have hq:((Y8 e'.s.L a).k==2&& !(qE e' k (Y8 e'.s.L a) lsn v').2.2)=false:=hq;by_cases ht:a<=lsn
    ·have e0:qE e' k (Y8 e'.s.L a) lsn v'=((e',v'),true,false):=if_pos Z9
     rw[e0,h2] at hq;cases hq
    ·have e0:qE e' k (Y8 e'.s.L a) lsn v'=(((B5 e' k (Y8 e'.s.L a)).1,bV e' k (Y8 e'.s.L a) v'),(B5 e' k (Y8 e'.s.L a)).2,(B5 e' k (Y8 e'.s.L a)).2):=if_neg Z9
     have U:(B5 e' k (Y8 e'.s.L a)).2=true:=by
      rw[e0,h2] at hq
      simpa using hq
     dsimp only;rw[e0];exact⟨⟨(B5 e' k (Y8 e'.s.L a)).1,bV e' k (Y8 e'.s.L a) v',(Y8 e'.s.L a).p,f-1,a9g h h1 h2 U,Z9,(a8Q ht Z9 h2 U).symm.trans q⟩,⟨Z8,Z8,Z6,Z6,Z6,Z6,Z6,Z6,Z6,Z6,Z8,Z8,Z8,⟨rfl,rfl,U,Z6⟩,Z8⟩,K0⟩
   ·have h2:((Y8 e'.s.L a).k==2)=true->False:=h2;have hq:((Y8 e'.s.L a).k==2&& !(qE e' k (Y8 e'.s.L a) lsn v').2.2)=true:=hq;simp only[I4] at hq;exact absurd hq.1 h2
   ·have h2:(Y8 e'.s.L a).k≠2:=λe=>h2 (beq_iff_eq.2 e)
    exact⟨⟨e',v',(Y8 e'.s.L a).p,f-1,c58 h h1 g,Z9,(c9t Z9 g h2 Z9).trans q⟩,Z8,K0⟩
 ·have ha:a<=lsn:=by have:=m9 hc;omega
  rw[←q,rY ha];exact Z8
def Q9(e:Eng)(k:Nat)(lsn:Int):(Eng×Nat)×Bool:=H6 k lsn 61 e 0 (e.X.getD k dz).Z
def v4(e:Eng)(k:Nat)(lsn:Int):(Eng×Nat)×Int:=if(Q9 e k lsn).2=true then((Q9 e k lsn).1,0) else((k6 (Q9 e k lsn).1.1,0),15)
theorem b1a{e:Eng}{k:Nat}{tx lsn:Int}(h:UI e k tx (e.X.getD k dz).Z)(d:0<=lsn):c0q (Q9 e k lsn) k tx:=by
 have:=h.ar;have:=h.u.rm;exact a9y d 61 e 0 _ Z9 h
theorem a0J{e:Eng}{k:Nat}{lsn:Int}(h:(Q9 e k lsn).2=true):v4 e k lsn=((Q9 e k lsn).1,0):=if_pos h
theorem a0z{e:Eng}{k:Nat}{lsn:Int}(h:(Q9 e k lsn).2=false):v4 e k lsn=((k6 (Q9 e k lsn).1.1,0),15):=if_neg cW
theorem b7u{e:Eng}{k:Nat}{lsn:Int}(h:(v4 e k lsn).2=0):(Q9 e k lsn).2=true:=by
 cases u:(Q9 e k lsn).2 with
 |true=>rfl
 |false=>rw[a0z u] at h;cases h
def c6s:Con:=.reff ⟨Eng×Int×Int×Nat,λx=>[.ref 0 0 0,Ji x.2.1,Ji x.2.2.1],λx=>x.1.bx 0,λx=>Ji (v4 x.1 x.2.2.2 x.2.2.1).2,λx=>(v4 x.1 x.2.2.2 x.2.2.1).1.1.nx (v4 x.1 x.2.2.2 x.2.2.1).1.2,λx=>UI x.1 x.2.2.2 x.2.1 (x.1.X.getD x.2.2.2 dz).Z/\0<=x.2.2.1⟩
theorem c2C:GK 292 c6s:=gk func292<|by
 rintro⟨e,tx,lsn,k⟩ ⟨h,f⟩;dsimp only at h f;have A:=h.u.at_;have g:=h.u.lt;have t:=h.u.t10;have R:=b1a h f;refine C7 (gC qU (gC c3j (gC a95 gN))) func292 Z3 bC (α:=let r:=(0=0/\0=0);let q:=(v4 e k lsn);∃(x:(Eng×Int)),let z:=(T9 x.1.X x.2);((LeG e)/\((qD e x.1)/\tx=x.2/\True)/\L7 x.1.X.length)/\W9 z e.X.length/\Lt (0+z.toNat) e.X.length/\∃(X:(Eng×Int×Int×Int×Nat×Nat)),let p:=(H6 X.2.2.2.2.1 X.2.2.1 61 X.1 X.2.2.2.2.2 X.2.1);((r/\(e.X.getD (0+z.toNat) dz).Z=X.2.1/\(Fn.func 346=Fn.func 346/\r/\r/\r/\r/\True)/\True)/\(BxG e X.1/\(Z0 Z5 e.s.d.E X.1.s.d.E)/\(Z0 Z1 e.s.d.C X.1.s.d.C)/\(Z0 Y9 e.s.d.keep X.1.s.d.keep)/\(Z0 Y1 e.s.L X.1.s.L)/\(0=X.2.2.2.2.2/\e.s.fr.length=X.1.s.fr.length/\V2 e.s.fr.length (Y5 e.s.fr) (Y5 X.1.s.fr))/\(Z0 X2 e.X X.1.X)/\(Z0 Z2 e.lk.H X.1.lk.H)/\(Z0 Y7 e.lk.W X.1.lk.W)/\(1=1/\Z7 1 (λ(x:Nat)=>[Ji lsn]) λ(x:Nat)=>[Ji X.2.2.1])/\(1=1/\1=1/\r/\True)/\(1=1/\Z7 1 (λ(x:Nat)=>[Ji tx]) λ(x:Nat)=>[Ji X.2.2.2.1])/\(1=1/\Z7 1 (setRow (λ(x:Nat)=>[T.bool false]) 0 0 [T.bool true]) λ(x:Nat)=>[T.bool true])/\True)/\UI X.1 X.2.2.2.2.1 X.2.2.2.1 X.2.1/\0<=X.2.2.1)/\br (! p.2) (∃(x:(Eng×Nat)),((r/\True)/\(iQ (p.1.2) (x.2) p.1.1 x.1)/\G4 x.1.s.d)/\(15=q.2/\True)/\lP (0) (q.1.2) (k6 x.1) q.1.1) ((0=q.2/\True)/\lP (p.1.2) (q.1.2) p.1.1 q.1.1)) ⟨(e,tx),⟨Z8,Z8,rT⟩,?_⟩
 dsimp only;rw[A,E4,D6];refine⟨Y6 g,g,(e,(e.X.getD k dz).Z,lsn,tx,k,0),⟨Z8,⟨Z8,Z8,Z8,Z8,Z8,Z8,Z8,Z8,Z8,Z8,Z8,Z8,⟨rfl,λi hi=>by match i,hi with|0,_=>rfl⟩,Z6⟩,h,f⟩,λhy=>?_,λhy=>?_⟩
 ·have hy:(!(Q9 e k lsn).2)=true:=hy;have hy:(Q9 e k lsn).2=false:=by simpa using hy
  rw[a0z hy];exact⟨((Q9 e k lsn).1.1,(Q9 e k lsn).1.2),⟨Z8,Z8,(R.2 hy).1⟩,Z8⟩
 ·have hy:(!(Q9 e k lsn).2)=false:=hy;have hy:(Q9 e k lsn).2=true:=by simpa using hy
  rw[a0J hy];exact Z8
def pY:Rec:=⟨0,0,0,5,0,0,0,0,[],[]⟩
def J0(e:Eng)(k:Nat):(Eng×Nat)×Int:=if(v4 e k 0).2=0 then((b2f (F1 (v4 e k 0).1.1 k pY) k,(v4 e k 0).1.2),0) else((v4 e k 0).1,(v4 e k 0).2)
theorem c4l{e:Eng}{k:Nat}{tx:Int}(h:UE e k tx):a3x e k pY:=by
 unfold a3x pY;dsimp only;exact⟨Z9,Z9,Z9,Z9,λ_=>rfl,λ_ _=>Z8,Z9,Z9,Z9,Z9,Z9,Z9,K3,K3,λ_=>rfl,h.lt⟩
theorem b6n{e:Eng}{k:Nat}(h:¬ (v4 e k 0).2=0):J0 e k=((v4 e k 0).1,(v4 e k 0).2):=if_neg h
theorem b5x{e:Eng}{k:Nat}(h:(v4 e k 0).2=0):J0 e k=((b2f (F1 (Q9 e k 0).1.1 k pY) k,(Q9 e k 0).1.2),0):=by
 unfold J0;rw[if_pos h,a0J (b7u h)]
def c0r:Con:=.reff ⟨Eng×Int×Nat,λx=>[.ref 0 0 0,Ji x.2.1],λx=>x.1.bx 0,λx=>Ji (J0 x.1 x.2.2).2,λx=>(J0 x.1 x.2.2).1.1.nx (J0 x.1 x.2.2).1.2,λx=>UI x.1 x.2.2 x.2.1 (x.1.X.getD x.2.2 dz).Z⟩
theorem b9v:GK 212 c0r:=gk func212<|by
 rintro⟨e,tx,k⟩ U;dsimp only at U;have R:=b1a U (Int.le_refl 0);refine C7 (gC c2C (gC a5R (gC c2h gN))) func212 Z3 bC (α:=let w:=(0=0/\0=0);∃(x:(Eng×Int×Int×Nat)),let q:=(v4 x.1 x.2.2.2 x.2.2.1);((w/\tx=x.2.1/\0=x.2.2.1/\True)/\(iQ (0) (0) e x.1)/\UI x.1 x.2.2.2 x.2.1 (x.1.X.getD x.2.2.2 dz).Z/\0<=x.2.2.1)/\br (q.2 !=0) ((q.2=(J0 e k).2/\True)/\lP (q.1.2) ((J0 e k).1.2) q.1.1 (J0 e k).1.1) (∃(X:(Eng×Int×Rec×Nat×Nat)),((w/\tx=X.2.1/\(0=X.2.2.1.e/\0=X.2.2.1.l/\0=X.2.2.1.t/\5=X.2.2.1.k/\0=X.2.2.1.p/\0=X.2.2.1.n/\0=X.2.2.1.g/\0=X.2.2.1.s/\[]=X.2.2.1.b/\[]=X.2.2.1.a/\True)/\True)/\(iQ (q.1.2) (X.2.2.2.2) q.1.1 X.1)/\AddB X.1 X.2.1 X.2.2.2.1 X.2.2.1)/\∃(x:(Eng×Int×Nat×Nat)),let y:=x.1.s;let z:=(List.take x.2.2.1 x.1.X++List.drop (x.2.2.1+1) x.1.X);let r:=(x.1.X.getD x.2.2.1 dz).id;let v:=(X8 (wF r) x.1.lk.W x.1.lk.W.length);let u:=(X8 (hF r) x.1.lk.H x.1.lk.H.length);((w/\tx=x.2.1/\True)/\(iQ (X.2.2.2.2) (x.2.2.2) {X.1 with s:={X.1.s with L:=(X.1.s.L++[P9 X.1.s (C1 X.1 X.2.2.2.1 X.2.2.1)])},X:=(X.1.X.set X.2.2.2.1 (Txn.mk (X.1.X.getD X.2.2.2.1 dz).id ((X.1.s.L.length:Int)+1)))} x.1)/\OvB x.1 x.2.1 x.2.2.1)/\(0=(J0 e k).2/\True)/\BxG {x.1 with X:=z,lk:=⟨u,v⟩} (J0 e k).1.1/\True/\True/\True/\True/\True/\True/\True/\True/\(Z0 Z5 y.d.E (J0 e k).1.1.s.d.E)/\(Z0 Z1 y.d.C (J0 e k).1.1.s.d.C)/\(Z0 Y9 y.d.keep (J0 e k).1.1.s.d.keep)/\(Z0 Y1 y.L (J0 e k).1.1.s.L)/\(x.2.2.2=(J0 e k).1.2/\y.fr.length=(J0 e k).1.1.s.fr.length/\V2 y.fr.length (Y5 y.fr) (Y5 (J0 e k).1.1.s.fr))/\(Z0 X2 z (J0 e k).1.1.X)/\(Z0 Z2 u (J0 e k).1.1.lk.H)/\(Z0 Y7 v (J0 e k).1.1.lk.W)/\True)) ⟨(e,tx,0,k),⟨Z8,Z8,U,Int.le_refl _⟩,λhq=>?_,λhq=>?_⟩
 ·have h0:¬ (v4 e k 0).2=0:=by simpa using hq
  rw[b6n h0];exact Z8
 ·have h0:(v4 e k 0).2=0:=by simpa using hq
  have u:=b7u h0;have h:=R.1 u;have A:=(a4i h (c4l h)).1;have f:=h.lk;have i:=h.t10;rw[b5x h0];dsimp only;rw[a0J u];have N:(F1 (Q9 e k 0).1.1 k pY).X.length=(Q9 e k 0).1.1.X.length:=b9;exact⟨((Q9 e k 0).1.1,tx,pY,k,(Q9 e k 0).1.2),⟨Z8,Z8,A⟩,(F1 (Q9 e k 0).1.1 k pY,tx,k,(Q9 e k 0).1.2),⟨Z8,Z8,a0o h.lt h.at_,by dsimp only;rw[N];exact h.lt,(b0H h.lt).trans h.id,X5,by show(Q9 e k 0).1.1.lk.H.length<=_;omega,by show(Q9 e k 0).1.1.lk.W.length<=_;omega⟩,⟨rfl,Z6⟩,⟨rfl,rfl,⟨rfl,rfl⟩,⟨rfl,rfl⟩,rfl,⟨rfl,rfl⟩,rfl,⟨rfl,rfl⟩,rfl,⟨rfl,rfl⟩,rfl,rfl,⟨rfl,rfl⟩,⟨rfl,rfl⟩,⟨rfl,rfl⟩,rfl,Z6⟩,Z6,Z6,Z6,Z6,Z6,Z6,Z6,Z6,⟨rfl,X6 _ _⟩,⟨rfl,X6 _ _⟩,⟨rfl,X6 _ _⟩,⟨rfl,X6 _ _⟩,⟨rfl,rfl,mW _⟩,⟨rfl,X6 _ _⟩,⟨rfl,X6 _ _⟩,⟨rfl,X6 _ _⟩,Z6⟩
theorem uT{a:Bool}(h:(!a)=true):a=false:=by cases a with|true=>cases h|false=>rfl
theorem c4O{e:Eng}{k:Nat}{tx:Int}(h:UE e k tx):M2 e:=by
 have d:=h.t10;have f:=h.lk;exact⟨h.si.iv.sm,Z9,Z9,Z9⟩
theorem c6i{e:Eng}{k:Nat}{tx lsn:Int}(R:c0q (Q9 e k lsn) k tx):M2 (v4 e k lsn).1.1:=by
 cases h:(Q9 e k lsn).2 with
 |true=>rw[a0J h];exact c4O (R.1 h)
 |false=>rw[a0z h];exact a09 (R.2 h).1
theorem c66{e:Eng}{k:Nat}{tx:Int}(hR:c0q (Q9 e k 0) k tx):M2 (J0 e k).1.1:=by
 by_cases h0:(v4 e k 0).2=0
 ·have hE:=hR.1 (b7u h0);have hA:=a4i hE (c4l hE);have hS:=a8v hE.si hA.2 hE.rm;have h10:=hE.t10;have hlk:=hE.lk;rw[b5x h0];have b1:=r5 (hF ((F1 (Q9 e k 0).1.1 k pY).X.getD k dz).id) (Q9 e k 0).1.1.lk.H (Q9 e k 0).1.1.lk.H.length;have b2:=r5 (wF ((F1 (Q9 e k 0).1.1 k pY).X.getD k dz).id) (Q9 e k 0).1.1.lk.W (Q9 e k 0).1.1.lk.W.length;have hlen:(F1 (Q9 e k 0).1.1 k pY).X.length=(Q9 e k 0).1.1.X.length:=b9;refine⟨hS.iv.sm,?_,?_,?_⟩
  ·show(List.take k (F1 (Q9 e k 0).1.1 k pY).X++List.drop (k+1) (F1 (Q9 e k 0).1.1 k pY).X).length<=_;rw[F6,List.length_take,List.length_drop,hlen];omega
  ·show(X8 _ (Q9 e k 0).1.1.lk.H (Q9 e k 0).1.1.lk.H.length).length<=_;omega
  ·show(X8 _ (Q9 e k 0).1.1.lk.W (Q9 e k 0).1.1.lk.W.length).length<=_;omega
 ·rw[b6n h0];exact c6i hR
theorem b8V:M2 uW:=⟨⟨Z8,N5 _,N5 _,λi hi=>absurd hi (D4 _)⟩,Z8⟩
def c52:Con:=.rel ⟨Eng×Nat×Int×Int,λx=>[.agg x.1.ts,Ji x.2.1,Ji x.2.2.1],λx=>.tup [.agg (Q9 x.1 x.2.1 x.2.2.1).1.1.ts,.bool (Q9 x.1 x.2.1 x.2.2.1).2],λx=>UI x.1 x.2.1 x.2.2.2 (x.1.X.getD x.2.1 dz).Z/\0<=x.2.2.1⟩
def c5h(e:Eng)(k:Nat)(to tx:Int):Nat->Ann
 |0=>.one (UdI (Q9 e k to) k tx to) (λx=>⟨[(1,Ji k),(2,Ji to),(3,.ref 0 0 0),(6,.ref 1 0 0),(7,.bool false),(8,Ji x.a)],[m0 x.e,m0 uW]⟩) (λx=>x.f) iV iV (λ_=>Z3)
 |_=>.none
theorem c25(e:Eng)(k:Nat)(r:Rec):(F1 e k (xB r)).s.L.getD (((e.s.L.length+1:Nat):Int)-1).toNat dz=dU e k r:=by
 have d:(((e.s.L.length+1:Nat):Int)-1).toNat=e.s.L.length:=Z9
 rw[d,P4]
 show((e.s.L++[dU e k r])[e.s.L.length]?).getD dz=_;rw[List.getElem?_concat_length]
 rfl
theorem c3z:GK 263 c52:=gk func263<|by
 rintro⟨e,k,to,tx⟩ ⟨U,r⟩;dsimp only at U r;have har:=U.ar;have M:=U.u.rm;refine U6 (gC a1C (gC jP (gC P6 gN))) func263 (c5h e k to tx) (α:=let w:=(Q9 e k to);let v:=(0=0/\0=0);let q:=(1=1/\1=1/\(0=0/\Z7 0 (Z5 []) (Z5 []))/\(0=0/\Z7 0 (Z1 []) (Z1 []))/\false=false/\(0=0/\Z7 0 (Y9 []) (Y9 []))/\(0:Int)=0/\(0=0/\Z7 0 (Y1 []) (Y1 []))/\(0:Int)=0/\(0=0/\Z7 0 (W2 []) (W2 []))/\(0:Int)=0/\false=false/\(0=0/\Z7 0 (X2 []) (X2 []))/\(0=0/\Z7 0 (Z2 []) (Z2 []))/\(0=0/\Z7 0 (Y7 []) (Y7 []))/\(0:Int)=0/\True);W9 (k:Int) e.X.length/\(∃(x:UdI (Q9 e k to) k tx to),((k:Int)=(k:Int)/\to=to/\v/\v/\false=false/\(e.X.getD (k:Int).toNat dz).Z=x.a/\True)/\(1=1/\1=1/\L4 e x.e)/\(1=1/\1=1/\0=0/\0=0/\false=false/\0=0/\(0:Int)=0/\0=0/\(0:Int)=0/\0=0/\(0:Int)=0/\false=false/\0=0/\0=0/\0=0/\(0:Int)=0/\True)/\True)/\∀(x:UdI (Q9 e k to) k tx to),let r:=(x.e.s.L.getD (x.a-1).toNat dz);bd (x.a>to) (Ri (x.a-1)/\W9 (x.a-1) x.e.s.L.length/\br (r.k==3) (∃(y:UdI (Q9 e k to) k tx to),(((k:Int)=(k:Int)/\to=to/\v/\v/\false=false/\r.n=y.a/\True)/\(1=1/\1=1/\L4 x.e y.e)/\q/\True)/\Lt y.f x.f) (br (r.k==2) (∃(X:(Eng×Nat×Rec)),let z:=(X.1.X.set X.2.1 (Txn.mk (X.1.X.getD X.2.1 dz).id ((X.1.s.L.length:Int)+1)));(((L4 x.e X.1)/\(k:Int)=(X.2.1:Int)/\(0=X.2.2.e/\0=X.2.2.l/\0=X.2.2.t/\3=X.2.2.k/\0=X.2.2.p/\r.p=X.2.2.n/\r.g=X.2.2.g/\r.s=X.2.2.s/\[]=X.2.2.b/\r.b=X.2.2.a/\True)/\True)/\X.2.1<X.1.X.length/\X.1.X.length<=1000/\X.1.s.L.length<=1000)/\∃(d:(Sto×Int)),let u:=(U0 d.1 (d.1.L.getD (d.2-1).toNat dz));(((yU {X.1.s with L:=(X.1.s.L++[P9 X.1.s (C1 X.1 X.2.1 X.2.2)])} d.1)/\(↑(X.1.s.L.length+1):Int)=d.2/\True)/\SInv d.1/\1<=d.2/\d.2<=(d.1.L.length:Int))/\br (! u.2) ((L4 {X.1 with s:=u.1,X:=z} w.1.1)/\false=w.2/\True) (∃(y:UdI (Q9 e k to) k tx to),(((k:Int)=(k:Int)/\to=to/\v/\v/\false=false/\r.p=y.a/\True)/\(1=1/\1=1/\L4 {X.1 with s:=u.1,X:=z} y.e)/\q/\True)/\Lt y.f x.f)) (∃(y:UdI (Q9 e k to) k tx to),(((k:Int)=(k:Int)/\to=to/\v/\v/\false=false/\r.p=y.a/\True)/\(1=1/\1=1/\L4 x.e y.e)/\q/\True)/\Lt y.f x.f))) ((L4 x.e w.1.1)/\true=w.2/\True)) ⟨Y6 U.u.lt,⟨⟨e,0,(e.X.getD k dz).Z,61,U,Z9,rfl⟩,Z8⟩,λx=>?_⟩
 obtain⟨e',V,a,f,h,F,q⟩:=x;dsimp only;have o:=h.u.rm;have har:=h.ar;refine⟨λhc=>?_,λhc=>?_⟩
 ·have h1:1<=a:=by have:=G6 hc;omega
  have j:¬a<=to:=by have:=G6 hc;omega
  obtain⟨I,C,A,B⟩:=h.u.si.logP.prev h1 har.2;refine⟨Z4 Z9,⟨Z9,Z9⟩,λi=>?_,λi=>⟨λh2=>?_,λh2=>?_⟩⟩
  ·have i:(Y8 e'.s.L a).k=3:=beq_iff_eq.1 i;exact⟨⟨e',V,(Y8 e'.s.L a).n,f-1,c6A h h1 i,Z9,(a77 j Z9 i).symm.trans q⟩,Z8,K0⟩
  ·have h2:(Y8 e'.s.L a).k=2:=beq_iff_eq.1 h2;obtain⟨hR,hA,hb,hS⟩:=a9P h.u h1 har.2 h2;have e1:=c25 e' k (Y8 e'.s.L a);refine⟨(e',k,xB (Y8 e'.s.L a)),⟨Z8,h.u.lt,by have:=h.u.t10;dsimp only;omega,X5⟩,((F1 e' k (xB (Y8 e'.s.L a))).s,((e'.s.L.length+1:Nat):Int)),⟨⟨jV (F1 e' k (xB (Y8 e'.s.L a))).s,rfl,Z6⟩,hS.iv,X5,by rw[sF];exact Int.le_refl _⟩,λhu=>?_,λhu=>?_⟩
   ·dsimp only at hu ⊢;rw[e1] at hu ⊢;have hu:(B5 e' k (Y8 e'.s.L a)).2=false:=by
     have hu:(!(B5 e' k (Y8 e'.s.L a)).2)=true:=hu
     simpa using hu
    have z:=(a58 (v:=V) j Z9 h2 hu).symm.trans q
    rw[←z];exact⟨vS (B5 e' k (Y8 e'.s.L a)).1,Z8⟩
   ·dsimp only at hu ⊢;rw[e1] at hu ⊢;have hu:(B5 e' k (Y8 e'.s.L a)).2=true:=by
     have hu:(!(B5 e' k (Y8 e'.s.L a)).2)=false:=hu
     simpa using hu
    exact⟨⟨(B5 e' k (Y8 e'.s.L a)).1,bV e' k (Y8 e'.s.L a) V,(Y8 e'.s.L a).p,f-1,a9g h h1 h2 hu,Z9,(a8Q j Z9 h2 hu).symm.trans q⟩,⟨Z8,⟨rfl,rfl,vS (B5 e' k (Y8 e'.s.L a)).1⟩,Z8⟩,K0⟩
  ·have i:(Y8 e'.s.L a).k≠3:=λe=>by
    have i:((Y8 e'.s.L a).k==3)=false:=i;rw[e] at i;cases i
   have h2:(Y8 e'.s.L a).k≠2:=λe=>by
    have h2:((Y8 e'.s.L a).k==2)=false:=h2;rw[e] at h2;cases h2
   exact⟨⟨e',V,(Y8 e'.s.L a).p,f-1,c58 h h1 i,Z9,(a7Z j Z9 i h2).symm.trans q⟩,Z8,K0⟩
 ·have ha:a<=to:=by have:=m9 hc;omega
  rw[←q,rY ha];exact Z8
def c5k:Con:=.rel ⟨Eng×Nat×Int,λx=>[.agg x.1.ts,Ji x.2.1],λx=>.tup [.agg (J0 x.1 x.2.1).1.1.ts,.bool ((J0 x.1 x.2.1).2==0)],λx=>UI x.1 x.2.1 x.2.2 (x.1.X.getD x.2.1 dz).Z⟩
theorem c3X:GK 166 c5k:=gk func166<|by
 rintro⟨e,k,tx⟩ U;dsimp only at U;have R:=b1a U (Int.le_refl 0);refine U6 (gC c3z (gC a1C (gC oI (gC a8B gN)))) func166 Z3 (α:=∃(x:(Eng×Nat×Int×Int)),let q:=(Q9 x.1 x.2.1 x.2.2.1);(((L4 e x.1)/\(k:Int)=(x.2.1:Int)/\0=x.2.2.1/\True)/\UI x.1 x.2.1 x.2.2.2 (x.1.X.getD x.2.1 dz).Z/\0<=x.2.2.1)/\br (! q.2) (∃(X:(Eng×Dsk)),(((L4 q.1.1 X.1)/\(zN q.1.1.s.d X.2)/\True)/\G4 X.2/\X.2.E.length=69)/\(L4 (k6 (sdE X.1 X.2)) (J0 e k).1.1)/\false=((J0 e k).2==0)/\True) (∃(X:(Eng×Nat×Rec)),(((L4 q.1.1 X.1)/\(k:Int)=(X.2.1:Int)/\(0=X.2.2.e/\0=X.2.2.l/\0=X.2.2.t/\5=X.2.2.k/\0=X.2.2.p/\0=X.2.2.n/\0=X.2.2.g/\0=X.2.2.s/\[]=X.2.2.b/\[]=X.2.2.a/\True)/\True)/\X.2.1<X.1.X.length/\X.1.X.length<=1000/\X.1.s.L.length<=1000)/\∃(x:(Eng×Nat)),let z:=x.1.lk;let r:=(x.1.X.getD x.2 dz).id;(((L4 {X.1 with s:={X.1.s with L:=(X.1.s.L++[P9 X.1.s (C1 X.1 X.2.1 X.2.2)])},X:=(X.1.X.set X.2.1 (Txn.mk (X.1.X.getD X.2.1 dz).id ((X.1.s.L.length:Int)+1)))} x.1)/\(k:Int)=(x.2:Int)/\True)/\x.2<x.1.X.length/\x.1.X.length<=1000/\z.H.length<=1000000/\z.W.length<=1000000)/\(L4 {x.1 with X:=(List.take x.2 x.1.X++List.drop (x.2+1) x.1.X),lk:=⟨(X8 (hF r) z.H z.H.length),(X8 (wF r) z.W z.W.length)⟩} (J0 e k).1.1)/\true=((J0 e k).2==0)/\True)) ⟨(e,k,0,tx),⟨Z8,U,Int.le_refl _⟩,λhq=>?_,λhq=>?_⟩
 ·have hu:(Q9 e k 0).2=false:=by simpa using hq
  have f:J0 e k=((k6 (Q9 e k 0).1.1,0),15):=by rw[b6n (by rw[a0z hu];simp),a0z hu]
  rw[f];exact⟨((Q9 e k 0).1.1,(Q9 e k 0).1.1.s.d),⟨⟨vS (Q9 e k 0).1.1,Z8⟩,(R.2 hu).1,(R.2 hu).2⟩,Z8⟩
 ·have hu:(Q9 e k 0).2=true:=by simpa using hq
  have h:=R.1 hu;have i:=h.lt;have j:=h.t10;have o:=h.rm;have q:=h.lk;have r:=sF (Q9 e k 0).1.1 k pY;have L:((Q9 e k 0).1.1.X.set k ⟨((Q9 e k 0).1.1.X.getD k dz).id,((Q9 e k 0).1.1.s.L.length:Int)+1⟩).length=(Q9 e k 0).1.1.X.length:=b9;rw[b5x (by rw[a0J hu])]
  exact⟨((Q9 e k 0).1.1,k,pY),⟨⟨vS (Q9 e k 0).1.1,Z8⟩,i,X5,X5⟩,(F1 (Q9 e k 0).1.1 k pY,k),⟨Z8,by show k<List.length (List.set _ _ _);omega,by show List.length (List.set _ _ _)<=_;omega,by show(Q9 e k 0).1.1.lk.H.length<=_;omega,by show(Q9 e k 0).1.1.lk.W.length<=_;omega⟩,vS (b2f (F1 (Q9 e k 0).1.1 k pY) k),rfl,Z6⟩
theorem c7W(e:Eng)(k:Nat)(lsn:Int):(v4 e k lsn).2=0∨(v4 e k lsn).2=15:=by
 cases h:(Q9 e k lsn).2 with
 |true=>rw[a0J h];exact .inl rfl
 |false=>rw[a0z h];exact .inr rfl
theorem c8K(e:Eng)(k:Nat):(J0 e k).2=0∨(J0 e k).2=15:=by
 unfold J0;split
 ·exact .inl rfl
 ·exact c7W e k 0
end
end Go.Proofs.YtpdnnhnfongoeaaGreat
