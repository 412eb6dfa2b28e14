/- A part of the proof. -/
import Derived.Test.YtpdnnhnfongoeaaGreatY1
import Derived.Test.YtpdnnhnfongoeaaGreatU1
namespace Go.Proofs.YtpdnnhnfongoeaaGreat
open Go.SS Go.Proofs.Tryz
noncomputable section
def tD(n:Int):((yJ n).toNat:Int)=n % 256:=by
 unfold yJ;rw[a2t (O7 _),IntKind.wrap_u8]
def a75{n:Int}(h:0<=n)(d:n<=255):((yJ n).toNat:Int)=n:=by
 rw[tD];omega
def c7y{n:Nat}(h:n<65536):be (yX n)=n:=by
 have d:=tD ((n:Int).fdiv 256);have e:=tD ((n:Int).fdiv 1);rw[Int.fdiv_eq_ediv_of_nonneg _ M4] at d e
 show(0*256+(yJ ((n:Int).fdiv 256)).toNat)*256+(yJ ((n:Int).fdiv 1)).toNat=n;rw[Int.fdiv_eq_ediv_of_nonneg _ M4,Int.fdiv_eq_ediv_of_nonneg _ M4]
 omega
def c79{n:Nat}(h:n<4294967296):be (z8 n)=n:=by
 have e:=tD ((n:Int).fdiv 16777216);have f:=tD ((n:Int).fdiv 65536);have d:=tD ((n:Int).fdiv 256);have g:=tD ((n:Int).fdiv 1);rw[Int.fdiv_eq_ediv_of_nonneg _ M4] at e f d g
 show(((0*256+(yJ ((n:Int).fdiv 16777216)).toNat)*256+(yJ ((n:Int).fdiv 65536)).toNat)*256+(yJ ((n:Int).fdiv 256)).toNat)*256+(yJ ((n:Int).fdiv 1)).toNat=n;rw[Int.fdiv_eq_ediv_of_nonneg _ M4,Int.fdiv_eq_ediv_of_nonneg _ M4,Int.fdiv_eq_ediv_of_nonneg _ M4,Int.fdiv_eq_ediv_of_nonneg _ M4]
 omega
def b8D(l:Bz):S0 (l++z8 (zO l))=true/\X1 (l++z8 (zO l))=l:=by
 have d:(z8 (zO l)).length=4:=rfl;have L:(l++z8 (zO l)).length-4=l.length:=by rw[F9,d];omega
 have h:(l++z8 (zO l)).take l.length=l:=List.take_left;have hd:(l++z8 (zO l)).drop l.length=z8 (zO l):=List.drop_left;have ok:S0 (l++z8 (zO l))=true:=by
  unfold S0;rw[L,h,hd,c79 (a1W l),F9,d];simp
 refine⟨ok,?_⟩
 unfold X1;rw[if_pos ok,L,h]
def b7G(L:List (Bz)):Prop:=L.length<=100/\∀i,i<L.length->(L.getD i []).length<=255
def iO(L:List (Bz))(i:Nat):∀k,∃r,V7 L (i+k)=V7 L i++r
 |0=>⟨[],W7⟩
 |k+1=>by
  obtain⟨r,h⟩:=iO L i k;refine⟨r++[yJ (L.getD (i+k) []).length]++L.getD (i+k) [],?_⟩
  show V7 L (i+k)++[yJ (L.getD (i+k) []).length]++L.getD (i+k) []=_;rw[h];simp only[List.append_assoc]
def a87{α:Type}(d:α)(L:List α){i:Nat}(h:i<L.length):L.take (i+1)=L.take i++[L.getD i d]:=by
 rw[List.take_add_one,P4,I1 h]
 rfl
def b43{L:List (Bz)}(h:b7G L):∀i,i<=L.length->xK (S5 L) i=some ((V7 L i).length,L.take i)
 |0,_=>rfl
 |i+1,hi=>by
  obtain⟨r,R⟩:=iO L (i+1) (L.length- (i+1));rw[show i+1+(L.length- (i+1))=L.length by omega] at R
  have C:((yJ (L.getD i []).length).toNat:Int)=(L.getD i []).length:=a75 Z9 (by have:=h.2 i Z9;omega)
  have B:S5 L=V7 L i++([yJ (L.getD i []).length]++(L.getD i []++r)):=by
   unfold S5;rw[R];show V7 L i++[yJ (L.getD i []).length]++L.getD i []++r=_;simp only[List.append_assoc]
  have g:(S5 L).getD (V7 L i).length 0=yJ (L.getD i []).length:=by
   rw[B,P4,qA (U9 _)]
   simp
  have l:(S5 L).length=(V7 L i).length+(1+((L.getD i []).length+r.length)):=by rw[B];simp only[F9,List.length_cons,List.length_nil]
  have n:(yJ (L.getD i []).length).toNat=(L.getD i []).length:=Z9
  have e:List.drop ((V7 L i).length+1) (List.take ((V7 L i).length+1+(L.getD i []).length) (S5 L))=L.getD i []:=by
   rw[B,←List.append_assoc,←List.append_assoc];rw[List.take_left' (by simp only[F9,List.length_cons,List.length_nil]),List.drop_left' (by simp only[F9,List.length_cons,List.length_nil])]
  conv=>lhs;unfold xK
  rw[b43 h i Z9]
  dsimp only;rw[g,n,if_pos ⟨Z9,Z9⟩,e,a87 [] L Z9]
  congr 2
  simp only[V7,F9,List.length_cons,List.length_nil]
def a00{L:List (Bz)}(h:b7G L):Q3 (S5 L)=some L:=by
 obtain⟨r,R⟩:=iO L 0 L.length;rw[D4] at R;have C:((yJ L.length).toNat:Int)=L.length:=a75 Z9 (by have:=h.1;omega)
 have f:C2 (S5 L)=L.length:=by
  unfold C2 S5;rw[R];show(yJ L.length).toNat=_;omega
 have l:(S5 L).length≠0:=by
  unfold S5;rw[R];simp[V7]
 unfold Q3;rw[f,if_neg (by have:=h.1;omega),b43 h _ (U9 _)]
 dsimp only;rw[show(V7 L L.length).length=(S5 L).length from rfl,if_pos rfl,j_l]
def c9f{no:Int}{p:Pg}(h:PgP p)(t:0<=no)(v:no<=255):E5 no (S4 no p)=(p,true):=by
 obtain⟨l,q,j,d⟩:=h;obtain⟨U,u⟩:=b8D (sD no p);have hF:b7G p.sl:=⟨Z9,λi hi=>Nat.le_trans (d i hi) M4⟩
 obtain⟨r,R⟩:=iO p.sl 0 p.sl.length;have n:1<=(S5 p.sl).length:=by
  unfold S5;rw[←D4 p.sl.length,R];simp[V7]
 have f:sD no p=R1 112::yJ no::(yX p.Q.toNat++S5 p.sl):=by unfold sD;simp
 have e:(yX p.Q.toNat).length=2:=rfl;have o:uS no (sD no p)=true:=by
  unfold uS;rw[f];simp only[List.length_cons,F9,e,J5,o8];exact⟨Z9,rfl,a75 t v⟩
 have g:(sD no p).drop 4=S5 p.sl:=by
  unfold sD;exact List.drop_left' (by simp[e])
 have d2:((sD no p).drop 2).take 2=yX p.Q.toNat:=by
  rw[f];exact List.take_left' e
 have x:pgX (sD no p)=p:=by
  unfold pgX;rw[g,d2,a00 hF,c7y Z9,Option.getD_some,show((p.Q.toNat:Nat):Int)=p.Q by omega]
 have ok:k4 p=true:=mO ⟨l,q,j,d⟩;unfold E5 S4;rw[U,u,o,x,g,a00 hF,ok];rfl
def b9u(L:List (Bz))(h:∀i,i<L.length->(L.getD i []).length<=30):∀i,i<=L.length->(V7 L i).length<=1+31*i
 |0,_=>by simp[V7]
 |i+1,hi=>by
  have d:=b9u L h i Z9
  have e:=h i Z9
  simp only[V7,F9,List.length_cons,List.length_nil];omega
def c8A{no:Int}{p:Pg}(h:PgP p):(S4 no p).length<=160/\S4 no p≠[]:=by
 obtain⟨j,n,i,d⟩:=h;have:=b9u p.sl d p.sl.length (U9 _);have f:(z8 (zO (sD no p))).length=4:=rfl;have g:(yX p.Q.toNat).length=2:=rfl;have l:(S4 no p).length=8+(S5 p.sl).length:=by
  unfold S4;rw[F9,f];unfold sD;simp only[F9,List.length_cons,List.length_nil,g];omega
 refine⟨by rw[l];unfold S5;omega,λe=>?_⟩
 rw[e] at l;simp at l;omega
structure SI(s:Sto):Prop where
 iv:SInv s
 dw:b9Q s.d
 pl:∀no,no<8->(P7 s.d no).1.Q<=s.L.length
def c0T{s:Sto}(h:SInv s)(W:b9Q s.d):G0 s.d:=by
 obtain⟨l,g,f,e,j⟩:=W;refine⟨Z9,Z9,h.c,g,f,e,λi hi=>?_⟩
 have:=h.pd i hi;have:=j i hi;unfold P3;rw[K5.2 Z9,tQ Z9]
 rfl
def SI.dk{s:Sto}(h:SI s):G0 s.d:=c0T h.iv h.dw
def dW{d:Dsk}(h:G0 d)(e:d.E.length=69):b9Q d:=by
 obtain⟨o,n,q,g,l,f,j⟩:=h;exact⟨e,g,l,f,λi hi=>(a4q (j i hi)).2.2⟩
def SI.logP{s:Sto}(h:SI s):xH s.L:=⟨h.iv.l60,λi hi=>by
 obtain⟨a,b⟩:=C4.1 h.iv.rc i hi;exact⟨(Q4 _).1 a,b⟩⟩
def c48{s:Sto}(h:F7 s=true)(M:iC s):SI s:=by
 have hd:=((o5 s).1 ((G4 s).1 h).1.1);refine⟨a9s h M,dW hd.1 hd.2.1,λno n=>?_⟩
 have B:=((G4 s).1 h).2.2.1 no n;have d:=pQ ((G4 s).1 h).1.2.2;unfold zX at B;simp only[wS,uH] at B;omega
def a8z{s:Sto}{r:Rec}(h:SI s)(R:O9 (P9 s r)=true)(l:s.L.length+1<=60):SI (apx s r):=by
 have e:(apx s r).L.length=s.L.length+1:=by show(s.L++[_]).length=_;simp
 have L:=b75 h.logP R l;have hi:=h.iv;have u:=hi.su;refine⟨⟨⟨hi.sm.1,Z9,hi.sm.2.2⟩,hi.c,hi.pd,hi.n69,⟨u.1,by have:(apx s r).S=s.S:=rfl;omega⟩,Z9,C4.2 λi hi=>⟨(Q4 _).2 (L.2 i hi).1,(L.2 i hi).2⟩,hi.fr3,λi f=>?_,hi.hd,hi.pg⟩,h.dw,λno n=>?_⟩
 ·obtain⟨a,b,c,d⟩:=hi.frp i f;exact⟨a,b,c,by have:((apx s r).fr.getD i dz).pg.Q<=s.L.length:=d;omega⟩
 ·have:(P7 (apx s r).d no).1.Q<=s.L.length:=h.pl no n;omega
def a2F{L:List Frm}{k:Nat}(f:Frm)(i:Nat)(hk:k<L.length):(L.set k f).getD i dz=if i=k then f else L.getD i dz:=by
 by_cases h:i=k
 ·subst h;rw[if_pos rfl,P4,j_j hk]
  rfl
 ·rw[if_neg h,P4,j_k (Ne.symm h),←P4]
def b4Z{d:Dsk}(h:G0 d)(e:d.E.length=69):G0 (y9 d).1/\(y9 d).1.E.length=69:=by
 unfold y9;split
 ·exact b00 (dW h e)
 ·exact⟨h,e⟩
def c0J{s:Sto}{l:Int}(h:mD s l)(e:0<=l):0<=(V8 s l).1.S/\(V8 s l).1.S<=s.L.length:=by
 obtain⟨_,_,_,_,B,d,_,f,_⟩:=h;by_cases hl:l<=s.S
 ·rw[xE hl];exact⟨B,d⟩
 ·rw[xR hl];dsimp only;split
  ·exact⟨e,f⟩
  ·exact⟨B,d⟩
def c7J{s:Sto}{k:Nat}(h:SI s)(g:k<s.fr.length)(u:(X3 s k).2=false):G0 (X3 s k).1.d/\(X3 s k).1.d.E.length=69:=by
 obtain⟨j,i,l,F⟩:=h.iv.frp k g;have f:=h.iv.flu F;have e:=b0O h.dk f h.logP;cases hd:(s.fr.getD k dz).D with
 |false=>rw[uI hd] at u;cases u
 |true=>
  cases hF:(V8 s (s.fr.getD k dz).pg.Q).2 with
  |false=>rw[rO hd hF];exact e
  |true=>
   cases B:(y9 (V8 s (s.fr.getD k dz).pg.Q).1.d).2 with
   |false=>rw[mS hd hF B];exact b4Z e.1 e.2
   |true=>rw[eT hd hF B] at u;cases u
def c5y{s:Sto}{k:Nat}(h:SI s)(hk:k<s.fr.length)(u:(X3 s k).2=true):SI (X3 s k).1/\(X3 s k).1.L=s.L/\(X3 s k).1.fr.length=s.fr.length/\(X3 s k).1.J=s.J:=by
 obtain⟨r1,A,r3,V,I⟩:=s7 s k;refine⟨?_,r3,r1,A⟩
 cases hd:(s.fr.getD k dz).D with
 |false=>rw[uI hd];exact h
 |true=>
  have hi:=h.iv;obtain⟨x,J,F,v⟩:=hi.frp k hk;have z:=hi.flu v;have j:=b0O h.dk z h.logP;have r:=a4O s (s.fr.getD k dz).pg.Q;have f:=c0J z F.1;have M:=a9W hi hk;have e:=λno o q=>a5b (no:=no) hi hk o q u
  have t:=a16 (l:=(s.fr.getD k dz).pg.Q) hi.pd;cases hF:(V8 s (s.fr.getD k dz).pg.Q).2 with
  |false=>rw[rO hd hF] at u;cases u
  |true=>
   cases B:(y9 (V8 s (s.fr.getD k dz).pg.Q).1.d).2 with
   |false=>rw[mS hd hF B] at u;cases u
   |true=>
    have hw:=b4Z j.1 j.2;have hpd5:aM (y9 (V8 s (s.fr.getD k dz).pg.Q).1.d).1:=by
     unfold y9;split
     ·exact b96 (xU _)
     ·exact t
    have L:(X3 s k).1.d.C.length<=500:=by
     by_cases O:(s.fr.getD k dz).no=0
     ·exact(e 1 Z9 Z9).2
     ·exact(e 0 Z9 Z9).2
    obtain⟨C,Z⟩:=c8A (no:=(s.fr.getD k dz).no) F;have n:(X3 s k).1=wrF ((V8 s (s.fr.getD k dz).pg.Q).1.sd (y9 (V8 s (s.fr.getD k dz).pg.Q).1.d).1) k:=by rw[eT hd hF B]
    have efr:(X3 s k).1.fr=s.fr.set k (clF (s.fr.getD k dz)):=by
     rw[n];show(V8 s _).1.fr.set k (clF ((V8 s _).1.fr.getD k dz))=_;rw[r.1]
    have ed:(X3 s k).1.d=wrD (y9 (V8 s (s.fr.getD k dz).pg.Q).1.d).1 (1+(s.fr.getD k dz).no) (S4 (s.fr.getD k dz).no (s.fr.getD k dz).pg):=by
     rw[n];show wrD _ (1+((V8 s _).1.fr.getD k dz).no) (S4 ((V8 s _).1.fr.getD k dz).no ((V8 s _).1.fr.getD k dz).pg)=_;rw[r.1];rfl
    have U:(X3 s k).1.S=(V8 s (s.fr.getD k dz).pg.Q).1.S:=by rw[n];rfl
    have g:∀no,no<8->(P7 (X3 s k).1.d no).2=true/\(S1 (X3 s k).1.d (1+no)).length<=1000/\(P7 (X3 s k).1.d no).1.Q<=s.L.length:=λno o=>by
     by_cases N:(s.fr.getD k dz).no=no
     ·have R:S1 (X3 s k).1.d (1+no)=S4 (s.fr.getD k dz).no (s.fr.getD k dz).pg:=by
       rw[ed,a6R,if_pos Z9]
      have hp:P7 (X3 s k).1.d no=((s.fr.getD k dz).pg,true):=by
       unfold P7;rw[R,if_neg Z,←N];exact c9f F x Z9
      rw[hp,R];exact⟨rfl,Z9,v⟩
     ·have Q:=(e no o N).1;have hp:=(cU (d:=(X3 s k).1.d) (d':=s.d) (no:=no) Q).1;rw[hp,Q];exact⟨(hi.pg no o).1,(hi.pg no o).2,h.pl no o⟩
    refine⟨⟨M,L,?_,by rw[I];exact hi.n69,⟨by rw[U];exact f.1,by rw[U,r3];exact f.2⟩,by rw[r3];exact hi.l60,by rw[r3];exact hi.rc,by rw[r1];exact hi.fr3,λi hi'=>?_,by rw[A];exact hi.hd,λno o=>⟨(g no o).1,(g no o).2.1⟩⟩,?_,λno o=>by rw[r3];exact(g no o).2.2⟩
    ·rw[ed];intro i hi';have hi':i<((y9 (V8 s (s.fr.getD k dz).pg.Q).1.d).1.C++[(⟨1+(s.fr.getD k dz).no,S4 (s.fr.getD k dz).no (s.fr.getD k dz).pg⟩:Pend)]).length:=hi';rw[F9,List.length_singleton] at hi';show 0<=(((y9 (V8 s (s.fr.getD k dz).pg.Q).1.d).1.C++[(⟨1+(s.fr.getD k dz).no,S4 (s.fr.getD k dz).no (s.fr.getD k dz).pg⟩:Pend)]).getD i dz).at_/\(((y9 (V8 s (s.fr.getD k dz).pg.Q).1.d).1.C++[(⟨1+(s.fr.getD k dz).no,S4 (s.fr.getD k dz).no (s.fr.getD k dz).pg⟩:Pend)]).getD i dz).at_<((y9 (V8 s (s.fr.getD k dz).pg.Q).1.d).1.E.length:Int);rw[cM dz _ _ i hi',hw.2];split
     ·exact⟨X5,X5⟩
     ·have:=hpd5 i Z9
      rw[hw.2] at this;exact this
    ·rw[r1] at hi';rw[efr,a2F _ _ hk,r3];split
     ·exact⟨x,J,F,v⟩
     ·exact hi.frp i hi'
    ·rw[ed];obtain⟨w1,w2,w3,w4,w5⟩:=dW hw.1 hw.2;refine⟨w1,w2,w3,w4,λi hi'=>?_⟩
     have hi':i<((y9 (V8 s (s.fr.getD k dz).pg.Q).1.d).1.C++[(⟨1+(s.fr.getD k dz).no,S4 (s.fr.getD k dz).no (s.fr.getD k dz).pg⟩:Pend)]).length:=hi';rw[F9,List.length_singleton] at hi';show(((y9 (V8 s (s.fr.getD k dz).pg.Q).1.d).1.C++[(⟨1+(s.fr.getD k dz).no,S4 (s.fr.getD k dz).no (s.fr.getD k dz).pg⟩:Pend)]).getD i dz).d.length<=160;rw[cM dz _ _ i hi'];split
     ·exact C
     ·exact w5 i Z9
def b6e{s:Sto}{no:Nat}(h:SI s)(o:no<8):0<=(oZ no (P7 s.d no).1).no/\(oZ no (P7 s.d no).1).no<=7/\PgP (oZ no (P7 s.d no).1).pg/\(oZ no (P7 s.d no).1).pg.Q<=s.L.length:=⟨by show(0:Int)<=no;omega,by show(no:Int)<=7;omega,iG (h.iv.pg no o).1,h.pl no o⟩
def b6m{s:Sto}{L:List Frm}{hand:Int}(h:SI s)(M:iC ⟨s.d,s.ep,s.L,s.S,L,hand⟩)(g:L.length<=3)(f:∀i,i<L.length->0<=(L.getD i dz).no/\(L.getD i dz).no<=7/\PgP (L.getD i dz).pg/\(L.getD i dz).pg.Q<=s.L.length)(e:0<=hand/\hand<=2):SI ⟨s.d,s.ep,s.L,s.S,L,hand⟩:=
 ⟨⟨M,h.iv.c,h.iv.pd,h.iv.n69,h.iv.su,h.iv.l60,h.iv.rc,g,f,e,h.iv.pg⟩,h.dw,h.pl⟩
def c8O{a:Int}(h:0<=a):0<=a.tmod 3/\a.tmod 3<=2:=by
 rw[Int.tmod_eq_emod_of_nonneg h];omega
def rN{s:Sto}{no:Nat}(h:SI s)(u:(Y3 s no).2.2=false):G0 (Y3 s no).1.d/\(Y3 s no).1.d.E.length=69:=by
 by_cases C:0<=frAt s.fr no
 ·rw[(yK 0 C).1] at u;cases u
 ·by_cases h3:s.fr.length=3
  ·have hh:=h.iv.hd;cases ho:(X3 s s.J.toNat).2 with
   |true=>rw[(m4 0 C h3 ho).1] at u;cases u
   |false=>
    rw[(m0 0 C h3 ho).1];exact c7J h Z9 ho
  ·rw[(yC 0 C h3).1] at u;cases u
def rR{s:Sto}{no:Nat}(h:SI s)(o:no<8)(u:(Y3 s no).2.2=true):SI (Y3 s no).1/\(Y3 s no).1.L=s.L:=by
 have hm:=a90 h.iv o;have f:=h.iv.hd;have g:=h.iv.fr3;by_cases hc:0<=frAt s.fr no
 ·rw[(yK 0 hc).1];exact⟨h,rfl⟩
 ·by_cases h3:s.fr.length=3
  ·cases ho:(X3 s s.J.toNat).2 with
   |false=>rw[(m0 0 hc h3 ho).1] at u;cases u
   |true=>
    obtain⟨O,l,e,j⟩:=c5y h (show s.J.toNat<s.fr.length by omega) ho
    rw[(m4 0 hc h3 ho).1] at hm ⊢;have hlen:((X3 s s.J.toNat).1.fr.set s.J.toNat (oZ no (P7 (X3 s s.J.toNat).1.d no).1)).length=3:=by rw[zW,e];exact h3
    refine⟨b6m O hm Z9 (λi hi=>?_) (by rw[j];exact c8O Z9),l⟩
    rw[a2F _ _ Z9]
    split
    ·exact b6e O o
    ·exact O.iv.frp i Z9
  ·rw[(yC 0 hc h3).1] at hm ⊢;have hlen:(s.fr++[oZ no (P7 s.d no).1]).length=s.fr.length+1:=by rw[F9];rfl
   refine⟨b6m h hm Z9 (λi hi=>?_) f,rfl⟩
   rw[cM dz _ _ i Z9]
   split
   ·exact b6e h o
   ·exact h.iv.frp i Z9
def b7U{s:Sto}{r:Rec}(h:SI s)(u:(T9 s r).2=false):G0 (T9 s r).1.d/\(T9 s r).1.d.E.length=69:=by
 cases f:(Y3 s r.g.toNat).2.2 with
 |true=>
  unfold T9 at u;rw[if_pos f] at u;cases u
 |false=>
  have e:T9 s r=((Y3 s r.g.toNat).1,false):=if_neg (by rw[f];simp)
  rw[e];exact rN h f
def b6l{s:Sto}{r:Rec}(h:SI s)(B:mC s r)(hl:0<=r.l/\r.l<=s.L.length)(A:r.a.length<=30)(u:(T9 s r).2=true):SI (T9 s r).1/\(T9 s r).1.L=s.L:=by
 have M:=c3e B;obtain⟨_,v,C,F,q⟩:=B;have o:r.g.toNat<8:=Z9
 cases f:(Y3 s r.g.toNat).2.2 with
 |false=>
  unfold T9 at u;rw[if_neg (by rw[f];simp)] at u
  cases u
 |true=>
  have e:T9 s r=(c2j (Y3 s r.g.toNat).1 (Y3 s r.g.toNat).2.1 r,true):=if_pos f;obtain⟨i1,I⟩:=rR h o f;obtain⟨k1,t,x,d,n⟩:=xI h.iv o f;have z:=i1.iv.fr3;rw[e] at M ⊢;refine⟨b6m i1 M (by rw[zW];omega) (λi hi=>?_) i1.iv.hd,I⟩
  rw[zW] at hi;rw[a2F _ _ k1];split
  ·obtain⟨b1,b2,b3,b4⟩:=i1.iv.frp _ k1;refine⟨b1,b2,⟨hl.1,?_,?_,λj hj=>?_⟩,?_⟩
   ·have:=h.iv.l60;show r.l<=_;omega
   ·show(List.set _ _ _).length=_;rw[zW];exact d
   ·show((List.set _ _ _).getD j []).length<=30;have hj:j<(List.set ((Y3 s r.g.toNat).1.fr.getD (Y3 s r.g.toNat).2.1 dz).pg.sl r.s.toNat r.a).length:=hj;rw[zW] at hj;by_cases hjs:j=r.s.toNat
    ·subst hjs;rw[P4,j_j hj]
     exact A
    ·rw[P4,j_k (Ne.symm hjs),←P4]
     exact n j hj
   ·rw[I];exact hl.2
  ·exact i1.iv.frp i hi
def a0s{L:List Txn}{id n:Int}{k:Nat}(hk:k<L.length)(A:T8 L id=k):T8 (L.set k ⟨(L.getD k dz).id,n⟩) id=k:=by
 have g:¬S6 L.length (x6 L id)<0:=by
  have:S6 L.length (x6 L id)=k:=A;omega
 obtain⟨i,hi,hp,f,o⟩:=lX g;have d:i=k:=by
  have:S6 L.length (x6 L id)=k:=A;omega
 subst d;have e:∀j,x6 (L.set i ⟨(L.getD i dz).id,n⟩) id j=x6 L id j:=λj=>by
  unfold x6;by_cases h:j=i
  ·subst h;rw[P4 (l:=L.set j _),j_j hk]
   rfl
  ·rw[P4 (l:=L.set i _),j_k (Ne.symm h),←P4]
 unfold T8;rw[zW];exact N9 hi (by rw[e];exact hp) λj J=>by rw[e];exact f j J
def b0J{L:List Txn}{n:Int}{k:Nat}(h:k<L.length):((L.set k ⟨(L.getD k dz).id,n⟩).getD k dz).id=(L.getD k dz).id:=by
 rw[P4 (l:=L.set k _),j_j h]
 rfl
def c7Q(s:Sto)(r:Rec):(T9 s r).1.ep=s.ep:=by
 have hF:(Y3 s r.g.toNat).1.ep=s.ep:=by
  by_cases h:0<=frAt s.fr r.g.toNat
  ·rw[(yK 0 h).1]
  ·by_cases h3:s.fr.length=3
   ·cases ho:(X3 s s.J.toNat).2 with
    |true=>rw[(m4 0 h h3 ho).1];exact(s7 s s.J.toNat).2.2.2.1
    |false=>rw[(m0 0 h h3 ho).1];exact(s7 s s.J.toNat).2.2.2.1
   ·rw[(yC 0 h h3).1];rfl
 unfold T9;split
 ·exact hF
 ·exact hF
def wY(r:Rec):Rec:=⟨0,0,0,3,0,r.p,r.g,r.s,[],r.b⟩
def dO(e:Eng)(k:Nat)(r:Rec):Rec:=P9 e.s (B9 e k (wY r))
def B3(e:Eng)(k:Nat)(r:Rec):Eng×Bool:=({E9 e k (wY r) with s:=(T9 (E9 e k (wY r)).s (dO e k r)).1},(T9 (E9 e k (wY r)).s (dO e k r)).2)
def bP(e:Eng)(k:Nat)(r:Rec)(v:Nat):Nat:=P8 (E9 e k (wY r)).s r.g.toNat v
def G9(k:Nat)(to:Int):Nat->Eng->Nat->Int->(Eng×Nat)×Bool
 |0,e,v,_=>((e,v),true)
 |f+1,e,v,a=>if a<=to then((e,v),true) else if(Y8 e.s.L a).k=3 then G9 k to f e v (Y8 e.s.L a).n
  else if(Y8 e.s.L a).k=2 then(if(B3 e k (Y8 e.s.L a)).2=true then G9 k to f (B3 e k (Y8 e.s.L a)).1 (bP e k (Y8 e.s.L a) v) (Y8 e.s.L a).p else(((B3 e k (Y8 e.s.L a)).1,bP e k (Y8 e.s.L a) v),false))
  else G9 k to f e v (Y8 e.s.L a).p
structure UE(e:Eng)(k:Nat)(tx:Int):Prop where
 si:SI e.s
 at_:T8 e.X tx=k
 lt:k<e.X.length
 id:(e.X.getD k dz).id=tx
 txr:1<=tx/\tx<=60
 la:1<=(e.X.getD k dz).Z/\(e.X.getD k dz).Z<=e.s.L.length
 ep:1<=e.s.ep/\e.s.ep<=60
 t10:e.X.length<=10
 lk:e.lk.H.length<=60/\e.lk.W.length<=100
 rm:e.s.L.length+1<=60
structure UI(e:Eng)(k:Nat)(tx a:Int):Prop where
 u:UE e k tx
 ar:0<=a/\a<=(e.s.L.length:Int)
 fu:∃f,a.toNat<f/\e.s.L.length+1+und e.s.L f a<=60
def a4p{e:Eng}{k:Nat}{tx:Int}{r:Rec}(h:UE e k tx)(l:a3E e k r):AddB e tx k r/\O9 (P9 e.s (B9 e k r))=true:=by
 have f:=h.id;have x:=h.txr;have L:=h.la;have M:=h.rm;have B:=h.t10;have g:=h.ep;obtain⟨j,o,A,F,v,n,I,J,C,u,z,t,i,q,R,_⟩:=l;have d:O9 (P9 e.s (B9 e k r))=true:=by
  refine(Q4 _).2 ?_
  unfold zG P9 B9;dsimp only;refine⟨g.1,g.2,Z9,Z9,Z9,Z9,Z9,Z9,Z9,Z9,Z9,Z9,Z9,Z9,Z9,λe=>absurd e j,λ_=>⟨Z9,Z9,Z9,n,v,R,⟨λe=>absurd e o,λe=>Z9⟩⟩⟩
 exact⟨⟨h.at_,h.lt,f,d,Z9,Z9,⟨Z9,Z9⟩⟩,d⟩
def a08{L:List Rec}{x:Rec}(d:xH L):∀(f:Nat) (a:Int),a<=L.length->und (L++[x]) f a=und L f a
 |0,_,_=>rfl
 |f+1,a,ha=>by
  unfold und;by_cases h:a<=0
  ·rw[if_pos h,if_pos h]
  ·have e:Y8 (L++[x]) a=Y8 L a:=by
    unfold Y8;rw[P4,rL Z9,←P4]
   obtain⟨j,l,g,i⟩:=d.prev (show 1<=a by omega) ha
   rw[if_neg h,if_neg h,e,a08 d f _ Z9,a08 d f _ Z9]
def sG(e:Eng)(k:Nat)(r:Rec):(E9 e k r).s.L.length=e.s.L.length+1:=by
 show(e.s.L++[_]).length=_;simp
def a9R{e:Eng}{k:Nat}{tx a:Int}(h:UE e k tx)(n:1<=a)(i:a<=e.s.L.length)(z:(Y8 e.s.L a).k=2):a3E e k (wY (Y8 e.s.L a))/\mC (E9 e k (wY (Y8 e.s.L a))).s (dO e k (Y8 e.s.L a))/\(Y8 e.s.L a).b.length<=30/\SI (E9 e k (wY (Y8 e.s.L a))).s:=by
 have L:=h.si.logP;obtain⟨r,_⟩:=L.at n i;obtain⟨v,x,t,u⟩:=L.prev n i;obtain⟨_,_,_,_,_,_,_,_,_,_,f,o,j,q,B,_,_⟩:=r;have R:a3E e k (wY (Y8 e.s.L a)):=by
  unfold a3E wY;dsimp only;exact⟨Z9,Z9,Z9,Z9,λh=>absurd rfl h,λ_ h=>absurd rfl h,Z9,Z9,f,o,j,q,M4,B,λ_=>rfl,h.lt⟩
 have d:=(a4p h R).2;have l:SI (E9 e k (wY (Y8 e.s.L a))).s:=a8z h.si d h.rm;exact⟨R,⟨l.iv,f,by show(Y8 e.s.L a).g<8;omega,j,by show(Y8 e.s.L a).s<4;omega⟩,B,l⟩
def c5G{e:Eng}{k:Nat}{tx a:Int}(h:UE e k tx)(g:1<=a)(f:a<=e.s.L.length)(i:(Y8 e.s.L a).k=2)(u:(B3 e k (Y8 e.s.L a)).2=false):G0 (B3 e k (Y8 e.s.L a)).1.s.d/\(B3 e k (Y8 e.s.L a)).1.s.d.E.length=69:=
 b7U (a9R h g f i).2.2.2 u
def a9i{e:Eng}{k:Nat}{tx a:Int}(h:UI e k tx a)(l:1<=a)(j:(Y8 e.s.L a).k=2)(u:(B3 e k (Y8 e.s.L a)).2=true):UI (B3 e k (Y8 e.s.L a)).1 k tx (Y8 e.s.L a).p:=by
 obtain⟨d,⟨R,A⟩,f,F,Q⟩:=h;have L:=d.si.logP;obtain⟨o,O,C,I⟩:=L.prev l A;obtain⟨U,z,B,v⟩:=a9R d l A j;have M:=d.rm;have N:=sG e k (wY (Y8 e.s.L a));obtain⟨q,r⟩:=b6l v z ⟨by show(0:Int)<=(e.s.L.length:Int)+1;omega,by show(e.s.L.length:Int)+1<=_;omega⟩ B u
 have g:(B3 e k (Y8 e.s.L a)).1.s.L=e.s.L++[dO e k (Y8 e.s.L a)]:=r;have n:(B3 e k (Y8 e.s.L a)).1.s.L.length=e.s.L.length+1:=by rw[g];simp
 have i:(B3 e k (Y8 e.s.L a)).1.s.ep=e.s.ep:=c7Q (E9 e k (wY (Y8 e.s.L a))).s (dO e k (Y8 e.s.L a));have x:(B3 e k (Y8 e.s.L a)).1.X=e.X.set k ⟨(e.X.getD k dz).id,(e.s.L.length:Int)+1⟩:=rfl;have J:und e.s.L f a=1+und e.s.L (f-1) (Y8 e.s.L a).p:=by
  rw[iK Z9 F Z9,if_pos j]
 have t:und (e.s.L++[dO e k (Y8 e.s.L a)]) (f-1) (Y8 e.s.L a).p=und e.s.L (f-1) (Y8 e.s.L a).p:=a08 L _ _ Z9
 refine⟨⟨q,by rw[x];exact a0s d.lt d.at_,by rw[x,zW];exact d.lt,by rw[x];exact(b0J d.lt).trans d.id,d.txr,?_,by rw[i];exact d.ep,by rw[x,zW];exact d.t10,d.lk,by rw[n];omega⟩,⟨o,by rw[n];omega⟩,f-1,Z9,by rw[n,g,t];omega⟩
 rw[x,n,P4,j_j d.lt]
 show 1<=(e.s.L.length:Int)+1/\(e.s.L.length:Int)+1<=_;omega
def c6Y{e:Eng}{k:Nat}{tx a:Int}(h:UI e k tx a)(i:1<=a)(j:(Y8 e.s.L a).k=3):UI e k tx (Y8 e.s.L a).n:=by
 obtain⟨d,⟨r,A⟩,f,F,l⟩:=h;obtain⟨o,u,g,q⟩:=d.si.logP.prev i A;have t:=a2l (L:=e.s.L) Z9 F j
 exact⟨d,⟨g,Z9⟩,f-1,Z9,Z9⟩
def c6u{e:Eng}{k:Nat}{tx a:Int}(h:UI e k tx a)(i:1<=a)(j:(Y8 e.s.L a).k≠3):UI e k tx (Y8 e.s.L a).p:=by
 obtain⟨d,⟨q,A⟩,f,F,l⟩:=h;obtain⟨g,t,n,o⟩:=d.si.logP.prev i A;have r:=iK (L:=e.s.L) Z9 F j
 exact⟨d,⟨g,Z9⟩,f-1,Z9,Z9⟩
def rZ{k:Nat}{to a:Int}{f:Nat}{e:Eng}{v:Nat}(h:a<=to):G9 k to f e v a=((e,v),true):=by
 cases f with
 |zero=>rfl
 |succ f=>unfold G9;rw[if_pos h]
def a8c{k:Nat}{to a:Int}{f:Nat}{e:Eng}{v:Nat}(h:¬a<=to)(F:0<f)(d:(Y8 e.s.L a).k=3):G9 k to f e v a=G9 k to (f-1) e v (Y8 e.s.L a).n:=by
 obtain⟨g,rfl⟩:∃g,f=g+1:=⟨f-1,Z9⟩
 conv=>lhs;unfold G9
 rw[if_neg h,if_pos d];rfl
def a74{k:Nat}{to a:Int}{f:Nat}{e:Eng}{v:Nat}(h:¬a<=to)(F:0<f)(i:(Y8 e.s.L a).k≠3)(d:(Y8 e.s.L a).k≠2):G9 k to f e v a=G9 k to (f-1) e v (Y8 e.s.L a).p:=by
 obtain⟨g,rfl⟩:∃g,f=g+1:=⟨f-1,Z9⟩
 conv=>lhs;unfold G9
 rw[if_neg h,if_neg i,if_neg d];rfl
def a8U{k:Nat}{to a:Int}{f:Nat}{e:Eng}{v:Nat}(h:¬a<=to)(F:0<f)(d:(Y8 e.s.L a).k=2)(u:(B3 e k (Y8 e.s.L a)).2=true):G9 k to f e v a=G9 k to (f-1) (B3 e k (Y8 e.s.L a)).1 (bP e k (Y8 e.s.L a) v) (Y8 e.s.L a).p:=by
 obtain⟨g,rfl⟩:∃g,f=g+1:=⟨f-1,Z9⟩
 conv=>lhs;unfold G9
 rw[if_neg h,if_neg Z9,if_pos d,if_pos u]
 rfl
def a6e{k:Nat}{to a:Int}{f:Nat}{e:Eng}{v:Nat}(h:¬a<=to)(F:0<f)(d:(Y8 e.s.L a).k=2)(u:(B3 e k (Y8 e.s.L a)).2=false):G9 k to f e v a=(((B3 e k (Y8 e.s.L a)).1,bP e k (Y8 e.s.L a) v),false):=by
 obtain⟨g,rfl⟩:∃g,f=g+1:=⟨f-1,Z9⟩
 conv=>lhs;unfold G9
 rw[if_neg h,if_neg Z9,if_pos d,if_neg (by rw[u];simp)]
def c0x(u:(Eng×Nat)×Bool)(k:Nat)(tx:Int):Prop:=(u.2=true->UE u.1.1 k tx)/\(u.2=false->G0 u.1.1.s.d/\u.1.1.s.d.E.length=69)
def a9A{k:Nat}{tx to:Int}(d:0<=to):∀(f:Nat) (e:Eng) (v:Nat) (a:Int),a.toNat<f->UI e k tx a->c0x (G9 k to f e v a) k tx
 |0,_,_,_,hf,_=>absurd hf (D2 _)
 |f+1,e,v,a,hf,h=>by
  by_cases ht:a<=to
  ·rw[rZ ht];exact⟨λ_=>h.u,λe=>by cases e⟩
  ·have h1:1<=a:=by omega
   obtain⟨j,l,g,i⟩:=h.u.si.logP.prev h1 h.ar.2;by_cases h3:(Y8 e.s.L a).k=3
   ·rw[a8c ht Z9 h3]
    exact a9A d f _ _ _ Z9 (c6Y h h1 h3)
   ·by_cases h2:(Y8 e.s.L a).k=2
    ·cases hu:(B3 e k (Y8 e.s.L a)).2 with
     |true=>
      rw[a8U ht Z9 h2 hu]
      exact a9A d f _ _ _ Z9 (a9i h h1 h2 hu)
     |false=>
      rw[a6e ht Z9 h2 hu]
      exact⟨λe=>(by cases e),λ_=>c5G h.u h1 h.ar.2 h2 hu⟩
    ·rw[a74 ht Z9 h3 h2]
     exact a9A d f _ _ _ Z9 (c6u h h1 h3)
def c0a{L:List Rec}{T:List Txn}{k:Nat}:∀n,k<n->1+und L 61 (T.getD k dz).Z<=tR L T n
 |0,h=>absurd h (D2 k)
 |n+1,h=>by
  unfold tR;by_cases e:k=n
  ·subst e;omega
  ·have:=c0a (L:=L) (T:=T) (k:=k) n Z9
   omega
def c4L{e:Eng}{tx:Int}{k:Nat}(h:R3 e=true)(M:M7 e)(u:e.up=true)(j:T8 e.X tx=k)(f:k<e.X.length)(hi:(e.X.getD k dz).id=tx):UI e k tx (e.X.getD k dz).Z:=by
 obtain⟨i,q,r,A⟩:=xG (u4 h).2.1;have l:=a9p h u f;have n:=c9j h u f;have o:=c07 h u;have d:=c0a (L:=e.s.L) (T:=e.X) e.X.length f;have d:1+und e.s.L 61 (e.X.getD k dz).Z<=nK e:=d;have g:=(a2I (u4 h).1).1;exact⟨⟨c48 (u4 h).1 M.1,j,f,hi,Z9,l,c7n (u4 h).1,i,b6B A,Z9⟩,Z9,61,Z9,Z9⟩
set_option maxRecDepth 100000
def b0S(k:Nat):Option Ob:=some (.arr false 1000000 1 1 λ_=>[.ref k 0 0])
def fF(b:Bool):Option Ob:=some (.arr true 1000000 1 1 λ_=>[.bool b])
def qD(e:Eng)(k:Nat)(r:Rec)(lsn:Int)(v:Nat):(Eng×Nat)×Bool×Bool:=if r.l<=lsn then((e,v),true,false) else(((B3 e k r).1,bP e k r v),(B3 e k r).2,(B3 e k r).2)
def Eng.ux(e:Eng)(v:Nat)(lsn tx:Int)(b:Bool):X9:=[sM lsn,b0S 2,gO (e.tn 3 4 5 6 7 8 9 10),A1 e.s.d.E,D3 e.s.d.C,A0 e.s.d.keep,j6 e.s.L,xA v e.s.fr e.s.fr.length,sR e.X,yY e.lk.H,sU e.lk.W,sM tx,fF b]
def Eng.uy(e:Eng)(v:Nat)(lsn tx:Int)(b:Bool):X9:=[sM lsn,b0S 2,gO (e.tn 13 14 15 16 17 18 19 20),none,none,none,none,none,none,none,none,sM tx,fF b,A1 e.s.d.E,D3 e.s.d.C,A0 e.s.d.keep,j6 e.s.L,xA v e.s.fr e.s.fr.length,sR e.X,yY e.lk.H,sU e.lk.W]
def c1e:Con:=.reff ⟨Eng×Rec×Int×Int×Nat×Nat,λx=>[.agg x.2.1.ts,.ref 0 0 0,.ref 1 0 0,.ref 11 0 0,.ref 12 0 0],λx=>x.1.ux x.2.2.2.2.2 x.2.2.1 x.2.2.2.1 true,λx=>.bool (qD x.1 x.2.2.2.2.1 x.2.1 x.2.2.1 x.2.2.2.2.2).2.2,λx=>(qD x.1 x.2.2.2.2.1 x.2.1 x.2.2.1 x.2.2.2.2.2).1.1.uy (qD x.1 x.2.2.2.2.1 x.2.1 x.2.2.1 x.2.2.2.2.2).1.2 x.2.2.1 x.2.2.2.1 (qD x.1 x.2.2.2.2.1 x.2.1 x.2.2.1 x.2.2.2.2.2).2.1,
 λx=>x.2.2.1<x.2.1.l->(AddB x.1 x.2.2.2.1 x.2.2.2.2.1 (wY x.2.1)/\mC (E9 x.1 x.2.2.2.2.1 (wY x.2.1)).s (dO x.1 x.2.2.2.2.1 x.2.1))⟩
def b5m:GK 346 c1e:=gk func346<|by
 rintro⟨e,r,lsn,tx,k,v⟩ h;dsimp only at h;refine C6 (gC a5Y (gC a5f gN)) func346 Z3 [[.box 0,.box 1,.box 2,.arr 3,.arr 4,.arr 5,.arr 6,.arr 7,.arr 8,.arr 9,.arr 10,.box 11,.box 12,.cel 2 0,.cel 2 1,.cel 2 3,.cel 2 5,.cel 2 7,.cel 2 10,.cel 2 11,.cel 2 12]] (α:=let pa:=(1=1/\1=1/\tx=tx/\True);let i:=(1=1/\1=1/\lsn=lsn/\True);let f:=(1=1/\1=1/\(0=0/\0=0)/\True);let q:=(qD e k r lsn v);bd (r.l<=lsn) ((false=q.2.2/\True)/\i/\f/\BxG e q.1.1/\True/\True/\True/\True/\True/\True/\True/\True/\pa/\(1=1/\1=1/\true=q.2.1/\True)/\vF (v) (q.1.2) e q.1.1) (∃(x:(Eng×Int×Rec×Nat×Nat)),let c:=x.2.2.2;let m:=x.1.s;let y:=(x.1.X.getD c.1 dz);let u:=(x.1.X.set c.1 (Txn.mk y.id ((m.L.length:Int)+1)));let z:=x.2.2.1;let w:=(m.L++[P9 x.1.s (B9 x.1 c.1 z)]);(((0=0/\0=0)/\tx=x.2.1/\(0=z.e/\0=z.l/\0=z.t/\3=z.k/\0=z.p/\r.p=z.n/\r.g=z.g/\r.s=z.s/\[]=z.b/\r.b=z.a/\True)/\True)/\(iM (v) (c.2) e x.1)/\AddB x.1 x.2.1 c.1 z)/\∃(X:(Sto×Rec×Nat)),let j:=(T9 X.1 X.2.1);(((0=0/\0=0)/\(m.ep=X.2.1.e/\(m.L.length:Int)+1=X.2.1.l/\y.id=X.2.1.t/\z.k=X.2.1.k/\y.Z=X.2.1.p/\z.n=X.2.1.n/\z.g=X.2.1.g/\z.s=X.2.1.s/\z.b=X.2.1.b/\z.a=X.2.1.a/\True)/\True)/\(nO {x.1.s with L:=w} X.1/\(Z0 Z5 m.d.E X.1.d.E)/\(Z0 Z1 m.d.C X.1.d.C)/\(Z0 Y9 m.d.keep X.1.d.keep)/\(Z0 Y1 w X.1.L)/\(c.2=X.2.2/\m.fr.length=X.1.fr.length/\V2 m.fr.length (Y5 m.fr) (Y5 X.1.fr))/\True)/\mC X.1 X.2.1)/\(j.2=q.2.2/\True)/\i/\f/\BxG {x.1 with s:=j.1,X:=u} q.1.1/\True/\True/\True/\True/\True/\True/\True/\True/\pa/\(1=1/\1=1/\j.2=q.2.1/\True)/\vF (P8 X.1 X.2.1.g.toNat X.2.2) (q.1.2) {x.1 with s:=j.1,X:=u} q.1.1)) ⟨λhc=>?_,λhc=>?_⟩
 ·have f:qD e k r lsn v=((e,v),true,false):=if_pos (G7 hc);rw[f];exact Z8
 ·have hc:=r9 hc;obtain⟨hA,hP⟩:=h Z9
  have f:qD e k r lsn v=(((B3 e k r).1,bP e k r v),(B3 e k r).2,(B3 e k r).2):=if_neg hc;rw[f];exact⟨(e,tx,wY r,k,v),⟨Z8,Z8,hA⟩,((E9 e k (wY r)).s,dO e k r,v),⟨Z8,Z8,hP⟩,Z8⟩
def Eng.vx(e:Eng)(v:Nat)(lsn tx:Int):X9:=[gO (e.tn 1 2 3 4 5 6 7 8),A1 e.s.d.E,D3 e.s.d.C,A0 e.s.d.keep,j6 e.s.L,xA v e.s.fr e.s.fr.length,sR e.X,yY e.lk.H,sU e.lk.W,sM lsn,b0S 0,sM tx,fF true]
def Eng.vy(e:Eng)(v:Nat)(lsn tx:Int)(b:Bool):X9:=[gO (e.tn 13 14 15 16 17 18 19 20),none,none,none,none,none,none,none,none,sM lsn,b0S 0,sM tx,fF b,A1 e.s.d.E,D3 e.s.d.C,A0 e.s.d.keep,j6 e.s.L,xA v e.s.fr e.s.fr.length,sR e.X,yY e.lk.H,sU e.lk.W]
def c7F:Con:=.reff ⟨Eng×Int×Int×Int×Nat×Nat,λx=>[.ref 0 0 0,Ji x.2.1,.fn (.func 346) [.ref 9 0 0,.ref 10 0 0,.ref 11 0 0,.ref 12 0 0]],λx=>x.1.vx x.2.2.2.2.2 x.2.2.1 x.2.2.2.1,λ_=>.tup [],λx=>(G9 x.2.2.2.2.1 x.2.2.1 61 x.1 x.2.2.2.2.2 x.2.1).1.1.vy (G9 x.2.2.2.2.1 x.2.2.1 61 x.1 x.2.2.2.2.2 x.2.1).1.2 x.2.2.1 x.2.2.2.1 (G9 x.2.2.2.2.1 x.2.2.1 61 x.1 x.2.2.2.2.2 x.2.1).2,λx=>UI x.1 x.2.2.2.2.1 x.2.2.2.1 x.2.1/\0<=x.2.2.1⟩
structure UdI(u0:(Eng×Nat)×Bool)(k:Nat)(tx to:Int) where
 e:Eng
 v:Nat
 a:Int
 f:Nat
 h:UI e k tx a
 hf:a.toNat<f
 eq:G9 k to f e v a=u0
def c6q(e:Eng)(F lsn tx:Int)(k v:Nat):Nat->Ann
 |0=>.one (UdI (G9 k lsn 61 e v F) k tx lsn) (λx=>⟨[(0,.ref 0 0 0),(1,Ji x.a),(2,.fn (.func 346) [.ref 9 0 0,.ref 10 0 0,.ref 11 0 0,.ref 12 0 0])],x.e.vy x.v lsn tx true⟩) (λx=>x.f) a8R a8R (λ_=>Z3)
 |_=>.none
def c9V{k:Nat}{to a:Int}{f:Nat}{e:Eng}{v:Nat}(F:0<f)(d:(Y8 e.s.L a).k=3)(N:(Y8 e.s.L a).n<=a):G9 k to (f-1) e v (Y8 e.s.L a).n=G9 k to f e v a:=by
 by_cases h:a<=to
 ·rw[rZ h,rZ Z9]
 ·rw[a8c h F d]
def c9U{k:Nat}{to a:Int}{f:Nat}{e:Eng}{v:Nat}(F:0<f)(g:(Y8 e.s.L a).k≠3)(d:(Y8 e.s.L a).k≠2)(n:(Y8 e.s.L a).p<=a):G9 k to (f-1) e v (Y8 e.s.L a).p=G9 k to f e v a:=by
 by_cases h:a<=to
 ·rw[rZ h,rZ Z9]
 ·rw[a74 h F g d]
def c3z:GK 268 c7F:=gk func268<|by
 rintro⟨e,F,lsn,tx,k,v⟩ ⟨i,o⟩;dsimp only at i o;have j:=i.u.rm;have r:=i.ar;refine C6 (gC b5m gN) func268 (c6q e F lsn tx k v) [a8R] (α:=let c:=(1=1/\1=1/\true=true/\True);let b:=(1=1/\1=1/\tx=tx/\True);let g:=(1=1/\1=1/\lsn=lsn/\True);let j:=(G9 k lsn 61 e v F);let u:=(0=0/\0=0);let m:=(1=1/\1=1/\u/\True);let w:=(Fn.func 346=Fn.func 346/\u/\u/\u/\u/\True);(∃(x:UdI (G9 k lsn 61 e v F) k tx lsn),(u/\F=x.a/\w/\True)/\BxG e x.e/\True/\True/\True/\True/\True/\True/\True/\True/\g/\m/\b/\c/\vF (v) (x.v) e x.e)/\∀(x:UdI (G9 k lsn 61 e v F) k tx lsn),let pa:=x.e.s;let z:=((True/\True)/\BxG x.e j.1.1/\True/\True/\True/\True/\True/\True/\True/\True/\g/\m/\b/\(1=1/\1=1/\true=j.2/\True)/\vF (x.v) (j.1.2) x.e j.1.1);let r:=(pa.L.getD (0+(x.a-1).toNat) dz);bd (x.a>0) (Ri (x.a-1)/\W9 (x.a-1) pa.L.length/\Lt (0+(x.a-1).toNat) pa.L.length/\br (r.k==3) (∃(y:UdI (G9 k lsn 61 e v F) k tx lsn),((u/\r.n=y.a/\w/\True)/\BxG x.e y.e/\True/\True/\True/\True/\True/\True/\True/\True/\g/\m/\b/\c/\vF (x.v) (y.v) x.e y.e)/\Lt y.f x.f) (∃(X:(Eng×Rec×Int×Int×Nat×Nat)),let t:=(1=1/\1=1/\X.2.2.1=lsn/\True);let i:=(1=1/\1=1/\X.2.2.2.1=tx/\True);let q:=(qD X.1 X.2.2.2.2.1 X.2.1 X.2.2.1 X.2.2.2.2.2);((r.k==2)=true->((EqR r X.2.1)/\u/\u/\u/\u/\True)/\((1=1/\Z7 1 (λ(x:Nat)=>[Ji lsn]) λ(x:Nat)=>[Ji X.2.2.1])/\m/\BxG x.e X.1/\(Z0 Z5 pa.d.E X.1.s.d.E)/\(Z0 Z1 pa.d.C X.1.s.d.C)/\(Z0 Y9 pa.d.keep X.1.s.d.keep)/\(Z0 Y1 pa.L X.1.s.L)/\(x.v=X.2.2.2.2.2/\pa.fr.length=X.1.s.fr.length/\V2 pa.fr.length (Y5 pa.fr) (Y5 X.1.s.fr))/\(Z0 X2 x.e.X X.1.X)/\(Z0 Z2 x.e.lk.H X.1.lk.H)/\(Z0 Y7 x.e.lk.W X.1.lk.W)/\(1=1/\Z7 1 (λ(x:Nat)=>[Ji tx]) λ(x:Nat)=>[Ji X.2.2.2.1])/\(1=1/\Z7 1 (λ(x:Nat)=>[T.bool true]) λ(x:Nat)=>[T.bool true])/\True)/\(X.2.2.1<X.2.1.l->AddB X.1 X.2.2.2.1 X.2.2.2.2.1 (wY X.2.1)/\mC (apx X.1.s (B9 X.1 X.2.2.2.2.1 (wY X.2.1))) (dO X.1 X.2.2.2.2.1 X.2.1)))/\((r.k==2)=true->br (r.k==2&& ! q.2.2) ((True/\True)/\BxG q.1.1 j.1.1/\True/\True/\True/\True/\True/\True/\True/\True/\t/\m/\i/\(1=1/\1=1/\q.2.1=j.2/\True)/\vF (q.1.2) (j.1.2) q.1.1 j.1.1) (∃(y:UdI (G9 k lsn 61 e v F) k tx lsn),((u/\r.p=y.a/\w/\True)/\BxG q.1.1 y.e/\True/\True/\True/\True/\True/\True/\True/\True/\t/\m/\i/\(1=1/\1=1/\q.2.1=true/\True)/\vF (q.1.2) (y.v) q.1.1 y.e)/\Lt y.f x.f))/\(((r.k==2)=true->False)->br (r.k==2&& ! q.2.2) z (∃(y:UdI (G9 k lsn 61 e v F) k tx lsn),((u/\r.p=y.a/\w/\True)/\BxG x.e y.e/\True/\True/\True/\True/\True/\True/\True/\True/\g/\m/\b/\c/\vF (x.v) (y.v) x.e y.e)/\Lt y.f x.f)))) z) ⟨⟨⟨e,v,F,61,i,Z9,rfl⟩,Z8⟩,λx=>?_⟩
 obtain⟨e',v',a,f,h,C,q⟩:=x;dsimp only;have j:=h.u.rm;have r:=h.ar;refine⟨λhc=>?_,λhc=>?_⟩
 ·have h1:1<=a:=by have:=G7 hc;omega
  obtain⟨J,L⟩:=h.u.si.logP.at h1 r.2;obtain⟨I,B,t,z⟩:=h.u.si.logP.prev h1 r.2;rw[D4];refine⟨Z4 Z9,⟨Z9,Z9⟩,Q2,λg=>?_,λg=>?_⟩
  ·have g:(Y8 e'.s.L a).k=3:=beq_iff_eq.1 g;exact⟨⟨e',v',(Y8 e'.s.L a).n,f-1,c6Y h h1 g,Z9,(c9V Z9 g Z9).trans q⟩,Z8,J8⟩
  ·have g:(Y8 e'.s.L a).k≠3:=λe=>by
    have g:((Y8 e'.s.L a).k==3)=false:=g;rw[e] at g;cases g
   refine⟨(e',Y8 e'.s.L a,lsn,tx,k,v'),λh2=>⟨Z8,Z8,λ_=>?_⟩,λh2=>⟨λhq=>?_,λhq=>?_⟩,λh2=>⟨λhq=>?_,λhq=>?_⟩⟩
   ·have h2:(Y8 e'.s.L a).k=2:=beq_iff_eq.1 h2;obtain⟨R,A,_⟩:=a9R h.u h1 r.2 h2;exact⟨(a4p h.u R).1,A⟩
   ·have h2:(Y8 e'.s.L a).k=2:=beq_iff_eq.1 h2;by_cases ht:a<=lsn
    ·have e0:qD e' k (Y8 e'.s.L a) lsn v'=((e',v'),true,false):=if_pos Z9
     dsimp only;rw[e0,←q,rZ ht];exact Z8
    ·have e0:qD e' k (Y8 e'.s.L a) lsn v'=(((B3 e' k (Y8 e'.s.L a)).1,bP e' k (Y8 e'.s.L a) v'),(B3 e' k (Y8 e'.s.L a)).2,(B3 e' k (Y8 e'.s.L a)).2):=if_neg Z9
     have U:(B3 e' k (Y8 e'.s.L a)).2=false:=by
      have hq:((Y8 e'.s.L a).k==2&& !(qD e' k (Y8 e'.s.L a) lsn v').2.2)=true:=hq;rw[e0,h2] at hq
      simpa using hq
     dsimp only;rw[e0,←q,a6e ht Z9 h2 U]
     exact⟨Z8,Z8,Z6,Z6,Z6,Z6,Z6,Z6,Z6,Z6,Z8,Z8,Z8,⟨rfl,rfl,U,Z6⟩,Z8⟩
   ·have h2:(Y8 e'.s.L a).k=2:=beq_iff_eq.1 h2;have hq:((Y8 e'.s.L a).k==2&& !(qD e' k (Y8 e'.s.L a) lsn v').2.2)=false:=hq;by_cases ht:a<=lsn
    ·have e0:qD e' k (Y8 e'.s.L a) lsn v'=((e',v'),true,false):=if_pos Z9
     rw[e0,h2] at hq;cases hq
    ·have e0:qD e' k (Y8 e'.s.L a) lsn v'=(((B3 e' k (Y8 e'.s.L a)).1,bP e' k (Y8 e'.s.L a) v'),(B3 e' k (Y8 e'.s.L a)).2,(B3 e' k (Y8 e'.s.L a)).2):=if_neg Z9
     have U:(B3 e' k (Y8 e'.s.L a)).2=true:=by
      rw[e0,h2] at hq
      simpa using hq
     dsimp only;rw[e0];exact⟨⟨(B3 e' k (Y8 e'.s.L a)).1,bP e' k (Y8 e'.s.L a) v',(Y8 e'.s.L a).p,f-1,a9i h h1 h2 U,Z9,(a8U ht Z9 h2 U).symm.trans q⟩,⟨Z8,Z8,Z6,Z6,Z6,Z6,Z6,Z6,Z6,Z6,Z8,Z8,Z8,⟨rfl,rfl,U,Z6⟩,Z8⟩,J8⟩
   ·have h2:((Y8 e'.s.L a).k==2)=true->False:=h2;have hq:((Y8 e'.s.L a).k==2&& !(qD e' k (Y8 e'.s.L a) lsn v').2.2)=true:=hq;simp only[J5] at hq;exact absurd hq.1 h2
   ·have h2:(Y8 e'.s.L a).k≠2:=λe=>h2 (beq_iff_eq.2 e)
    exact⟨⟨e',v',(Y8 e'.s.L a).p,f-1,c6u h h1 g,Z9,(c9U Z9 g h2 Z9).trans q⟩,Z8,J8⟩
 ·have ha:a<=lsn:=by have:=r9 hc;omega
  rw[←q,rZ ha];exact Z8
def Q9(e:Eng)(k:Nat)(lsn:Int):(Eng×Nat)×Bool:=G9 k lsn 61 e 0 (e.X.getD k dz).Z
def u7(e:Eng)(k:Nat)(lsn:Int):(Eng×Nat)×Int:=if(Q9 e k lsn).2=true then((Q9 e k lsn).1,0) else((j8 (Q9 e k lsn).1.1,0),15)
def b1c{e:Eng}{k:Nat}{tx lsn:Int}(h:UI e k tx (e.X.getD k dz).Z)(d:0<=lsn):c0x (Q9 e k lsn) k tx:=by
 have:=h.ar;have:=h.u.rm;exact a9A d 61 e 0 _ Z9 h
def a0O{e:Eng}{k:Nat}{lsn:Int}(h:(Q9 e k lsn).2=true):u7 e k lsn=((Q9 e k lsn).1,0):=if_pos h
def a0D{e:Eng}{k:Nat}{lsn:Int}(h:(Q9 e k lsn).2=false):u7 e k lsn=((j8 (Q9 e k lsn).1.1,0),15):=if_neg cY
def b7B{e:Eng}{k:Nat}{lsn:Int}(h:(u7 e k lsn).2=0):(Q9 e k lsn).2=true:=by
 cases u:(Q9 e k lsn).2 with
 |true=>rfl
 |false=>rw[a0D u] at h;cases h
def c6Q:Con:=.reff ⟨Eng×Int×Int×Nat,λx=>[.ref 0 0 0,Ji x.2.1,Ji x.2.2.1],λx=>x.1.bx 0,λx=>Ji (u7 x.1 x.2.2.2 x.2.2.1).2,λx=>(u7 x.1 x.2.2.2 x.2.2.1).1.1.nx (u7 x.1 x.2.2.2 x.2.2.1).1.2,λx=>UI x.1 x.2.2.2 x.2.1 (x.1.X.getD x.2.2.2 dz).Z/\0<=x.2.2.1⟩
def c2P:GK 292 c6Q:=gk func292<|by
 rintro⟨e,tx,lsn,k⟩ ⟨h,f⟩;dsimp only at h f;have A:=h.u.at_;have g:=h.u.lt;have t:=h.u.t10;have R:=b1c h f;refine C6 (gC qT (gC c3z (gC a97 gN))) func292 Z3 aW (α:=let r:=(0=0/\0=0);let q:=(u7 e k lsn);∃(x:(Eng×Int)),let z:=(T8 x.1.X x.2);((LeG e)/\((oM e x.1)/\tx=x.2/\True)/\L9 x.1.X.length)/\W9 z e.X.length/\Lt (0+z.toNat) e.X.length/\∃(X:(Eng×Int×Int×Int×Nat×Nat)),let p:=(G9 X.2.2.2.2.1 X.2.2.1 61 X.1 X.2.2.2.2.2 X.2.1);((r/\(e.X.getD (0+z.toNat) dz).Z=X.2.1/\(Fn.func 346=Fn.func 346/\r/\r/\r/\r/\True)/\True)/\(BxG e X.1/\(Z0 Z5 e.s.d.E X.1.s.d.E)/\(Z0 Z1 e.s.d.C X.1.s.d.C)/\(Z0 Y9 e.s.d.keep X.1.s.d.keep)/\(Z0 Y1 e.s.L X.1.s.L)/\(0=X.2.2.2.2.2/\e.s.fr.length=X.1.s.fr.length/\V2 e.s.fr.length (Y5 e.s.fr) (Y5 X.1.s.fr))/\(Z0 X2 e.X X.1.X)/\(Z0 Z2 e.lk.H X.1.lk.H)/\(Z0 Y7 e.lk.W X.1.lk.W)/\(1=1/\Z7 1 (λ(x:Nat)=>[Ji lsn]) λ(x:Nat)=>[Ji X.2.2.1])/\(1=1/\1=1/\r/\True)/\(1=1/\Z7 1 (λ(x:Nat)=>[Ji tx]) λ(x:Nat)=>[Ji X.2.2.2.1])/\(1=1/\Z7 1 (setRow (λ(x:Nat)=>[T.bool false]) 0 0 [T.bool true]) λ(x:Nat)=>[T.bool true])/\True)/\UI X.1 X.2.2.2.2.1 X.2.2.2.1 X.2.1/\0<=X.2.2.1)/\br (! p.2) (∃(x:(Eng×Nat)),((r/\True)/\(iM (p.1.2) (x.2) p.1.1 x.1)/\G0 x.1.s.d)/\(15=q.2/\True)/\lO (0) (q.1.2) (j8 x.1) q.1.1) ((0=q.2/\True)/\lO (p.1.2) (q.1.2) p.1.1 q.1.1)) ⟨(e,tx),⟨Z8,Z8,rU⟩,?_⟩
 dsimp only;rw[A,E3,D4];refine⟨Y6 g,g,(e,(e.X.getD k dz).Z,lsn,tx,k,0),⟨Z8,⟨Z8,Z8,Z8,Z8,Z8,Z8,Z8,Z8,Z8,Z8,Z8,Z8,⟨rfl,λi hi=>by match i,hi with|0,_=>rfl⟩,Z6⟩,h,f⟩,λhy=>?_,λhy=>?_⟩
 ·have hy:(!(Q9 e k lsn).2)=true:=hy;have hy:(Q9 e k lsn).2=false:=by simpa using hy
  rw[a0D hy];exact⟨((Q9 e k lsn).1.1,(Q9 e k lsn).1.2),⟨Z8,Z8,(R.2 hy).1⟩,Z8⟩
 ·have hy:(!(Q9 e k lsn).2)=false:=hy;have hy:(Q9 e k lsn).2=true:=by simpa using hy
  rw[a0O hy];exact Z8
def pY:Rec:=⟨0,0,0,5,0,0,0,0,[],[]⟩
def I6(e:Eng)(k:Nat):(Eng×Nat)×Int:=if(u7 e k 0).2=0 then((b2h (E9 (u7 e k 0).1.1 k pY) k,(u7 e k 0).1.2),0) else((u7 e k 0).1,(u7 e k 0).2)
def c4A{e:Eng}{k:Nat}{tx:Int}(h:UE e k tx):a3E e k pY:=by
 unfold a3E pY;dsimp only;exact⟨Z9,Z9,Z9,Z9,λ_=>rfl,λ_ _=>Z8,Z9,Z9,Z9,Z9,Z9,Z9,M4,M4,λ_=>rfl,h.lt⟩
def b6r{e:Eng}{k:Nat}(h:¬ (u7 e k 0).2=0):I6 e k=((u7 e k 0).1,(u7 e k 0).2):=if_neg h
def b5z{e:Eng}{k:Nat}(h:(u7 e k 0).2=0):I6 e k=((b2h (E9 (Q9 e k 0).1.1 k pY) k,(Q9 e k 0).1.2),0):=by
 unfold I6;rw[if_pos h,a0O (b7B h)]
def c0y:Con:=.reff ⟨Eng×Int×Nat,λx=>[.ref 0 0 0,Ji x.2.1],λx=>x.1.bx 0,λx=>Ji (I6 x.1 x.2.2).2,λx=>(I6 x.1 x.2.2).1.1.nx (I6 x.1 x.2.2).1.2,λx=>UI x.1 x.2.2 x.2.1 (x.1.X.getD x.2.2 dz).Z⟩
def b9D:GK 212 c0y:=gk func212<|by
 rintro⟨e,tx,k⟩ U;dsimp only at U;have R:=b1c U (Int.le_refl 0);refine C6 (gC c2P (gC a5Y (gC c2u gN))) func212 Z3 aW (α:=let w:=(0=0/\0=0);∃(x:(Eng×Int×Int×Nat)),let q:=(u7 x.1 x.2.2.2 x.2.2.1);((w/\tx=x.2.1/\0=x.2.2.1/\True)/\(iM (0) (0) e x.1)/\UI x.1 x.2.2.2 x.2.1 (x.1.X.getD x.2.2.2 dz).Z/\0<=x.2.2.1)/\br (q.2 !=0) ((q.2=(I6 e k).2/\True)/\lO (q.1.2) ((I6 e k).1.2) q.1.1 (I6 e k).1.1) (∃(X:(Eng×Int×Rec×Nat×Nat)),((w/\tx=X.2.1/\(0=X.2.2.1.e/\0=X.2.2.1.l/\0=X.2.2.1.t/\5=X.2.2.1.k/\0=X.2.2.1.p/\0=X.2.2.1.n/\0=X.2.2.1.g/\0=X.2.2.1.s/\[]=X.2.2.1.b/\[]=X.2.2.1.a/\True)/\True)/\(iM (q.1.2) (X.2.2.2.2) q.1.1 X.1)/\AddB X.1 X.2.1 X.2.2.2.1 X.2.2.1)/\∃(x:(Eng×Int×Nat×Nat)),let y:=x.1.s;let z:=(List.take x.2.2.1 x.1.X++List.drop (x.2.2.1+1) x.1.X);let r:=(x.1.X.getD x.2.2.1 dz).id;let v:=(X8 (wF r) x.1.lk.W x.1.lk.W.length);let u:=(X8 (hF r) x.1.lk.H x.1.lk.H.length);((w/\tx=x.2.1/\True)/\(iM (X.2.2.2.2) (x.2.2.2) {X.1 with s:={X.1.s with L:=(X.1.s.L++[P9 X.1.s (B9 X.1 X.2.2.2.1 X.2.2.1)])},X:=(X.1.X.set X.2.2.2.1 (Txn.mk (X.1.X.getD X.2.2.2.1 dz).id ((X.1.s.L.length:Int)+1)))} x.1)/\OvB x.1 x.2.1 x.2.2.1)/\(0=(I6 e k).2/\True)/\BxG {x.1 with X:=z,lk:=⟨u,v⟩} (I6 e k).1.1/\True/\True/\True/\True/\True/\True/\True/\True/\(Z0 Z5 y.d.E (I6 e k).1.1.s.d.E)/\(Z0 Z1 y.d.C (I6 e k).1.1.s.d.C)/\(Z0 Y9 y.d.keep (I6 e k).1.1.s.d.keep)/\(Z0 Y1 y.L (I6 e k).1.1.s.L)/\(x.2.2.2=(I6 e k).1.2/\y.fr.length=(I6 e k).1.1.s.fr.length/\V2 y.fr.length (Y5 y.fr) (Y5 (I6 e k).1.1.s.fr))/\(Z0 X2 z (I6 e k).1.1.X)/\(Z0 Z2 u (I6 e k).1.1.lk.H)/\(Z0 Y7 v (I6 e k).1.1.lk.W)/\True)) ⟨(e,tx,0,k),⟨Z8,Z8,U,Int.le_refl _⟩,λhq=>?_,λhq=>?_⟩
 ·have h0:¬ (u7 e k 0).2=0:=by simpa using hq
  rw[b6r h0];exact Z8
 ·have h0:(u7 e k 0).2=0:=by simpa using hq
  have u:=b7B h0;have h:=R.1 u;have A:=(a4p h (c4A h)).1;have f:=h.lk;have i:=h.t10;rw[b5z h0];dsimp only;rw[a0O u];have N:(E9 (Q9 e k 0).1.1 k pY).X.length=(Q9 e k 0).1.1.X.length:=zW;exact⟨((Q9 e k 0).1.1,tx,pY,k,(Q9 e k 0).1.2),⟨Z8,Z8,A⟩,(E9 (Q9 e k 0).1.1 k pY,tx,k,(Q9 e k 0).1.2),⟨Z8,Z8,a0s h.lt h.at_,by dsimp only;rw[N];exact h.lt,(b0J h.lt).trans h.id,X5,by show(Q9 e k 0).1.1.lk.H.length<=_;omega,by show(Q9 e k 0).1.1.lk.W.length<=_;omega⟩,⟨rfl,Z6⟩,⟨rfl,rfl,⟨rfl,rfl⟩,⟨rfl,rfl⟩,rfl,⟨rfl,rfl⟩,rfl,⟨rfl,rfl⟩,rfl,⟨rfl,rfl⟩,rfl,rfl,⟨rfl,rfl⟩,⟨rfl,rfl⟩,⟨rfl,rfl⟩,rfl,Z6⟩,Z6,Z6,Z6,Z6,Z6,Z6,Z6,Z6,⟨rfl,X6 _ _⟩,⟨rfl,X6 _ _⟩,⟨rfl,X6 _ _⟩,⟨rfl,X6 _ _⟩,⟨rfl,rfl,mU _⟩,⟨rfl,X6 _ _⟩,⟨rfl,X6 _ _⟩,⟨rfl,X6 _ _⟩,Z6⟩
def uR{a:Bool}(h:(!a)=true):a=false:=by cases a with|true=>cases h|false=>rfl
def c44{e:Eng}{k:Nat}{tx:Int}(h:UE e k tx):M7 e:=by
 have d:=h.t10;have f:=h.lk;exact⟨h.si.iv.sm,Z9,Z9,Z9⟩
def c6E{e:Eng}{k:Nat}{tx lsn:Int}(R:c0x (Q9 e k lsn) k tx):M7 (u7 e k lsn).1.1:=by
 cases h:(Q9 e k lsn).2 with
 |true=>rw[a0O h];exact c44 (R.1 h)
 |false=>rw[a0D h];exact a1f (R.2 h).1
def c7u{e:Eng}{k:Nat}{tx:Int}(hR:c0x (Q9 e k 0) k tx):M7 (I6 e k).1.1:=by
 by_cases h0:(u7 e k 0).2=0
 ·have hE:=hR.1 (b7B h0);have hA:=a4p hE (c4A hE);have hS:=a8z hE.si hA.2 hE.rm;have h10:=hE.t10;have hlk:=hE.lk;rw[b5z h0];have b1:=q7 (hF ((E9 (Q9 e k 0).1.1 k pY).X.getD k dz).id) (Q9 e k 0).1.1.lk.H (Q9 e k 0).1.1.lk.H.length;have b2:=q7 (wF ((E9 (Q9 e k 0).1.1 k pY).X.getD k dz).id) (Q9 e k 0).1.1.lk.W (Q9 e k 0).1.1.lk.W.length;have hlen:(E9 (Q9 e k 0).1.1 k pY).X.length=(Q9 e k 0).1.1.X.length:=zW;refine⟨hS.iv.sm,?_,?_,?_⟩
  ·show(List.take k (E9 (Q9 e k 0).1.1 k pY).X++List.drop (k+1) (E9 (Q9 e k 0).1.1 k pY).X).length<=_;rw[F9,List.length_take,List.length_drop,hlen];omega
  ·show(X8 _ (Q9 e k 0).1.1.lk.H (Q9 e k 0).1.1.lk.H.length).length<=_;omega
  ·show(X8 _ (Q9 e k 0).1.1.lk.W (Q9 e k 0).1.1.lk.W.length).length<=_;omega
 ·rw[b6r h0];exact c6E hR
def b83:M7 uU:=⟨⟨Z8,N4 _,N4 _,λi hi=>absurd hi (D2 _)⟩,Z8⟩
def c6o:Con:=.rel ⟨Eng×Nat×Int×Int,λx=>[.agg x.1.ts,Ji x.2.1,Ji x.2.2.1],λx=>.tup [.agg (Q9 x.1 x.2.1 x.2.2.1).1.1.ts,.bool (Q9 x.1 x.2.1 x.2.2.1).2],λx=>UI x.1 x.2.1 x.2.2.2 (x.1.X.getD x.2.1 dz).Z/\0<=x.2.2.1⟩
def c5B(e:Eng)(k:Nat)(to tx:Int):Nat->Ann
 |0=>.one (UdI (Q9 e k to) k tx to) (λx=>⟨[(1,Ji k),(2,Ji to),(3,.ref 0 0 0),(6,.ref 1 0 0),(7,.bool false),(8,Ji x.a)],[l8 x.e,l8 uU]⟩) (λx=>x.f) iQ iQ (λ_=>Z3)
 |_=>.none
def c3l(e:Eng)(k:Nat)(r:Rec):(E9 e k (wY r)).s.L.getD (((e.s.L.length+1:Nat):Int)-1).toNat dz=dO e k r:=by
 have d:(((e.s.L.length+1:Nat):Int)-1).toNat=e.s.L.length:=Z9
 rw[d,P4]
 show((e.s.L++[dO e k r])[e.s.L.length]?).getD dz=_;rw[List.getElem?_concat_length]
 rfl
def c3P:GK 263 c6o:=gk func263<|by
 rintro⟨e,k,to,tx⟩ ⟨U,r⟩;dsimp only at U r;have har:=U.ar;have M:=U.u.rm;refine U5 (gC a1G (gC jL (gC P6 gN))) func263 (c5B e k to tx) (α:=let w:=(Q9 e k to);let v:=(0=0/\0=0);let q:=(1=1/\1=1/\(0=0/\Z7 0 (Z5 []) (Z5 []))/\(0=0/\Z7 0 (Z1 []) (Z1 []))/\false=false/\(0=0/\Z7 0 (Y9 []) (Y9 []))/\(0:Int)=0/\(0=0/\Z7 0 (Y1 []) (Y1 []))/\(0:Int)=0/\(0=0/\Z7 0 (V9 []) (V9 []))/\(0:Int)=0/\false=false/\(0=0/\Z7 0 (X2 []) (X2 []))/\(0=0/\Z7 0 (Z2 []) (Z2 []))/\(0=0/\Z7 0 (Y7 []) (Y7 []))/\(0:Int)=0/\True);W9 (k:Int) e.X.length/\(∃(x:UdI (Q9 e k to) k tx to),((k:Int)=(k:Int)/\to=to/\v/\v/\false=false/\(e.X.getD (k:Int).toNat dz).Z=x.a/\True)/\(1=1/\1=1/\L0 e x.e)/\(1=1/\1=1/\0=0/\0=0/\false=false/\0=0/\(0:Int)=0/\0=0/\(0:Int)=0/\0=0/\(0:Int)=0/\false=false/\0=0/\0=0/\0=0/\(0:Int)=0/\True)/\True)/\∀(x:UdI (Q9 e k to) k tx to),let r:=(x.e.s.L.getD (x.a-1).toNat dz);bd (x.a>to) (Ri (x.a-1)/\W9 (x.a-1) x.e.s.L.length/\br (r.k==3) (∃(y:UdI (Q9 e k to) k tx to),(((k:Int)=(k:Int)/\to=to/\v/\v/\false=false/\r.n=y.a/\True)/\(1=1/\1=1/\L0 x.e y.e)/\q/\True)/\Lt y.f x.f) (br (r.k==2) (∃(X:(Eng×Nat×Rec)),let z:=(X.1.X.set X.2.1 (Txn.mk (X.1.X.getD X.2.1 dz).id ((X.1.s.L.length:Int)+1)));(((L0 x.e X.1)/\(k:Int)=(X.2.1:Int)/\(0=X.2.2.e/\0=X.2.2.l/\0=X.2.2.t/\3=X.2.2.k/\0=X.2.2.p/\r.p=X.2.2.n/\r.g=X.2.2.g/\r.s=X.2.2.s/\[]=X.2.2.b/\r.b=X.2.2.a/\True)/\True)/\X.2.1<X.1.X.length/\X.1.X.length<=1000/\X.1.s.L.length<=1000)/\∃(d:(Sto×Int)),let u:=(T9 d.1 (d.1.L.getD (d.2-1).toNat dz));(((yS {X.1.s with L:=(X.1.s.L++[P9 X.1.s (B9 X.1 X.2.1 X.2.2)])} d.1)/\(↑(X.1.s.L.length+1):Int)=d.2/\True)/\SInv d.1/\1<=d.2/\d.2<=(d.1.L.length:Int))/\br (! u.2) ((L0 {X.1 with s:=u.1,X:=z} w.1.1)/\false=w.2/\True) (∃(y:UdI (Q9 e k to) k tx to),(((k:Int)=(k:Int)/\to=to/\v/\v/\false=false/\r.p=y.a/\True)/\(1=1/\1=1/\L0 {X.1 with s:=u.1,X:=z} y.e)/\q/\True)/\Lt y.f x.f)) (∃(y:UdI (Q9 e k to) k tx to),(((k:Int)=(k:Int)/\to=to/\v/\v/\false=false/\r.p=y.a/\True)/\(1=1/\1=1/\L0 x.e y.e)/\q/\True)/\Lt y.f x.f))) ((L0 x.e w.1.1)/\true=w.2/\True)) ⟨Y6 U.u.lt,⟨⟨e,0,(e.X.getD k dz).Z,61,U,Z9,rfl⟩,Z8⟩,λx=>?_⟩
 obtain⟨e',V,a,f,h,F,q⟩:=x;dsimp only;have o:=h.u.rm;have har:=h.ar;refine⟨λhc=>?_,λhc=>?_⟩
 ·have h1:1<=a:=by have:=G7 hc;omega
  have j:¬a<=to:=by have:=G7 hc;omega
  obtain⟨I,C,A,B⟩:=h.u.si.logP.prev h1 har.2;refine⟨Z4 Z9,⟨Z9,Z9⟩,λi=>?_,λi=>⟨λh2=>?_,λh2=>?_⟩⟩
  ·have i:(Y8 e'.s.L a).k=3:=beq_iff_eq.1 i;exact⟨⟨e',V,(Y8 e'.s.L a).n,f-1,c6Y h h1 i,Z9,(a8c j Z9 i).symm.trans q⟩,Z8,J8⟩
  ·have h2:(Y8 e'.s.L a).k=2:=beq_iff_eq.1 h2;obtain⟨hR,hA,hb,hS⟩:=a9R h.u h1 har.2 h2;have e1:=c3l e' k (Y8 e'.s.L a);refine⟨(e',k,wY (Y8 e'.s.L a)),⟨Z8,h.u.lt,by have:=h.u.t10;dsimp only;omega,X5⟩,((E9 e' k (wY (Y8 e'.s.L a))).s,((e'.s.L.length+1:Nat):Int)),⟨⟨jR (E9 e' k (wY (Y8 e'.s.L a))).s,rfl,Z6⟩,hS.iv,X5,by rw[sG];exact Int.le_refl _⟩,λhu=>?_,λhu=>?_⟩
   ·dsimp only at hu ⊢;rw[e1] at hu ⊢;have hu:(B3 e' k (Y8 e'.s.L a)).2=false:=by
     have hu:(!(B3 e' k (Y8 e'.s.L a)).2)=true:=hu
     simpa using hu
    have z:=(a6e (v:=V) j Z9 h2 hu).symm.trans q
    rw[←z];exact⟨vR (B3 e' k (Y8 e'.s.L a)).1,Z8⟩
   ·dsimp only at hu ⊢;rw[e1] at hu ⊢;have hu:(B3 e' k (Y8 e'.s.L a)).2=true:=by
     have hu:(!(B3 e' k (Y8 e'.s.L a)).2)=false:=hu
     simpa using hu
    exact⟨⟨(B3 e' k (Y8 e'.s.L a)).1,bP e' k (Y8 e'.s.L a) V,(Y8 e'.s.L a).p,f-1,a9i h h1 h2 hu,Z9,(a8U j Z9 h2 hu).symm.trans q⟩,⟨Z8,⟨rfl,rfl,vR (B3 e' k (Y8 e'.s.L a)).1⟩,Z8⟩,J8⟩
  ·have i:(Y8 e'.s.L a).k≠3:=λe=>by
    have i:((Y8 e'.s.L a).k==3)=false:=i;rw[e] at i;cases i
   have h2:(Y8 e'.s.L a).k≠2:=λe=>by
    have h2:((Y8 e'.s.L a).k==2)=false:=h2;rw[e] at h2;cases h2
   exact⟨⟨e',V,(Y8 e'.s.L a).p,f-1,c6u h h1 i,Z9,(a74 j Z9 i h2).symm.trans q⟩,Z8,J8⟩
 ·have ha:a<=to:=by have:=r9 hc;omega
  rw[←q,rZ ha];exact Z8
def c5E:Con:=.rel ⟨Eng×Nat×Int,λx=>[.agg x.1.ts,Ji x.2.1],λx=>.tup [.agg (I6 x.1 x.2.1).1.1.ts,.bool ((I6 x.1 x.2.1).2==0)],λx=>UI x.1 x.2.1 x.2.2 (x.1.X.getD x.2.1 dz).Z⟩
def c4d:GK 166 c5E:=gk func166<|by
 rintro⟨e,k,tx⟩ U;dsimp only at U;have R:=b1c U (Int.le_refl 0);refine U5 (gC c3P (gC a1G (gC oG (gC a8F gN)))) func166 Z3 (α:=∃(x:(Eng×Nat×Int×Int)),let q:=(Q9 x.1 x.2.1 x.2.2.1);(((L0 e x.1)/\(k:Int)=(x.2.1:Int)/\0=x.2.2.1/\True)/\UI x.1 x.2.1 x.2.2.2 (x.1.X.getD x.2.1 dz).Z/\0<=x.2.2.1)/\br (! q.2) (∃(X:(Eng×Dsk)),(((L0 q.1.1 X.1)/\(zJ q.1.1.s.d X.2)/\True)/\G0 X.2/\X.2.E.length=69)/\(L0 (j8 (sdE X.1 X.2)) (I6 e k).1.1)/\false=((I6 e k).2==0)/\True) (∃(X:(Eng×Nat×Rec)),(((L0 q.1.1 X.1)/\(k:Int)=(X.2.1:Int)/\(0=X.2.2.e/\0=X.2.2.l/\0=X.2.2.t/\5=X.2.2.k/\0=X.2.2.p/\0=X.2.2.n/\0=X.2.2.g/\0=X.2.2.s/\[]=X.2.2.b/\[]=X.2.2.a/\True)/\True)/\X.2.1<X.1.X.length/\X.1.X.length<=1000/\X.1.s.L.length<=1000)/\∃(x:(Eng×Nat)),let z:=x.1.lk;let r:=(x.1.X.getD x.2 dz).id;(((L0 {X.1 with s:={X.1.s with L:=(X.1.s.L++[P9 X.1.s (B9 X.1 X.2.1 X.2.2)])},X:=(X.1.X.set X.2.1 (Txn.mk (X.1.X.getD X.2.1 dz).id ((X.1.s.L.length:Int)+1)))} x.1)/\(k:Int)=(x.2:Int)/\True)/\x.2<x.1.X.length/\x.1.X.length<=1000/\z.H.length<=1000000/\z.W.length<=1000000)/\(L0 {x.1 with X:=(List.take x.2 x.1.X++List.drop (x.2+1) x.1.X),lk:=⟨(X8 (hF r) z.H z.H.length),(X8 (wF r) z.W z.W.length)⟩} (I6 e k).1.1)/\true=((I6 e k).2==0)/\True)) ⟨(e,k,0,tx),⟨Z8,U,Int.le_refl _⟩,λhq=>?_,λhq=>?_⟩
 ·have hu:(Q9 e k 0).2=false:=by simpa using hq
  have f:I6 e k=((j8 (Q9 e k 0).1.1,0),15):=by rw[b6r (by rw[a0D hu];simp),a0D hu]
  rw[f];exact⟨((Q9 e k 0).1.1,(Q9 e k 0).1.1.s.d),⟨⟨vR (Q9 e k 0).1.1,Z8⟩,(R.2 hu).1,(R.2 hu).2⟩,Z8⟩
 ·have hu:(Q9 e k 0).2=true:=by simpa using hq
  have h:=R.1 hu;have i:=h.lt;have j:=h.t10;have o:=h.rm;have q:=h.lk;have r:=sG (Q9 e k 0).1.1 k pY;have L:((Q9 e k 0).1.1.X.set k ⟨((Q9 e k 0).1.1.X.getD k dz).id,((Q9 e k 0).1.1.s.L.length:Int)+1⟩).length=(Q9 e k 0).1.1.X.length:=zW;rw[b5z (by rw[a0O hu])]
  exact⟨((Q9 e k 0).1.1,k,pY),⟨⟨vR (Q9 e k 0).1.1,Z8⟩,i,X5,X5⟩,(E9 (Q9 e k 0).1.1 k pY,k),⟨Z8,by show k<List.length (List.set _ _ _);omega,by show List.length (List.set _ _ _)<=_;omega,by show(Q9 e k 0).1.1.lk.H.length<=_;omega,by show(Q9 e k 0).1.1.lk.W.length<=_;omega⟩,vR (b2h (E9 (Q9 e k 0).1.1 k pY) k),rfl,Z6⟩
def c8m(e:Eng)(k:Nat)(lsn:Int):(u7 e k lsn).2=0∨(u7 e k lsn).2=15:=by
 cases h:(Q9 e k lsn).2 with
 |true=>rw[a0O h];exact .inl rfl
 |false=>rw[a0D h];exact .inr rfl
def c9d(e:Eng)(k:Nat):(I6 e k).2=0∨(I6 e k).2=15:=by
 unfold I6;split
 ·exact .inl rfl
 ·exact c8m e k 0
end
end Go.Proofs.YtpdnnhnfongoeaaGreat
