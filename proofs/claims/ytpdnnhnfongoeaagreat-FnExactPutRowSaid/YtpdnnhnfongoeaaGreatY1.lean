/- A part of the proof. -/
import Derived.Test.YtpdnnhnfongoeaaGreatX1
namespace Go.Proofs.YtpdnnhnfongoeaaGreat
set_option maxRecDepth 100000
open Go.SS Go.Proofs.Tryz
noncomputable section
def c1w(l:Bz)(L:List (Bz)):Nat->Ann
 |0=>.one (Up L.length) (λx=>⟨[(0,.osl 1 0 (l++V7 L x.1).length),(13,u2 L),(14,Ji L.length),(15,Ji x.1)],[none,some (.bys 5 (l++V7 L x.1))]⟩) (λx=>L.length-x.1) [.arr 0,.arr 2] [.arr 0,.at_ 0] (λ_=>Z3)
 |_=>.none
def a03:Con:=.reff ⟨Bz×List (Bz),λx=>[.osl 0 0 x.1.length,u2 x.2],λx=>[some (.bys 5 x.1)],λx=>.osl 1 0 (x.1++S5 x.2).length,λx=>[none,some (.bys 5 (x.1++S5 x.2))],λx=>x.1.length<=1000/\k9 x.2⟩
def bI:GK 332 a03:=gk func332<|by
 rintro⟨l,L⟩ ⟨g,h,h3⟩;dsimp only at g h h3;have f:List.take l.length l++List.take 1 (List.drop 0 (List.map R1 [IntKind.u8.wrap (L.length:Int)]))=l++V7 L 0:=by rw[j_l];rfl
 refine C6 gN func332 (c1w l L) [[.arr 0,.arr 1]] (α:=let z:=(L.length:Int);R2 IntKind.u8 (IntKind.u8.wrap z)/\(Le 1 1/\Le l.length l.length/\U8 l.length 1 1)/\(∃(x:Up L.length),((0=0/\l.length+1=(l++V7 L x.1).length)/\(Z0 Z5 L L)/\z=z/\0=(x.1:Int)/\True)/\True/\List.take l.length l++List.take 1 (List.drop 0 (List.map R1 [IntKind.u8.wrap z]))=l++V7 L x.1/\True)/\∀(x:Up L.length),let u:=(x.1:Int);let q:=(L.getD u.toNat []).length;let p:=(l++V7 L x.1).length;let r:=(List.take p (l++V7 L x.1)++List.take 1 (List.drop 0 (List.map R1 [IntKind.u8.wrap (↑q:Int)])));bd (u<z) (W9 u L.length/\R2 IntKind.u8 (IntKind.u8.wrap (↑q:Int))/\(Le 1 1/\Le p p/\U8 p 1 1)/\(Le (p+1) r.length/\U8 (p+1) q 1)/\Ri (u+1)/\∃(y:Up L.length),(((0=0/\p+1+q=(l++V7 L y.1).length)/\(Z0 Z5 L L)/\z=z/\u+1=(y.1:Int)/\True)/\True/\List.take (p+1) r++L.getD u.toNat []=l++V7 L y.1/\True)/\Lt (L.length-y.1) (L.length-x.1)) (((0=0/\p=(l++S5 L).length)/\True)/\True/\l++V7 L x.1=l++S5 L/\True)) ⟨O7 _,⟨U9 _,U9 _,R0⟩,⟨⟨0,N4 _⟩,⟨⟨rfl,by simp[V7]⟩,⟨rfl,X6 _ _⟩,rfl,rfl,Z6⟩,Z6,f,Z6⟩,λx=>⟨λhc=>?_,λhc=>?_⟩⟩
 ·have hlt:=Y2 hc;have f1:=vY L h3 x.1 Z9
  have F:=h3 x.1 hlt;rw[E3];have i:(l++V7 L x.1).length<=1100000:=by rw[F9];omega
  have e:List.take (l++V7 L x.1).length (l++V7 L x.1)++List.take 1 (List.drop 0 (List.map R1 [IntKind.u8.wrap ((L.getD x.1 []).length:Int)]))=l++V7 L x.1++[yJ (L.getD x.1 []).length]:=by
   rw[j_l];rfl
  rw[e];have d:(l++V7 L x.1++[yJ (L.getD x.1 []).length]).length=(l++V7 L x.1).length+1:=by rw[F9];rfl
  refine⟨Y6 hlt,O7 _,⟨U9 _,U9 _,R0⟩,⟨by rw[d];exact U9 _,R0⟩,Z4 Z9,⟨x.1+1,hlt⟩,⟨⟨⟨rfl,?_⟩,Z8,rfl,X5,Z6⟩,Z6,?_,Z6⟩,V5.ext_lt hlt⟩
  ·simp only[V7,F9,List.length_cons,List.length_nil];omega
  ·rw[←d,j_l];simp only[V7,List.append_assoc]
 ·have hx:x.1=L.length:=by have:=x.2;have:=Y0 hc;omega
  rw[hx];exact Z8
def b34:Con:=.reff ⟨Bz,λl=>[.osl 0 0 l.length],λl=>[some (.bys 5 l)],λl=>.osl 1 0 (l++z8 (zO l)).length,λl=>[none,some (.bys 5 (l++z8 (zO l)))],λl=>l.length<=1000000⟩
def a8H:GK 247 b34:=gk func247<|by
 intro(l:Bz) (hl:l.length<=1000000);have e:(z8 (zO l)).length=4:=rfl;have h:=a1W l;refine C6 (gC oS (gC a2S gN)) func247 Z3 [[.arr 0,.arr 1]] (α:=∃(x:(tY IntKind.u32).ι),(Le (0+l.length) l.length/\(List.take l.length (List.drop 0 l)=x/\True)/\v5 x)/\∃(X:Nat),((IntKind.i64.wrap (↑(zO x):Int)=(X:Int)/\True)/\X<4294967296)/\(Le l.length l.length/\U8 l.length 4 1)/\((0=0/\l.length+4=(l++z8 (zO l)).length)/\True)/\True/\List.take l.length l++z8 X=l++z8 (zO l)/\True) ⟨l,⟨K0,⟨cI,Z6⟩,a0W⟩,zO l,⟨⟨?_,Z6⟩,h⟩,⟨U9 _,R0⟩,⟨⟨rfl,by rw[F9,e]⟩,Z6⟩,Z6,by rw[j_l],Z6⟩
 rw[IntKind.wrap_i64];omega
def a5n:Con:=.rmk ⟨Int×Pg,λx=>[Ji x.1,.agg x.2.ts],λ_=>[],λx=>.osl 0 0 (S4 x.1 x.2).length,λx=>[some (.bys 5 (S4 x.1 x.2))],λx=>PgP x.2⟩
def a2x:GK 272 a5n:=gk func272<|by
 rintro⟨no,p⟩ ⟨j,g,l,d⟩;dsimp only at j g l d;have f:k9 p.sl:=⟨Z9,λi hi=>Nat.le_trans (d i hi) M4⟩
 have h:=vY p.sl f.2 p.sl.length (U9 _);have h:(S5 p.sl).length<=5000:=by unfold S5;omega
 have e:List.map R1 [(112:Int),IntKind.u8.wrap no,IntKind.u8.wrap (p.Q.fdiv 256),IntKind.u8.wrap p.Q]=[R1 112,yJ no]++yX p.Q.toNat:=by
  unfold yX;rw[show((p.Q.toNat:Nat):Int)=p.Q by omega,Int.fdiv_one]
  rfl
 refine⟨C6 (gC bI (gC a8H gN)) func272 Z3 [[.arr 3]] (α:=let q:=(p.Q.fdiv (256:Int));Nn (8:Int)/\(R2 IntKind.u8 (112:Int)/\R2 IntKind.u8 (IntKind.u8.wrap no)/\R2 IntKind.u8 (IntKind.u8.wrap q)/\R2 IntKind.u8 (IntKind.u8.wrap p.Q))/\∃(x:(Bz×List (Bz))),(((0=0/\4=x.1.length)/\(Z0 Z5 p.sl x.2)/\True)/\(List.map R1 [(112:Int),IntKind.u8.wrap no,IntKind.u8.wrap q,IntKind.u8.wrap p.Q]=x.1/\True)/\x.1.length<=1000/\k9 x.2)/\∃(X:(Bz)),(((0=0/\(x.1++S5 x.2).length=X.length)/\True)/\(x.1++S5 x.2=X/\True)/\X.length<=1000000)/\((0=0/\(X++z8 (zO X)).length=(S4 no p).length)/\True)/\X++z8 (zO X)=S4 no p/\True) ⟨m3,⟨(pI _).2 Z9,O7 _,O7 _,O7 _⟩,([R1 112,yJ no]++yX p.Q.toNat,p.sl),⟨Z8,⟨e,Z6⟩,by simp[yX],f⟩,sD no p,⟨⟨⟨rfl,rfl⟩,Z6⟩,⟨rfl,Z6⟩,?_⟩,⟨⟨rfl,rfl⟩,Z6⟩,rfl,Z6⟩,rfl,B2 trivial v9⟩
 unfold sD;rw[F9,F9];have n:(yX p.Q.toNat).length=2:=rfl;simp only[List.length_cons,List.length_nil];omega
def a8A:Con:=.rmk ⟨Unit,λ_=>[],λ_=>[],λ_=>.agg (Pg.tm ⟨0,[[],[],[],[]]⟩ 0),λ_=>[A1 [[],[],[],[]]],λ_=>True⟩
def a53(h:
  (Nn (4:Int)/\LeI (4:Int) (4:Int)/\yO 16 4 140737488355328/\Lt 4 9223372036854775808)/\(((0:Int)=0/\(0=0/\4=4)/\True)/\True)/\(4=4/\Z7 4 (λ(x:Nat)=>[T.str []]) (Z5 [[],[],[], []]))/\True):
  G3 prog 273 [] [] (.agg (Pg.tm ⟨0,[[],[],[],[]]⟩ 0)) [A1 [[],[],[],[]]]:=
 C6 gN func273 Z3 [[.arr 1]] h
def a5z:GK 273 a8A:=gk func273<|λ_ _=>⟨a53 ⟨⟨m3,sH,sX,Q2⟩,Z8,⟨rfl,gS⟩,Z6⟩,rfl,z7 _⟩
def b3L:Con:=.reff ⟨Bz×Bool,λ_=>[.ref 0 0 0],λx=>[rdr x.1 x.2],λx=>.osl 1 0 (U1 x.1 x.2).out.length,λx=>[rdr (U1 x.1 x.2).l (U1 x.1 x.2).fl,A1 (U1 x.1 x.2).out],λ_=>True⟩
def a6A:GK 322 b3L:=gk func322<|by
 rintro⟨l,fl⟩ _;have n:=r6 l;refine C6 (gC eI (gC qI gN)) func322 (a5l l fl) [b5o] (α:=let w:=(U1 l fl);(∃(x:Up ((numR l).toNat)),let q:=(F2 l fl x.1);((0=0/\0=0)/\(0=0/\0=q.out.length)/\numR l=numR l/\0=(x.1:Int)/\True)/\(1=1/\1=1/\List.drop 1 l=q.l/\(fl||l.isEmpty)=q.fl/\True)/\(0=q.out.length/\Z7 0 (λ(k:Nat)=>List.take 1 (List.drop (k*1) [])) (Z5 q.out))/\True)/\∀(x:Up ((numR l).toNat)),let j:=(x.1:Int);let p:=(F2 l fl x.1);let v:=(numR p.l);let u:=(List.drop 1 p.l);let z:=p.out.length;bd (j<numR l) (r8 v/\(Le 1 1/\Le p.out.length z/\U8 p.out.length 1 16)/\Ri (j+1)/\∃(y:Up ((numR l).toNat)),let r:=(F2 l fl y.1);(((0=0/\0=0)/\(0=0/\z+1=r.out.length)/\numR l=numR l/\j+1=(y.1:Int)/\True)/\(1=1/\1=1/\Q8 u v=r.l/\(p.fl||p.l.isEmpty||big u v)=r.fl/\True)/\(z+1=r.out.length/\Z7 (z+1) (X4 (Z5 p.out) p.out.length λ(k:Nat)=>List.take 1 (List.drop (k*1) [T.str (T4 u v)])) (Z5 r.out))/\True)/\Lt ((numR l).toNat-y.1) ((numR l).toNat-x.1)) (((0=0/\z=w.out.length)/\True)/\(1=1/\1=1/\p.l=w.l/\p.fl=w.fl/\True)/\(Z0 Z5 p.out w.out)/\True)) ⟨⟨⟨0,N4 _⟩,Z8,Z8,⟨rfl,nE _ _⟩,Z6⟩,λx=>⟨λhc=>?_,λhc=>?_⟩⟩
 ·have t:(x.1:Int)<numR l:=G7 hc;have h:=uG l fl x.1;have M:=r6 (F2 l fl x.1).l;exact⟨⟨M.1,Z9⟩,⟨U9 _,U9 _,Z9,Z9⟩,Z4 Z9,⟨x.1+1,Z9⟩,⟨⟨Z8,⟨rfl,(congrArg (· +1) h).trans (uG l fl (x.1+1)).symm⟩,rfl,M0,Z6⟩,Z8,⟨(congrArg (· +1) h).trans (uG l fl (x.1+1)).symm,a2G _ _⟩,Z6⟩,nC⟩
 ·have hge:¬ (x.1:Int)<numR l:=r9 hc;have hx:=x.2;have he:x.1=(numR l).toNat:=by omega
  rw[he];exact Z8
def a5i:Con:=.rmk ⟨Int×Bz,λx=>[Ji x.1,.bys x.2],λ_=>[],λx=>.tup [.agg ((P2 x.1 x.2).tm 0),Ji (I3 x.1 x.2)],λx=>[A1 (P2 x.1 x.2).sl],λx=>RdB x.2⟩
def a2Q:GK 274 a5i:=gk func274<|by
 rintro⟨no,b⟩ (hb:b.length<=1000);have L:∀(x:Bz),(T4 x 4).length=4:=λx=>by
  unfold T4;split
  ·exact List.length_replicate
  ·rename_i h;have:¬4>(x.length:Int):=by simpa[big] using h
   rw[List.length_take,show(4:Int).toNat=4 from rfl]
   omega
 refine⟨C6 (gC sK (gC qI (gC a2J (gC a6A (gC qP (gC pF gN)))))) func274 Z3 [[.nilS 0 [0,1] 0 1,.arr 4],[.arr 2],[.nilS 0 [0,1] 0 1,.arr 1]] (α:=let w:=(P2 no b);let r:=w.sl.length;let u:=(0=w.Q/\(0=0/\0=r)/\True);bd ((b.length:Int)>65536) (((u/\2=I3 no b/\True)/\True)/\(0=r/\Z7 0 (λ(x:Nat)=>[]) (Z5 w.sl))/\True) (∃(x:tG.ι),let y:=(0=r/\Z7 0 (λ(x:Nat)=>[]) (Z5 w.sl));let p:=(T4 (X1 x) (4:Int));let j:=(↑(p.getD 1 (0:UInt8)).toNat:Int);let z:=(↑(p.getD 0 (0:UInt8)).toNat:Int);((b=x/\True)/\v5 x)/\br (!S0 x) (((u/\8=I3 no b/\True)/\True)/\y/\True) (r8 (4:Int)/\jX (2:Int) p.length/\∃(e:a5L.ι),((List.drop 2 p=e/\True)/\mL e)/\∃(X:(Bz×Bool)),let v:=(U1 X.1 X.2);let k:=v.out.length;let q:=(! v.fl&&v.l.isEmpty);(((0=0/\0=0)/\True)/\((1=1/\Z7 1 (λ(d:Nat)=>[T.bys (Q8 (X1 x) (4:Int)),T.bool (false||big (X1 x) (4:Int))]) λ(x:Nat)=>[T.bys X.1,T.bool X.2])/\True)/\True)/\((! q)=false->W9 (0:Int) p.length)/\((! q||z !=112)=false->W9 (1:Int) p.length)/\∃(d:xB.ι),((! q||z !=112||IntKind.i64.wrap j !=no)=false->Le (0+k) k/\(((↑(be e):Int)=d.Q/\(Z0 Z5 v.out d.sl)/\True)/\True)/\PgB d)/\br (! q||z !=112||IntKind.i64.wrap j !=no|| !k4 d) (((u/\3=I3 no b/\True)/\True)/\y/\True) (((((↑(be e):Int)=w.Q/\(0=0/\k=r)/\True)/\0=I3 no b/\True)/\True)/\(Z0 Z5 v.out w.sl)/\True)))) ⟨λh=>?_,λ_=>⟨b,⟨Z8,Nat.le_trans hb M4⟩,λh=>?_,λh=>⟨⟨Z9,Z9⟩,⟨Z9,a0b⟩,(T4 (X1 b) 4).drop 2,⟨Z8,by unfold mL;rw[List.length_drop,L];omega⟩,
  (Q8 (X1 b) 4,false||big (X1 b) 4),K8,λ_=>⟨Z9,a0b⟩,λ_=>⟨Z9,a0b⟩,rpQ (X1 b),λ_=>⟨uA _,Z8,?_⟩,λg=>?_,λg=>?_⟩⟩⟩,rfl,z7 _⟩
 ·have:=G7 h;omega
 ·have hu:S0 b=false:=by simpa using h
  have f:(E5 no b).2=false:=by unfold E5;rw[hu];rfl
  have i:P2 no b=⟨0,[]⟩:=by unfold P2;rw[f];rfl
  have j:I3 no b=8:=by unfold I3;rw[hu];rfl
  rw[i,j];exact K8
 ·show(U1 (Q8 (X1 b) 4) (false||big (X1 b) 4)).out.length<1000000000000;unfold U1;rw[uG];have:=r6 (Q8 (X1 b) 4);omega
 ·have hu:S0 b=true:=by simpa using h
  have q:=(b0m no b hu).1;have f:(E5 no b).2=false:=by
   have g:(mQ no (X1 b)|| !k4 (rpQ (X1 b)))=true:=g;rw[g] at q;exact(vZ _).mp q.symm
  have i:P2 no b=⟨0,[]⟩:=by unfold P2;rw[f];rfl
  have j:I3 no b=3:=by unfold I3;rw[hu,f];rfl
  rw[i,j];exact K8
 ·have hu:S0 b=true:=by simpa using h
  have q:=b0m no b hu;have f:(E5 no b).2=true:=by
   have g:(mQ no (X1 b)|| !k4 (rpQ (X1 b)))=false:=g;rw[g] at q;exact(wU _).mp q.1.symm
  have i:P2 no b=rpQ (X1 b):=by unfold P2;rw[f,q.2 f];rfl
  have j:I3 no b=0:=by unfold I3;rw[hu,f];rfl
  rw[i,j];exact K8
def DkB(x:Dsk×Nat):Prop:=1+x.2<x.1.E.length/\x.1.E.length<=1048576/\x.1.C.length<=1048576/\(S1 x.1 (1+x.2)).length<=1000
def b7v:Con:=.rmk ⟨Dsk×Nat,λx=>[.bref x.1.ts,Ji x.2],λ_=>[],λx=>.tup [.agg ((T1 x.1 x.2).1.tm 0),.bool (T1 x.1 x.2).2],λx=>[A1 (T1 x.1 x.2).1.sl],DkB⟩
def aR:GK 187 b7v:=gk func187<|by
 rintro⟨d,no⟩ ⟨g,i,j,f⟩;dsimp only at g i j f;refine⟨C6 (gC dM (gC a5z (gC a2Q gN))) func187 Z3 [[.arr 1]] (α:=let p:=(T1 d no);let q:=p.1.sl.length;Ri (1+(no:Int))/\∃(x:oF.ι),(((zJ d x.1)/\1+(no:Int)=(x.2:Int)/\True)/\AtB x)/\br (S1 x.1 x.2==[]) (∃(x:Unit),(True/\True)/\(((0=p.1.Q/\(0=0/\4=q)/\True)/\true=p.2/\True)/\True)/\(4=q/\Z7 4 (Z5 [[],[],[],[]]) (Z5 p.1.sl))/\True) (Lt (S1 x.1 x.2).length 140737488355329/\∃(X:(Int×Bz)),let r:=(P2 X.1 X.2);(((no:Int)=X.1/\S1 x.1 x.2=X.2/\True)/\RdB X.2)/\(((r.Q=p.1.Q/\(0=0/\r.sl.length=q)/\True)/\(I3 X.1 X.2==0)=p.2/\True)/\True)/\(Z0 Z5 r.sl p.1.sl)/\True)) ⟨Z4 Z9,(d,1+no),⟨⟨eqD _,M0,Z6⟩,g,M0⟩,λh=>⟨(),Z8,?_⟩,λh=>⟨nC,((no:Int),S1 d (1+no)),⟨Z8,f⟩,?_⟩⟩,rfl,z7 _⟩
 ·have h:S1 d (1+no)=[]:=by simpa using h
  have e:T1 d no=(⟨0,[[],[],[],[]]⟩,true):=by unfold T1;rw[if_pos h]
  rw[e];exact K8
 ·have h:S1 d (1+no)≠[]:=by simpa using h
  have e:T1 d no=(P2 no (S1 d (1+no)),(E5 no (S1 d (1+no))).2):=by unfold T1;rw[if_neg h]
  rw[e];exact⟨⟨⟨K8,a0F _ _,Z6⟩,Z6⟩,Z8⟩
structure SInv(s:Sto):Prop where
 sm:iC s
 c:s.d.C.length<=500
 pd:aM s.d
 n69:s.d.E.length=69
 su:0<=s.S/\s.S<=s.L.length
 l60:s.L.length<=60
 rc:yW s.L=true
 fr3:s.fr.length<=3
 frp:∀i,i<s.fr.length->0<=(s.fr.getD i dz).no/\(s.fr.getD i dz).no<=7/\PgP (s.fr.getD i dz).pg/\(s.fr.getD i dz).pg.Q<=s.L.length
 hd:0<=s.J/\s.J<=2
 pg:∀no,no<8->(P7 s.d no).2=true/\(S1 s.d (1+no)).length<=1000
def SInv.flu{s:Sto}(h:SInv s){lsn:Int}(l:lsn<=s.L.length):mD s lsn:=
 ⟨h.sm.1,by have:=h.c;omega,h.pd,h.n69,h.su.1,h.su.2,h.l60,l,λi hi=>by
  obtain⟨a,b⟩:=C4.1 h.rc i hi;exact⟨b,b90 a⟩⟩
def a9s{s:Sto}(h:F7 s=true)(M:iC s):SInv s:=by
 obtain⟨⟨q,l,e⟩,_,o,j,g⟩:=(G4 s).1 h;obtain⟨c1,c2,_,_,C⟩:=(o5 s).1 q;have F:=c3R (lsn:=0) h Z9 M
 have e:=pQ e;have g:=pQ g;unfold zD at j;simp only[J5,vZ,P5,o8] at j;refine⟨M,c1.2.2.1,F.2.2.1,c2,e,C,l,Z9,λi hi=>?_,g,λno n=>⟨?_,?_⟩⟩
 ·have B:=j.1 i hi;unfold yZ at B;simp only[wS,wU,uH] at B;obtain⟨⟨⟨⟨⟨d,_⟩,f⟩,r⟩,_⟩,_⟩:=B;have d:=pQ d;have f:PgP (s.fr.getD i dz).pg:=G7 f;exact⟨d.1,d.2,f,Z9⟩
 ·have B:=o no n;unfold zX at B;simp only[wS,wU] at B;exact B.1
 ·have:=lW c1 (at_:=1+no) Z9
  omega
def y9(d:Dsk):Dsk×Bool:=if 500<=d.C.length then U3 d else(d,true)
def clF(f:Frm):Frm:=⟨f.no,f.pg,false,0⟩
def wrF(a:Sto)(k:Nat):Sto:=⟨wrD a.d (1+(a.fr.getD k dz).no) (S4 (a.fr.getD k dz).no (a.fr.getD k dz).pg),a.ep,a.L,a.S,a.fr.set k (clF (a.fr.getD k dz)),a.J⟩
def X3(s:Sto)(k:Nat):Sto×Bool:=if(s.fr.getD k dz).D=true then
  if(V8 s (s.fr.getD k dz).pg.Q).2=true then
   if(y9 (V8 s (s.fr.getD k dz).pg.Q).1.d).2=true then(wrF ((V8 s (s.fr.getD k dz).pg.Q).1.sd (y9 (V8 s (s.fr.getD k dz).pg.Q).1.d).1) k,true)
   else((V8 s (s.fr.getD k dz).pg.Q).1.sd (y9 (V8 s (s.fr.getD k dz).pg.Q).1.d).1,false)
  else((V8 s (s.fr.getD k dz).pg.Q).1,false)
 else(s,true)
def b7i:Con:=.reff ⟨Sto×Nat×Nat,λx=>[.ref 0 0 0,Ji x.2.1],λx=>x.1.bx x.2.2,λx=>.bool (X3 x.1 x.2.1).2,λx=>(X3 x.1 x.2.1).1.bxY x.2.2,λx=>SInv x.1/\x.2.1<x.1.fr.length⟩
def a07(s:Sto)(l:Int):(V8 s l).1.fr=s.fr:=by
 by_cases h:l<=s.S
 ·rw[xE h]
 ·rw[xR h]
def xU(d:Dsk):(U3 d).1.C=[]:=by
 unfold U3;split<;>rfl
def b96{d:Dsk}(h:d.C=[]):aM d:=λi hi=>by rw[h] at hi;exact absurd hi (D2 _)
def a16{s:Sto}{l:Int}(h:aM s.d):aM (V8 s l).1.d:=by
 by_cases L:l<=s.S
 ·rw[xE L];exact h
 ·rw[xR L];exact b96 (xU _)
def b0a{s:Sto}{l:Int}(h:s.d.C.length<=500):(V8 s l).1.d.C.length<=500:=by
 by_cases L:l<=s.S
 ·rw[xE L];exact h
 ·rw[xR L];dsimp only;rw[xU];exact N4 _
def uI{s:Sto}{k:Nat}(h:(s.fr.getD k dz).D=false):X3 s k=(s,true):=by
 unfold X3;rw[if_neg cY]
def rO{s:Sto}{k:Nat}(h:(s.fr.getD k dz).D=true)(u:(V8 s (s.fr.getD k dz).pg.Q).2=false):X3 s k=((V8 s (s.fr.getD k dz).pg.Q).1,false):=by
 unfold X3;rw[if_pos h,if_neg (by rw[u];simp)]
def mS{s:Sto}{k:Nat}(h:(s.fr.getD k dz).D=true)(u:(V8 s (s.fr.getD k dz).pg.Q).2=true)(B:(y9 (V8 s (s.fr.getD k dz).pg.Q).1.d).2=false):X3 s k=((V8 s (s.fr.getD k dz).pg.Q).1.sd (y9 (V8 s (s.fr.getD k dz).pg.Q).1.d).1,false):=by
 unfold X3;rw[if_pos h,if_pos u,if_neg (by rw[B];simp)]
def eT{s:Sto}{k:Nat}(h:(s.fr.getD k dz).D=true)(u:(V8 s (s.fr.getD k dz).pg.Q).2=true)(B:(y9 (V8 s (s.fr.getD k dz).pg.Q).1.d).2=true):X3 s k=(wrF ((V8 s (s.fr.getD k dz).pg.Q).1.sd (y9 (V8 s (s.fr.getD k dz).pg.Q).1.d).1) k,true):=by
 unfold X3;rw[if_pos h,if_pos u,if_pos B]
def kH{d:Dsk}(h:500<=d.C.length):y9 d=U3 d:=if_pos h
def fM{d:Dsk}(h:¬500<=d.C.length):y9 d=(d,true):=if_neg h
def b9P{L:List Frm}{k:Nat}(hk:k<L.length):V2 L.length (setRow (setRow (Y5 L) k 3 [T.bool false]) k 4 [T.int IntKind.i64 0]) (Y5 (L.set k (clF (L.getD k dz)))):=tW λi _=>by
 have l:∀j,(Y5 L j).length=5:=λ_=>rfl
 by_cases h:i=k
 ·subst h;have e:(L.set i (clF (L.getD i dz))).getD i dz=clF (L.getD i dz):=by rw[P4,j_j hk];rfl
  unfold setRow;rw[iU rfl];unfold Y5;rw[e];rfl
 ·have e:(L.set k (clF (L.getD k dz))).getD i dz=L.getD i dz:=by rw[P4,j_k (Ne.symm h),←P4]
  rw[L5 (by rw[T7 (by rw[l];decide),l];decide) h,L5 (by rw[l];decide) h]
  unfold Y5;rw[e]
def b03{p:Prop}(h:p:=by rw[kH hc];exact hb):p:=h
def a02:GK 186 b7i:=gk func186<|by
 rintro⟨s,k,v⟩ ⟨h,g⟩;dsimp only at h g;have i:=h.frp k g;have F:=h.flu i.2.2.2;have r:=a07 s (s.fr.getD k dz).pg.Q;have u:=cL F h.sm;have t:=a16 (l:=(s.fr.getD k dz).pg.Q) h.pd;have q:=b0a (l:=(s.fr.getD k dz).pg.Q) h.c;have j:= @rO s k;have O:= @mS s k;have o:= @eT s k;refine C6 (gC b8z (gC a9U (gC a2x (gC a45 gN)))) func186 Z3 [[.box 0,.arr 1,.arr 2,.arr 3,.arr 4,.arr 5,.arr 11,.arr 9],[.box 0,.arr 1,.arr 2,.arr 3,.arr 4,.arr 5,.arr 9,.arr 7],[.box 0,.arr 1,.arr 2,.arr 3,.arr 4,.arr 5,.arr 8,.arr 9],[.box 0,.arr 1,.arr 2,.arr 3,.arr 4,.arr 5,.arr 6,.arr 7],c4D] (α:=let pk:=(X3 s k).1.d.C.length;let pj:=(X3 s k).1.d.E.length;let ph:=(X3 s k).1.d.keep.length;let pf:=(false=(X3 s k).2/\True);let pe:=(0=0/\0=0);let i:=(X3 s k).1.L;let c:=(true=(X3 s k).2/\True);let a:=(X3 s k).1.d.C;let g:=(X3 s k).1.d.E;let n:=(X3 s k).1.d.keep;let j:=(Y5 (X3 s k).1.fr);let z:=(X3 s k).1.fr.length;let p:=(0+(k:Int).toNat);let pd:=(s.fr.getD p dz);W9 (k:Int) s.fr.length/\Lt p s.fr.length/\((! pd.D)=true->c/\nO s (X3 s k).1/\(Z0 Z5 s.d.E g)/\True/\True/\(Z0 Y1 s.L i)/\(v=v/\s.fr.length=z/\V2 s.fr.length (Y5 s.fr) j)/\(Z0 Z1 s.d.C a)/\(Z0 Y9 s.d.keep n)/\True)/\((! pd.D)=false->Lt p s.fr.length/\∃(x:(Sto×Int×Nat)),let q:=(V8 x.1 x.2.1);let pc:=q.1.fr.length;let y:=(q.1.fr.getD p dz);let r:=((↑q.1.d.C.length:Int)≥(500:Int));((pe/\pd.pg.Q=x.2.1/\True)/\(LnS (v) (x.2.2) s x.1)/\mD x.1 x.2.1)/\∃(e:(Sto×Nat)),let pm:=e.1.fr;let b:=pm.length;let m:=(U3 e.1.d);let w:=(! q.2||decide r&& ! m.2);let u:=(pm.getD p dz);((! q.2)=false->decide r=true->(pe/\True)/\(LnS (x.2.2) (e.2) q.1 e.1)/\nN e.1.d/\aM e.1.d)/\((! q.2)=false->decide r=true->(w=true->pf/\nO {e.1 with d:=m.1} (X3 s k).1/\(Z0 Z5 m.1.E g)/\True/\True/\(Z0 Y1 e.1.L i)/\(e.2=v/\b=z/\V2 pm.length (Y5 pm) j)/\(Z0 Z1 m.1.C a)/\(Z0 Y9 m.1.keep n)/\True)/\(w=false->Lt p b/\R2 .i64 (1+u.no)/\Lt p b/\Lt p b/\∃(x:(Int×Pg)),let l:=(S4 x.1 x.2).length;(PoB e.2 e.2 p pm.length u.pg.sl.length u.pg.sl.length/\(u.no=x.1/\(u.pg.Q=x.2.Q/\(Z0 Z5 u.pg.sl x.2.sl)/\True)/\True)/\PgP x.2)/\Le (0+l) l/\∃(X:(Sto×Int×Bz×Nat)),let pa:=(X.1.d.C++[Pend.mk X.2.1 X.2.2.1]);((pe/\1+u.no=X.2.1/\List.take l (List.drop 0 (S4 x.1 x.2))=X.2.2.1/\True)/\(nO {e.1 with d:=m.1} X.1/\(Z0 Z5 m.1.E X.1.d.E)/\(Z0 Z1 m.1.C X.1.d.C)/\(Z0 Y9 m.1.keep X.1.d.keep)/\(Z0 Y1 e.1.L X.1.L)/\(e.2=X.2.2.2/\b=X.1.fr.length/\V2 pm.length (Y5 pm) (Y5 X.1.fr))/\True)/\X.1.d.C.length<=1048576)/\kV p X.1.fr.length [T.bool (X.1.fr.getD p dz).D]/\kV p X.1.fr.length [Ji (X.1.fr.getD p dz).first]/\c/\(1=1/\1=1/\(0=0/\X.1.d.E.length=pj)/\(0=0/\pa.length=pk)/\X.1.d.A=(X3 s k).1.d.A/\(0=0/\X.1.d.keep.length=ph)/\X.1.ep=(X3 s k).1.ep/\(0=0/\X.1.L.length=(X3 s k).1.L.length)/\X.1.S=(X3 s k).1.S/\(0=0/\X.1.fr.length=z)/\X.1.J=(X3 s k).1.J/\True)/\(Z0 Z5 X.1.d.E g)/\True/\True/\(Z0 Y1 X.1.L i)/\(X.2.2.2=v/\X.1.fr.length=z/\V2 X.1.fr.length (setRow (setRow (Y5 X.1.fr) p 3 [T.bool false]) p 4 [Ji 0]) j)/\(Z0 Z1 pa a)/\(Z0 Y9 X.1.d.keep n)/\True))/\(((! q.2)=false->decide r=true->False)->(w=true->pf/\nO q.1 (X3 s k).1/\(Z0 Z5 q.1.d.E g)/\True/\True/\(Z0 Y1 q.1.L i)/\(x.2.2=v/\pc=z/\V2 q.1.fr.length (Y5 q.1.fr) j)/\(Z0 Z1 q.1.d.C a)/\(Z0 Y9 q.1.d.keep n)/\True)/\(w=false->Lt p pc/\R2 .i64 (1+y.no)/\Lt p pc/\Lt p pc/\∃(X:(Int×Pg)),let t:=(S4 X.1 X.2).length;(PoB x.2.2 x.2.2 p q.1.fr.length y.pg.sl.length y.pg.sl.length/\(y.no=X.1/\(y.pg.Q=X.2.Q/\(Z0 Z5 y.pg.sl X.2.sl)/\True)/\True)/\PgP X.2)/\Le (0+t) t/\∃(f:(Sto×Int×Bz×Nat)),let pi:=f.1.fr;let pb:=(f.1.d.C++[Pend.mk f.2.1 f.2.2.1]);((pe/\1+y.no=f.2.1/\List.take t (List.drop 0 (S4 X.1 X.2))=f.2.2.1/\True)/\(LnS (x.2.2) (f.2.2.2) q.1 f.1)/\f.1.d.C.length<=1048576)/\kV p pi.length [T.bool (pi.getD p dz).D]/\kV p pi.length [Ji (pi.getD p dz).first]/\c/\(1=1/\1=1/\(0=0/\f.1.d.E.length=pj)/\(0=0/\pb.length=pk)/\f.1.d.A=(X3 s k).1.d.A/\(0=0/\f.1.d.keep.length=ph)/\f.1.ep=(X3 s k).1.ep/\(0=0/\f.1.L.length=(X3 s k).1.L.length)/\f.1.S=(X3 s k).1.S/\(0=0/\pi.length=z)/\f.1.J=(X3 s k).1.J/\True)/\(Z0 Z5 f.1.d.E g)/\True/\True/\(Z0 Y1 f.1.L i)/\(f.2.2.2=v/\pi.length=z/\V2 pi.length (setRow (setRow (Y5 pi) p 3 [T.bool false]) p 4 [Ji 0]) j)/\(Z0 Z1 pb a)/\(Z0 Y9 f.1.d.keep n)/\True)))) ?_
 rw[E3,show 0+k=k from D4 k]
 refine⟨Y6 g,g,λhd=>?_,λhd=>⟨g,(s,(s.fr.getD k dz).pg.Q,v),⟨Z8,Z8,F⟩,((V8 s (s.fr.getD k dz).pg.Q).1,v),λ_ _=>⟨K8,Z8,u.1,t⟩,λhu hc=>⟨λhb=>?_,λhb=>?_⟩,λn=>⟨λhb=>?_,λhb=>?_⟩⟩⟩
 ·rw[uI mR]
  exact Z8
 all_goals
  have hd:(s.fr.getD k dz).D=true:=mR
  replace j:=j hd;replace O:=O hd;replace o:=o hd;dsimp only at*;generalize V8 s (s.fr.getD k dz).pg.Q=A at*;obtain⟨a,up⟩:=A;dsimp only at*;rw[←r] at g i
 ·have hu:up=true:=(wU _).mp hu;subst hu;have hc:500<=a.d.C.length:=by have:=G7 hc;omega
  have hb:(U3 a.d).2=false:=by simp at hb;exact hb.2
  rw[O rfl b03,kH hc]
  exact Z8
 ·have hu:up=true:=(wU _).mp hu;subst hu;have hb:(U3 a.d).2=true:=by rw[hc] at hb;simpa using hb
  have hc:500<=a.d.C.length:=by have:=G7 hc;omega
  rw[o rfl b03,kH hc]
  exact⟨g,Z4 Z9,g,g,((a.fr.getD k dz).no,(a.fr.getD k dz).pg),⟨⟨rfl,g,U9 _⟩,Z8,i.2.2.1⟩,uA _,(a.sd (U3 a.d).1,1+(a.fr.getD k dz).no,S4 (a.fr.getD k dz).no (a.fr.getD k dz).pg,v),⟨⟨Z8,rfl,cI,Z6⟩,Z8,by show(U3 a.d).1.C.length<=_;rw[xU];exact N4 _⟩,⟨g,rfl⟩,⟨g,rfl⟩,Z8,⟨rfl,rfl,Z8,Z8,rfl,Z8,rfl,Z8,rfl,⟨rfl,zW.symm⟩,Z8⟩,Z8,Z6,Z6,Z8,⟨rfl,zW.symm,b9P g⟩,Z8⟩
 ·cases up with
  |false=>
   rw[j rfl];exact Z8
  |true=>
   have:decide ((a.d.C.length:Int)≥500)=false:=by
    cases hd:decide ((a.d.C.length:Int)≥500) with
    |false=>rfl
    |true=>exact(n rfl hd).elim
   rw[this] at hb;simp at hb
 ·have hu:up=true:=by cases up<;>simp at hb ⊢
  subst hu;have hc:¬500<=a.d.C.length:=λhc=>n rfl (mO Z9)
  rw[o rfl (by rw[fM hc]),fM hc]
  exact⟨g,Z4 Z9,g,g,((a.fr.getD k dz).no,(a.fr.getD k dz).pg),⟨⟨rfl,g,U9 _⟩,Z8,i.2.2.1⟩,uA _,(a,1+(a.fr.getD k dz).no,S4 (a.fr.getD k dz).no (a.fr.getD k dz).pg,v),⟨⟨Z8,rfl,cI,Z6⟩,Z8,by show a.d.C.length<=_;omega⟩,⟨g,rfl⟩,⟨g,rfl⟩,⟨rfl,Z6⟩,⟨rfl,rfl,⟨rfl,rfl⟩,⟨rfl,rfl⟩,rfl,⟨rfl,rfl⟩,rfl,⟨rfl,rfl⟩,rfl,⟨rfl,zW.symm⟩,rfl,Z6⟩,⟨rfl,X6 _ _⟩,Z6,Z6,⟨rfl,X6 _ _⟩,⟨rfl,zW.symm,b9P g⟩,⟨rfl,X6 _ _⟩,⟨rfl,X6 _ _⟩,Z6⟩
def fG(L D:List Pend)(a:Int):∀i,i<=L.length->E8 (L++D) a i=E8 L a i
 |0,_=>rfl
 |i+1,h=>by
  unfold E8;rw[show(L++D).getD i dz=L.getD i dz by rw[P4,rL Z9,←P4],fG L D a i Z9]
def a6R(d:Dsk)(a:Int)(t:Bz)(n:Nat):S1 (wrD d a t) n=if a=n then t else S1 d n:=by
 have e:(d.C++[(⟨a,t⟩:Pend)]).getD d.C.length dz=⟨a,t⟩:=by rw[P4,qA (U9 _)];simp
 have g:E8 (d.C++[(⟨a,t⟩:Pend)]) n (d.C.length+1)=if a=n then some t else E8 d.C n d.C.length:=by
  conv=>lhs;unfold E8
  rw[e,fG _ _ _ _ (U9 _)]
 have f:S1 (wrD d a t) n=(E8 (d.C++[(⟨a,t⟩:Pend)]) n (d.C.length+1)).getD (d.E.getD n []):=by
  unfold S1 wrD;dsimp only;rw[show(d.C++[(⟨a,t⟩:Pend)]).length=d.C.length+1 by simp]
 rw[f,g];split<;>rfl
def b8l{s:Sto}{l:Int}(h:mD s l){n:Nat}(N:n<9):∀i,i<=J0 s l->S1 (cT s i) n=S1 s.d n
 |0,_=>by
  have:cT s 0=s.d:=by unfold cT;simp
  rw[this]
 |i+1,hi=>by
  have e:cT s (i+1)=wrD (cT s i) (nS s i).at_ (nS s i).d:=by
   unfold cT wrD;dsimp only;rw[←uJ]
  obtain⟨f,_,_⟩:=fY h (i:=i) Z9
  have g:=h.2.2.2.2.1;rw[e,a6R,if_neg (by rw[f];omega),b8l h N i Z9]
def b1b{sec:List (Bz)}{C:List Pend}{n:Nat}(hn:n<sec.length)(hp:∀i,i<C.length->0<=(C.getD i dz).at_):∀i,i<=C.length->(zQ sec C (λ_=>true) i).getD n []=(E8 C n i).getD (sec.getD n [])
 |0,_=>rfl
 |i+1,hi=>by
  have I:=b1b hn hp i Z9
  have d:=hp i Z9
  rw[c4C rfl];unfold E8;by_cases h:(C.getD i dz).at_=n
  ·rw[if_pos h,show(C.getD i dz).at_.toNat=n by omega,P4,j_j (by rw[A8];exact hn)]
   rfl
  ·rw[if_neg h,P4,j_k Z9,←P4,I]
def c8R{d:Dsk}(h:(U3 d).2=true):U3 d=(⟨zQ d.E d.C (λ_=>true) d.C.length,[],d.A,d.keep⟩,true):=by
 unfold U3 at h ⊢;split at h
 ·cases h
 ·rw[if_neg (by assumption)]
def b6i{d:Dsk}{n:Nat}(h:(U3 d).2=true)(hp:aM d)(N:n<d.E.length):S1 (U3 d).1 n=S1 d n:=by
 rw[c8R h];exact b1b N (λi hi=>(hp i hi).1) _ (U9 _)
def c77{s:Sto}{l:Int}(h:mD s l)(u:(V8 s l).2=true){n:Nat}(N:n<9):S1 (V8 s l).1.d n=S1 s.d n:=by
 by_cases L:l<=s.S
 ·rw[xE L]
 ·rw[xR L] at u ⊢;have:=h.2.2.2.1;rw[b6i u (a1j h).2 (show n<s.d.E.length by omega),b8l h N _ (U9 _)]
def c0A{d:Dsk}{n:Nat}(h:(y9 d).2=true)(hp:aM d)(N:n<d.E.length):S1 (y9 d).1 n=S1 d n:=by
 by_cases C:500<=d.C.length
 ·rw[kH C] at h ⊢;exact b6i h hp N
 ·rw[fM C]
def b0V(d:Dsk):(U3 d).1.E.length=d.E.length:=by
 unfold U3;split
 ·exact A8 _ _ _ _
 ·exact A8 _ _ _ _
def b1a(s:Sto)(l:Int):(V8 s l).1.d.E.length=s.d.E.length:=by
 by_cases h:l<=s.S
 ·rw[xE h]
 ·rw[xR h];exact b0V _
def a4O(s:Sto)(l:Int):(V8 s l).1.fr=s.fr/\(V8 s l).1.J=s.J/\(V8 s l).1.L=s.L/\(V8 s l).1.ep=s.ep:=by
 by_cases h:l<=s.S
 ·rw[xE h];exact Z8
 ·rw[xR h];exact Z8
def a4D(d:Dsk):(y9 d).1.E.length=d.E.length:=by
 unfold y9;split
 ·exact b0V d
 ·rfl
def b8T{d:Dsk}(h:d.C.length<=500):(y9 d).1.C.length<=499:=by
 unfold y9;split
 ·rw[xU];exact N4 _
 ·dsimp only;omega
def s7(s:Sto)(k:Nat):(X3 s k).1.fr.length=s.fr.length/\(X3 s k).1.J=s.J/\(X3 s k).1.L=s.L/\(X3 s k).1.ep=s.ep/\(X3 s k).1.d.E.length=s.d.E.length:=by
 obtain⟨h,g,f,i⟩:=a4O s (s.fr.getD k dz).pg.Q;have e:=b1a s (s.fr.getD k dz).pg.Q;unfold X3;split
 ·split
  ·split
   ·exact⟨by show(List.set _ _ _).length=_;rw[zW];exact congrArg List.length h,g,f,i,by show(y9 _).1.E.length=_;rw[a4D,e]⟩
   ·exact⟨congrArg List.length h,g,f,i,by show(y9 _).1.E.length=_;rw[a4D,e]⟩
  ·exact⟨congrArg List.length h,g,f,i,e⟩
 ·exact Z8
def a5b{s:Sto}{k no:Nat}(h:SInv s)(e:k<s.fr.length)(o:no<8)(i:(s.fr.getD k dz).no≠no)(hu:(X3 s k).2=true):S1 (X3 s k).1.d (1+no)=S1 s.d (1+no)/\(X3 s k).1.d.C.length<=500:=by
 have f:=h.flu (h.frp k e).2.2.2;have j:=(h.frp k e).1;have hfr:=a07 s (s.fr.getD k dz).pg.Q;have C:=b0a (l:=(s.fr.getD k dz).pg.Q) h.c;have hp:=a16 (l:=(s.fr.getD k dz).pg.Q) h.pd;have n:=b1a s (s.fr.getD k dz).pg.Q;have g:=h.n69;by_cases hd:(s.fr.getD k dz).D=true
 ·by_cases hf2:(V8 s (s.fr.getD k dz).pg.Q).2=true
  ·by_cases h5:(y9 (V8 s (s.fr.getD k dz).pg.Q).1.d).2=true
   ·rw[eT hd hf2 h5];refine⟨?_,?_⟩
    ·show S1 (wrD _ (1+((V8 s _).1.fr.getD k dz).no) _) (1+no)=_;rw[hfr,a6R,if_neg Z9]
     exact(c0A h5 hp Z9).trans (c77 f hf2 Z9)
    ·have:=b8T C;show((y9 _).1.C++[_]).length<=500;rw[F9];simp only[List.length_cons,List.length_nil];omega
   ·rw[mS hd hf2 (by simpa using h5)] at hu
    cases hu
  ·rw[rO hd (by simpa using hf2)] at hu
   cases hu
 ·rw[uI mR]
  exact⟨rfl,h.c⟩
def iF{L:List Frm}{no:Int}(h:0<=frAt L no):(frAt L no).toNat<L.length:=by
 unfold frAt S6 at h ⊢;split at h
 ·rename_i i hi;have:=List.mem_range.1 (List.mem_of_find?_eq_some hi)
  simpa using this
 ·omega
def a9x{L:List Frm}{no:Int}(h:¬0<=frAt L no){i:Nat}(hi:i<L.length):(L.getD i dz).no≠no:=by
 have e:=C9 L.length (kZ L no);rw[show S6 L.length (kZ L no)=frAt L no from rfl,tQ h] at e
 have:=P5.1 e.symm i hi;unfold kZ at this
 simpa using this
def cU{d d':Dsk}{no:Nat}(h:S1 d (1+no)=S1 d' (1+no)):P7 d no=P7 d' no/\T1 d no=T1 d' no:=by
 unfold P7 T1;rw[h];exact Z8
def oZ(no:Nat)(p:Pg):Frm:=⟨no,p,false,0⟩
def b0A(a:Sto)(k no:Nat):Sto:=⟨a.d,a.ep,a.L,a.S,a.fr.set k (oZ no (P7 a.d no).1),(a.J+1).tmod 3⟩
def c2y(a:Sto)(no:Nat):Sto:=⟨a.d,a.ep,a.L,a.S,a.fr++[oZ no (P7 a.d no).1],a.J⟩
def Y3(s:Sto)(no:Nat):Sto×Nat×Bool:=if 0<=frAt s.fr no then(s,(frAt s.fr no).toNat,true)
 else if s.fr.length=3 then
  if(X3 s s.J.toNat).2=true then(b0A (X3 s s.J.toNat).1 s.J.toNat no,s.J.toNat,true) else((X3 s s.J.toNat).1,0,false)
 else(c2y s no,s.fr.length,true)
def P8(s:Sto)(no v:Nat):Nat:=if 0<=frAt s.fr no then v
 else if s.fr.length=3 then
  if(X3 s s.J.toNat).2=true then v+1 else v
 else 1
def Sto.bxF(s:Sto)(v:Nat):X9:=[pL (s.tn 1 6 7 4 8),A1 s.d.E,none,none,j6 s.L,none,D3 s.d.C,A0 s.d.keep,xA v s.fr s.fr.length]
def iS(s:Sto)(no:Nat):Prop:=SInv s/\no<8
def b8f:Con:=.reff ⟨Sto×Nat×Nat,λx=>[.ref 0 0 0,Ji x.2.1],λx=>x.1.bx x.2.2,λx=>.ref 8 (Y3 x.1 x.2.1).2.1 0,λx=>(Y3 x.1 x.2.1).1.bxF (P8 x.1 x.2.1 x.2.2),λx=>iS x.1 x.2.1/\(Y3 x.1 x.2.1).2.2=true⟩
def b9d:Con:=.reff ⟨Sto×Nat×Nat,λx=>[.ref 0 0 0,Ji x.2.1],λx=>x.1.bx x.2.2,λ_=>.v (.pointer none),λx=>(Y3 x.1 x.2.1).1.bxF (P8 x.1 x.2.1 x.2.2),λx=>iS x.1 x.2.1/\(Y3 x.1 x.2.1).2.2=false⟩
def c0F{L:List Frm}{k:Nat}(f:Frm)(d:k<L.length):V2 L.length (setRow (Y5 L) (0+k) 0 [T.int IntKind.i64 f.no,T.int IntKind.i64 f.pg.Q,T.own 0 1 f.pg.sl.length (Z5 f.pg.sl),T.bool f.D,T.int IntKind.i64 f.first]) (Y5 (L.set k f)):=tW λi _=>by
 have l:∀j,(Y5 L j).length=5:=λ_=>rfl
 rw[D4,E6 (by rw[l];rfl)]
 by_cases h:i=k
 ·subst h;rw[iU rfl];unfold Y5;rw[show(L.set i f).getD i dz=f by rw[P4,j_j d];rfl]
 ·rw[b3E h];unfold Y5;rw[show(L.set k f).getD i dz=L.getD i dz by rw[P4,j_k (Ne.symm h),←P4]]
def c3d{L:List Frm}(f:Frm)(r:Nat->List T)(R:(r 0).length=5):V2 (L.length+1) (setRow (X4 (Y5 L) L.length r) (0+(L.length:Int).toNat) 0 [T.int IntKind.i64 f.no,T.int IntKind.i64 f.pg.Q,T.own 0 1 f.pg.sl.length (Z5 f.pg.sl),T.bool f.D,T.int IntKind.i64 f.first]) (Y5 (L++[f])):=tW λi hi=>by
 rw[E3,D4];have l:(X4 (Y5 L) L.length r i).length=5:=by
  unfold X4;by_cases h:i<L.length
  ·rw[rX h];rfl
  ·rw[mH h,show i-L.length=0 by omega]
   exact R
 rw[E6 (by rw[l];rfl)]
 by_cases h:i=L.length
 ·subst h;rw[iU rfl];unfold Y5;rw[show(L++[f]).getD L.length dz=f by rw[P4,qA (U9 _)];simp]
 ·rw[b3E h];unfold X4;rw[rX Z9]
  unfold Y5;rw[show(L++[f]).getD i dz=L.getD i dz by rw[P4,rL Z9,←P4]]
def yK{s:Sto}{no:Nat}(v:Nat)(h:0<=frAt s.fr no):Y3 s no=(s,(frAt s.fr no).toNat,true)/\P8 s no v=v:=⟨if_pos h,if_pos h⟩
def m4{s:Sto}{no:Nat}(v:Nat)(h:¬0<=frAt s.fr no)(d:s.fr.length=3)(u:(X3 s s.J.toNat).2=true):Y3 s no=(b0A (X3 s s.J.toNat).1 s.J.toNat no,s.J.toNat,true)/\P8 s no v=v+1:=by
 unfold Y3 P8;rw[if_neg h,if_pos d,if_pos u,if_neg h,if_pos d,if_pos u];exact Z8
def m0{s:Sto}{no:Nat}(v:Nat)(h:¬0<=frAt s.fr no)(d:s.fr.length=3)(u:(X3 s s.J.toNat).2=false):Y3 s no=((X3 s s.J.toNat).1,0,false)/\P8 s no v=v:=by
 have u:¬ (X3 s s.J.toNat).2=true:=by rw[u];simp
 unfold Y3 P8;rw[if_neg h,if_pos d,if_neg u,if_neg h,if_pos d,if_neg u];exact Z8
def yC{s:Sto}{no:Nat}(v:Nat)(h:¬0<=frAt s.fr no)(d:¬s.fr.length=3):Y3 s no=(c2y s no,s.fr.length,true)/\P8 s no v=1:=by
 unfold Y3 P8;rw[if_neg h,if_neg d,if_neg h,if_neg d];exact Z8
def a05{s:Sto}{no:Nat}(h:SInv s)(o:no<8)(l:¬0<=frAt s.fr no)(r:s.fr.length=3)(u:(X3 s s.J.toNat).2=true):DkB ((X3 s s.J.toNat).1.d,no)/\T1 (X3 s s.J.toNat).1.d no=P7 (X3 s s.J.toNat).1.d no/\(P7 (X3 s s.J.toNat).1.d no).2=true:=by
 have n:=h.hd;have f:s.J.toNat<s.fr.length:=Z9
 obtain⟨e,q⟩:=a5b h f o (a9x l f) u;obtain⟨_,_,_,_,R⟩:=s7 s s.J.toNat;have j:=h.n69;obtain⟨g,i⟩:=h.pg no o;obtain⟨C,c2⟩:=cU e;refine⟨⟨X5,X5,X5,by show(S1 _ _).length<=_;rw[e];exact i⟩,?_,by rw[C];exact g⟩
 rw[C,c2];exact(eN s.d no).2 g
def b0o{s:Sto}{no:Nat}(h:SInv s)(o:no<8):DkB (s.d,no)/\T1 s.d no=P7 s.d no:=by
 have f:=h.n69;have C:=h.c;obtain⟨e,g⟩:=h.pg no o;exact⟨⟨X5,X5,X5,g⟩,(eN s.d no).2 e⟩
def b0y{p:Prop}(h:p:=by unfold c2y;simp):p:=h
def lG:GK 98 b8f:=gk func98<|by
 rintro⟨s,no,v⟩ ⟨⟨h,hno⟩,f⟩;dsimp only at h hno f;have L:L9 s.fr.length:=by have:=h.fr3;unfold L9;omega
 refine C6 (gC pC (gC a02 (gC aR gN))) func98 Z3 c42 (α:=let z:=(s.fr.length+1);let r:=(s.fr.length:Int);let q:=(Y3 s no);let n:=(Y5 q.1.fr);let j:=q.1.fr.length;let u:=q.1.d;let g:=(Z0 Y9 s.d.keep u.keep);∃(x:qQ.ι),((LeS s)/\((EqF s x.1)/\(no:Int)=x.2/\True)/\L9 x.1.fr.length)/\bd (frAt x.1.fr x.2≥(0:Int)) (W9 (frAt x.1.fr x.2) s.fr.length/\((0+(frAt x.1.fr x.2).toNat=q.2.1/\0=0)/\True)/\nO s q.1/\(Z0 Z5 s.d.E u.E)/\True/\True/\(Z0 Y1 s.L q.1.L)/\True/\(Z0 Z1 s.d.C u.C)/\g/\(v=P8 s no v/\s.fr.length=j/\V2 s.fr.length (Y5 s.fr) n)/\True) (br (r==3) (∃(x:(Sto×Nat×Nat)),let p:=(X3 x.1 x.2.1);let t:=p.1.fr;let l:=(Z0 Z1 p.1.d.C u.C);let i:=(Z0 Y1 p.1.L q.1.L);let c:=(Z0 Z5 p.1.d.E u.E);let f:=(Z0 Y9 p.1.d.keep u.keep);let m:=t.length;(((0=0/\0=0)/\s.J=(x.2.1:Int)/\True)/\(LnS (v) (x.2.2) s x.1)/\SInv x.1/\x.2.1<x.1.fr.length)/\br (! p.2) ((J7 (m9 [some 0,some 1,some 2,some 3,some 4,some 5,some 6,some 7,some 5]) (T.v (Value.pointer none)) (T.ref 8 q.2.1 0)/\True)/\nO p.1 q.1/\c/\True/\True/\i/\True/\l/\f/\(x.2.2=P8 s no v/\m=j/\V2 t.length (Y5 t) n)/\True) (Ri (p.1.J+1)/\Nz (3:Int)/\∃(X:(Dsk×Nat)),let a:=(T1 X.1 X.2);let y:=a.1.sl.length;((LeS p.1)/\((zJ p.1.d X.1)/\(no:Int)=(X.2:Int)/\True)/\DkB X)/\W9 s.J m/\(0+s.J.toNat<m/\Le y y)/\W9 s.J m/\((0+s.J.toNat=q.2.1/\0=0)/\True)/\nO {p.1 with J:=((p.1.J+1).tmod (3:Int))} q.1/\c/\True/\True/\i/\True/\l/\f/\(x.2.2+1=P8 s no v/\m=j/\V2 t.length (setRow (Y5 t) (0+s.J.toNat) 0 [Ji (no:Int),Ji a.1.Q,T.own 0 1 y (Z5 a.1.sl),T.bool false,Ji 0]) n)/\True)) ((Le 1 1/\Le s.fr.length s.fr.length/\U8 s.fr.length 1 56)/\∃(x:(Dsk×Nat)),let b:=(T1 x.1 x.2);let w:=b.1.sl.length;((Le (0+s.d.E.length) s.d.E.length/\Le (0+s.d.C.length) s.d.C.length/\Le (0+s.d.keep.length) s.d.keep.length/\Le (0+s.L.length) s.L.length/\Le (0+z) z)/\((zJ s.d x.1)/\(no:Int)=(x.2:Int)/\True)/\DkB x)/\W9 r z/\(0+r.toNat<s.fr.length+1/\Le w w)/\W9 r z/\((0+r.toNat=q.2.1/\0=0)/\True)/\(1=1/\1=1/\(0=0/\s.d.E.length=u.E.length)/\(0=0/\s.d.C.length=u.C.length)/\s.d.A=u.A/\(0=0/\s.d.keep.length=u.keep.length)/\s.ep=q.1.ep/\(0=0/\s.L.length=q.1.L.length)/\s.S=q.1.S/\(0=0/\s.fr.length+1=j)/\s.J=q.1.J/\True)/\(Z0 Z5 s.d.E u.E)/\True/\True/\(Z0 Y1 s.L q.1.L)/\True/\(Z0 Z1 s.d.C u.C)/\g/\(1=P8 s no v/\s.fr.length+1=j/\V2 z (setRow (X4 (Y5 s.fr) s.fr.length λ(k:Nat)=>List.take 5 (List.drop (k*5) [Ji 0,Ji 0,T.v (Value.slice none 0 0),T.bool false,Ji 0])) (0+r.toNat) 0 [Ji (no:Int),Ji b.1.Q,T.own 0 1 w (Z5 b.1.sl),T.bool false,Ji 0]) n)/\True))) ⟨(s,(no:Int)),⟨Z8,Z8,L⟩,λhc=>?_,λhc=>⟨λh3=>?_,λh3=>?_⟩⟩
 ·have hc:0<=frAt s.fr no:=G7 hc;obtain⟨e1,e2⟩:=yK v hc;rw[e1,e2];exact⟨⟨hc,by have:=iF hc;show frAt s.fr no<_;omega⟩,⟨⟨D4 _,rfl⟩,Z6⟩,⟨rfl,rfl,⟨rfl,rfl⟩,⟨rfl,rfl⟩,rfl,⟨rfl,rfl⟩,rfl,⟨rfl,rfl⟩,rfl,⟨rfl,rfl⟩,rfl,Z6⟩,⟨rfl,X6 _ _⟩,Z6,Z6,⟨rfl,X6 _ _⟩,Z6,⟨rfl,X6 _ _⟩,⟨rfl,X6 _ _⟩,⟨rfl,rfl,mU _⟩,Z6⟩
 ·have hc:¬0<=frAt s.fr no:=r9 hc;have h3:s.fr.length=3:=by have:=beq_iff_eq.1 h3;omega
  have i:=h.hd;have g:s.J.toNat<s.fr.length:=Z9
  obtain⟨r,R,_⟩:=s7 s s.J.toNat;refine⟨(s,s.J.toNat,v),⟨⟨Z8,X5,Z6⟩,Z8,h,g⟩,λhu=>?_,λhu=>?_⟩
  ·have hu:(X3 s s.J.toNat).2=false:=(vZ _).mp hu;rw[(m0 v hc h3 hu).1] at f;cases f
  ·have hu:(X3 s s.J.toNat).2=true:=(wU _).mp hu;obtain⟨e1,e2⟩:=m4 v hc h3 hu;obtain⟨d1,d2,_⟩:=a05 h hno hc h3 hu;rw[e1,e2];refine⟨Z4 X5,b0C,((X3 s s.J.toNat).1.d,no),⟨Z8,Z8,d1⟩,⟨Z9,X5⟩,⟨X5,U9 _⟩,⟨Z9,X5⟩,⟨⟨D4 _,rfl⟩,Z6⟩,⟨rfl,rfl,Z8,Z8,rfl,Z8,rfl,Z8,rfl,⟨rfl,zW.symm⟩,Z8⟩,Z8,Z6,Z6,Z8,Z6,Z8,Z8,⟨rfl,zW.symm,?_⟩,Z6⟩
   dsimp only;rw[d2];exact c0F (oZ no (P7 (X3 s s.J.toNat).1.d no).1) Z9
 ·have hc:¬0<=frAt s.fr no:=r9 hc;have h3:¬s.fr.length=3:=λe=>by rw[e] at h3;simp at h3
  have l:=h.fr3;obtain⟨e1,e2⟩:=yC v hc h3;obtain⟨d1,d2⟩:=b0o h hno;rw[e1,e2];refine⟨⟨U9 _,U9 _,R0⟩,(s.d,no),⟨Z8,Z8,d1⟩,⟨Z9,Z9⟩,⟨Z9,U9 _⟩,⟨Z9,Z9⟩,⟨⟨X5,rfl⟩,Z6⟩,⟨rfl,rfl,Z8,Z8,rfl,Z8,rfl,Z8,rfl,⟨rfl,b0y⟩,Z8⟩,Z8,Z6,Z6,Z8,Z6,Z8,Z8,⟨rfl,b0y,?_⟩,Z6⟩
  dsimp only;rw[d2];exact c3d (oZ no (P7 s.d no).1) _ rfl
def lH:GK 98 b9d:=gk func98<|by
 rintro⟨s,no,v⟩ ⟨⟨h,o⟩,f⟩;dsimp only at h o f;have L:L9 s.fr.length:=by have:=h.fr3;unfold L9;omega
 refine C6 (gC pC (gC a02 (gC aR gN))) func98 Z3 c42 (α:=let u:=(T.v (Value.pointer none));let z:=(s.fr.length+1);let r:=(s.fr.length:Int);let q:=(Y3 s no);let f:=(Y5 q.1.fr);let m:=q.1.fr.length;let y:=q.1.d;let a:=(Z0 Y9 s.d.keep y.keep);∃(x:qQ.ι),((LeS s)/\((EqF s x.1)/\(no:Int)=x.2/\True)/\L9 x.1.fr.length)/\bd (frAt x.1.fr x.2≥(0:Int)) (W9 (frAt x.1.fr x.2) s.fr.length/\(J7 (m9 [some 0,some 1,some 2,some 3,some 4,some 5,some 2,some 3,some 5]) (T.ref 5 (0+(frAt x.1.fr x.2).toNat) 0) u/\True)/\nO s q.1/\(Z0 Z5 s.d.E y.E)/\True/\True/\(Z0 Y1 s.L q.1.L)/\True/\(Z0 Z1 s.d.C y.C)/\a/\(v=P8 s no v/\s.fr.length=m/\V2 s.fr.length (Y5 s.fr) f)/\True) (br (r==3) (∃(x:(Sto×Nat×Nat)),let p:=(X3 x.1 x.2.1);let t:=(Z0 Z1 p.1.d.C y.C);let l:=(Z0 Y1 p.1.L q.1.L);let i:=(Z0 Z5 p.1.d.E y.E);let g:=(Z0 Y9 p.1.d.keep y.keep);let n:=p.1.fr.length;(((0=0/\0=0)/\s.J=(x.2.1:Int)/\True)/\(LnS (v) (x.2.2) s x.1)/\SInv x.1/\x.2.1<x.1.fr.length)/\br (! p.2) ((Value.pointer none=Value.pointer none/\True)/\nO p.1 q.1/\i/\True/\True/\l/\True/\t/\g/\(x.2.2=P8 s no v/\n=m/\V2 p.1.fr.length (Y5 p.1.fr) f)/\True) (Ri (p.1.J+1)/\Nz (3:Int)/\∃(X:(Dsk×Nat)),let b:=(T1 X.1 X.2);let w:=b.1.sl.length;((LeS p.1)/\((zJ p.1.d X.1)/\(no:Int)=(X.2:Int)/\True)/\DkB X)/\W9 s.J n/\(0+s.J.toNat<n/\Le w w)/\W9 s.J n/\(J7 (m9 [some 0,some 1,some 2,some 3,some 4,some 5,some 6,some 7,some 5]) (T.ref 5 (0+s.J.toNat) 0) u/\True)/\nO {p.1 with J:=((p.1.J+1).tmod (3:Int))} q.1/\i/\True/\True/\l/\True/\t/\g/\(x.2.2+1=P8 s no v/\n=m/\V2 p.1.fr.length (setRow (Y5 p.1.fr) (0+s.J.toNat) 0 [Ji (no:Int),Ji b.1.Q,T.own 0 1 w (Z5 b.1.sl),T.bool false,Ji 0]) f)/\True)) ((Le 1 1/\Le s.fr.length s.fr.length/\U8 s.fr.length 1 56)/\∃(x:(Dsk×Nat)),let c:=(T1 x.1 x.2);let j:=c.1.sl.length;((Le (0+s.d.E.length) s.d.E.length/\Le (0+s.d.C.length) s.d.C.length/\Le (0+s.d.keep.length) s.d.keep.length/\Le (0+s.L.length) s.L.length/\Le (0+z) z)/\((zJ s.d x.1)/\(no:Int)=(x.2:Int)/\True)/\DkB x)/\W9 r z/\(0+r.toNat<s.fr.length+1/\Le j j)/\W9 r z/\(J7 (m9 [some 0,some 1,some 2,some 3,some 4,some 5,some 2,some 3,some 7]) (T.ref 7 (0+r.toNat) 0) u/\True)/\(1=1/\1=1/\(0=0/\s.d.E.length=y.E.length)/\(0=0/\s.d.C.length=y.C.length)/\s.d.A=y.A/\(0=0/\s.d.keep.length=y.keep.length)/\s.ep=q.1.ep/\(0=0/\s.L.length=q.1.L.length)/\s.S=q.1.S/\(0=0/\s.fr.length+1=m)/\s.J=q.1.J/\True)/\(Z0 Z5 s.d.E y.E)/\True/\True/\(Z0 Y1 s.L q.1.L)/\True/\(Z0 Z1 s.d.C y.C)/\a/\(1=P8 s no v/\s.fr.length+1=m/\V2 z (setRow (X4 (Y5 s.fr) s.fr.length λ(k:Nat)=>List.take 5 (List.drop (k*5) [Ji 0,Ji 0,T.v (Value.slice none 0 0),T.bool false,Ji 0])) (0+r.toNat) 0 [Ji (no:Int),Ji c.1.Q,T.own 0 1 j (Z5 c.1.sl),T.bool false,Ji 0]) f)/\True))) ⟨(s,(no:Int)),⟨Z8,Z8,L⟩,λhc=>?_,λhc=>⟨λh3=>?_,λh3=>?_⟩⟩
 ·have hc:0<=frAt s.fr no:=G7 hc;rw[(yK v hc).1] at f;cases f
 ·have hc:¬0<=frAt s.fr no:=r9 hc;have h3:s.fr.length=3:=by have:=beq_iff_eq.1 h3;omega
  have l:=h.hd;have g:s.J.toNat<s.fr.length:=Z9
  refine⟨(s,s.J.toNat,v),⟨⟨Z8,X5,Z6⟩,Z8,h,g⟩,λu=>?_,λu=>?_⟩
  ·have u:(X3 s s.J.toNat).2=false:=(vZ _).mp u;obtain⟨i,j⟩:=m0 v hc h3 u;rw[i,j];exact Z8
  ·have u:(X3 s s.J.toNat).2=true:=(wU _).mp u;rw[(m4 v hc h3 u).1] at f;cases f
 ·have hc:¬0<=frAt s.fr no:=r9 hc;have h3:¬s.fr.length=3:=λe=>by rw[e] at h3;simp at h3
  rw[(yC v hc h3).1] at f;cases f
def iG{d:Dsk}{no:Nat}(h:(P7 d no).2=true):PgP (P7 d no).1:=by
 unfold P7 at h ⊢;by_cases hr:S1 d (1+no)=[]
 ·rw[if_pos hr];refine⟨Int.le_refl _,M4,rfl,λi hi=>?_⟩
  match i,hi with
  |0,_=>exact N4 _
  |1,_=>exact N4 _
  |2,_=>exact N4 _
  |3,_=>exact N4 _
 ·rw[if_neg hr] at h ⊢;unfold E5 at h ⊢;split at h
  ·rename_i C;rw[if_pos C];simp only[J5] at h;exact G7 h.2
  ·cases h
def xI{s:Sto}{no:Nat}(h:SInv s)(o:no<8)(u:(Y3 s no).2.2=true):(Y3 s no).2.1<(Y3 s no).1.fr.length/\PgP ((Y3 s no).1.fr.getD (Y3 s no).2.1 dz).pg:=by
 by_cases hc:0<=frAt s.fr no
 ·rw[(yK 0 hc).1];exact⟨iF hc,(h.frp _ (iF hc)).2.2.1⟩
 ·by_cases h3:s.fr.length=3
  ·cases ho:(X3 s s.J.toNat).2 with
   |false=>
    rw[(m0 0 hc h3 ho).1] at u;cases u
   |true=>
    rw[(m4 0 hc h3 ho).1];have d:=h.hd;have l:=(s7 s s.J.toNat).1;have hp:=(a05 h o hc h3 ho).2.2;unfold b0A;dsimp only;rw[zW,P4,j_j Z9]
    exact⟨Z9,iG hp⟩
  ·rw[(yC 0 hc h3).1];unfold c2y;dsimp only;rw[P4,qA (U9 _),F9]
   simp only[j_h,List.getElem?_cons_zero,Option.getD_some,List.length_cons,List.length_nil]
   exact⟨Z9,iG (h.pg no o).1⟩
def gF(f:Frm)(r:Rec):Frm:=⟨f.no,⟨r.l,f.pg.sl.set r.s.toNat r.a⟩,true,if f.D=true then f.first else r.l⟩
def c2j(a:Sto)(k:Nat)(r:Rec):Sto:=⟨a.d,a.ep,a.L,a.S,a.fr.set k (gF (a.fr.getD k dz) r),a.J⟩
def T9(s:Sto)(r:Rec):Sto×Bool:=if(Y3 s r.g.toNat).2.2=true then(c2j (Y3 s r.g.toNat).1 (Y3 s r.g.toNat).2.1 r,true) else((Y3 s r.g.toNat).1,false)
def mC(s:Sto)(r:Rec):Prop:=SInv s/\0<=r.g/\r.g<8/\0<=r.s/\r.s<4
def c2U:Con:=.reff ⟨Sto×Rec×Nat,λx=>[.ref 0 0 0,.agg x.2.1.ts],λx=>x.1.bx x.2.2,λx=>.bool (T9 x.1 x.2.1).2,λx=>(T9 x.1 x.2.1).1.bxF (P8 x.1 x.2.1.g.toNat x.2.2),λx=>mC x.1 x.2.1⟩
def b9N{L:List Frm}{k i:Nat}(f:Frm)(h:i≠k):b58 (Y5 L i) (Y5 (L.set k f) i):=by
 rw[show Y5 (L.set k f) i=Y5 L i by unfold Y5;rw[show(L.set k f).getD i dz=L.getD i dz by rw[P4,j_k (Ne.symm h),←P4]]]
 exact kX _
def oB{L:List Frm}{k:Nat}(f:Frm)(h:k<L.length):(L.set k f).getD k dz=f:=by rw[P4,j_j h];rfl
def a1r{L:List (Bz)}{j:Nat}(t:Bz):L.length=(L.set j t).length/\Z7 L.length (setRow (Z5 L) j 0 [T.str t]) (Z5 (L.set j t)):=⟨zW.symm,λi hi=>a1l i hi⟩
def c0H{L:List Frm}{k:Nat}{r:Rec}(d:k<L.length)(hd:(L.getD k dz).D=true):V2 L.length (setRow (setRow (Y5 L) k 2 [T.own 0 1 (L.getD k dz).pg.sl.length (setRow (Z5 (L.getD k dz).pg.sl) r.s.toNat 0 [T.str r.a])]) k 1 [T.int IntKind.i64 r.l]) (Y5 (L.set k (gF (L.getD k dz) r))):=λi hi=>by
 have l5:∀j,(Y5 L j).length=5:=λ_=>rfl
 by_cases h:i=k
 ·subst h;unfold setRow;rw[iU rfl];have e:Y5 (L.set i (gF (L.getD i dz) r)) i=[Ji (L.getD i dz).no,Ji r.l,.own 0 1 ((L.getD i dz).pg.sl.set r.s.toNat r.a).length (Z5 ((L.getD i dz).pg.sl.set r.s.toNat r.a)),.bool (L.getD i dz).D,Ji (L.getD i dz).first]:=by
   unfold Y5;rw[oB _ hi];unfold gF;dsimp only;rw[if_pos hd,hd]
  rw[e];exact⟨rfl,rfl,⟨rfl,(a1r r.a).1,(a1r r.a).2⟩,Z8⟩
 ·rw[L5 (by rw[T7 b0W,l5];exact yH rfl) h,L5 b0W h]
  exact b9N _ h
def b6O{L:List Frm}{k:Nat}{r:Rec}(d:k<L.length)(hd:(L.getD k dz).D=false):V2 L.length (setRow (setRow (setRow (setRow (Y5 L) k 2 [T.own 0 1 (L.getD k dz).pg.sl.length (setRow (Z5 (L.getD k dz).pg.sl) r.s.toNat 0 [T.str r.a])]) k 1 [T.int IntKind.i64 r.l]) k 3 [T.bool true]) k 4 [T.int IntKind.i64 r.l]) (Y5 (L.set k (gF (L.getD k dz) r))):=λi hi=>by
 have l5:∀j,(Y5 L j).length=5:=λ_=>rfl
 by_cases h:i=k
 ·subst h;unfold setRow;rw[iU rfl];have e:Y5 (L.set i (gF (L.getD i dz) r)) i=[Ji (L.getD i dz).no,Ji r.l,.own 0 1 ((L.getD i dz).pg.sl.set r.s.toNat r.a).length (Z5 ((L.getD i dz).pg.sl.set r.s.toNat r.a)),.bool true,Ji r.l]:=by
   unfold Y5;rw[oB _ hi];unfold gF;dsimp only;rw[if_neg (by rw[hd];simp)]
  rw[e];exact⟨rfl,rfl,⟨rfl,(a1r r.a).1,(a1r r.a).2⟩,Z8⟩
 ·have a1:(setRow (Y5 L) k 2 [T.own 0 1 (L.getD k dz).pg.sl.length (setRow (Z5 (L.getD k dz).pg.sl) r.s.toNat 0 [T.str r.a])] i).length=5:=by rw[T7 b0W,l5]
  have A:(setRow (setRow (Y5 L) k 2 [T.own 0 1 (L.getD k dz).pg.sl.length (setRow (Z5 (L.getD k dz).pg.sl) r.s.toNat 0 [T.str r.a])]) k 1 [T.int IntKind.i64 r.l] i).length=5:=by rw[T7 a9Y,a1]
  rw[L5 (by rw[T7 (by rw[A];exact yH rfl),A];exact yH rfl) h,L5 (by rw[A];exact yH rfl) h,L5 a9Y h,L5 b0W h]
  exact b9N _ h
def a5f:GK 120 c2U:=gk func120<|by
 rintro⟨s,r,v⟩ ⟨h,n,o,i,j⟩;dsimp only at h n o i j;have hno:r.g.toNat<8:=Z9
 by_cases hu:(Y3 s r.g.toNat).2.2=true
 ·have hf:=xI h hno hu;have e:T9 s r=(c2j (Y3 s r.g.toNat).1 (Y3 s r.g.toNat).2.1 r,true):=if_pos hu;refine C6 (gC lG gN) func120 Z3 c4q (α:=let i:=(T9 s r).1;let b:=(true=(T9 s r).2/\True);let n:=(Y5 (T9 s r).1.fr);let m:=(T9 s r).1.fr.length;∃(x:(Sto×Nat×Nat)),let c:=(P8 x.1 x.2.1 x.2.2);let p:=(Y3 x.1 x.2.1);let k:=(Z0 Y1 p.1.L (T9 s r).1.L);let j:=p.1.fr;let f:=j.length;let w:=(Z0 Z1 p.1.d.C (T9 s r).1.d.C);let y:=(Z0 Z5 p.1.d.E (T9 s r).1.d.E);let u:=(Z0 Y9 p.1.d.keep (T9 s r).1.d.keep);let z:=(j.getD p.2.1 dz);let q:=(setRow (setRow (Y5 j) p.2.1 2 [T.own (0:TypeId) 1 z.pg.sl.length (setRow (Z5 z.pg.sl) r.s.toNat 0 [T.str r.a])]) p.2.1 1 [Ji r.l]);(((0=0/\0=0)/\r.g=(x.2.1:Int)/\True)/\(LnS (v) (x.2.2) s x.1)/\iS x.1 x.2.1/\p.2.2=true)/\br false ((false=(T9 s r).2/\True)/\nO p.1 i/\y/\True/\True/\k/\True/\w/\u/\(P8 x.1 x.2.1 x.2.2=P8 s r.g.toNat v/\f=m/\V2 j.length (Y5 j) n)/\True) (Lt p.2.1 f/\W9 r.s z.pg.sl.length/\PfB c c p.2.1 j.length r.s.toNat z.pg.sl.length/\kV p.2.1 j.length [Ji z.pg.Q]/\Lt p.2.1 f/\br (! z.D) (kV p.2.1 j.length [T.bool z.D]/\kV p.2.1 j.length [Ji z.first]/\b/\nO p.1 i/\y/\True/\True/\k/\True/\w/\u/\(P8 x.1 x.2.1 x.2.2=P8 s r.g.toNat v/\f=m/\V2 j.length (setRow (setRow q p.2.1 3 [T.bool true]) p.2.1 4 [Ji r.l]) n)/\True) (b/\nO p.1 i/\y/\True/\True/\k/\True/\w/\u/\(P8 x.1 x.2.1 x.2.2=P8 s r.g.toNat v/\f=m/\V2 j.length q n)/\True))) ⟨(s,r.g.toNat,v),⟨⟨Z8,X5,Z6⟩,Z8,⟨h,hno⟩,hu⟩,λhb=>(by cases hb),λ_=>?_⟩
  rw[e];dsimp only;generalize P8 s r.g.toNat v=w;generalize Y3 s r.g.toNat=A at*;obtain⟨a,k,up⟩:=A;dsimp only at*;obtain⟨f,u,z,q,t⟩:=hf;refine⟨f,⟨i,Z9⟩,⟨rfl,f,Z9⟩,⟨f,rfl⟩,f,λhd=>?_,λhd=>?_⟩
  ·exact⟨⟨f,rfl⟩,⟨f,rfl⟩,Z8,⟨rfl,rfl,Z8,Z8,rfl,Z8,rfl,Z8,rfl,⟨rfl,zW.symm⟩,Z8⟩,Z8,Z6,Z6,Z8,Z6,Z8,Z8,⟨rfl,zW.symm,b6O f mR⟩,Z6⟩
  ·exact⟨Z8,⟨rfl,rfl,Z8,Z8,rfl,Z8,rfl,Z8,rfl,⟨rfl,zW.symm⟩,Z8⟩,Z8,Z6,Z6,Z8,Z6,Z8,Z8,⟨rfl,zW.symm,c0H f mR⟩,Z6⟩
 ·have e:T9 s r=((Y3 s r.g.toNat).1,false):=if_neg hu;refine C6 (gC lH gN) func120 Z3 c4q (α:=∃(x:(Sto×Nat×Nat)),let p:=(Y3 x.1 x.2.1);(((0=0/\0=0)/\r.g=(x.2.1:Int)/\True)/\(LnS (v) (x.2.2) s x.1)/\iS x.1 x.2.1/\p.2.2=false)/\br true ((false=(T9 s r).2/\True)/\nO p.1 (T9 s r).1/\(Z0 Z5 p.1.d.E (T9 s r).1.d.E)/\True/\True/\(Z0 Y1 p.1.L (T9 s r).1.L)/\True/\(Z0 Z1 p.1.d.C (T9 s r).1.d.C)/\(Z0 Y9 p.1.d.keep (T9 s r).1.d.keep)/\(P8 x.1 x.2.1 x.2.2=P8 s r.g.toNat v/\p.1.fr.length=(T9 s r).1.fr.length/\V2 p.1.fr.length (Y5 p.1.fr) (Y5 (T9 s r).1.fr))/\True) False) ⟨(s,r.g.toNat,v),⟨⟨Z8,X5,Z6⟩,Z8,⟨h,hno⟩,a5S⟩,λ_=>?_,λhb=>(by cases hb)⟩
  rw[e];exact Z8
def a64{L:List Frm}{k:Nat}{f:Frm}(h:∀i,i<L.length->SmF (L.getD i dz))(F:SmF f):∀i,i<(L.set k f).length->SmF ((L.set k f).getD i dz):=λi hi=>by
 rw[zW] at hi;by_cases e:i=k
 ·subst e;rw[oB _ hi];exact F
 ·rw[P4,j_k (Ne.symm e),←P4]
  exact h i hi
def c2W{d:Dsk}(h:nN d):nN (y9 d).1:=by
 unfold y9;split
 ·exact b0b h
 ·exact h
def c70{s:Sto}{d:Dsk}(h:iC s)(hd:nN d):iC (s.sd d):=⟨hd,h.2⟩
def a9W{s:Sto}{k:Nat}(h:SInv s)(d:k<s.fr.length):iC (X3 s k).1:=by
 have f:=h.flu (h.frp k d).2.2.2;have hS:=cL f h.sm;have C:=b0a (l:=(s.fr.getD k dz).pg.Q) h.c;have h5:=c2W hS.1;unfold X3;split
 ·split
  ·split
   ·refine⟨⟨h5.1,?_,h5.2.2⟩,hS.2.1,?_,?_⟩
    ·have:=b8T C;show((y9 _).1.C++[_]).length<=_;rw[F9];simp only[List.length_cons,List.length_nil];omega
    ·show(List.set _ _ _).length<=_;rw[zW];exact hS.2.2.1
    ·refine a64 hS.2.2.2 ?_
     have:=hS.2.2.2 k (by rw[a07];exact d)
     exact this
   ·exact c70 hS h5
  ·exact hS
 ·exact h.sm
def c5k{d:Dsk}{no:Nat}(h:(P7 d no).2=true):SmF (oZ no (P7 d no).1):=by
 have:=(iG h).2.2.1;show(P7 d no).1.sl.length<=1048576;omega
def a90{s:Sto}{no:Nat}(h:SInv s)(o:no<8):iC (Y3 s no).1:=by
 by_cases hc:0<=frAt s.fr no
 ·rw[(yK 0 hc).1];exact h.sm
 ·by_cases h3:s.fr.length=3
  ·have hh:=h.hd;have ho:=a9W h (k:=s.J.toNat) Z9
   cases u:(X3 s s.J.toNat).2 with
   |false=>
    rw[(m0 0 hc h3 u).1];exact ho
   |true=>
    rw[(m4 0 hc h3 u).1];refine⟨ho.1,ho.2.1,?_,?_⟩
    ·show(List.set _ _ _).length<=_;rw[zW];exact ho.2.2.1
    ·exact a64 ho.2.2.2 (c5k (a05 h o hc h3 u).2.2)
  ·rw[(yC 0 hc h3).1];have hl:=h.fr3;refine⟨h.sm.1,h.sm.2.1,?_,λi hi=>?_⟩
   ·show(s.fr++[_]).length<=_;rw[F9];simp only[List.length_cons,List.length_nil];omega
   ·have hi:i<(s.fr++[oZ no (P7 s.d no).1]).length:=hi;show SmF ((s.fr++[oZ no (P7 s.d no).1]).getD i dz);by_cases e:i<s.fr.length
    ·rw[P4,rL e,←P4]
     exact h.sm.2.2.2 i e
    ·have:i=s.fr.length:=by rw[F9] at hi;simp only[List.length_cons,List.length_nil] at hi;omega
     subst this;rw[P4,qA (U9 _)]
     simp only[j_h,List.getElem?_cons_zero,Option.getD_some]
     exact c5k (h.pg no o).1
def c3e{s:Sto}{r:Rec}(h:mC s r):iC (T9 s r).1:=by
 obtain⟨h,f,e,i,d⟩:=h;have hno:r.g.toNat<8:=Z9
 have hS:=a90 h hno;unfold T9;split
 ·rename_i hu;have hf:=xI h hno hu;refine⟨hS.1,hS.2.1,?_,?_⟩
  ·show(List.set _ _ _).length<=_;rw[zW];exact hS.2.2.1
  ·refine a64 hS.2.2.2 ?_
   have:=hf.2.2.2.1;show(List.set _ _ _).length<=_;rw[zW];omega
 ·exact hS
def c3q{s:Sto}{lsn:Int}(h:SInv s)(f:1<=lsn)(e:lsn<=s.L.length):mC s (s.L.getD (lsn-1).toNat dz)/\(s.L.getD (lsn-1).toNat dz).l=lsn:=by
 obtain⟨a,b⟩:=C4.1 h.rc (lsn-1).toNat Z9
 have a:=(Q4 _).1 a;obtain⟨_,_,_,_,_,_,_,_,_,_,q,g,Q,d,_⟩:=a;exact⟨⟨h,q,Z9,Q,Z9⟩,Z9⟩
def a6r:Con:=.rel ⟨Dsk×Nat,λx=>[.agg x.1.ts,Ji x.2],λx=>.tup [.agg (P7 x.1 x.2).1.ts,.bool (P7 x.1 x.2).2],DkB⟩
def a5x:GK 161 a6r:=gk func161<|by
 rintro⟨d,no⟩ ⟨g,i,j,f⟩;dsimp only at g i j f;refine a0x d no ⟨Z4 Z9,(d,1+no),⟨⟨eqD _,M0,Z6⟩,g,M0⟩,λh=>⟨(),Z8,?_⟩,λh=>⟨((no:Int),S1 d (1+no)),⟨Z8,f⟩,?_⟩⟩
 ·have h:S1 d (1+no)=[]:=by simpa using h
  have e:P7 d no=(⟨0,[[],[],[],[]]⟩,true):=by unfold P7;rw[if_pos h]
  rw[e];exact Z8
 ·have h:S1 d (1+no)≠[]:=by simpa using h
  have e:P7 d no=E5 no (S1 d (1+no)):=by unfold P7;rw[if_neg h]
  rw[e];exact Z8
def b8U:Con:=.rel ⟨Pg×Int×Bz×Int,λx=>[.agg x.1.ts,Ji x.2.1,.str x.2.2.1,Ji x.2.2.2],λx=>.agg (Pg.ts ⟨x.2.2.2,x.1.sl.set x.2.1.toNat x.2.2.1⟩),λx=>x.1.sl.length=4/\0<=x.2.1/\x.2.1<4⟩
def b3N:GK 300 b8U:=gk func300<|by
 rintro⟨p,j,t,l⟩ ⟨d,h,e⟩;dsimp only at d h e;exact U5 (gC a0u gN) func300 Z3 (α:=let r:=(p.sl.set j.toNat t);∃(x:Pg),let q:=x.sl.length;(((p.Q=x.Q/\(Z0 Z5 p.sl x.sl)/\True)/\True)/\q<=1048576)/\W9 j q/\Lt (0+j.toNat) q/\Le (0+q) q/\l=l/\(q=r.length/\Z7 x.sl.length (setRow (Z5 x.sl) (0+j.toNat) 0 [T.str t]) (Z5 r))/\True) ⟨p,⟨K8,Z9⟩,⟨h,Z9⟩,Q2,uA _,rfl,⟨zW.symm,λi hi=>by rw[D4];exact a1l i hi⟩,Z6⟩
theorem lR{f row:Nat->List T}:X4 f 0 row=row:=funext λ_=>rfl
def c25{L:List Frm}{k:Nat}(f:Frm)(d:k<L.length):Z7 L.length (setRow (V9 L) k 0 f.ts) (V9 (L.set k f)):=λi _=>by
 have l:∀j,(V9 L j).length=5:=λ_=>rfl
 rw[E6 (by rw[l];rfl)]
 unfold V9;by_cases h:i=k
 ·subst h;rw[iU rfl,oB _ d]
 ·rw[b3E h,show(L.set k f).getD i dz=L.getD i dz by rw[P4,j_k (Ne.symm h),←P4]]
def b7I{L:List Frm}{k:Nat}(d:k<L.length):Z7 L.length (setRow (setRow (V9 L) k 3 [T.bool false]) k 4 [T.int IntKind.i64 0]) (V9 (L.set k (clF (L.getD k dz)))):=λi hi=>by
 have hl:∀j,(V9 L j).length=5:=λ_=>rfl
 by_cases h:i=k
 ·subst h;unfold setRow;rw[iU rfl];unfold V9;rw[oB _ d];rfl
 ·rw[L5 (by rw[T7 (by rw[hl];decide),hl];decide) h,L5 (by rw[hl];decide) h]
  unfold V9;rw[show(L.set k (clF (L.getD k dz))).getD i dz=L.getD i dz by rw[P4,j_k (Ne.symm h),←P4]]
def c1J{L:List Frm}(f:Frm)(r:Nat->List T)(R:(r 0).length=5):Z7 (L.length+1) (setRow (X4 (V9 L) L.length r) L.length 0 f.ts) (V9 (L++[f])):=λi hi=>by
 have l:(X4 (V9 L) L.length r i).length=5:=by
  unfold X4;by_cases h:i<L.length
  ·rw[rX h];rfl
  ·rw[mH h,show i-L.length=0 by omega]
   exact R
 rw[E6 (by rw[l];rfl)]
 by_cases h:i=L.length
 ·subst h;rw[iU rfl];unfold V9;rw[show(L++[f]).getD L.length dz=f by rw[P4,qA (U9 _)];simp]
 ·rw[b3E h];unfold X4;rw[rX Z9]
  unfold V9;rw[show(L++[f]).getD i dz=L.getD i dz by rw[P4,rL Z9,←P4]]
def b80:Con:=.rel ⟨Sto×Nat,λx=>[.agg x.1.ts,Ji x.2],λx=>.tup [.agg (X3 x.1 x.2).1.ts,.bool (X3 x.1 x.2).2],λx=>SInv x.1/\x.2<x.1.fr.length⟩
def b39:GK 264 b80:=gk func264<|by
 rintro⟨s,k⟩ ⟨h,j⟩;dsimp only at h j;have i:=h.frp k j;have F:=h.flu i.2.2.2;have r:=a07 s (s.fr.getD k dz).pg.Q;have u:=cL F h.sm;have t:=a16 (l:=(s.fr.getD k dz).pg.Q) h.pd;have q:=b0a (l:=(s.fr.getD k dz).pg.Q) h.c;have n:=h.fr3;have o:= @rO s k;have o2:= @mS s k;have o3:= @eT s k;refine U5 (gC a4f (gC dA (gC a4A (gC kA gN)))) func264 Z3 (α:=let m:=(X3 s k).1;let v:=(X3 s k).2;let u:=(0+(k:Int).toNat);let q:=(s.fr.getD (k:Int).toNat dz);W9 (k:Int) s.fr.length/\((! q.D)=true->(yS s m)/\true=v/\True)/\((! q.D)=false->∃(x:(Sto×Int)),let z:=(V8 x.1 x.2);let w:=(Z0 Y1 z.1.L (X3 s k).1.L);let y:=((↑z.1.d.C.length:Int)==500);let p:=z.1.fr.length;let j:=(Le 0 0/\U8 0 p 56);let r:=(0+p=(X3 s k).1.fr.length/\Z7 (0+p) (setRow (setRow (X4 (λ(k:Nat)=>List.take 5 (List.drop (k*5) [])) 0 (V9 z.1.fr)) u 3 [T.bool false]) u 4 [Ji 0]) (V9 (X3 s k).1.fr));(((yS s x.1)/\q.pg.Q=x.2/\True)/\mD x.1 x.2)/\((! z.2)=true->(yS z.1 m)/\false=v/\True)/\((! z.2)=false->(y=true->∃(f:Dsk),(((zJ z.1.d f)/\True)/\nN f/\aM f)/\((!(U3 f).2)=true->(yS {z.1 with d:=(U3 f).1} m)/\false=v/\True)/\((!(U3 f).2)=false->R2 .i64 (1+q.no)/\∃(X:oK.ι),((q.no=X.1/\(q.pg.Q=X.2.Q/\(Z0 Z5 q.pg.sl X.2.sl)/\True)/\True)/\PgP X.2)/\∃(g:(Dsk×Int×Bz)),(((zJ (U3 f).1 g.1)/\1+q.no=g.2.1/\S4 X.1 X.2=g.2.2/\True)/\g.1.C.length<=1048576)/\j/\W9 (k:Int) (0+p)/\Lt u (0+p)/\W9 (k:Int) (0+p)/\Lt u (0+p)/\Le (0+(0+p)) (0+p)/\((Z0 Z5 g.1.E (X3 s k).1.d.E)/\(Z0 Z1 (g.1.C++[Pend.mk g.2.1 g.2.2]) (X3 s k).1.d.C)/\g.1.A=(X3 s k).1.d.A/\(Z0 Y9 g.1.keep (X3 s k).1.d.keep)/\z.1.ep=(X3 s k).1.ep/\w/\z.1.S=(X3 s k).1.S/\r/\z.1.J=(X3 s k).1.J/\True)/\true=v/\True))/\(y=false->R2 .i64 (1+q.no)/\∃(f:oK.ι),((q.no=f.1/\(q.pg.Q=f.2.Q/\(Z0 Z5 q.pg.sl f.2.sl)/\True)/\True)/\PgP f.2)/\∃(X:(Dsk×Int×Bz)),(((zJ z.1.d X.1)/\1+q.no=X.2.1/\S4 f.1 f.2=X.2.2/\True)/\X.1.C.length<=1048576)/\j/\W9 (k:Int) (0+p)/\Lt u (0+p)/\W9 (k:Int) (0+p)/\Lt u (0+p)/\Le (0+(0+p)) (0+p)/\((Z0 Z5 X.1.E (X3 s k).1.d.E)/\(Z0 Z1 (X.1.C++[Pend.mk X.2.1 X.2.2]) (X3 s k).1.d.C)/\X.1.A=(X3 s k).1.d.A/\(Z0 Y9 X.1.keep (X3 s k).1.d.keep)/\z.1.ep=(X3 s k).1.ep/\w/\z.1.S=(X3 s k).1.S/\r/\z.1.J=(X3 s k).1.J/\True)/\true=v/\True)))) ?_
 rw[E3];refine⟨Y6 j,λhd=>?_,λhd=>⟨(s,(s.fr.getD k dz).pg.Q),⟨Z8,F⟩,λhu=>?_,λhu=>⟨λhc=>?_,λhc=>?_⟩⟩⟩
 ·rw[uI mR]
  exact Z8
 all_goals
  have hd:(s.fr.getD k dz).D=true:=mR
  replace o:=o hd;replace o2:=o2 hd;replace o3:=o3 hd;dsimp only at*;generalize V8 s (s.fr.getD k dz).pg.Q=A at*;obtain⟨a,up⟩:=A;dsimp only at*;rw[←r] at j i n
 ·have hu:up=false:=(vZ _).mp hu;subst hu;rw[o rfl];exact Z8
 ·have hu:up=true:=(wU _).mp hu;subst hu;have hc:500<=a.d.C.length:=by have:=beq_iff_eq.1 hc;omega
  rw[←r];refine⟨a.d,⟨Z8,u.1,t⟩,λhb=>?_,λhb=>?_⟩
  ·have hb:(U3 a.d).2=false:=(vZ _).mp hb;rw[o2 rfl b03,kH hc]
   exact K8
  ·have hb:(U3 a.d).2=true:=(wU _).mp hb;rw[o3 rfl b03,kH hc]
   exact⟨Z4 Z9,((a.fr.getD k dz).no,(a.fr.getD k dz).pg),⟨K8,i.2.2.1⟩,((U3 a.d).1,1+(a.fr.getD k dz).no,S4 (a.fr.getD k dz).no (a.fr.getD k dz).pg),⟨K8,by show(U3 a.d).1.C.length<=_;rw[xU];exact N4 _⟩,⟨U9 _,R0⟩,⟨Z9,Z9⟩,Q2,⟨Z9,Z9⟩,Q2,K0,⟨Z8,Z8,rfl,Z8,rfl,Z8,rfl,⟨a21,by rw[D4,D4,lR];exact b7I j⟩,Z8⟩,Z8⟩
 ·have hu:up=true:=(wU _).mp hu;subst hu;have hc:¬500<=a.d.C.length:=λe=>by have e:(a.d.C.length:Int)=500:=Z9;rw[e] at hc;simp at hc
  rw[←r,o3 rfl (by rw[fM hc]),fM hc]
  exact⟨Z4 Z9,((a.fr.getD k dz).no,(a.fr.getD k dz).pg),⟨K8,i.2.2.1⟩,(a.d,1+(a.fr.getD k dz).no,S4 (a.fr.getD k dz).no (a.fr.getD k dz).pg),⟨K8,X5⟩,⟨U9 _,R0⟩,⟨Z9,Z9⟩,Q2,⟨Z9,Z9⟩,Q2,K0,⟨Z8,Z8,rfl,Z8,rfl,Z8,rfl,⟨a21,by rw[D4,D4,lR];exact b7I j⟩,Z8⟩,Z8⟩
def a6I:Con:=.rel ⟨Sto×Nat,λx=>[.agg x.1.ts,Ji x.2],λx=>.tup [.agg (Y3 x.1 x.2).1.ts,Ji (Y3 x.1 x.2).2.1,.bool (Y3 x.1 x.2).2.2],λx=>iS x.1 x.2⟩
def rQ:GK 167 a6I:=gk func167<|by
 rintro⟨s,no⟩ ⟨h,o⟩;dsimp only at h o;have L:L9 s.fr.length:=by have:=h.fr3;unfold L9;omega
 have g:=h.fr3;refine U5 (gC jW (gC b39 (gC a5x gN))) func167 Z3 (α:=let w:=(0+s.fr.length);let u:=(s.fr.length:Int);let z:=(λ(k:Nat)=>List.take 5 (List.drop (k*5) []));let r:=(0+s.fr.length+1);let p:=(Y3 s no);let m:=p.1.d;let j:=(↑p.2.1:Int);∃(x:pG.ι),(((yS s x.1)/\(no:Int)=x.2/\True)/\L9 x.1.fr.length)/\bd (frAt x.1.fr x.2≥(0:Int)) ((yS s p.1)/\frAt x.1.fr x.2=j/\true=p.2.2/\True) (br (u==3) (∃(x:(Sto×Nat)),let q:=(X3 x.1 x.2);let y:=(0+q.1.fr.length);(((yS s x.1)/\s.J=(x.2:Int)/\True)/\SInv x.1/\x.2<x.1.fr.length)/\br (! q.2) ((yS q.1 p.1)/\0=j/\false=p.2.2/\True) (Ri (q.1.J+1)/\Nz (3:Int)/\∃(X:(Dsk×Nat)),let n:=(P7 X.1 X.2);(((zJ q.1.d X.1)/\(no:Int)=(X.2:Int)/\True)/\DkB X)/\(Le 0 0/\U8 0 q.1.fr.length 56)/\W9 s.J y/\Lt (0+s.J.toNat) y/\Le (0+y) y/\((Z0 Z5 q.1.d.E m.E)/\(Z0 Z1 q.1.d.C m.C)/\q.1.d.A=m.A/\(Z0 Y9 q.1.d.keep m.keep)/\q.1.ep=p.1.ep/\(Z0 Y1 q.1.L p.1.L)/\q.1.S=p.1.S/\(0+q.1.fr.length=p.1.fr.length/\Z7 y (setRow (X4 z 0 (V9 q.1.fr)) (0+s.J.toNat) 0 [Ji (no:Int),Ji n.1.Q,T.sl 1 n.1.sl.length (Z5 n.1.sl),T.bool false,Ji 0]) (V9 p.1.fr))/\(q.1.J+1).tmod (3:Int)=p.1.J/\True)/\s.J=j/\true=p.2.2/\True)) ((Le 0 0/\U8 0 s.fr.length 56)/\(Le 1 1/\Le w w/\U8 w 1 56)/\∃(x:(Dsk×Nat)),let f:=(P7 x.1 x.2);(((zJ s.d x.1)/\(no:Int)=(x.2:Int)/\True)/\DkB x)/\(Le (0+r) r/\Le 0 0/\U8 0 r 56)/\W9 u (0+r)/\Lt (0+u.toNat) (0+r)/\Le (0+(0+r)) (0+r)/\((Z0 Z5 s.d.E m.E)/\(Z0 Z1 s.d.C m.C)/\s.d.A=m.A/\(Z0 Y9 s.d.keep m.keep)/\s.ep=p.1.ep/\(Z0 Y1 s.L p.1.L)/\s.S=p.1.S/\(0+r=p.1.fr.length/\Z7 (0+r) (setRow (X4 z 0 (X4 (X4 z 0 (V9 s.fr)) w λ(k:Nat)=>List.take 5 (List.drop (k*5) [Ji 0,Ji 0,T.v (Value.slice none 0 0),T.bool false,Ji 0]))) (0+u.toNat) 0 [Ji (no:Int),Ji f.1.Q,T.sl 1 f.1.sl.length (Z5 f.1.sl),T.bool false,Ji 0]) (V9 p.1.fr))/\s.J=p.1.J/\True)/\u=j/\true=p.2.2/\True))) ⟨(s,(no:Int)),⟨Z8,L⟩,λhc=>?_,λhc=>⟨λh3=>?_,λh3=>?_⟩⟩
 ·have hc:0<=frAt s.fr no:=G7 hc;rw[(yK 0 hc).1];exact⟨jR _,X5,Z8⟩
 ·have hc:¬0<=frAt s.fr no:=r9 hc;have h3:s.fr.length=3:=by have:=beq_iff_eq.1 h3;omega
  have i:=h.hd;have f:s.J.toNat<s.fr.length:=Z9
  obtain⟨r,R,_⟩:=s7 s s.J.toNat;refine⟨(s,s.J.toNat),⟨⟨jR _,X5,Z6⟩,h,f⟩,λu=>?_,λu=>?_⟩
  ·have u:(X3 s s.J.toNat).2=false:=(vZ _).mp u;rw[(m0 0 hc h3 u).1];exact Z8
  ·have u:(X3 s s.J.toNat).2=true:=(wU _).mp u;obtain⟨d1,_⟩:=a05 h o hc h3 u;rw[(m4 0 hc h3 u).1];exact⟨Z4 X5,b0C,((X3 s s.J.toNat).1.d,no),⟨Z8,d1⟩,⟨U9 _,by unfold U8;dsimp only;omega⟩,⟨Z9,X5⟩,J8,by unfold Le;dsimp only;omega,⟨⟨rfl,X6 _ _⟩,⟨rfl,X6 _ _⟩,rfl,⟨rfl,X6 _ _⟩,rfl,⟨rfl,X6 _ _⟩,rfl,⟨a21,by rw[D4,D4,lR];exact c25 (oZ no (P7 (X3 s s.J.toNat).1.d no).1) (by rw[r];exact f)⟩,Z8⟩,X5,Z8⟩
 ·have hc:¬0<=frAt s.fr no:=r9 hc;have h3:¬s.fr.length=3:=λe=>by rw[e] at h3;simp at h3
  obtain⟨d1,_⟩:=b0o h o;rw[(yC 0 hc h3).1];exact⟨⟨U9 _,R0⟩,⟨U9 _,K0,R0⟩,(s.d,no),⟨Z8,d1⟩,⟨K0,U9 _,R0⟩,⟨Z9,Z9⟩,Q2,K0,⟨Z8,Z8,rfl,Z8,rfl,Z8,rfl,⟨b0y,by rw[E3,D4,D4,lR,lR];exact c1J (oZ no (P7 s.d no).1) _ rfl⟩,Z8⟩,Z8⟩
def a67:Con:=.rel ⟨Sto×Int,λx=>[.agg x.1.ts,Ji x.2],λx=>.tup [.agg (T9 x.1 (x.1.L.getD (x.2-1).toNat dz)).1.ts,.bool (T9 x.1 (x.1.L.getD (x.2-1).toNat dz)).2],λx=>SInv x.1/\1<=x.2/\x.2<=x.1.L.length⟩
def b6c{L:List Frm}{k i:Nat}(f:Frm)(h:i≠k):V9 L i=V9 (L.set k f) i:=by
 unfold V9;rw[show(L.set k f).getD i dz=L.getD i dz by rw[P4,j_k (Ne.symm h),←P4]]
def c0L{L:List Frm}{k:Nat}{r:Rec}(d:k<L.length)(hd:(L.getD k dz).D=true):Z7 L.length (setRow (V9 L) k 1 [T.int IntKind.i64 r.l,T.sl 1 ((L.getD k dz).pg.sl.set r.s.toNat r.a).length (Z5 ((L.getD k dz).pg.sl.set r.s.toNat r.a))]) (V9 (L.set k (gF (L.getD k dz) r))):=λi hi=>by
 have hl:∀j,(V9 L j).length=5:=λ_=>rfl
 by_cases h:i=k
 ·subst h;unfold setRow;rw[iU rfl];unfold V9;rw[oB _ d];unfold gF Frm.ts;dsimp only;rw[if_pos hd,hd];rfl
 ·rw[L5 b7p h]
  exact b6c _ h
def b5i{L:List Frm}{k:Nat}{r:Rec}(hk:k<L.length)(hd:(L.getD k dz).D=false):Z7 L.length (setRow (setRow (setRow (V9 L) k 1 [T.int IntKind.i64 r.l,T.sl 1 ((L.getD k dz).pg.sl.set r.s.toNat r.a).length (Z5 ((L.getD k dz).pg.sl.set r.s.toNat r.a))]) k 3 [T.bool true]) k 4 [T.int IntKind.i64 r.l]) (V9 (L.set k (gF (L.getD k dz) r))):=λi hi=>by
 have hl:∀j,(V9 L j).length=5:=λ_=>rfl
 by_cases h:i=k
 ·subst h;unfold setRow;rw[iU rfl];unfold V9;rw[oB _ hk];unfold gF Frm.ts;dsimp only;rw[if_neg (by rw[hd];simp)]
  rfl
 ·have a1:(setRow (V9 L) k 1 [T.int IntKind.i64 r.l,T.sl 1 ((L.getD k dz).pg.sl.set r.s.toNat r.a).length (Z5 ((L.getD k dz).pg.sl.set r.s.toNat r.a))] i).length=5:=by rw[T7 b7p,hl]
  rw[L5 (by rw[T7 a9Y,a1];exact yH rfl) h,L5 a9Y h,L5 b7p h]
  exact b6c _ h
def b5v(s:Sto)(no:Nat):(Y3 s no).1.L=s.L/\((Y3 s no).1.fr.length<=s.fr.length∨((Y3 s no).1.fr.length=s.fr.length+1/\s.fr.length≠3)):=by
 obtain⟨R,_,r,_⟩:=s7 s s.J.toNat;unfold Y3;split
 ·exact⟨rfl,.inl (U9 _)⟩
 ·split
  ·split
   ·exact⟨r,.inl (by unfold b0A;dsimp only;rw[zW];omega)⟩
   ·exact⟨r,.inl X5⟩
  ·rename_i h;exact⟨rfl,.inr ⟨b0y,h⟩⟩
def jL:GK 222 a67:=gk func222<|by
 rintro⟨s,lsn⟩ ⟨h,f,e⟩;dsimp only at h f e;obtain⟨⟨_,u,z,t,j⟩,l⟩:=c3q h f e;have i:=h.l60;have v:=h.fr3;have o:(s.L.getD (lsn-1).toNat dz).g.toNat<8:=Z9
 have n:=(b5v s (s.L.getD (lsn-1).toNat dz).g.toNat).2;have hf:=xI h o;have e1:(Y3 s (s.L.getD (lsn-1).toNat dz).g.toNat).2.2=true->T9 s (s.L.getD (lsn-1).toNat dz)=(c2j (Y3 s (s.L.getD (lsn-1).toNat dz).g.toNat).1 (Y3 s (s.L.getD (lsn-1).toNat dz).g.toNat).2.1 (s.L.getD (lsn-1).toNat dz),true):=λhu=>if_pos hu
 have q:(Y3 s (s.L.getD (lsn-1).toNat dz).g.toNat).2.2=false->T9 s (s.L.getD (lsn-1).toNat dz)=((Y3 s (s.L.getD (lsn-1).toNat dz).g.toNat).1,false):=λhu=>if_neg (by rw[hu];simp)
 refine U5 (gC rQ (gC b3N gN)) func222 Z3 (α:=let v:=(s.L.getD (lsn-1).toNat dz);let p:=(T9 s v);Ri (lsn-1)/\W9 (lsn-1) s.L.length/\∃(x:(Sto×Nat)),let q:=(Y3 x.1 x.2);let b:=(Z0 Y1 q.1.L p.1.L);let f:=(Z0 Z1 q.1.d.C p.1.d.C);let n:=(Z0 Z5 q.1.d.E p.1.d.E);let m:=q.1.fr.length;let j:=(Z0 Y9 q.1.d.keep p.1.d.keep);let u:=(0+m);let z:=(↑q.2.1:Int).toNat;let y:=(q.1.fr.getD (0+z-0) dz);(((yS s x.1)/\v.g=(x.2:Int)/\True)/\iS x.1 x.2)/\br (! q.2.2) ((yS q.1 p.1)/\false=p.2/\True) ((Le 0 0/\U8 0 q.1.fr.length 56)/\W9 (↑q.2.1:Int) u/\Lt (0+z) u/\∃(X:(Pg×Int×Bz×Int)),let w:=(X.1.sl.set X.2.1.toNat X.2.2.1);let r:=(setRow (X4 (λ(k:Nat)=>List.take 5 (List.drop (k*5) [])) 0 (V9 q.1.fr)) (0+z) 1 [Ji X.2.2.2,T.sl 1 w.length (Z5 w)]);(((y.pg.Q=X.1.Q/\(Z0 Z5 y.pg.sl X.1.sl)/\True)/\v.s=X.2.1/\v.a=X.2.2.1/\lsn=X.2.2.2/\True)/\X.1.sl.length=4/\0<=X.2.1/\X.2.1<(4:Int))/\Lt (0+z) u/\Lt (0+z) u/\br (! y.D) (Lt (0+z) u/\Lt (0+z) u/\Le (0+u) u/\(n/\f/\q.1.d.A=p.1.d.A/\j/\q.1.ep=p.1.ep/\b/\q.1.S=p.1.S/\(0+m=p.1.fr.length/\Z7 u (setRow (setRow r (0+z) 3 [T.bool true]) (0+z) 4 [Ji lsn]) (V9 p.1.fr))/\q.1.J=p.1.J/\True)/\true=p.2/\True) (Le (0+u) u/\(n/\f/\q.1.d.A=p.1.d.A/\j/\q.1.ep=p.1.ep/\b/\q.1.S=p.1.S/\(0+m=p.1.fr.length/\Z7 u r (V9 p.1.fr))/\q.1.J=p.1.J/\True)/\true=p.2/\True))) ⟨Z4 Z9,⟨Z9,Z9⟩,(s,(s.L.getD (lsn-1).toNat dz).g.toNat),⟨⟨jR _,X5,Z6⟩,h,o⟩,λhu=>?_,λhu=>?_⟩
 ·rw[q ((vZ _).mp hu)];exact Z8
 ·have hu:=(wU _).mp hu;replace e1:=e1 hu;replace hf:=hf hu;rw[e1];dsimp only at*;generalize s.L.getD (lsn-1).toNat dz=r at*;generalize Y3 s r.g.toNat=A at*;obtain⟨a,k,up⟩:=A;dsimp only at*;obtain⟨hk,p1,p2,p3,p4⟩:=hf;rw[E3,show 0+k=k from D4 k,Nat.sub_zero]
  refine⟨⟨U9 _,R0⟩,⟨Z9,Z9⟩,Q2,((a.fr.getD k dz).pg,r.s,r.a,lsn),⟨⟨K8,Z8⟩,p3,t,j⟩,Q2,Q2,λhd=>?_,λhd=>?_⟩
  ·refine⟨Q2,Q2,K0,⟨Z8,Z8,rfl,Z8,rfl,Z8,rfl,⟨a21,?_⟩,Z8⟩,Z8⟩
   rw[D4,lR,←l];exact b5i hk mR
  ·refine⟨K0,⟨Z8,Z8,rfl,Z8,rfl,Z8,rfl,⟨a21,?_⟩,Z8⟩,Z8⟩
   rw[D4,lR,←l];exact c0L hk mR
end
end Go.Proofs.YtpdnnhnfongoeaaGreat
