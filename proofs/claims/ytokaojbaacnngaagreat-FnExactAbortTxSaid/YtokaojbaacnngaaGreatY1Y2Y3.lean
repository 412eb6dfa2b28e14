/- A part of the proof. -/
import Derived.Test.YtokaojbaacnngaaGreatX11X11rX12X13X14
namespace Go.Proofs.YtokaojbaacnngaaGreat
set_option maxRecDepth 100000
open Go.SS

def b4A(l:List UInt8)(L:List (List UInt8)):Nat->Ann
 |0=>.one {i:Nat//i<=L.length} (λx=>⟨[(0,.osl 1 0 (l++W5 L x.1).length),(13,B4 L),(14,.int .i64 L.length),(15,.int .i64 x.1)],[none,some (.bys 5 (l++W5 L x.1))]⟩) (λx=>L.length-x.1) [.arr 0,.arr 2] [.arr 0,.at_ 0] (λ_=>Z0)
 |_=>.none
def cD:Con:=.reff ⟨List UInt8×List (List UInt8),λx=>[.osl 0 0 x.1.length,B4 x.2],λx=>[some (.bys 5 x.1)],λx=>.osl 1 0 (x.1++S9 x.2).length,λx=>[none,some (.bys 5 (x.1++S9 x.2))],λx=>x.1.length<=1000/\z5 x.2⟩
theorem jL:GK 236 cD:=gk Tryz.func236<|by
 rintro⟨l,L⟩ ⟨h1,h2,h3⟩;dsimp only at h1 h2 h3;have e0:List.take l.length l++List.take 1 (List.drop 0 (List.map P1 [IntKind.u8.wrap (L.length:Int)]))=l++W5 L 0:=by rw[kC];rfl
 refine D2 gN Tryz.func236 (b4A l L) [[.arr 0,.arr 1]] (α:=X2 IntKind.u8 (IntKind.u8.wrap (L.length:Int))/\(Le 1 1/\Le l.length l.length/\V7 l.length 1 1)/\(∃(x:{i:Nat//i<=L.length}),((0=0/\l.length+1=(l++W5 L x.val).length)/\(Y6 Z5 L L)/\(L.length:Int)=(L.length:Int)/\(0:Int)=(x.val:Int)/\True)/\True/\List.take l.length l++List.take 1 (List.drop 0 (List.map P1 [IntKind.u8.wrap (L.length:Int)]))=l++W5 L x.val/\True)/\∀(x:{i:Nat//i<=L.length}),(decide ((x.val:Int)<(L.length:Int))=true->W2 (x.val:Int) L.length/\X2 IntKind.u8 (IntKind.u8.wrap (↑(L.getD (x.val:Int).toNat []).length:Int))/\(Le 1 1/\Le (l++W5 L x.val).length (l++W5 L x.val).length/\V7 (l++W5 L x.val).length 1 1)/\(Le ((l++W5 L x.val).length+1) (List.take (l++W5 L x.val).length (l++W5 L x.val)++List.take 1 (List.drop 0 (List.map P1 [IntKind.u8.wrap (↑(L.getD (x.val:Int).toNat []).length:Int)]))).length/\V7 ((l++W5 L x.val).length+1) (L.getD (x.val:Int).toNat []).length 1)/\X2 .i64 ((x.val:Int)+(1:Int))/\∃(y:{i:Nat//i<=L.length}),(((0=0/\(l++W5 L x.val).length+1+(L.getD (x.val:Int).toNat []).length=(l++W5 L y.val).length)/\(Y6 Z5 L L)/\(L.length:Int)=(L.length:Int)/\(x.val:Int)+(1:Int)=(y.val:Int)/\True)/\True/\List.take ((l++W5 L x.val).length+1) (List.take (l++W5 L x.val).length (l++W5 L x.val)++List.take 1 (List.drop 0 (List.map P1 [IntKind.u8.wrap (↑(L.getD (x.val:Int).toNat []).length:Int)])))++L.getD (x.val:Int).toNat []=l++W5 L y.val/\True)/\Lt (L.length-y.val) (L.length-x.val))/\(decide ((x.val:Int)<(L.length:Int))=false->((0=0/\(l++W5 L x.val).length=(l++S9 L).length)/\True)/\True/\l++W5 L x.val=l++S9 L/\True)) ⟨Q3 _,⟨V1 _,V1 _,by unfold V7;omega⟩,⟨⟨0,S2 _⟩,⟨⟨rfl,by simp[W5]⟩,⟨rfl,Z2 _ _⟩,rfl,rfl,trivial⟩,trivial,e0,trivial⟩,λx=>⟨λhc=> ?_,λhc=> ?_⟩⟩
 ·have hlt:=Y1 hc;have f1:=yY L h3 x.val (by omega)
  have f2:=h3 x.val hlt;rw[z7];have hl:(l++W5 L x.val).length<=1100000:=by rw[B8];omega
  have e:List.take (l++W5 L x.val).length (l++W5 L x.val)++List.take 1 (List.drop 0 (List.map P1 [IntKind.u8.wrap ((L.getD x.val []).length:Int)]))=l++W5 L x.val++[j5 (L.getD x.val []).length]:=by
   rw[kC];rfl
  rw[e];have e2:(l++W5 L x.val++[j5 (L.getD x.val []).length]).length=(l++W5 L x.val).length+1:=by rw[B8];rfl
  refine⟨Y3 hlt,Q3 _,⟨V1 _,V1 _,by unfold V7;omega⟩,⟨by rw[e2];exact V1 _,by unfold V7;omega⟩,Z4 (by omega),⟨x.val+1,hlt⟩,⟨⟨⟨rfl,?_⟩,Z8,rfl,by dsimp only;omega,trivial⟩,trivial,?_,trivial⟩,V3.ext_lt hlt⟩
  ·simp only[W5,B8,List.length_cons,List.length_nil];omega
  ·rw[←e2,kC];simp only[W5,List.append_assoc]
 ·have hx:x.val=L.length:=by have:=x.2;have:=X9 hc;omega
  rw[hx];exact⟨U6,trivial,Z9⟩
def a7G:Con:=.reff ⟨List UInt8,λl=>[.osl 0 0 l.length],λl=>[some (.bys 5 l)],λl=>.osl 1 0 (l++B7 (s5 l)).length,λl=>[none,some (.bys 5 (l++B7 (s5 l)))],λl=>l.length<=1000000⟩
theorem a3I:GK 235 a7G:=gk Tryz.func235<|by
 intro(l:List UInt8) (hl:l.length<=1000000);have e4:(B7 (s5 l)).length=4:=rfl;have hc:=cZ l;refine D2 (gC sX (gC a6k gN)) Tryz.func235 Z0 [[.arr 0,.arr 1]] (α:=∃(x:(wL IntKind.u32).ι),(Le (0+l.length) l.length/\(List.take l.length (List.drop 0 l)=x/\True)/\I2 x)/\∃(x_1:Nat),((IntKind.i64.wrap (↑(s5 x):Int)=(x_1:Int)/\True)/\x_1<4294967296)/\(Le l.length l.length/\V7 l.length 4 1)/\((0=0/\l.length+4=(l++B7 (s5 l)).length)/\True)/\True/\List.take l.length l++B7 x_1=l++B7 (s5 l)/\True) ⟨l,⟨by unfold Le;omega,⟨by rw[List.drop_zero,kC],trivial⟩,by unfold I2;omega⟩,s5 l,⟨⟨?_,trivial⟩,hc⟩,⟨V1 _,by unfold V7;omega⟩,⟨⟨rfl,by rw[B8,e4]⟩,trivial⟩,trivial,by rw[kC],trivial⟩
 rw[IntKind.wrap_i64];omega
def aM:Con:=.rmk ⟨Int×Pg,λx=>[.int .i64 x.1,.agg x.2.ts],λ_=>[],λx=>.osl 0 0 (S8 x.1 x.2).length,λx=>[some (.bys 5 (S8 x.1 x.2))],λx=>bL x.2⟩
theorem fX:GK 280 aM:=gk Tryz.func280<|by
 rintro⟨no,p⟩ ⟨h1,h2,h3,h4⟩;dsimp only at h1 h2 h3 h4;have hs:z5 p.sl:=⟨by omega,λi hi=>Nat.le_trans (h4 i hi) (by decide)⟩
 have hfl:=yY p.sl hs.2 p.sl.length (V1 _);have hfl:(S9 p.sl).length<=5000:=by unfold S9;omega
 have e:List.map P1 [(112:Int),IntKind.u8.wrap no,IntKind.u8.wrap (p.lsn.fdiv 256),IntKind.u8.wrap p.lsn]=[P1 112,j5 no]++zD p.lsn.toNat:=by
  unfold zD;rw[show((p.lsn.toNat:Nat):Int)=p.lsn by omega,Int.fdiv_one]
  rfl
 refine⟨D2 (gC jL (gC a3I gN)) Tryz.func280 Z0 [[.arr 3]] (α:=Nn (8:Int)/\(X2 IntKind.u8 (112:Int)/\X2 IntKind.u8 (IntKind.u8.wrap no)/\X2 IntKind.u8 (IntKind.u8.wrap (p.lsn.fdiv (256:Int)))/\X2 IntKind.u8 (IntKind.u8.wrap p.lsn))/\∃(x:(List UInt8×List (List UInt8))),(((0=0/\4=x.1.length)/\(Y6 Z5 p.sl x.2)/\True)/\(List.map P1 [(112:Int),IntKind.u8.wrap no,IntKind.u8.wrap (p.lsn.fdiv (256:Int)),IntKind.u8.wrap p.lsn]=x.1/\True)/\x.1.length<=1000/\z5 x.2)/\∃(x_1:(List UInt8)),(((0=0/\(x.1++S9 x.2).length=List.length x_1)/\True)/\(x.1++S9 x.2=x_1/\True)/\List.length x_1<=1000000)/\((0=0/\(x_1++B7 (s5 x_1)).length=(S8 no p).length)/\True)/\x_1++B7 (s5 x_1)=S8 no p/\True) ⟨by unfold Nn;omega,⟨(fC _).2 (by omega),Q3 _,Q3 _,Q3 _⟩,([P1 112,j5 no]++zD p.lsn.toNat,p.sl),⟨⟨Z7,X8⟩,⟨e,trivial⟩,by simp[zD],hs⟩,vM no p,⟨⟨⟨rfl,rfl⟩,trivial⟩,⟨rfl,trivial⟩,?_⟩,⟨⟨rfl,rfl⟩,trivial⟩,rfl,trivial⟩,rfl,G5 trivial D1⟩
 unfold vM;rw[B8,B8];have e2:(zD p.lsn.toNat).length=2:=rfl;simp only[List.length_cons,List.length_nil];omega
def a2u:Con:=.rmk ⟨Unit,λ_=>[],λ_=>[],λ_=>.agg (Pg.tm ⟨0,[[],[],[],[]]⟩ 0),λ_=>[F5 [[],[],[],[]]],λ_=>True⟩
theorem a2Q(h:
  (Nn (4:Int)/\nP (4:Int) (4:Int)/\I4 16 4 140737488355328/\Lt 4 9223372036854775808)/\(((0:Int)=(0:Int)/\(0=0/\4=4)/\True)/\True)/\(4=4/\Z6 4 (λ(x:Nat)=>[T.str []]) (Z5 [[],[],[],
  []]))/\True):
  G1 Tryz.prog 213 [] [] (.agg (Pg.tm ⟨0,[[],[],[],[]]⟩ 0)) [F5 [[],[],[],[]]]:=
 D2 gN Tryz.func213 Z0 [[.arr 1]] h
theorem a0K:GK 213 a2u:=gk Tryz.func213<|λ_ _=>⟨a2Q ⟨⟨by unfold Nn;omega,by unfold nP;omega,by unfold I4;omega,by unfold Lt;omega⟩,⟨⟨rfl,U6⟩,trivial⟩,⟨rfl,mP⟩,trivial⟩,rfl,F8 _⟩
def a8M:Con:=.reff ⟨List UInt8×Bool,λ_=>[.ref 0 0 0],λx=>[rdr x.1 x.2],λx=>.osl 1 0 (U8 x.1 x.2).out.length,λx=>[rdr (U8 x.1 x.2).l (U8 x.1 x.2).fl,F5 (U8 x.1 x.2).out],λ_=>True⟩
theorem a2U:GK 258 a8M:=gk Tryz.func258<|by
 rintro⟨l,fl⟩ _;have hn:=z4 l;refine D2 (gC dA (gC rA gN)) Tryz.func258 (a0o l fl) [[.box 0,.arr 1]] (α:=(∃(x:{i:Nat//i<=(numR l).toNat}),((0=0/\0=0)/\(0=0/\0=(K5 l fl x.val).out.length)/\numR l=numR l/\(0:Int)=(x.val:Int)/\True)/\(1=1/\1=1/\List.drop 1 l=(K5 l fl x.val).l/\(fl||l.isEmpty)=(K5 l fl x.val).fl/\True)/\(0=(K5 l fl x.val).out.length/\Z6 0 (λ(k:Nat)=>List.take 1 (List.drop (k*1) [])) (Z5 (K5 l fl x.val).out))/\True)/\∀(x:{i:Nat//i<=(numR l).toNat}),(decide ((x.val:Int)<numR l)=true->wX (numR (K5 l fl x.val).l)/\(Le 1 1/\Le (K5 l fl x.val).out.length (K5 l fl x.val).out.length/\V7 (K5 l fl x.val).out.length 1 16)/\X2 .i64 ((x.val:Int)+(1:Int))/\∃(y:{i:Nat//i<=(numR l).toNat}),(((0=0/\0=0)/\(0=0/\(K5 l fl x.val).out.length+1=(K5 l fl y.val).out.length)/\numR l=numR l/\(x.val:Int)+(1:Int)=(y.val:Int)/\True)/\(1=1/\1=1/\N7 (List.drop 1 (K5 l fl x.val).l) (numR (K5 l fl x.val).l)=(K5 l fl y.val).l/\((K5 l fl x.val).fl||(K5 l fl x.val).l.isEmpty||big (List.drop 1 (K5 l fl x.val).l) (numR (K5 l fl x.val).l))=(K5 l fl y.val).fl/\True)/\((K5 l fl x.val).out.length+1=(K5 l fl y.val).out.length/\Z6 ((K5 l fl x.val).out.length+1) (W7 (Z5 (K5 l fl x.val).out) (K5 l fl x.val).out.length λ(k:Nat)=>List.take 1 (List.drop (k*1) [T.str (R7 (List.drop 1 (K5 l fl x.val).l) (numR (K5 l fl x.val).l))])) (Z5 (K5 l fl y.val).out))/\True)/\Lt ((numR l).toNat-y.val) ((numR l).toNat-x.val))/\(decide ((x.val:Int)<numR l)=false->((0=0/\(K5 l fl x.val).out.length=(U8 l fl).out.length)/\True)/\(1=1/\1=1/\(K5 l fl x.val).l=(U8 l fl).l/\(K5 l fl x.val).fl=(U8 l fl).fl/\True)/\(Y6 Z5 (K5 l fl x.val).out (U8 l fl).out)/\True)) ⟨⟨⟨0,S2 _⟩,⟨Z7,Z7,rfl,Z9⟩,⟨rfl,rfl,rfl,Z9⟩,⟨rfl,jB _ _⟩,trivial⟩,λx=>⟨λhc=> ?_,λhc=> ?_⟩⟩
 ·have hlt:(x.val:Int)<numR l:=E9 hc;have hlen:=wC l fl x.val;have hm:=z4 (K5 l fl x.val).l;exact⟨⟨hm.1,by omega⟩,⟨V1 _,V1 _,by omega,by omega⟩,Z4 (by omega),⟨x.val+1,by omega⟩,⟨⟨Z7,⟨rfl,(congrArg (· +1) hlen).trans (wC l fl (x.val+1)).symm⟩,rfl,by simp only;omega,trivial⟩,⟨rfl,rfl,rfl,rfl,trivial⟩,⟨(congrArg (· +1) hlen).trans (wC l fl (x.val+1)).symm,bS _ _⟩,trivial⟩,by unfold Lt;simp only;omega⟩
 ·have hge:¬ (x.val:Int)<numR l:=yG hc;have hx:=x.2;have he:x.val=(numR l).toNat:=by omega
  rw[he];exact⟨U6,⟨rfl,rfl,rfl,Z9⟩,X8⟩
noncomputable def a1U:Con:=.rmk ⟨Int×List UInt8,λx=>[.int .i64 x.1,.bys x.2],λ_=>[],λx=>.tup [.agg ((Q9 x.1 x.2).tm 0),.int .i64 (M5 x.1 x.2)],λx=>[F5 (Q9 x.1 x.2).sl],λx=>RdB x.2⟩
theorem dD:GK 214 a1U:=gk Tryz.func214<|by
 rintro⟨no,b⟩ (hb:b.length<=1000);have hl:∀(x:List UInt8),(R7 x 4).length=4:=λx=>by
  unfold R7;split
  ·exact List.length_replicate
  ·rename_i h;have:¬4>(x.length:Int):=by simpa[big] using h
   rw[List.length_take,show(4:Int).toNat=4 from rfl]
   omega
 refine⟨D2 (gC uY (gC rA (gC a4A (gC a2U (gC uG (gC sF gN)))))) Tryz.func214 Z0 [[.nilS 0 [0,1] 0 1,.arr 4],[.arr 2],[.nilS 0 [0,1] 0 1,.arr 1]] (α:=(decide ((b.length:Int)>(65536:Int))=true->((((0:Int)=(Q9 no b).lsn/\(0=0/\0=(Q9 no b).sl.length)/\True)/\(2:Int)=M5 no b/\True)/\True)/\(0=(Q9 no b).sl.length/\Z6 0 (λ(x:Nat)=>[]) (Z5 (Q9 no b).sl))/\True)/\(decide ((b.length:Int)>(65536:Int))=false->∃(x:vY.ι),((b=x/\True)/\I2 x)/\((!T0 x)=true->((((0:Int)=(Q9 no b).lsn/\(0=0/\0=(Q9 no b).sl.length)/\True)/\(8:Int)=M5 no b/\True)/\True)/\(0=(Q9 no b).sl.length/\Z6 0 (λ(x:Nat)=>[]) (Z5 (Q9 no b).sl))/\True)/\((!T0 x)=false->wX (4:Int)/\jR (2:Int) (R7 (X4 x) (4:Int)).length/\∃(x_1:a6e.ι),((List.drop 2 (R7 (X4 x) (4:Int))=x_1/\True)/\oN x_1)/\∃(x_2:(List UInt8×Bool)),(((0=0/\0=0)/\True)/\((1=1/\Z6 1 (λ(x_3:Nat)=>[T.bys (N7 (X4 x) (4:Int)),T.bool (false||big (X4 x) (4:Int))]) λ(x:Nat)=>[T.bys x_2.1,T.bool x_2.2])/\True)/\True)/\((!(!(U8 x_2.1 x_2.2).fl&&(U8 x_2.1 x_2.2).l.isEmpty))=false->W2 (0:Int) (R7 (X4 x) (4:Int)).length)/\((!(!(U8 x_2.1 x_2.2).fl&&(U8 x_2.1 x_2.2).l.isEmpty)||(↑((R7 (X4 x) (4:Int)).getD 0 (0:UInt8)).toNat:Int) !=(112:Int))=false->W2 (1:Int) (R7 (X4 x) (4:Int)).length)/\∃(x_3:zQ.ι),((!(!(U8 x_2.1 x_2.2).fl&&(U8 x_2.1 x_2.2).l.isEmpty)||(↑((R7 (X4 x) (4:Int)).getD 0 (0:UInt8)).toNat:Int) !=(112:Int)||IntKind.i64.wrap (↑((R7 (X4 x) (4:Int)).getD 1 (0:UInt8)).toNat:Int) !=no)=false->Le (0+(U8 x_2.1 x_2.2).out.length) (U8 x_2.1 x_2.2).out.length/\(((↑(be x_1):Int)=x_3.lsn/\(Y6 Z5 (U8 x_2.1 x_2.2).out x_3.sl)/\True)/\True)/\PgB x_3)/\((!(!(U8 x_2.1 x_2.2).fl&&(U8 x_2.1 x_2.2).l.isEmpty)||(↑((R7 (X4 x) (4:Int)).getD 0 (0:UInt8)).toNat:Int) !=(112:Int)||IntKind.i64.wrap (↑((R7 (X4 x) (4:Int)).getD 1 (0:UInt8)).toNat:Int) !=no|| !A7 x_3)=true->((((0:Int)=(Q9 no b).lsn/\(0=0/\0=(Q9 no b).sl.length)/\True)/\(3:Int)=M5 no b/\True)/\True)/\(0=(Q9 no b).sl.length/\Z6 0 (λ(x:Nat)=>[]) (Z5 (Q9 no b).sl))/\True)/\((!(!(U8 x_2.1 x_2.2).fl&&(U8 x_2.1 x_2.2).l.isEmpty)||(↑((R7 (X4 x) (4:Int)).getD 0 (0:UInt8)).toNat:Int) !=(112:Int)||IntKind.i64.wrap (↑((R7 (X4 x) (4:Int)).getD 1 (0:UInt8)).toNat:Int) !=no|| !A7 x_3)=false->((((↑(be x_1):Int)=(Q9 no b).lsn/\(0=0/\(U8 x_2.1 x_2.2).out.length=(Q9 no b).sl.length)/\True)/\(0:Int)=M5 no b/\True)/\True)/\(Y6 Z5 (U8 x_2.1 x_2.2).out (Q9 no b).sl)/\True)))) ⟨λh=> ?_,λ_=>⟨b,⟨Z9,Nat.le_trans hb (by decide)⟩,λh=> ?_,λh=>⟨⟨by omega,by omega⟩,⟨by omega,by rw[hl];omega⟩,(R7 (X4 b) 4).drop 2,⟨⟨rfl,trivial⟩,by unfold oN;rw[List.length_drop,hl];omega⟩,
  (N7 (X4 b) 4,false||big (X4 b) 4),(by repeat' first|exact trivial|exact rfl|exact Z2 _ _|exact R9 _|exact U5|exact U2 _|exact V1 _|exact S2 _|refine And.intro ?_ ?_),λ_=>⟨by omega,by rw[hl];omega⟩,λ_=>⟨by omega,by rw[hl];omega⟩,rpQ (X4 b),λ_=>⟨U2 _,⟨⟨rfl,X8⟩,trivial⟩,?_⟩,λg=> ?_,λg=> ?_⟩⟩⟩,rfl,F8 _⟩
 ·have:=E9 h;omega
 ·have hu:T0 b=false:=by simpa using h
  have e2:(K0 no b).2=false:=by unfold K0;rw[hu];rfl
  have e1:Q9 no b=⟨0,[]⟩:=by unfold Q9;rw[e2];rfl
  have e3:M5 no b=8:=by unfold M5;rw[hu];rfl
  rw[e1,e3];exact(by repeat' first|exact trivial|exact rfl|exact Z2 _ _|exact R9 _|exact U5|exact U2 _|exact V1 _|exact S2 _|refine And.intro ?_ ?_)
 ·show(U8 (N7 (X4 b) 4) (false||big (X4 b) 4)).out.length<1000000000000;unfold U8;rw[wC];have:=z4 (N7 (X4 b) 4);omega
 ·have hu:T0 b=true:=by simpa using h
  have hq:=(a5A no b hu).1;have e2:(K0 no b).2=false:=by
   have g:(rE no (X4 b)|| !A7 (rpQ (X4 b)))=true:=g;rw[g] at hq;exact(vO _).mp hq.symm
  have e1:Q9 no b=⟨0,[]⟩:=by unfold Q9;rw[e2];rfl
  have e3:M5 no b=3:=by unfold M5;rw[hu,e2];rfl
  rw[e1,e3];exact(by repeat' first|exact trivial|exact rfl|exact Z2 _ _|exact R9 _|exact U5|exact U2 _|exact V1 _|exact S2 _|refine And.intro ?_ ?_)
 ·have hu:T0 b=true:=by simpa using h
  have hq:=a5A no b hu;have e2:(K0 no b).2=true:=by
   have g:(rE no (X4 b)|| !A7 (rpQ (X4 b)))=false:=g;rw[g] at hq;exact(xE _).mp hq.1.symm
  have e1:Q9 no b=rpQ (X4 b):=by unfold Q9;rw[e2,hq.2 e2];rfl
  have e3:M5 no b=0:=by unfold M5;rw[hu,e2];rfl
  rw[e1,e3];exact(by repeat' first|exact trivial|exact rfl|exact Z2 _ _|exact R9 _|exact U5|exact U2 _|exact V1 _|exact S2 _|refine And.intro ?_ ?_)
def DkB(x:Dsk×Nat):Prop:=1+x.2<x.1.sec.length/\x.1.sec.length<=1048576/\x.1.cache.length<=1048576/\(S5 x.1 (1+x.2)).length<=1000
noncomputable def b0L:Con:=.rmk ⟨Dsk×Nat,λx=>[.bref x.1.ts,.int .i64 x.2],λ_=>[],λx=>.tup [.agg ((T7 x.1 x.2).1.tm 0),.bool (T7 x.1 x.2).2],λx=>[F5 (T7 x.1 x.2).1.sl],DkB⟩
theorem gA:GK 153 b0L:=gk Tryz.func153<|by
 rintro⟨d,no⟩ ⟨h1,h2,h3,h4⟩;dsimp only at h1 h2 h3 h4;refine⟨D2 (gC lU (gC a0K (gC dD gN))) Tryz.func153 Z0 [[.arr 1]] (α:=X2 .i64 ((1:Int)+(no:Int))/\∃(x:tC.ι),(((g8 d x.1)/\(1:Int)+(no:Int)=(x.2:Int)/\True)/\AtB x)/\((S5 x.1 x.2==[])=true->∃(x:Unit),(True/\True)/\((((0:Int)=(T7 d no).1.lsn/\(0=0/\4=(T7 d no).1.sl.length)/\True)/\true=(T7 d no).2/\True)/\True)/\(4=(T7 d no).1.sl.length/\Z6 4 (Z5 [[],[],[],[]]) (Z5 (T7 d no).1.sl))/\True)/\((S5 x.1 x.2==[])=false->Lt (S5 x.1 x.2).length 140737488355329/\∃(x_1:(Int×List UInt8)),(((no:Int)=x_1.1/\S5 x.1 x.2=x_1.2/\True)/\RdB x_1.2)/\((((Q9 x_1.1 x_1.2).lsn=(T7 d no).1.lsn/\(0=0/\(Q9 x_1.1 x_1.2).sl.length=(T7 d no).1.sl.length)/\True)/\(M5 x_1.1 x_1.2==(0:Int))=(T7 d no).2/\True)/\True)/\(Y6 Z5 (Q9 x_1.1 x_1.2).sl (T7 d no).1.sl)/\True)) ⟨Z4 (by omega),(d,1+no),⟨⟨xF _,by simp only;omega,trivial⟩,h1,by simp only;omega⟩,λh=>⟨(),A8,?_⟩,λh=>⟨by unfold Lt;simp only;omega,((no:Int),S5 d (1+no)),⟨⟨rfl,rfl,trivial⟩,h4⟩,?_⟩⟩,rfl,F8 _⟩
 ·have h:S5 d (1+no)=[]:=by simpa using h
  have e:T7 d no=(⟨0,[[],[],[],[]]⟩,true):=by unfold T7;rw[if_pos h]
  rw[e];exact(by repeat' first|exact trivial|exact rfl|exact Z2 _ _|exact R9 _|exact U5|exact U2 _|exact V1 _|exact S2 _|refine And.intro ?_ ?_)
 ·have h:S5 d (1+no)≠[]:=by simpa using h
  have e:T7 d no=(Q9 no (S5 d (1+no)),(K0 no (S5 d (1+no))).2):=by unfold T7;rw[if_neg h]
  rw[e];exact⟨⟨⟨(by repeat' first|exact trivial|exact rfl|exact Z2 _ _|exact R9 _|exact U5|exact U2 _|exact V1 _|exact S2 _|refine And.intro ?_ ?_),gT _ _,trivial⟩,trivial⟩,⟨rfl,Z2 _ _⟩,trivial⟩
end Go.Proofs.YtokaojbaacnngaaGreat

namespace Go.Proofs.YtokaojbaacnngaaGreat
set_option maxRecDepth 100000
open Go.SS

structure SInv(s:Sto):Prop where
 sm:kN s
 c:s.d.cache.length<=500
 pd:cG s.d
 n69:s.d.sec.length=69
 su:0<=s.sure/\s.sure<=s.log.length
 l60:s.log.length<=60
 rc:k9 s.log=true
 fr3:s.fr.length<=3
 frp:∀i,i<s.fr.length->0<=(s.fr.getD i default).no/\(s.fr.getD i default).no<=7/\bL (s.fr.getD i default).pg/\(s.fr.getD i default).pg.lsn<=s.log.length
 hd:0<=s.hand/\s.hand<=2
 pg:∀no,no<8->(Q8 s.d no).2=true/\(S5 s.d (1+no)).length<=1000
theorem SInv.flu{s:Sto}(h:SInv s){lsn:Int}(hl:lsn<=s.log.length):qR s lsn:=
 ⟨h.sm.1,by have:=h.c;omega,h.pd,h.n69,h.su.1,h.su.2,h.l60,hl,λi hi=>by
  obtain⟨a,b⟩:=z9.1 h.rc i hi;exact⟨b,b0O a⟩⟩
theorem b5E{s:Sto}(h:K7 s=true)(hm:kN s):SInv s:=by
 obtain⟨⟨h1,h2,h3⟩,_,h4,h5,h6⟩:=(K1 s).1 h;obtain⟨c1,c2,_,_,c5⟩:=(u9 s).1 h1;have hf:=b4G (lsn:=0) h (by omega) hm
 have h3:=iB h3;have h6:=iB h6;unfold d8 at h5;simp only[I3,vO,K6,m5] at h5;refine⟨hm,c1.2.2.1,hf.2.2.1,c2,h3,c5,h2,by omega,λi hi=> ?_,h6,λno hn=>⟨?_,?_⟩⟩
 ·have hb:=h5.1 i hi;unfold zY at hb;simp only[tU,xE,tQ] at hb;obtain⟨⟨⟨⟨⟨b1,_⟩,b3⟩,b4⟩,_⟩,_⟩:=hb;have b1:=iB b1;have b3:bL (s.fr.getD i default).pg:=E9 b3;exact⟨b1.1,b1.2,b3,by omega⟩
 ·have hb:=h4 no hn;unfold l6 at hb;simp only[tU,xE] at hb;exact hb.1
 ·have:=qW c1 (at_:=1+no) (by omega)
  omega
def F4(d:Dsk):Dsk×Bool:=if 500<=d.cache.length then V2 d else(d,true)
def clF(f:Frm):Frm:=⟨f.no,f.pg,false,0⟩
def wrF(a:Sto)(k:Nat):Sto:=⟨wrD a.d (1+(a.fr.getD k default).no) (S8 (a.fr.getD k default).no (a.fr.getD k default).pg),a.ep,a.log,a.sure,a.fr.set k (clF (a.fr.getD k default)),a.hand⟩
def X7(s:Sto)(k:Nat):Sto×Bool:=if(s.fr.getD k default).dirty=true then
  if(X3 s (s.fr.getD k default).pg.lsn).2=true then
   if(F4 (X3 s (s.fr.getD k default).pg.lsn).1.d).2=true then(wrF ((X3 s (s.fr.getD k default).pg.lsn).1.sd (F4 (X3 s (s.fr.getD k default).pg.lsn).1.d).1) k,true)
   else((X3 s (s.fr.getD k default).pg.lsn).1.sd (F4 (X3 s (s.fr.getD k default).pg.lsn).1.d).1,false)
  else((X3 s (s.fr.getD k default).pg.lsn).1,false)
 else(s,true)
def b2M:Con:=.reff ⟨Sto×Nat×Nat,λx=>[.ref 0 0 0,.int .i64 x.2.1],λx=>x.1.bx x.2.2,λx=>.bool (X7 x.1 x.2.1).2,λx=>(X7 x.1 x.2.1).1.bxY x.2.2,λx=>SInv x.1/\x.2.1<x.1.fr.length⟩
theorem dQ(s:Sto)(l:Int):(X3 s l).1.fr=s.fr:=by
 by_cases h:l<=s.sure
 ·rw[zZ h]
 ·rw[c9 h]
theorem i8(d:Dsk):(V2 d).1.cache=[]:=by
 unfold V2;split<;>rfl
theorem b2y{d:Dsk}(h:d.cache=[]):cG d:=λi hi=>by rw[h] at hi;exact absurd hi (F3 _)
theorem eM{s:Sto}{l:Int}(h:cG s.d):cG (X3 s l).1.d:=by
 by_cases hl:l<=s.sure
 ·rw[zZ hl];exact h
 ·rw[c9 hl];exact b2y (i8 _)
theorem a5J{s:Sto}{l:Int}(h:s.d.cache.length<=500):(X3 s l).1.d.cache.length<=500:=by
 by_cases hl:l<=s.sure
 ·rw[zZ hl];exact h
 ·rw[c9 hl];dsimp only;rw[i8];exact S2 _
theorem yE{s:Sto}{k:Nat}(h:(s.fr.getD k default).dirty=false):X7 s k=(s,true):=by
 unfold X7;rw[if_neg (by rw[h];simp)]
theorem vI{s:Sto}{k:Nat}(h:(s.fr.getD k default).dirty=true)(hu:(X3 s (s.fr.getD k default).pg.lsn).2=false):X7 s k=((X3 s (s.fr.getD k default).pg.lsn).1,false):=by
 unfold X7;rw[if_pos h,if_neg (by rw[hu];simp)]
theorem rS{s:Sto}{k:Nat}(h:(s.fr.getD k default).dirty=true)(hu:(X3 s (s.fr.getD k default).pg.lsn).2=true)(hb:(F4 (X3 s (s.fr.getD k default).pg.lsn).1.d).2=false):X7 s k=((X3 s (s.fr.getD k default).pg.lsn).1.sd (F4 (X3 s (s.fr.getD k default).pg.lsn).1.d).1,false):=by
 unfold X7;rw[if_pos h,if_pos hu,if_neg (by rw[hb];simp)]
theorem lB{s:Sto}{k:Nat}(h:(s.fr.getD k default).dirty=true)(hu:(X3 s (s.fr.getD k default).pg.lsn).2=true)(hb:(F4 (X3 s (s.fr.getD k default).pg.lsn).1.d).2=true):X7 s k=(wrF ((X3 s (s.fr.getD k default).pg.lsn).1.sd (F4 (X3 s (s.fr.getD k default).pg.lsn).1.d).1) k,true):=by
 unfold X7;rw[if_pos h,if_pos hu,if_pos hb]
theorem xC{d:Dsk}(h:500<=d.cache.length):F4 d=V2 d:=if_pos h
theorem mI{d:Dsk}(h:¬500<=d.cache.length):F4 d=(d,true):=if_neg h
theorem b3y{L:List Frm}{k:Nat}(hk:k<L.length):V0 L.length (setRow (setRow (Y8 L) k 3 [T.bool false]) k 4 [T.int IntKind.i64 0]) (Y8 (L.set k (clF (L.getD k default)))):=vZ λi _=>by
 have hl:∀j,(Y8 L j).length=5:=λ_=>rfl
 by_cases h:i=k
 ·subst h;have e:(L.set i (clF (L.getD i default))).getD i default=clF (L.getD i default):=by rw[N9,j_k hk];rfl
  unfold setRow;rw[oK rfl];unfold Y8;rw[e];rfl
 ·have e:(L.set k (clF (L.getD k default))).getD i default=L.getD i default:=by rw[N9,j_l (Ne.symm h),←N9]
  rw[P0 (by rw[U1 (by rw[hl];decide),hl];decide) h,P0 (by rw[hl];decide) h]
  unfold Y8;rw[e]
theorem gD:GK 273 b2M:=gk Tryz.func273<|by
 rintro⟨s,k,v⟩ ⟨h,hk⟩;dsimp only at h hk;have hfp:=h.frp k hk;have hf:=h.flu hfp.2.2.2;have hfr:=dQ s (s.fr.getD k default).pg.lsn;have hS:=lY hf h.sm;have hP:=eM (l:=(s.fr.getD k default).pg.lsn) h.pd;have hc5:=a5J (l:=(s.fr.getD k default).pg.lsn) h.c;have o1:= @vI s k;have o2:= @rS s k;have o3:= @lB s k;refine D2 (gC b3C (gC a5P (gC fX (gC a1G gN)))) Tryz.func273 Z0 [[.box 0,.arr 1,.arr 2,.arr 3,.arr 4,.arr 5,.arr 11,.arr 9],[.box 0,.arr 1,.arr 2,.arr 3,.arr 4,.arr 5,.arr 9,.arr 7],[.box 0,.arr 1,.arr 2,.arr 3,.arr 4,.arr 5,.arr 8,.arr 9],[.box 0,.arr 1,.arr 2,.arr 3,.arr 4,.arr 5,.arr 6,.arr 7],[.box 0,.arr 1,.arr 2,.arr 3,.arr 4,.arr 5,.arr 2,.arr 3]] (α:=W2 (k:Int) s.fr.length/\Lt (0+(k:Int).toNat) s.fr.length/\((!(s.fr.getD (0+(k:Int).toNat) default).dirty)=true->(true=(X7 s k).2/\True)/\(1=1/\1=1/\pG s (X7 s k).1)/\(Y6 Z5 s.d.sec (X7 s k).1.d.sec)/\True/\True/\(Y6 Y7 s.log (X7 s k).1.log)/\(v=v/\s.fr.length=(X7 s k).1.fr.length/\V0 s.fr.length (Y8 s.fr) (Y8 (X7 s k).1.fr))/\(Y6 Z3 s.d.cache (X7 s k).1.d.cache)/\(Y6 Y9 s.d.keep (X7 s k).1.d.keep)/\True)/\((!(s.fr.getD (0+(k:Int).toNat) default).dirty)=false->Lt (0+(k:Int).toNat) s.fr.length/\∃(x:(Sto×Int×Nat)),(((0=0/\0=0)/\(s.fr.getD (0+(k:Int).toNat) default).pg.lsn=x.2.1/\True)/\((1=1/\1=1/\pG s x.1)/\EqH (v) (x.2.2) s x.1)/\qR x.1 x.2.1)/\∃(x_1:(Sto×Nat)),((!(X3 x.1 x.2.1).2)=false->decide ((↑(X3 x.1 x.2.1).1.d.cache.length:Int)≥(500:Int))=true->((0=0/\0=0)/\True)/\((1=1/\1=1/\pG (X3 x.1 x.2.1).1 x_1.1)/\EqH (x.2.2) (x_1.2) (X3 x.1 x.2.1).1 x_1.1)/\sA x_1.1.d/\cG x_1.1.d)/\((!(X3 x.1 x.2.1).2)=false->decide ((↑(X3 x.1 x.2.1).1.d.cache.length:Int)≥(500:Int))=true->((!(X3 x.1 x.2.1).2||decide ((↑(X3 x.1 x.2.1).1.d.cache.length:Int)≥(500:Int))&& !(V2 x_1.1.d).2)=true->(false=(X7 s k).2/\True)/\(1=1/\1=1/\(0=0/\(V2 x_1.1.d).1.sec.length=(X7 s k).1.d.sec.length)/\(0=0/\(V2 x_1.1.d).1.cache.length=(X7 s k).1.d.cache.length)/\(V2 x_1.1.d).1.armed=(X7 s k).1.d.armed/\(0=0/\(V2 x_1.1.d).1.keep.length=(X7 s k).1.d.keep.length)/\x_1.1.ep=(X7 s k).1.ep/\(0=0/\x_1.1.log.length=(X7 s k).1.log.length)/\x_1.1.sure=(X7 s k).1.sure/\(0=0/\x_1.1.fr.length=(X7 s k).1.fr.length)/\x_1.1.hand=(X7 s k).1.hand/\True)/\(Y6 Z5 (V2 x_1.1.d).1.sec (X7 s k).1.d.sec)/\True/\True/\(Y6 Y7 x_1.1.log (X7 s k).1.log)/\(x_1.2=v/\x_1.1.fr.length=(X7 s k).1.fr.length/\V0 x_1.1.fr.length (Y8 x_1.1.fr) (Y8 (X7 s k).1.fr))/\(Y6 Z3 (V2 x_1.1.d).1.cache (X7 s k).1.d.cache)/\(Y6 Y9 (V2 x_1.1.d).1.keep (X7 s k).1.d.keep)/\True)/\((!(X3 x.1 x.2.1).2||decide ((↑(X3 x.1 x.2.1).1.d.cache.length:Int)≥(500:Int))&& !(V2 x_1.1.d).2)=false->Lt (0+(k:Int).toNat) x_1.1.fr.length/\X2 .i64 ((1:Int)+(x_1.1.fr.getD (0+(k:Int).toNat) default).no)/\Lt (0+(k:Int).toNat) x_1.1.fr.length/\Lt (0+(k:Int).toNat) x_1.1.fr.length/\∃(x:(Int×Pg)),(PoB x_1.2 x_1.2 (0+(k:Int).toNat) x_1.1.fr.length (x_1.1.fr.getD (0+(k:Int).toNat) default).pg.sl.length (x_1.1.fr.getD (0+(k:Int).toNat) default).pg.sl.length/\((x_1.1.fr.getD (0+(k:Int).toNat) default).no=x.1/\((x_1.1.fr.getD (0+(k:Int).toNat) default).pg.lsn=x.2.lsn/\(Y6 Z5 (x_1.1.fr.getD (0+(k:Int).toNat) default).pg.sl x.2.sl)/\True)/\True)/\bL x.2)/\Le (0+(S8 x.1 x.2).length) (S8 x.1 x.2).length/\∃(x_2:(Sto×Int×List UInt8×Nat)),(((0=0/\0=0)/\(1:Int)+(x_1.1.fr.getD (0+(k:Int).toNat) default).no=x_2.2.1/\List.take (S8 x.1 x.2).length (List.drop 0 (S8 x.1 x.2))=x_2.2.2.1/\True)/\((1=1/\1=1/\(0=0/\(V2 x_1.1.d).1.sec.length=x_2.1.d.sec.length)/\(0=0/\(V2 x_1.1.d).1.cache.length=x_2.1.d.cache.length)/\(V2 x_1.1.d).1.armed=x_2.1.d.armed/\(0=0/\(V2 x_1.1.d).1.keep.length=x_2.1.d.keep.length)/\x_1.1.ep=x_2.1.ep/\(0=0/\x_1.1.log.length=x_2.1.log.length)/\x_1.1.sure=x_2.1.sure/\(0=0/\x_1.1.fr.length=x_2.1.fr.length)/\x_1.1.hand=x_2.1.hand/\True)/\(Y6 Z5 (V2 x_1.1.d).1.sec x_2.1.d.sec)/\(Y6 Z3 (V2 x_1.1.d).1.cache x_2.1.d.cache)/\(Y6 Y9 (V2 x_1.1.d).1.keep x_2.1.d.keep)/\(Y6 Y7 x_1.1.log x_2.1.log)/\(x_1.2=x_2.2.2.2/\x_1.1.fr.length=x_2.1.fr.length/\V0 x_1.1.fr.length (Y8 x_1.1.fr) (Y8 x_2.1.fr))/\True)/\x_2.1.d.cache.length<=1048576)/\qH (0+(k:Int).toNat) x_2.1.fr.length [T.bool (x_2.1.fr.getD (0+(k:Int).toNat) default).dirty]/\qH (0+(k:Int).toNat) x_2.1.fr.length [T.int .i64 (x_2.1.fr.getD (0+(k:Int).toNat) default).first]/\(true=(X7 s k).2/\True)/\(1=1/\1=1/\(0=0/\x_2.1.d.sec.length=(X7 s k).1.d.sec.length)/\(0=0/\(x_2.1.d.cache++[Pend.mk x_2.2.1 x_2.2.2.1]).length=(X7 s k).1.d.cache.length)/\x_2.1.d.armed=(X7 s k).1.d.armed/\(0=0/\x_2.1.d.keep.length=(X7 s k).1.d.keep.length)/\x_2.1.ep=(X7 s k).1.ep/\(0=0/\x_2.1.log.length=(X7 s k).1.log.length)/\x_2.1.sure=(X7 s k).1.sure/\(0=0/\x_2.1.fr.length=(X7 s k).1.fr.length)/\x_2.1.hand=(X7 s k).1.hand/\True)/\(Y6 Z5 x_2.1.d.sec (X7 s k).1.d.sec)/\True/\True/\(Y6 Y7 x_2.1.log (X7 s k).1.log)/\(x_2.2.2.2=v/\x_2.1.fr.length=(X7 s k).1.fr.length/\V0 x_2.1.fr.length (setRow (setRow (Y8 x_2.1.fr) (0+(k:Int).toNat) 3 [T.bool false]) (0+(k:Int).toNat) 4 [T.int .i64 (0:Int)]) (Y8 (X7 s k).1.fr))/\(Y6 Z3 (x_2.1.d.cache++[Pend.mk x_2.2.1 x_2.2.2.1]) (X7 s k).1.d.cache)/\(Y6 Y9 x_2.1.d.keep (X7 s k).1.d.keep)/\True))/\(((!(X3 x.1 x.2.1).2)=false->decide ((↑(X3 x.1 x.2.1).1.d.cache.length:Int)≥(500:Int))=true->False)->((!(X3 x.1 x.2.1).2||decide ((↑(X3 x.1 x.2.1).1.d.cache.length:Int)≥(500:Int))&& !(V2 x_1.1.d).2)=true->(false=(X7 s k).2/\True)/\(1=1/\1=1/\pG (X3 x.1 x.2.1).1 (X7 s k).1)/\(Y6 Z5 (X3 x.1 x.2.1).1.d.sec (X7 s k).1.d.sec)/\True/\True/\(Y6 Y7 (X3 x.1 x.2.1).1.log (X7 s k).1.log)/\(x.2.2=v/\(X3 x.1 x.2.1).1.fr.length=(X7 s k).1.fr.length/\V0 (X3 x.1 x.2.1).1.fr.length (Y8 (X3 x.1 x.2.1).1.fr) (Y8 (X7 s k).1.fr))/\(Y6 Z3 (X3 x.1 x.2.1).1.d.cache (X7 s k).1.d.cache)/\(Y6 Y9 (X3 x.1 x.2.1).1.d.keep (X7 s k).1.d.keep)/\True)/\((!(X3 x.1 x.2.1).2||decide ((↑(X3 x.1 x.2.1).1.d.cache.length:Int)≥(500:Int))&& !(V2 x_1.1.d).2)=false->Lt (0+(k:Int).toNat) (X3 x.1 x.2.1).1.fr.length/\X2 .i64 ((1:Int)+((X3 x.1 x.2.1).1.fr.getD (0+(k:Int).toNat) default).no)/\Lt (0+(k:Int).toNat) (X3 x.1 x.2.1).1.fr.length/\Lt (0+(k:Int).toNat) (X3 x.1 x.2.1).1.fr.length/\∃(x_2:(Int×Pg)),(PoB x.2.2 x.2.2 (0+(k:Int).toNat) (X3 x.1 x.2.1).1.fr.length ((X3 x.1 x.2.1).1.fr.getD (0+(k:Int).toNat) default).pg.sl.length ((X3 x.1 x.2.1).1.fr.getD (0+(k:Int).toNat) default).pg.sl.length/\(((X3 x.1 x.2.1).1.fr.getD (0+(k:Int).toNat) default).no=x_2.1/\(((X3 x.1 x.2.1).1.fr.getD (0+(k:Int).toNat) default).pg.lsn=x_2.2.lsn/\(Y6 Z5 ((X3 x.1 x.2.1).1.fr.getD (0+(k:Int).toNat) default).pg.sl x_2.2.sl)/\True)/\True)/\bL x_2.2)/\Le (0+(S8 x_2.1 x_2.2).length) (S8 x_2.1 x_2.2).length/\∃(x_3:(Sto×Int×List UInt8×Nat)),(((0=0/\0=0)/\(1:Int)+((X3 x.1 x.2.1).1.fr.getD (0+(k:Int).toNat) default).no=x_3.2.1/\List.take (S8 x_2.1 x_2.2).length (List.drop 0 (S8 x_2.1 x_2.2))=x_3.2.2.1/\True)/\((1=1/\1=1/\pG (X3 x.1 x.2.1).1 x_3.1)/\EqH (x.2.2) (x_3.2.2.2) (X3 x.1 x.2.1).1 x_3.1)/\x_3.1.d.cache.length<=1048576)/\qH (0+(k:Int).toNat) x_3.1.fr.length [T.bool (x_3.1.fr.getD (0+(k:Int).toNat) default).dirty]/\qH (0+(k:Int).toNat) x_3.1.fr.length [T.int .i64 (x_3.1.fr.getD (0+(k:Int).toNat) default).first]/\(true=(X7 s k).2/\True)/\(1=1/\1=1/\(0=0/\x_3.1.d.sec.length=(X7 s k).1.d.sec.length)/\(0=0/\(x_3.1.d.cache++[Pend.mk x_3.2.1 x_3.2.2.1]).length=(X7 s k).1.d.cache.length)/\x_3.1.d.armed=(X7 s k).1.d.armed/\(0=0/\x_3.1.d.keep.length=(X7 s k).1.d.keep.length)/\x_3.1.ep=(X7 s k).1.ep/\(0=0/\x_3.1.log.length=(X7 s k).1.log.length)/\x_3.1.sure=(X7 s k).1.sure/\(0=0/\x_3.1.fr.length=(X7 s k).1.fr.length)/\x_3.1.hand=(X7 s k).1.hand/\True)/\(Y6 Z5 x_3.1.d.sec (X7 s k).1.d.sec)/\True/\True/\(Y6 Y7 x_3.1.log (X7 s k).1.log)/\(x_3.2.2.2=v/\x_3.1.fr.length=(X7 s k).1.fr.length/\V0 x_3.1.fr.length (setRow (setRow (Y8 x_3.1.fr) (0+(k:Int).toNat) 3 [T.bool false]) (0+(k:Int).toNat) 4 [T.int .i64 (0:Int)]) (Y8 (X7 s k).1.fr))/\(Y6 Z3 (x_3.1.d.cache++[Pend.mk x_3.2.1 x_3.2.2.1]) (X7 s k).1.d.cache)/\(Y6 Y9 x_3.1.d.keep (X7 s k).1.d.keep)/\True)))) ?_
 rw[z7,show 0+k=k from E6 k]
 refine⟨Y3 hk,hk,λhd=> ?_,λhd=>⟨hk,(s,(s.fr.getD k default).pg.lsn,v),⟨⟨Z7,Z9⟩,⟨⟨rfl,rfl,Z7,Z7,rfl,Z7,rfl,Z7,rfl,Z7,Z9⟩,Z8,Z8,Z8,Z8,S0,trivial⟩,hf⟩,((X3 s (s.fr.getD k default).pg.lsn).1,v),λ_ _=>⟨(by repeat' first|exact trivial|exact rfl|exact Z2 _ _|exact R9 _|exact U5|exact U2 _|exact V1 _|exact S2 _|refine And.intro ?_ ?_),⟨⟨rfl,rfl,⟨rfl,rfl⟩,⟨rfl,rfl⟩,rfl,⟨rfl,rfl⟩,rfl,⟨rfl,rfl⟩,rfl,⟨rfl,rfl⟩,rfl,trivial⟩,⟨rfl,Z2 _ _⟩,⟨rfl,Z2 _ _⟩,⟨rfl,Z2 _ _⟩,⟨rfl,Z2 _ _⟩,⟨rfl,rfl,R9 _⟩,trivial⟩,hS.1,hP⟩,λhu hc=>⟨λhb=> ?_,λhb=> ?_⟩,λhn=>⟨λhb=> ?_,λhb=> ?_⟩⟩⟩
 ·rw[yE (by simpa using hd)]
  exact⟨Z9,⟨rfl,rfl,Z7,Z7,rfl,Z7,rfl,Z7,rfl,Z7,Z9⟩,Z8,trivial,trivial,Z8,S0,Z8,X8⟩
 all_goals
  have hd:(s.fr.getD k default).dirty=true:=by simpa using hd
  replace o1:=o1 hd;replace o2:=o2 hd;replace o3:=o3 hd;dsimp only at*;generalize X3 s (s.fr.getD k default).pg.lsn=A at*;obtain⟨a,up⟩:=A;dsimp only at*;rw[←hfr] at hk hfp
 ·have hu:up=true:=(xE _).mp hu;subst hu;have hc:500<=a.d.cache.length:=by have:=E9 hc;omega
  have hb:(V2 a.d).2=false:=by simp at hb;exact hb.2
  rw[o2 rfl (by rw[xC hc];exact hb),xC hc]
  exact⟨Z9,⟨rfl,rfl,Z7,Z7,rfl,Z7,rfl,Z7,rfl,Z7,Z9⟩,Z8,trivial,trivial,Z8,S0,Z8,X8⟩
 ·have hu:up=true:=(xE _).mp hu;subst hu;have hb:(V2 a.d).2=true:=by rw[hc] at hb;simpa using hb
  have hc:500<=a.d.cache.length:=by have:=E9 hc;omega
  rw[o3 rfl (by rw[xC hc];exact hb),xC hc]
  exact⟨hk,Z4 (by omega),hk,hk,((a.fr.getD k default).no,(a.fr.getD k default).pg),⟨⟨rfl,hk,V1 _⟩,⟨rfl,⟨rfl,X8⟩,trivial⟩,hfp.2.2.1⟩,U2 _,(a.sd (V2 a.d).1,1+(a.fr.getD k default).no,S8 (a.fr.getD k default).no (a.fr.getD k default).pg,v),⟨⟨Z7,rfl,by rw[List.drop_zero,kC],trivial⟩,⟨⟨rfl,rfl,⟨rfl,rfl⟩,⟨rfl,rfl⟩,rfl,⟨rfl,rfl⟩,rfl,⟨rfl,rfl⟩,rfl,⟨rfl,rfl⟩,rfl,trivial⟩,⟨rfl,Z2 _ _⟩,⟨rfl,Z2 _ _⟩,⟨rfl,Z2 _ _⟩,⟨rfl,Z2 _ _⟩,⟨rfl,rfl,R9 _⟩,trivial⟩,by show(V2 a.d).1.cache.length<=_;rw[i8];exact S2 _⟩,⟨hk,rfl⟩,⟨hk,rfl⟩,Z9,⟨rfl,rfl,Z7,Z7,rfl,Z7,rfl,Z7,rfl,⟨rfl,o5.symm⟩,Z9⟩,Z8,trivial,trivial,Z8,⟨rfl,o5.symm,b3y hk⟩,Z8,X8⟩
 ·cases up with
  |false=>
   rw[o1 rfl];exact⟨Z9,⟨rfl,rfl,Z7,Z7,rfl,Z7,rfl,Z7,rfl,Z7,Z9⟩,Z8,trivial,trivial,Z8,S0,Z8,X8⟩
  |true=>
   have:decide ((a.d.cache.length:Int)≥500)=false:=by
    cases hd:decide ((a.d.cache.length:Int)≥500) with
    |false=>rfl
    |true=>exact(hn rfl hd).elim
   rw[this] at hb;simp at hb
 ·have hu:up=true:=by cases up<;>simp at hb ⊢
  subst hu;have hc:¬500<=a.d.cache.length:=λhc=>hn rfl (iO (by omega))
  rw[o3 rfl (by rw[mI hc]),mI hc]
  exact⟨hk,Z4 (by omega),hk,hk,((a.fr.getD k default).no,(a.fr.getD k default).pg),⟨⟨rfl,hk,V1 _⟩,⟨rfl,⟨rfl,X8⟩,trivial⟩,hfp.2.2.1⟩,U2 _,(a,1+(a.fr.getD k default).no,S8 (a.fr.getD k default).no (a.fr.getD k default).pg,v),⟨⟨Z7,rfl,by rw[List.drop_zero,kC],trivial⟩,⟨⟨rfl,rfl,⟨rfl,rfl⟩,⟨rfl,rfl⟩,rfl,⟨rfl,rfl⟩,rfl,⟨rfl,rfl⟩,rfl,⟨rfl,rfl⟩,rfl,trivial⟩,⟨rfl,Z2 _ _⟩,⟨rfl,Z2 _ _⟩,⟨rfl,Z2 _ _⟩,⟨rfl,Z2 _ _⟩,⟨rfl,rfl,R9 _⟩,trivial⟩,by show a.d.cache.length<=_;omega⟩,⟨hk,rfl⟩,⟨hk,rfl⟩,⟨rfl,trivial⟩,⟨rfl,rfl,⟨rfl,rfl⟩,⟨rfl,rfl⟩,rfl,⟨rfl,rfl⟩,rfl,⟨rfl,rfl⟩,rfl,⟨rfl,o5.symm⟩,rfl,trivial⟩,⟨rfl,Z2 _ _⟩,trivial,trivial,⟨rfl,Z2 _ _⟩,⟨rfl,o5.symm,b3y hk⟩,⟨rfl,Z2 _ _⟩,⟨rfl,Z2 _ _⟩,trivial⟩
end Go.Proofs.YtokaojbaacnngaaGreat

namespace Go.Proofs.YtokaojbaacnngaaGreat
set_option maxRecDepth 100000
open Go.SS

theorem lM(L D:List Pend)(a:Int):∀i,i<=L.length->K4 (L++D) a i=K4 L a i
 |0,_=>rfl
 |i+1,h=>by
  unfold K4;rw[show(L++D).getD i default=L.getD i default by rw[N9,sC (by omega),←N9],lM L D a i (by omega)]
theorem a4N(d:Dsk)(a:Int)(t:List UInt8)(n:Nat):S5 (wrD d a t) n=if a=n then t else S5 d n:=by
 have e:(d.cache++[(⟨a,t⟩:Pend)]).getD d.cache.length default=⟨a,t⟩:=by rw[N9,qK (V1 _)];simp
 have e2:K4 (d.cache++[(⟨a,t⟩:Pend)]) n (d.cache.length+1)=if a=n then some t else K4 d.cache n d.cache.length:=by
  conv=>lhs;unfold K4
  rw[e,lM _ _ _ _ (V1 _)]
 have e3:S5 (wrD d a t) n=(K4 (d.cache++[(⟨a,t⟩:Pend)]) n (d.cache.length+1)).getD (d.sec.getD n []):=by
  unfold S5 wrD;dsimp only;rw[show(d.cache++[(⟨a,t⟩:Pend)]).length=d.cache.length+1 by simp]
 rw[e3,e2];split<;>rfl
theorem b3g{s:Sto}{l:Int}(h:qR s l){n:Nat}(hn:n<9):∀i,i<=N6 s l->S5 (kP s i) n=S5 s.d n
 |0,_=>by
  have:kP s 0=s.d:=by unfold kP;simp
  rw[this]
 |i+1,hi=>by
  have e:kP s (i+1)=wrD (kP s i) (rZ s i).at_ (rZ s i).d:=by
   unfold kP wrD;dsimp only;rw[←xV]
  obtain⟨e2,_,_⟩:=mQ h (i:=i) (by omega)
  have h0:=h.2.2.2.2.1;rw[e,a4N,if_neg (by rw[e2];omega),b3g h hn i (by omega)]
theorem a48{sec:List (List UInt8)}{C:List Pend}{n:Nat}(hn:n<sec.length)(hp:∀i,i<C.length->0<=(C.getD i default).at_):∀i,i<=C.length->(o6 sec C (λ_=>true) i).getD n []=(K4 C n i).getD (sec.getD n [])
 |0,_=>rfl
 |i+1,hi=>by
  have ih:=a48 hn hp i (by omega)
  have h0:=hp i (by omega)
  rw[b7l rfl];unfold K4;by_cases h:(C.getD i default).at_=n
  ·rw[if_pos h,show(C.getD i default).at_.toNat=n by omega,N9,j_k (by rw[G7];exact hn)]
   rfl
  ·rw[if_neg h,N9,j_l (by omega),←N9,ih]
theorem c0w{d:Dsk}(h:(V2 d).2=true):V2 d=(⟨o6 d.sec d.cache (λ_=>true) d.cache.length,[],d.armed,d.keep⟩,true):=by
 unfold V2 at h ⊢;split at h
 ·cases h
 ·rw[if_neg (by assumption)]
theorem b1W{d:Dsk}{n:Nat}(h:(V2 d).2=true)(hp:cG d)(hn:n<d.sec.length):S5 (V2 d).1 n=S5 d n:=by
 rw[c0w h];exact a48 hn (λi hi=>(hp i hi).1) _ (V1 _)
theorem b9W{s:Sto}{l:Int}(h:qR s l)(hu:(X3 s l).2=true){n:Nat}(hn:n<9):S5 (X3 s l).1.d n=S5 s.d n:=by
 by_cases hl:l<=s.sure
 ·rw[zZ hl]
 ·rw[c9 hl] at hu ⊢;have:=h.2.2.2.1;rw[b1W hu (cK h).2 (show n<s.d.sec.length by omega),b3g h hn _ (V1 _)]
theorem b6D{d:Dsk}{n:Nat}(h:(F4 d).2=true)(hp:cG d)(hn:n<d.sec.length):S5 (F4 d).1 n=S5 d n:=by
 by_cases hc:500<=d.cache.length
 ·rw[xC hc] at h ⊢;exact b1W h hp hn
 ·rw[mI hc]
theorem a6v(d:Dsk):(V2 d).1.sec.length=d.sec.length:=by
 unfold V2;split
 ·exact G7 _ _ _ _
 ·exact G7 _ _ _ _
theorem a5L(s:Sto)(l:Int):(X3 s l).1.d.sec.length=s.d.sec.length:=by
 by_cases hl:l<=s.sure
 ·rw[zZ hl]
 ·rw[c9 hl];exact a6v _
theorem aG(s:Sto)(l:Int):(X3 s l).1.fr=s.fr/\(X3 s l).1.hand=s.hand/\(X3 s l).1.log=s.log/\(X3 s l).1.ep=s.ep:=by
 by_cases h:l<=s.sure
 ·rw[zZ h];exact⟨rfl,rfl,rfl,rfl⟩
 ·rw[c9 h];exact⟨rfl,rfl,rfl,rfl⟩
theorem a1n(d:Dsk):(F4 d).1.sec.length=d.sec.length:=by
 unfold F4;split
 ·exact a6v d
 ·rfl
theorem b1I{d:Dsk}(h:d.cache.length<=500):(F4 d).1.cache.length<=499:=by
 unfold F4;split
 ·rw[i8];exact S2 _
 ·dsimp only;omega
theorem q8(s:Sto)(k:Nat):(X7 s k).1.fr.length=s.fr.length/\(X7 s k).1.hand=s.hand/\(X7 s k).1.log=s.log/\(X7 s k).1.ep=s.ep/\(X7 s k).1.d.sec.length=s.d.sec.length:=by
 obtain⟨h1,h2,h3,h4⟩:=aG s (s.fr.getD k default).pg.lsn;have h5:=a5L s (s.fr.getD k default).pg.lsn;unfold X7;split
 ·split
  ·split
   ·exact⟨by show(List.set _ _ _).length=_;rw[o5];exact congrArg List.length h1,h2,h3,h4,by show(F4 _).1.sec.length=_;rw[a1n,h5]⟩
   ·exact⟨congrArg List.length h1,h2,h3,h4,by show(F4 _).1.sec.length=_;rw[a1n,h5]⟩
  ·exact⟨congrArg List.length h1,h2,h3,h4,h5⟩
 ·exact⟨rfl,rfl,rfl,rfl,rfl⟩
theorem a07{s:Sto}{k no:Nat}(h:SInv s)(hk:k<s.fr.length)(hno:no<8)(hne:(s.fr.getD k default).no≠no)(hu:(X7 s k).2=true):S5 (X7 s k).1.d (1+no)=S5 s.d (1+no)/\(X7 s k).1.d.cache.length<=500:=by
 have hf:=h.flu (h.frp k hk).2.2.2;have h0:=(h.frp k hk).1;have hfr:=dQ s (s.fr.getD k default).pg.lsn;have hc:=a5J (l:=(s.fr.getD k default).pg.lsn) h.c;have hp:=eM (l:=(s.fr.getD k default).pg.lsn) h.pd;have hs:=a5L s (s.fr.getD k default).pg.lsn;have h69:=h.n69;by_cases hd:(s.fr.getD k default).dirty=true
 ·by_cases hf2:(X3 s (s.fr.getD k default).pg.lsn).2=true
  ·by_cases h5:(F4 (X3 s (s.fr.getD k default).pg.lsn).1.d).2=true
   ·rw[lB hd hf2 h5];refine⟨?_,?_⟩
    ·show S5 (wrD _ (1+((X3 s _).1.fr.getD k default).no) _) (1+no)=_;rw[hfr,a4N,if_neg (by omega)]
     exact(b6D h5 hp (by omega)).trans (b9W hf hf2 (by omega))
    ·have:=b1I hc;show((F4 _).1.cache++[_]).length<=500;rw[B8];simp only[List.length_cons,List.length_nil];omega
   ·rw[rS hd hf2 (by simpa using h5)] at hu
    cases hu
  ·rw[vI hd (by simpa using hf2)] at hu
   cases hu
 ·rw[yE (by simpa using hd)]
  exact⟨rfl,h.c⟩
theorem eP{L:List Frm}{no:Int}(h:0<=frAt L no):(frAt L no).toNat<L.length:=by
 unfold frAt R0 at h ⊢;split at h
 ·rename_i i hi;have:=List.mem_range.1 (List.mem_of_find?_eq_some hi)
  simpa using this
 ·omega
theorem b5m{L:List Frm}{no:Int}(h:¬0<=frAt L no){i:Nat}(hi:i<L.length):(L.getD i default).no≠no:=by
 have e:=y8 L.length (oM L no);rw[show R0 L.length (oM L no)=frAt L no from rfl,tW h] at e
 have:=K6.1 e.symm i hi;unfold oM at this
 simpa using this
theorem lR{d d':Dsk}{no:Nat}(h:S5 d (1+no)=S5 d' (1+no)):Q8 d no=Q8 d' no/\T7 d no=T7 d' no:=by
 unfold Q8 T7;rw[h];exact Z7
def sG(no:Nat)(p:Pg):Frm:=⟨no,p,false,0⟩
noncomputable def a5i(a:Sto)(k no:Nat):Sto:=⟨a.d,a.ep,a.log,a.sure,a.fr.set k (sG no (Q8 a.d no).1),(a.hand+1).tmod 3⟩
noncomputable def a28(a:Sto)(no:Nat):Sto:=⟨a.d,a.ep,a.log,a.sure,a.fr++[sG no (Q8 a.d no).1],a.hand⟩
noncomputable def Y2(s:Sto)(no:Nat):Sto×Nat×Bool:=if 0<=frAt s.fr no then(s,(frAt s.fr no).toNat,true)
 else if s.fr.length=3 then
  if(X7 s s.hand.toNat).2=true then(a5i (X7 s s.hand.toNat).1 s.hand.toNat no,s.hand.toNat,true) else((X7 s s.hand.toNat).1,0,false)
 else(a28 s no,s.fr.length,true)
noncomputable def B1(s:Sto)(no v:Nat):Nat:=if 0<=frAt s.fr no then v
 else if s.fr.length=3 then
  if(X7 s s.hand.toNat).2=true then v+1 else v
 else 1
def Sto.bxF(s:Sto)(v:Nat):Y0:=[tK (s.tn 1 6 7 4 8),F5 s.d.sec,none,none,v7 s.log,none,I0 s.d.cache,z8 s.d.keep,zB v s.fr s.fr.length]
def a7h(s:Sto)(no:Nat):Prop:=SInv s/\no<8
noncomputable def b2R:Con:=.reff ⟨Sto×Nat×Nat,λx=>[.ref 0 0 0,.int .i64 x.2.1],λx=>x.1.bx x.2.2,λx=>.ref 8 (Y2 x.1 x.2.1).2.1 0,λx=>(Y2 x.1 x.2.1).1.bxF (B1 x.1 x.2.1 x.2.2),λx=>a7h x.1 x.2.1/\(Y2 x.1 x.2.1).2.2=true⟩
noncomputable def b4a:Con:=.reff ⟨Sto×Nat×Nat,λx=>[.ref 0 0 0,.int .i64 x.2.1],λx=>x.1.bx x.2.2,λ_=>.v (.pointer none),λx=>(Y2 x.1 x.2.1).1.bxF (B1 x.1 x.2.1 x.2.2),λx=>a7h x.1 x.2.1/\(Y2 x.1 x.2.1).2.2=false⟩
theorem b6O{L:List Frm}{k:Nat}(f:Frm)(hk:k<L.length):V0 L.length (setRow (Y8 L) (0+k) 0 [T.int IntKind.i64 f.no,T.int IntKind.i64 f.pg.lsn,T.own 0 1 f.pg.sl.length (Z5 f.pg.sl),T.bool f.dirty,T.int IntKind.i64 f.first]) (Y8 (L.set k f)):=vZ λi _=>by
 have hl:∀j,(Y8 L j).length=5:=λ_=>rfl
 rw[E6,J8 (by rw[hl];rfl)]
 by_cases h:i=k
 ·subst h;rw[oK rfl];unfold Y8;rw[show(L.set i f).getD i default=f by rw[N9,j_k hk];rfl]
 ·rw[a9g h];unfold Y8;rw[show(L.set k f).getD i default=L.getD i default by rw[N9,j_l (Ne.symm h),←N9]]
theorem b6B{L:List Frm}(f:Frm)(r:Nat->List T)(hr:(r 0).length=5):V0 (L.length+1) (setRow (W7 (Y8 L) L.length r) (0+(L.length:Int).toNat) 0 [T.int IntKind.i64 f.no,T.int IntKind.i64 f.pg.lsn,T.own 0 1 f.pg.sl.length (Z5 f.pg.sl),T.bool f.dirty,T.int IntKind.i64 f.first]) (Y8 (L++[f])):=vZ λi hi=>by
 rw[z7,E6];have hl:(W7 (Y8 L) L.length r i).length=5:=by
  unfold W7;by_cases h:i<L.length
  ·rw[rM h];rfl
  ·rw[nB h,show i-L.length=0 by omega]
   exact hr
 rw[J8 (by rw[hl];rfl)]
 by_cases h:i=L.length
 ·subst h;rw[oK rfl];unfold Y8;rw[show(L++[f]).getD L.length default=f by rw[N9,qK (V1 _)];simp]
 ·rw[a9g h];unfold W7;rw[rM (by omega)]
  unfold Y8;rw[show(L++[f]).getD i default=L.getD i default by rw[N9,sC (by omega),←N9]]
theorem yN{s:Sto}{no:Nat}(v:Nat)(h:0<=frAt s.fr no):Y2 s no=(s,(frAt s.fr no).toNat,true)/\B1 s no v=v:=⟨if_pos h,if_pos h⟩
theorem t5{s:Sto}{no:Nat}(v:Nat)(h:¬0<=frAt s.fr no)(h3:s.fr.length=3)(hu:(X7 s s.hand.toNat).2=true):Y2 s no=(a5i (X7 s s.hand.toNat).1 s.hand.toNat no,s.hand.toNat,true)/\B1 s no v=v+1:=by
 unfold Y2 B1;rw[if_neg h,if_pos h3,if_pos hu,if_neg h,if_pos h3,if_pos hu];exact Z7
theorem s7{s:Sto}{no:Nat}(v:Nat)(h:¬0<=frAt s.fr no)(h3:s.fr.length=3)(hu:(X7 s s.hand.toNat).2=false):Y2 s no=((X7 s s.hand.toNat).1,0,false)/\B1 s no v=v:=by
 have hu:¬ (X7 s s.hand.toNat).2=true:=by rw[hu];simp
 unfold Y2 B1;rw[if_neg h,if_pos h3,if_neg hu,if_neg h,if_pos h3,if_neg hu];exact Z7
theorem yU{s:Sto}{no:Nat}(v:Nat)(h:¬0<=frAt s.fr no)(h3:¬s.fr.length=3):Y2 s no=(a28 s no,s.fr.length,true)/\B1 s no v=1:=by
 unfold Y2 B1;rw[if_neg h,if_neg h3,if_neg h,if_neg h3];exact Z7
theorem eZ{s:Sto}{no:Nat}(h:SInv s)(hno:no<8)(hc:¬0<=frAt s.fr no)(h3:s.fr.length=3)(hu:(X7 s s.hand.toNat).2=true):DkB ((X7 s s.hand.toNat).1.d,no)/\T7 (X7 s s.hand.toNat).1.d no=Q8 (X7 s s.hand.toNat).1.d no/\(Q8 (X7 s s.hand.toNat).1.d no).2=true:=by
 have hh:=h.hd;have hk:s.hand.toNat<s.fr.length:=by omega
 obtain⟨p1,p2⟩:=a07 h hk hno (b5m hc hk) hu;obtain⟨_,_,_,_,r5⟩:=q8 s s.hand.toNat;have h69:=h.n69;obtain⟨g1,g2⟩:=h.pg no hno;obtain⟨c1,c2⟩:=lR p1;refine⟨⟨by dsimp only;omega,by dsimp only;omega,by dsimp only;omega,by show(S5 _ _).length<=_;rw[p1];exact g2⟩,?_,by rw[c1];exact g1⟩
 rw[c1,c2];exact(mM s.d no).2 g1
theorem a6B{s:Sto}{no:Nat}(h:SInv s)(hno:no<8):DkB (s.d,no)/\T7 s.d no=Q8 s.d no:=by
 have h69:=h.n69;have hc:=h.c;obtain⟨g1,g2⟩:=h.pg no hno;exact⟨⟨by dsimp only;omega,by dsimp only;omega,by dsimp only;omega,g2⟩,(mM s.d no).2 g1⟩
theorem a85:GK 243 b2R:=gk Tryz.func243<|by
 rintro⟨s,no,v⟩ ⟨⟨h,hno⟩,hup⟩;dsimp only at h hno hup;have hL:N3 s.fr.length:=by have:=h.fr3;unfold N3;omega
 refine D2 (gC sD (gC gD (gC gA gN))) Tryz.func243 Z0 [[.box 0,.arr 1,.arr 2,.arr 3,.arr 4,.arr 5,.arr 6,.arr 7,.arr 5],[.box 0,.arr 1,.arr 2,.arr 3,.arr 4,.arr 5,.arr 2,.arr 3,.arr 7],[.box 0,.arr 1,.arr 2,.arr 3,.arr 4,.arr 5,.arr 2,.arr 3,.arr 5]] (α:=∃(x:uK.ι),((LeS s)/\((EqF s x.1)/\(no:Int)=x.2/\True)/\N3 x.1.fr.length)/\(decide (frAt x.1.fr x.2≥(0:Int))=true->W2 (frAt x.1.fr x.2) s.fr.length/\((0+(frAt x.1.fr x.2).toNat=(Y2 s no).2.1/\0=0)/\True)/\(1=1/\1=1/\pG s (Y2 s no).1)/\(Y6 Z5 s.d.sec (Y2 s no).1.d.sec)/\True/\True/\(Y6 Y7 s.log (Y2 s no).1.log)/\True/\(Y6 Z3 s.d.cache (Y2 s no).1.d.cache)/\(Y6 Y9 s.d.keep (Y2 s no).1.d.keep)/\(v=B1 s no v/\s.fr.length=(Y2 s no).1.fr.length/\V0 s.fr.length (Y8 s.fr) (Y8 (Y2 s no).1.fr))/\True)/\(decide (frAt x.1.fr x.2≥(0:Int))=false->(((s.fr.length:Int)==(3:Int))=true->∃(x:(Sto×Nat×Nat)),(((0=0/\0=0)/\s.hand=(x.2.1:Int)/\True)/\((1=1/\1=1/\pG s x.1)/\EqH (v) (x.2.2) s x.1)/\SInv x.1/\x.2.1<x.1.fr.length)/\((!(X7 x.1 x.2.1).2)=true->(M2 (v5 [some 0,some 1,some 2,some 3,some 4,some 5,some 6,some 7,some 5]) (T.v (Value.pointer none)) (T.ref 8 (Y2 s no).2.1 0)/\True)/\(1=1/\1=1/\pG (X7 x.1 x.2.1).1 (Y2 s no).1)/\(Y6 Z5 (X7 x.1 x.2.1).1.d.sec (Y2 s no).1.d.sec)/\True/\True/\(Y6 Y7 (X7 x.1 x.2.1).1.log (Y2 s no).1.log)/\True/\(Y6 Z3 (X7 x.1 x.2.1).1.d.cache (Y2 s no).1.d.cache)/\(Y6 Y9 (X7 x.1 x.2.1).1.d.keep (Y2 s no).1.d.keep)/\(x.2.2=B1 s no v/\(X7 x.1 x.2.1).1.fr.length=(Y2 s no).1.fr.length/\V0 (X7 x.1 x.2.1).1.fr.length (Y8 (X7 x.1 x.2.1).1.fr) (Y8 (Y2 s no).1.fr))/\True)/\((!(X7 x.1 x.2.1).2)=false->X2 .i64 ((X7 x.1 x.2.1).1.hand+(1:Int))/\Nz (3:Int)/\∃(x_1:(Dsk×Nat)),((LeS (X7 x.1 x.2.1).1)/\((g8 (X7 x.1 x.2.1).1.d x_1.1)/\(no:Int)=(x_1.2:Int)/\True)/\DkB x_1)/\W2 s.hand (X7 x.1 x.2.1).1.fr.length/\(0+s.hand.toNat<(X7 x.1 x.2.1).1.fr.length/\Le (T7 x_1.1 x_1.2).1.sl.length (T7 x_1.1 x_1.2).1.sl.length)/\W2 s.hand (X7 x.1 x.2.1).1.fr.length/\((0+s.hand.toNat=(Y2 s no).2.1/\0=0)/\True)/\(1=1/\1=1/\(0=0/\(X7 x.1 x.2.1).1.d.sec.length=(Y2 s no).1.d.sec.length)/\(0=0/\(X7 x.1 x.2.1).1.d.cache.length=(Y2 s no).1.d.cache.length)/\(X7 x.1 x.2.1).1.d.armed=(Y2 s no).1.d.armed/\(0=0/\(X7 x.1 x.2.1).1.d.keep.length=(Y2 s no).1.d.keep.length)/\(X7 x.1 x.2.1).1.ep=(Y2 s no).1.ep/\(0=0/\(X7 x.1 x.2.1).1.log.length=(Y2 s no).1.log.length)/\(X7 x.1 x.2.1).1.sure=(Y2 s no).1.sure/\(0=0/\(X7 x.1 x.2.1).1.fr.length=(Y2 s no).1.fr.length)/\((X7 x.1 x.2.1).1.hand+(1:Int)).tmod (3:Int)=(Y2 s no).1.hand/\True)/\(Y6 Z5 (X7 x.1 x.2.1).1.d.sec (Y2 s no).1.d.sec)/\True/\True/\(Y6 Y7 (X7 x.1 x.2.1).1.log (Y2 s no).1.log)/\True/\(Y6 Z3 (X7 x.1 x.2.1).1.d.cache (Y2 s no).1.d.cache)/\(Y6 Y9 (X7 x.1 x.2.1).1.d.keep (Y2 s no).1.d.keep)/\(x.2.2+1=B1 s no v/\(X7 x.1 x.2.1).1.fr.length=(Y2 s no).1.fr.length/\V0 (X7 x.1 x.2.1).1.fr.length (setRow (Y8 (X7 x.1 x.2.1).1.fr) (0+s.hand.toNat) 0 [T.int .i64 (no:Int),T.int .i64 (T7 x_1.1 x_1.2).1.lsn,T.own 0 1 (T7 x_1.1 x_1.2).1.sl.length (Z5 (T7 x_1.1 x_1.2).1.sl),T.bool false,T.int .i64 (0:Int)]) (Y8 (Y2 s no).1.fr))/\True))/\(((s.fr.length:Int)==(3:Int))=false->(Le 1 1/\Le s.fr.length s.fr.length/\V7 s.fr.length 1 56)/\∃(x:(Dsk×Nat)),((Le (0+s.d.sec.length) s.d.sec.length/\Le (0+s.d.cache.length) s.d.cache.length/\Le (0+s.d.keep.length) s.d.keep.length/\Le (0+s.log.length) s.log.length/\Le (0+(s.fr.length+1)) (s.fr.length+1))/\((g8 s.d x.1)/\(no:Int)=(x.2:Int)/\True)/\DkB x)/\W2 (s.fr.length:Int) (s.fr.length+1)/\(0+(s.fr.length:Int).toNat<s.fr.length+1/\Le (T7 x.1 x.2).1.sl.length (T7 x.1 x.2).1.sl.length)/\W2 (s.fr.length:Int) (s.fr.length+1)/\((0+(s.fr.length:Int).toNat=(Y2 s no).2.1/\0=0)/\True)/\(1=1/\1=1/\(0=0/\s.d.sec.length=(Y2 s no).1.d.sec.length)/\(0=0/\s.d.cache.length=(Y2 s no).1.d.cache.length)/\s.d.armed=(Y2 s no).1.d.armed/\(0=0/\s.d.keep.length=(Y2 s no).1.d.keep.length)/\s.ep=(Y2 s no).1.ep/\(0=0/\s.log.length=(Y2 s no).1.log.length)/\s.sure=(Y2 s no).1.sure/\(0=0/\s.fr.length+1=(Y2 s no).1.fr.length)/\s.hand=(Y2 s no).1.hand/\True)/\(Y6 Z5 s.d.sec (Y2 s no).1.d.sec)/\True/\True/\(Y6 Y7 s.log (Y2 s no).1.log)/\True/\(Y6 Z3 s.d.cache (Y2 s no).1.d.cache)/\(Y6 Y9 s.d.keep (Y2 s no).1.d.keep)/\(1=B1 s no v/\s.fr.length+1=(Y2 s no).1.fr.length/\V0 (s.fr.length+1) (setRow (W7 (Y8 s.fr) s.fr.length λ(k:Nat)=>List.take 5 (List.drop (k*5) [T.int .i64 (0:Int),T.int .i64 (0:Int),T.v (Value.slice none 0 0),T.bool false,T.int .i64 (0:Int)])) (0+(s.fr.length:Int).toNat) 0 [T.int .i64 (no:Int),T.int .i64 (T7 x.1 x.2).1.lsn,T.own 0 1 (T7 x.1 x.2).1.sl.length (Z5 (T7 x.1 x.2).1.sl),T.bool false,T.int .i64 (0:Int)]) (Y8 (Y2 s no).1.fr))/\True))) ⟨(s,(no:Int)),⟨⟨U2 _,U2 _,U2 _,U2 _,U2 _⟩,⟨⟨Z8,Z8,rfl,Z8,rfl,Z8,rfl,⟨rfl,λ_ _=>rfl⟩,Z9⟩,Z9⟩,hL⟩,λhc=> ?_,λhc=>⟨λh3=> ?_,λh3=> ?_⟩⟩
 ·have hc:0<=frAt s.fr no:=E9 hc;obtain⟨e1,e2⟩:=yN v hc;rw[e1,e2];exact⟨⟨hc,by have:=eP hc;show frAt s.fr no<_;omega⟩,⟨⟨E6 _,rfl⟩,trivial⟩,⟨rfl,rfl,⟨rfl,rfl⟩,⟨rfl,rfl⟩,rfl,⟨rfl,rfl⟩,rfl,⟨rfl,rfl⟩,rfl,⟨rfl,rfl⟩,rfl,trivial⟩,⟨rfl,Z2 _ _⟩,trivial,trivial,⟨rfl,Z2 _ _⟩,trivial,⟨rfl,Z2 _ _⟩,⟨rfl,Z2 _ _⟩,⟨rfl,rfl,R9 _⟩,trivial⟩
 ·have hc:¬0<=frAt s.fr no:=yG hc;have h3:s.fr.length=3:=by have:=beq_iff_eq.1 h3;omega
  have hh:=h.hd;have hk:s.hand.toNat<s.fr.length:=by omega
  obtain⟨r1,r2,_⟩:=q8 s s.hand.toNat;refine⟨(s,s.hand.toNat,v),⟨⟨Z7,by dsimp only;omega,trivial⟩,⟨⟨rfl,rfl,⟨rfl,rfl⟩,⟨rfl,rfl⟩,rfl,⟨rfl,rfl⟩,rfl,⟨rfl,rfl⟩,rfl,⟨rfl,rfl⟩,rfl,trivial⟩,⟨rfl,Z2 _ _⟩,⟨rfl,Z2 _ _⟩,⟨rfl,Z2 _ _⟩,⟨rfl,Z2 _ _⟩,⟨rfl,rfl,R9 _⟩,trivial⟩,h,hk⟩,λhu=> ?_,λhu=> ?_⟩
  ·have hu:(X7 s s.hand.toNat).2=false:=(vO _).mp hu;rw[(s7 v hc h3 hu).1] at hup;cases hup
  ·have hu:(X7 s s.hand.toNat).2=true:=(xE _).mp hu;obtain⟨e1,e2⟩:=t5 v hc h3 hu;obtain⟨d1,d2,_⟩:=eZ h hno hc h3 hu;rw[e1,e2];refine⟨Z4 (by dsimp only;omega),by unfold Nz;omega,((X7 s s.hand.toNat).1.d,no),⟨⟨U2 _,U2 _,U2 _,U2 _,U2 _⟩,⟨xF _,rfl,trivial⟩,d1⟩,⟨by omega,by dsimp only;omega⟩,⟨by dsimp only;omega,V1 _⟩,⟨by omega,by dsimp only;omega⟩,⟨⟨E6 _,rfl⟩,trivial⟩,⟨rfl,rfl,⟨rfl,rfl⟩,⟨rfl,rfl⟩,rfl,⟨rfl,rfl⟩,rfl,⟨rfl,rfl⟩,rfl,⟨rfl,o5.symm⟩,rfl,trivial⟩,⟨rfl,Z2 _ _⟩,trivial,trivial,⟨rfl,Z2 _ _⟩,trivial,⟨rfl,Z2 _ _⟩,⟨rfl,Z2 _ _⟩,⟨rfl,o5.symm,?_⟩,trivial⟩
   dsimp only;rw[d2];exact b6O (sG no (Q8 (X7 s s.hand.toNat).1.d no).1) (by omega)
 ·have hc:¬0<=frAt s.fr no:=yG hc;have h3:¬s.fr.length=3:=λe=>by rw[e] at h3;simp at h3
  have hl:=h.fr3;obtain⟨e1,e2⟩:=yU v hc h3;obtain⟨d1,d2⟩:=a6B h hno;rw[e1,e2];refine⟨⟨V1 _,V1 _,by unfold V7;omega⟩,(s.d,no),⟨⟨U2 _,U2 _,U2 _,U2 _,U2 _⟩,⟨xF _,Z9⟩,d1⟩,⟨by omega,by omega⟩,⟨by omega,V1 _⟩,⟨by omega,by omega⟩,⟨⟨by dsimp only;omega,rfl⟩,trivial⟩,⟨rfl,rfl,⟨rfl,rfl⟩,⟨rfl,rfl⟩,rfl,⟨rfl,rfl⟩,rfl,⟨rfl,rfl⟩,rfl,⟨rfl,by unfold a28;simp⟩,rfl,trivial⟩,⟨rfl,Z2 _ _⟩,trivial,trivial,⟨rfl,Z2 _ _⟩,trivial,⟨rfl,Z2 _ _⟩,⟨rfl,Z2 _ _⟩,⟨rfl,by unfold a28;simp,?_⟩,trivial⟩
  dsimp only;rw[d2];exact b6B (sG no (Q8 s.d no).1) _ rfl
theorem a7T:GK 243 b4a:=gk Tryz.func243<|by
 rintro⟨s,no,v⟩ ⟨⟨h,hno⟩,hup⟩;dsimp only at h hno hup;have hL:N3 s.fr.length:=by have:=h.fr3;unfold N3;omega
 refine D2 (gC sD (gC gD (gC gA gN))) Tryz.func243 Z0 [[.box 0,.arr 1,.arr 2,.arr 3,.arr 4,.arr 5,.arr 6,.arr 7,.arr 5],[.box 0,.arr 1,.arr 2,.arr 3,.arr 4,.arr 5,.arr 2,.arr 3,.arr 7],[.box 0,.arr 1,.arr 2,.arr 3,.arr 4,.arr 5,.arr 2,.arr 3,.arr 5]] (α:=∃(x:uK.ι),((LeS s)/\((EqF s x.1)/\(no:Int)=x.2/\True)/\N3 x.1.fr.length)/\(decide (frAt x.1.fr x.2≥(0:Int))=true->W2 (frAt x.1.fr x.2) s.fr.length/\(M2 (v5 [some 0,some 1,some 2,some 3,some 4,some 5,some 2,some 3,some 5]) (T.ref 5 (0+(frAt x.1.fr x.2).toNat) 0) (T.v (Value.pointer none))/\True)/\(1=1/\1=1/\pG s (Y2 s no).1)/\(Y6 Z5 s.d.sec (Y2 s no).1.d.sec)/\True/\True/\(Y6 Y7 s.log (Y2 s no).1.log)/\True/\(Y6 Z3 s.d.cache (Y2 s no).1.d.cache)/\(Y6 Y9 s.d.keep (Y2 s no).1.d.keep)/\(v=B1 s no v/\s.fr.length=(Y2 s no).1.fr.length/\V0 s.fr.length (Y8 s.fr) (Y8 (Y2 s no).1.fr))/\True)/\(decide (frAt x.1.fr x.2≥(0:Int))=false->(((s.fr.length:Int)==(3:Int))=true->∃(x:(Sto×Nat×Nat)),(((0=0/\0=0)/\s.hand=(x.2.1:Int)/\True)/\((1=1/\1=1/\pG s x.1)/\EqH (v) (x.2.2) s x.1)/\SInv x.1/\x.2.1<x.1.fr.length)/\((!(X7 x.1 x.2.1).2)=true->(Value.pointer none=Value.pointer none/\True)/\(1=1/\1=1/\pG (X7 x.1 x.2.1).1 (Y2 s no).1)/\(Y6 Z5 (X7 x.1 x.2.1).1.d.sec (Y2 s no).1.d.sec)/\True/\True/\(Y6 Y7 (X7 x.1 x.2.1).1.log (Y2 s no).1.log)/\True/\(Y6 Z3 (X7 x.1 x.2.1).1.d.cache (Y2 s no).1.d.cache)/\(Y6 Y9 (X7 x.1 x.2.1).1.d.keep (Y2 s no).1.d.keep)/\(x.2.2=B1 s no v/\(X7 x.1 x.2.1).1.fr.length=(Y2 s no).1.fr.length/\V0 (X7 x.1 x.2.1).1.fr.length (Y8 (X7 x.1 x.2.1).1.fr) (Y8 (Y2 s no).1.fr))/\True)/\((!(X7 x.1 x.2.1).2)=false->X2 .i64 ((X7 x.1 x.2.1).1.hand+(1:Int))/\Nz (3:Int)/\∃(x_1:(Dsk×Nat)),((LeS (X7 x.1 x.2.1).1)/\((g8 (X7 x.1 x.2.1).1.d x_1.1)/\(no:Int)=(x_1.2:Int)/\True)/\DkB x_1)/\W2 s.hand (X7 x.1 x.2.1).1.fr.length/\(0+s.hand.toNat<(X7 x.1 x.2.1).1.fr.length/\Le (T7 x_1.1 x_1.2).1.sl.length (T7 x_1.1 x_1.2).1.sl.length)/\W2 s.hand (X7 x.1 x.2.1).1.fr.length/\(M2 (v5 [some 0,some 1,some 2,some 3,some 4,some 5,some 6,some 7,some 5]) (T.ref 5 (0+s.hand.toNat) 0) (T.v (Value.pointer none))/\True)/\(1=1/\1=1/\(0=0/\(X7 x.1 x.2.1).1.d.sec.length=(Y2 s no).1.d.sec.length)/\(0=0/\(X7 x.1 x.2.1).1.d.cache.length=(Y2 s no).1.d.cache.length)/\(X7 x.1 x.2.1).1.d.armed=(Y2 s no).1.d.armed/\(0=0/\(X7 x.1 x.2.1).1.d.keep.length=(Y2 s no).1.d.keep.length)/\(X7 x.1 x.2.1).1.ep=(Y2 s no).1.ep/\(0=0/\(X7 x.1 x.2.1).1.log.length=(Y2 s no).1.log.length)/\(X7 x.1 x.2.1).1.sure=(Y2 s no).1.sure/\(0=0/\(X7 x.1 x.2.1).1.fr.length=(Y2 s no).1.fr.length)/\((X7 x.1 x.2.1).1.hand+(1:Int)).tmod (3:Int)=(Y2 s no).1.hand/\True)/\(Y6 Z5 (X7 x.1 x.2.1).1.d.sec (Y2 s no).1.d.sec)/\True/\True/\(Y6 Y7 (X7 x.1 x.2.1).1.log (Y2 s no).1.log)/\True/\(Y6 Z3 (X7 x.1 x.2.1).1.d.cache (Y2 s no).1.d.cache)/\(Y6 Y9 (X7 x.1 x.2.1).1.d.keep (Y2 s no).1.d.keep)/\(x.2.2+1=B1 s no v/\(X7 x.1 x.2.1).1.fr.length=(Y2 s no).1.fr.length/\V0 (X7 x.1 x.2.1).1.fr.length (setRow (Y8 (X7 x.1 x.2.1).1.fr) (0+s.hand.toNat) 0 [T.int .i64 (no:Int),T.int .i64 (T7 x_1.1 x_1.2).1.lsn,T.own 0 1 (T7 x_1.1 x_1.2).1.sl.length (Z5 (T7 x_1.1 x_1.2).1.sl),T.bool false,T.int .i64 (0:Int)]) (Y8 (Y2 s no).1.fr))/\True))/\(((s.fr.length:Int)==(3:Int))=false->(Le 1 1/\Le s.fr.length s.fr.length/\V7 s.fr.length 1 56)/\∃(x:(Dsk×Nat)),((Le (0+s.d.sec.length) s.d.sec.length/\Le (0+s.d.cache.length) s.d.cache.length/\Le (0+s.d.keep.length) s.d.keep.length/\Le (0+s.log.length) s.log.length/\Le (0+(s.fr.length+1)) (s.fr.length+1))/\((g8 s.d x.1)/\(no:Int)=(x.2:Int)/\True)/\DkB x)/\W2 (s.fr.length:Int) (s.fr.length+1)/\(0+(s.fr.length:Int).toNat<s.fr.length+1/\Le (T7 x.1 x.2).1.sl.length (T7 x.1 x.2).1.sl.length)/\W2 (s.fr.length:Int) (s.fr.length+1)/\(M2 (v5 [some 0,some 1,some 2,some 3,some 4,some 5,some 2,some 3,some 7]) (T.ref 7 (0+(s.fr.length:Int).toNat) 0) (T.v (Value.pointer none))/\True)/\(1=1/\1=1/\(0=0/\s.d.sec.length=(Y2 s no).1.d.sec.length)/\(0=0/\s.d.cache.length=(Y2 s no).1.d.cache.length)/\s.d.armed=(Y2 s no).1.d.armed/\(0=0/\s.d.keep.length=(Y2 s no).1.d.keep.length)/\s.ep=(Y2 s no).1.ep/\(0=0/\s.log.length=(Y2 s no).1.log.length)/\s.sure=(Y2 s no).1.sure/\(0=0/\s.fr.length+1=(Y2 s no).1.fr.length)/\s.hand=(Y2 s no).1.hand/\True)/\(Y6 Z5 s.d.sec (Y2 s no).1.d.sec)/\True/\True/\(Y6 Y7 s.log (Y2 s no).1.log)/\True/\(Y6 Z3 s.d.cache (Y2 s no).1.d.cache)/\(Y6 Y9 s.d.keep (Y2 s no).1.d.keep)/\(1=B1 s no v/\s.fr.length+1=(Y2 s no).1.fr.length/\V0 (s.fr.length+1) (setRow (W7 (Y8 s.fr) s.fr.length λ(k:Nat)=>List.take 5 (List.drop (k*5) [T.int .i64 (0:Int),T.int .i64 (0:Int),T.v (Value.slice none 0 0),T.bool false,T.int .i64 (0:Int)])) (0+(s.fr.length:Int).toNat) 0 [T.int .i64 (no:Int),T.int .i64 (T7 x.1 x.2).1.lsn,T.own 0 1 (T7 x.1 x.2).1.sl.length (Z5 (T7 x.1 x.2).1.sl),T.bool false,T.int .i64 (0:Int)]) (Y8 (Y2 s no).1.fr))/\True))) ⟨(s,(no:Int)),⟨⟨U2 _,U2 _,U2 _,U2 _,U2 _⟩,⟨⟨Z8,Z8,rfl,Z8,rfl,Z8,rfl,⟨rfl,λ_ _=>rfl⟩,Z9⟩,Z9⟩,hL⟩,λhc=> ?_,λhc=>⟨λh3=> ?_,λh3=> ?_⟩⟩
 ·have hc:0<=frAt s.fr no:=E9 hc;rw[(yN v hc).1] at hup;cases hup
 ·have hc:¬0<=frAt s.fr no:=yG hc;have h3:s.fr.length=3:=by have:=beq_iff_eq.1 h3;omega
  have hh:=h.hd;have hk:s.hand.toNat<s.fr.length:=by omega
  refine⟨(s,s.hand.toNat,v),⟨⟨Z7,by dsimp only;omega,trivial⟩,⟨⟨rfl,rfl,⟨rfl,rfl⟩,⟨rfl,rfl⟩,rfl,⟨rfl,rfl⟩,rfl,⟨rfl,rfl⟩,rfl,⟨rfl,rfl⟩,rfl,trivial⟩,⟨rfl,Z2 _ _⟩,⟨rfl,Z2 _ _⟩,⟨rfl,Z2 _ _⟩,⟨rfl,Z2 _ _⟩,⟨rfl,rfl,R9 _⟩,trivial⟩,h,hk⟩,λhu=> ?_,λhu=> ?_⟩
  ·have hu:(X7 s s.hand.toNat).2=false:=(vO _).mp hu;obtain⟨e1,e2⟩:=s7 v hc h3 hu;rw[e1,e2];exact⟨Z9,⟨rfl,rfl,Z7,Z7,rfl,Z7,rfl,Z7,rfl,Z7,Z9⟩,Z8,trivial,trivial,Z8,trivial,Z8,Z8,S0,trivial⟩
  ·have hu:(X7 s s.hand.toNat).2=true:=(xE _).mp hu;rw[(t5 v hc h3 hu).1] at hup;cases hup
 ·have hc:¬0<=frAt s.fr no:=yG hc;have h3:¬s.fr.length=3:=λe=>by rw[e] at h3;simp at h3
  rw[(yU v hc h3).1] at hup;cases hup
end Go.Proofs.YtokaojbaacnngaaGreat

