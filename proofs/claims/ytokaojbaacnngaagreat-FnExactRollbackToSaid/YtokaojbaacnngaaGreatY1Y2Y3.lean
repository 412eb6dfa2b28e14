/- A part of the proof. -/
import Derived.Test.YtokaojbaacnngaaGreatX11X11rX12X13X14
namespace Go.Proofs.YtokaojbaacnngaaGreat
set_option maxRecDepth 100000
open Go.SS

def b5V(l:List UInt8)(L:List (List UInt8)):Nat->Ann
 |0=>.one {i:Nat//i<=L.length} (λx=>⟨[(0,.osl 1 0 (l++W7 L x.1).length),(13,C0 L),(14,.int .i64 L.length),(15,.int .i64 x.1)],[none,some (.bys 5 (l++W7 L x.1))]⟩) (λx=>L.length-x.1) [.arr 0,.arr 2] [.arr 0,.at_ 0] (λ_=>Z0)
 |_=>.none
def eU:Con:=.reff ⟨List UInt8×List (List UInt8),λx=>[.osl 0 0 x.1.length,C0 x.2],λx=>[some (.bys 5 x.1)],λx=>.osl 1 0 (x.1++T3 x.2).length,λx=>[none,some (.bys 5 (x.1++T3 x.2))],λx=>x.1.length<=1000/\A2 x.2⟩
theorem kI:GK 236 eU:=gk Tryz.func236<|by
 rintro⟨l,L⟩ ⟨h1,h2,h3⟩;dsimp only at h1 h2 h3;have e0:List.take l.length l++List.take 1 (List.drop 0 (List.map P6 [IntKind.u8.wrap (L.length:Int)]))=l++W7 L 0:=by rw[kV];rfl
 refine C4 gN Tryz.func236 (b5V l L) [[.arr 0,.arr 1]] (α:=X4 IntKind.u8 (IntKind.u8.wrap (L.length:Int))/\(Le 1 1/\Le l.length l.length/\V6 l.length 1 1)/\(∃(x:{i:Nat//i<=L.length}),((0=0/\l.length+1=(l++W7 L x.val).length)/\(Y5 Z5 L L)/\(L.length:Int)=(L.length:Int)/\(0:Int)=(x.val:Int)/\True)/\True/\List.take l.length l++List.take 1 (List.drop 0 (List.map P6 [IntKind.u8.wrap (L.length:Int)]))=l++W7 L x.val/\True)/\∀(x:{i:Nat//i<=L.length}),(decide ((x.val:Int)<(L.length:Int))=true->W4 (x.val:Int) L.length/\X4 IntKind.u8 (IntKind.u8.wrap (↑(L.getD (x.val:Int).toNat []).length:Int))/\(Le 1 1/\Le (l++W7 L x.val).length (l++W7 L x.val).length/\V6 (l++W7 L x.val).length 1 1)/\(Le ((l++W7 L x.val).length+1) (List.take (l++W7 L x.val).length (l++W7 L x.val)++List.take 1 (List.drop 0 (List.map P6 [IntKind.u8.wrap (↑(L.getD (x.val:Int).toNat []).length:Int)]))).length/\V6 ((l++W7 L x.val).length+1) (L.getD (x.val:Int).toNat []).length 1)/\X4 .i64 ((x.val:Int)+(1:Int))/\∃(y:{i:Nat//i<=L.length}),(((0=0/\(l++W7 L x.val).length+1+(L.getD (x.val:Int).toNat []).length=(l++W7 L y.val).length)/\(Y5 Z5 L L)/\(L.length:Int)=(L.length:Int)/\(x.val:Int)+(1:Int)=(y.val:Int)/\True)/\True/\List.take ((l++W7 L x.val).length+1) (List.take (l++W7 L x.val).length (l++W7 L x.val)++List.take 1 (List.drop 0 (List.map P6 [IntKind.u8.wrap (↑(L.getD (x.val:Int).toNat []).length:Int)])))++L.getD (x.val:Int).toNat []=l++W7 L y.val/\True)/\Lt (L.length-y.val) (L.length-x.val))/\(decide ((x.val:Int)<(L.length:Int))=false->((0=0/\(l++W7 L x.val).length=(l++T3 L).length)/\True)/\True/\l++W7 L x.val=l++T3 L/\True)) ⟨Q6 _,⟨V2 _,V2 _,by unfold V6;omega⟩,⟨⟨0,S7 _⟩,⟨⟨rfl,by simp[W7]⟩,⟨rfl,Z2 _ _⟩,rfl,rfl,trivial⟩,trivial,e0,trivial⟩,λx=>⟨λhc=> ?_,λhc=> ?_⟩⟩
 ·have hlt:=Y1 hc;have f1:=zD L h3 x.val (by omega)
  have f2:=h3 x.val hlt;rw[u9];have hl:(l++W7 L x.val).length<=1100000:=by rw[A3];omega
  have e:List.take (l++W7 L x.val).length (l++W7 L x.val)++List.take 1 (List.drop 0 (List.map P6 [IntKind.u8.wrap ((L.getD x.val []).length:Int)]))=l++W7 L x.val++[l8 (L.getD x.val []).length]:=by
   rw[kV];rfl
  rw[e];have e2:(l++W7 L x.val++[l8 (L.getD x.val []).length]).length=(l++W7 L x.val).length+1:=by rw[A3];rfl
  refine⟨Y2 hlt,Q6 _,⟨V2 _,V2 _,by unfold V6;omega⟩,⟨by rw[e2];exact V2 _,by unfold V6;omega⟩,Z4 (by omega),⟨x.val+1,hlt⟩,⟨⟨⟨rfl,?_⟩,Z8,rfl,by dsimp only;omega,trivial⟩,trivial,?_,trivial⟩,V4.ext_lt hlt⟩
  ·simp only[W7,A3,List.length_cons,List.length_nil];omega
  ·rw[←e2,kV];simp only[W7,List.append_assoc]
 ·have hx:x.val=L.length:=by have:=x.2;have:=X9 hc;omega
  rw[hx];exact⟨T2,trivial,Z9⟩
def a8t:Con:=.reff ⟨List UInt8,λl=>[.osl 0 0 l.length],λl=>[some (.bys 5 l)],λl=>.osl 1 0 (l++C1 (u3 l)).length,λl=>[none,some (.bys 5 (l++C1 (u3 l)))],λl=>l.length<=1000000⟩
theorem a4d:GK 235 a8t:=gk Tryz.func235<|by
 intro(l:List UInt8) (hl:l.length<=1000000);have e4:(C1 (u3 l)).length=4:=rfl;have hc:=fU l;refine C4 (gC tJ (gC a43 gN)) Tryz.func235 Z0 [[.arr 0,.arr 1]] (α:=∃(x:(xA IntKind.u32).ι),(Le (0+l.length) l.length/\(List.take l.length (List.drop 0 l)=x/\True)/\J1 x)/\∃(x_1:Nat),((IntKind.i64.wrap (↑(u3 x):Int)=(x_1:Int)/\True)/\x_1<4294967296)/\(Le l.length l.length/\V6 l.length 4 1)/\((0=0/\l.length+4=(l++C1 (u3 l)).length)/\True)/\True/\List.take l.length l++C1 x_1=l++C1 (u3 l)/\True) ⟨l,⟨by unfold Le;omega,⟨by rw[List.drop_zero,kV],trivial⟩,by unfold J1;omega⟩,u3 l,⟨⟨?_,trivial⟩,hc⟩,⟨V2 _,by unfold V6;omega⟩,⟨⟨rfl,by rw[A3,e4]⟩,trivial⟩,trivial,by rw[kV],trivial⟩
 rw[IntKind.wrap_i64];omega
def bB:Con:=.rmk ⟨Int×Pg,λx=>[.int .i64 x.1,.agg x.2.ts],λ_=>[],λx=>.osl 0 0 (T1 x.1 x.2).length,λx=>[some (.bys 5 (T1 x.1 x.2))],λx=>cN x.2⟩
theorem gL:GK 280 bB:=gk Tryz.func280<|by
 rintro⟨no,p⟩ ⟨h1,h2,h3,h4⟩;dsimp only at h1 h2 h3 h4;have hs:A2 p.sl:=⟨by omega,λi hi=>Nat.le_trans (h4 i hi) (by decide)⟩
 have hfl:=zD p.sl hs.2 p.sl.length (V2 _);have hfl:(T3 p.sl).length<=5000:=by unfold T3;omega
 have e:List.map P6 [(112:Int),IntKind.u8.wrap no,IntKind.u8.wrap (p.lsn.fdiv 256),IntKind.u8.wrap p.lsn]=[P6 112,l8 no]++zP p.lsn.toNat:=by
  unfold zP;rw[show((p.lsn.toNat:Nat):Int)=p.lsn by omega,Int.fdiv_one]
  rfl
 refine⟨C4 (gC kI (gC a4d gN)) Tryz.func280 Z0 [[.arr 3]] (α:=Nn (8:Int)/\(X4 IntKind.u8 (112:Int)/\X4 IntKind.u8 (IntKind.u8.wrap no)/\X4 IntKind.u8 (IntKind.u8.wrap (p.lsn.fdiv (256:Int)))/\X4 IntKind.u8 (IntKind.u8.wrap p.lsn))/\∃(x:(List UInt8×List (List UInt8))),(((0=0/\4=x.1.length)/\(Y5 Z5 p.sl x.2)/\True)/\(List.map P6 [(112:Int),IntKind.u8.wrap no,IntKind.u8.wrap (p.lsn.fdiv (256:Int)),IntKind.u8.wrap p.lsn]=x.1/\True)/\x.1.length<=1000/\A2 x.2)/\∃(x_1:(List UInt8)),(((0=0/\(x.1++T3 x.2).length=List.length x_1)/\True)/\(x.1++T3 x.2=x_1/\True)/\List.length x_1<=1000000)/\((0=0/\(x_1++C1 (u3 x_1)).length=(T1 no p).length)/\True)/\x_1++C1 (u3 x_1)=T1 no p/\True) ⟨by unfold Nn;omega,⟨(gY _).2 (by omega),Q6 _,Q6 _,Q6 _⟩,([P6 112,l8 no]++zP p.lsn.toNat,p.sl),⟨⟨Z7,X8⟩,⟨e,trivial⟩,by simp[zP],hs⟩,vP no p,⟨⟨⟨rfl,rfl⟩,trivial⟩,⟨rfl,trivial⟩,?_⟩,⟨⟨rfl,rfl⟩,trivial⟩,rfl,trivial⟩,rfl,G9 trivial D0⟩
 unfold vP;rw[A3,A3];have e2:(zP p.lsn.toNat).length=2:=rfl;simp only[List.length_cons,List.length_nil];omega
def a2u:Con:=.rmk ⟨Unit,λ_=>[],λ_=>[],λ_=>.agg (Pg.tm ⟨0,[[],[],[],[]]⟩ 0),λ_=>[G0 [[],[],[],[]]],λ_=>True⟩
theorem a2F(h:
  (Nn (4:Int)/\oH (4:Int) (4:Int)/\I5 16 4 140737488355328/\Lt 4 9223372036854775808)/\(((0:Int)=(0:Int)/\(0=0/\4=4)/\True)/\True)/\(4=4/\Z6 4 (λ(x:Nat)=>[T.str []]) (Z5 [[],[],[],
  []]))/\True):
  B1 Tryz.prog 213 [] [] (.agg (Pg.tm ⟨0,[[],[],[],[]]⟩ 0)) [G0 [[],[],[],[]]]:=
 C4 gN Tryz.func213 Z0 [[.arr 1]] h
theorem a02:GK 213 a2u:=gk Tryz.func213<|λ_ _=>⟨a2F ⟨⟨by unfold Nn;omega,by unfold oH;omega,by unfold I5;omega,by unfold Lt;omega⟩,⟨⟨rfl,T2⟩,trivial⟩,⟨rfl,mB⟩,trivial⟩,rfl,G2 _⟩
def a7N:Con:=.reff ⟨List UInt8×Bool,λ_=>[.ref 0 0 0],λx=>[rdr x.1 x.2],λx=>.osl 1 0 (V1 x.1 x.2).out.length,λx=>[rdr (V1 x.1 x.2).l (V1 x.1 x.2).fl,G0 (V1 x.1 x.2).out],λ_=>True⟩
theorem a19:GK 258 a7N:=gk Tryz.func258<|by
 rintro⟨l,fl⟩ _;have hn:=z4 l;refine C4 (gC dZ (gC rX gN)) Tryz.func258 (bQ l fl) [[.box 0,.arr 1]] (α:=(∃(x:{i:Nat//i<=(numR l).toNat}),((0=0/\0=0)/\(0=0/\0=(L0 l fl x.val).out.length)/\numR l=numR l/\(0:Int)=(x.val:Int)/\True)/\(1=1/\1=1/\List.drop 1 l=(L0 l fl x.val).l/\(fl||l.isEmpty)=(L0 l fl x.val).fl/\True)/\(0=(L0 l fl x.val).out.length/\Z6 0 (λ(k:Nat)=>List.take 1 (List.drop (k*1) [])) (Z5 (L0 l fl x.val).out))/\True)/\∀(x:{i:Nat//i<=(numR l).toNat}),(decide ((x.val:Int)<numR l)=true->wZ (numR (L0 l fl x.val).l)/\(Le 1 1/\Le (L0 l fl x.val).out.length (L0 l fl x.val).out.length/\V6 (L0 l fl x.val).out.length 1 16)/\X4 .i64 ((x.val:Int)+(1:Int))/\∃(y:{i:Nat//i<=(numR l).toNat}),(((0=0/\0=0)/\(0=0/\(L0 l fl x.val).out.length+1=(L0 l fl y.val).out.length)/\numR l=numR l/\(x.val:Int)+(1:Int)=(y.val:Int)/\True)/\(1=1/\1=1/\O3 (List.drop 1 (L0 l fl x.val).l) (numR (L0 l fl x.val).l)=(L0 l fl y.val).l/\((L0 l fl x.val).fl||(L0 l fl x.val).l.isEmpty||big (List.drop 1 (L0 l fl x.val).l) (numR (L0 l fl x.val).l))=(L0 l fl y.val).fl/\True)/\((L0 l fl x.val).out.length+1=(L0 l fl y.val).out.length/\Z6 ((L0 l fl x.val).out.length+1) (W6 (Z5 (L0 l fl x.val).out) (L0 l fl x.val).out.length λ(k:Nat)=>List.take 1 (List.drop (k*1) [T.str (S4 (List.drop 1 (L0 l fl x.val).l) (numR (L0 l fl x.val).l))])) (Z5 (L0 l fl y.val).out))/\True)/\Lt ((numR l).toNat-y.val) ((numR l).toNat-x.val))/\(decide ((x.val:Int)<numR l)=false->((0=0/\(L0 l fl x.val).out.length=(V1 l fl).out.length)/\True)/\(1=1/\1=1/\(L0 l fl x.val).l=(V1 l fl).l/\(L0 l fl x.val).fl=(V1 l fl).fl/\True)/\(Y5 Z5 (L0 l fl x.val).out (V1 l fl).out)/\True)) ⟨⟨⟨0,S7 _⟩,⟨Z7,Z7,rfl,Z9⟩,⟨rfl,rfl,rfl,Z9⟩,⟨rfl,iK _ _⟩,trivial⟩,λx=>⟨λhc=> ?_,λhc=> ?_⟩⟩
 ·have hlt:(x.val:Int)<numR l:=F3 hc;have hlen:=wH l fl x.val;have hm:=z4 (L0 l fl x.val).l;exact⟨⟨hm.1,by omega⟩,⟨V2 _,V2 _,by omega,by omega⟩,Z4 (by omega),⟨x.val+1,by omega⟩,⟨⟨Z7,⟨rfl,(congrArg (· +1) hlen).trans (wH l fl (x.val+1)).symm⟩,rfl,by simp only;omega,trivial⟩,⟨rfl,rfl,rfl,rfl,trivial⟩,⟨(congrArg (· +1) hlen).trans (wH l fl (x.val+1)).symm,fC _ _⟩,trivial⟩,by unfold Lt;simp only;omega⟩
 ·have hge:¬ (x.val:Int)<numR l:=yQ hc;have hx:=x.2;have he:x.val=(numR l).toNat:=by omega
  rw[he];exact⟨T2,⟨rfl,rfl,rfl,Z9⟩,X8⟩
noncomputable def a1b:Con:=.rmk ⟨Int×List UInt8,λx=>[.int .i64 x.1,.bys x.2],λ_=>[],λx=>.tup [.agg ((R5 x.1 x.2).tm 0),.int .i64 (N4 x.1 x.2)],λx=>[G0 (R5 x.1 x.2).sl],λx=>RdB x.2⟩
theorem fK:GK 214 a1b:=gk Tryz.func214<|by
 rintro⟨no,b⟩ (hb:b.length<=1000);have hl:∀(x:List UInt8),(S4 x 4).length=4:=λx=>by
  unfold S4;split
  ·exact List.length_replicate
  ·rename_i h;have:¬4>(x.length:Int):=by simpa[big] using h
   rw[List.length_take,show(4:Int).toNat=4 from rfl]
   omega
 refine⟨C4 (gC vT (gC rX (gC a38 (gC a19 (gC vI (gC tS gN)))))) Tryz.func214 Z0 [[.nilS 0 [0,1] 0 1,.arr 4],[.arr 2],[.nilS 0 [0,1] 0 1,.arr 1]] (α:=(decide ((b.length:Int)>(65536:Int))=true->((((0:Int)=(R5 no b).lsn/\(0=0/\0=(R5 no b).sl.length)/\True)/\(2:Int)=N4 no b/\True)/\True)/\(0=(R5 no b).sl.length/\Z6 0 (λ(x:Nat)=>[]) (Z5 (R5 no b).sl))/\True)/\(decide ((b.length:Int)>(65536:Int))=false->∃(x:xM.ι),((b=x/\True)/\J1 x)/\((!T4 x)=true->((((0:Int)=(R5 no b).lsn/\(0=0/\0=(R5 no b).sl.length)/\True)/\(8:Int)=N4 no b/\True)/\True)/\(0=(R5 no b).sl.length/\Z6 0 (λ(x:Nat)=>[]) (Z5 (R5 no b).sl))/\True)/\((!T4 x)=false->wZ (4:Int)/\InC (2:Int) (S4 (X6 x) (4:Int)).length/\∃(x_1:a5F.ι),((List.drop 2 (S4 (X6 x) (4:Int))=x_1/\True)/\pB x_1)/\∃(x_2:(List UInt8×Bool)),(((0=0/\0=0)/\True)/\((1=1/\Z6 1 (λ(x_3:Nat)=>[T.bys (O3 (X6 x) (4:Int)),T.bool (false||big (X6 x) (4:Int))]) λ(x:Nat)=>[T.bys x_2.1,T.bool x_2.2])/\True)/\True)/\((!(!(V1 x_2.1 x_2.2).fl&&(V1 x_2.1 x_2.2).l.isEmpty))=false->W4 (0:Int) (S4 (X6 x) (4:Int)).length)/\((!(!(V1 x_2.1 x_2.2).fl&&(V1 x_2.1 x_2.2).l.isEmpty)||(↑((S4 (X6 x) (4:Int)).getD 0 (0:UInt8)).toNat:Int) !=(112:Int))=false->W4 (1:Int) (S4 (X6 x) (4:Int)).length)/\∃(x_3:i7.ι),((!(!(V1 x_2.1 x_2.2).fl&&(V1 x_2.1 x_2.2).l.isEmpty)||(↑((S4 (X6 x) (4:Int)).getD 0 (0:UInt8)).toNat:Int) !=(112:Int)||IntKind.i64.wrap (↑((S4 (X6 x) (4:Int)).getD 1 (0:UInt8)).toNat:Int) !=no)=false->Le (0+(V1 x_2.1 x_2.2).out.length) (V1 x_2.1 x_2.2).out.length/\(((↑(be x_1):Int)=x_3.lsn/\(Y5 Z5 (V1 x_2.1 x_2.2).out x_3.sl)/\True)/\True)/\PgB x_3)/\((!(!(V1 x_2.1 x_2.2).fl&&(V1 x_2.1 x_2.2).l.isEmpty)||(↑((S4 (X6 x) (4:Int)).getD 0 (0:UInt8)).toNat:Int) !=(112:Int)||IntKind.i64.wrap (↑((S4 (X6 x) (4:Int)).getD 1 (0:UInt8)).toNat:Int) !=no|| !B3 x_3)=true->((((0:Int)=(R5 no b).lsn/\(0=0/\0=(R5 no b).sl.length)/\True)/\(3:Int)=N4 no b/\True)/\True)/\(0=(R5 no b).sl.length/\Z6 0 (λ(x:Nat)=>[]) (Z5 (R5 no b).sl))/\True)/\((!(!(V1 x_2.1 x_2.2).fl&&(V1 x_2.1 x_2.2).l.isEmpty)||(↑((S4 (X6 x) (4:Int)).getD 0 (0:UInt8)).toNat:Int) !=(112:Int)||IntKind.i64.wrap (↑((S4 (X6 x) (4:Int)).getD 1 (0:UInt8)).toNat:Int) !=no|| !B3 x_3)=false->((((↑(be x_1):Int)=(R5 no b).lsn/\(0=0/\(V1 x_2.1 x_2.2).out.length=(R5 no b).sl.length)/\True)/\(0:Int)=N4 no b/\True)/\True)/\(Y5 Z5 (V1 x_2.1 x_2.2).out (R5 no b).sl)/\True)))) ⟨λh=> ?_,λ_=>⟨b,⟨Z9,Nat.le_trans hb (by decide)⟩,λh=> ?_,λh=>⟨⟨by omega,by omega⟩,⟨by omega,by rw[hl];omega⟩,(S4 (X6 b) 4).drop 2,⟨⟨rfl,trivial⟩,by unfold pB;rw[List.length_drop,hl];omega⟩,
  (O3 (X6 b) 4,false||big (X6 b) 4),(by repeat' first|exact trivial|exact rfl|exact Z2 _ _|exact S5 _|exact U5|exact U0 _|exact V2 _|exact S7 _|refine And.intro ?_ ?_),λ_=>⟨by omega,by rw[hl];omega⟩,λ_=>⟨by omega,by rw[hl];omega⟩,rpQ (X6 b),λ_=>⟨U0 _,⟨⟨rfl,X8⟩,trivial⟩,?_⟩,λg=> ?_,λg=> ?_⟩⟩⟩,rfl,G2 _⟩
 ·have:=F3 h;omega
 ·have hu:T4 b=false:=by simpa using h
  have e2:(K0 no b).2=false:=by unfold K0;rw[hu];rfl
  have e1:R5 no b=⟨0,[]⟩:=by unfold R5;rw[e2];rfl
  have e3:N4 no b=8:=by unfold N4;rw[hu];rfl
  rw[e1,e3];exact(by repeat' first|exact trivial|exact rfl|exact Z2 _ _|exact S5 _|exact U5|exact U0 _|exact V2 _|exact S7 _|refine And.intro ?_ ?_)
 ·show(V1 (O3 (X6 b) 4) (false||big (X6 b) 4)).out.length<1000000000000;unfold V1;rw[wH];have:=z4 (O3 (X6 b) 4);omega
 ·have hu:T4 b=true:=by simpa using h
  have hq:=(a4N no b hu).1;have e2:(K0 no b).2=false:=by
   have g:(rH no (X6 b)|| !B3 (rpQ (X6 b)))=true:=g;rw[g] at hq;exact(wD _).mp hq.symm
  have e1:R5 no b=⟨0,[]⟩:=by unfold R5;rw[e2];rfl
  have e3:N4 no b=3:=by unfold N4;rw[hu,e2];rfl
  rw[e1,e3];exact(by repeat' first|exact trivial|exact rfl|exact Z2 _ _|exact S5 _|exact U5|exact U0 _|exact V2 _|exact S7 _|refine And.intro ?_ ?_)
 ·have hu:T4 b=true:=by simpa using h
  have hq:=a4N no b hu;have e2:(K0 no b).2=true:=by
   have g:(rH no (X6 b)|| !B3 (rpQ (X6 b)))=false:=g;rw[g] at hq;exact(xO _).mp hq.1.symm
  have e1:R5 no b=rpQ (X6 b):=by unfold R5;rw[e2,hq.2 e2];rfl
  have e3:N4 no b=0:=by unfold N4;rw[hu,e2];rfl
  rw[e1,e3];exact(by repeat' first|exact trivial|exact rfl|exact Z2 _ _|exact S5 _|exact U5|exact U0 _|exact V2 _|exact S7 _|refine And.intro ?_ ?_)
def DkB(x:Dsk×Nat):Prop:=1+x.2<x.1.sec.length/\x.1.sec.length<=1048576/\x.1.cache.length<=1048576/\(S9 x.1 (1+x.2)).length<=1000
noncomputable def b2n:Con:=.rmk ⟨Dsk×Nat,λx=>[.bref x.1.ts,.int .i64 x.2],λ_=>[],λx=>.tup [.agg ((U1 x.1 x.2).1.tm 0),.bool (U1 x.1 x.2).2],λx=>[G0 (U1 x.1 x.2).1.sl],DkB⟩
theorem iH:GK 153 b2n:=gk Tryz.func153<|by
 rintro⟨d,no⟩ ⟨h1,h2,h3,h4⟩;dsimp only at h1 h2 h3 h4;refine⟨C4 (gC mM (gC a02 (gC fK gN))) Tryz.func153 Z0 [[.arr 1]] (α:=X4 .i64 ((1:Int)+(no:Int))/\∃(x:tA.ι),(((k4 d x.1)/\(1:Int)+(no:Int)=(x.2:Int)/\True)/\AtB x)/\((S9 x.1 x.2==[])=true->∃(x:Unit),(True/\True)/\((((0:Int)=(U1 d no).1.lsn/\(0=0/\4=(U1 d no).1.sl.length)/\True)/\true=(U1 d no).2/\True)/\True)/\(4=(U1 d no).1.sl.length/\Z6 4 (Z5 [[],[],[],[]]) (Z5 (U1 d no).1.sl))/\True)/\((S9 x.1 x.2==[])=false->Lt (S9 x.1 x.2).length 140737488355329/\∃(x_1:(Int×List UInt8)),(((no:Int)=x_1.1/\S9 x.1 x.2=x_1.2/\True)/\RdB x_1.2)/\((((R5 x_1.1 x_1.2).lsn=(U1 d no).1.lsn/\(0=0/\(R5 x_1.1 x_1.2).sl.length=(U1 d no).1.sl.length)/\True)/\(N4 x_1.1 x_1.2==(0:Int))=(U1 d no).2/\True)/\True)/\(Y5 Z5 (R5 x_1.1 x_1.2).sl (U1 d no).1.sl)/\True)) ⟨Z4 (by omega),(d,1+no),⟨⟨xN _,by simp only;omega,trivial⟩,h1,by simp only;omega⟩,λh=>⟨(),v5,?_⟩,λh=>⟨by unfold Lt;simp only;omega,((no:Int),S9 d (1+no)),⟨⟨rfl,rfl,trivial⟩,h4⟩,?_⟩⟩,rfl,G2 _⟩
 ·have h:S9 d (1+no)=[]:=by simpa using h
  have e:U1 d no=(⟨0,[[],[],[],[]]⟩,true):=by unfold U1;rw[if_pos h]
  rw[e];exact(by repeat' first|exact trivial|exact rfl|exact Z2 _ _|exact S5 _|exact U5|exact U0 _|exact V2 _|exact S7 _|refine And.intro ?_ ?_)
 ·have h:S9 d (1+no)≠[]:=by simpa using h
  have e:U1 d no=(R5 no (S9 d (1+no)),(K0 no (S9 d (1+no))).2):=by unfold U1;rw[if_neg h]
  rw[e];exact⟨⟨⟨(by repeat' first|exact trivial|exact rfl|exact Z2 _ _|exact S5 _|exact U5|exact U0 _|exact V2 _|exact S7 _|refine And.intro ?_ ?_),iL _ _,trivial⟩,trivial⟩,⟨rfl,Z2 _ _⟩,trivial⟩
end Go.Proofs.YtokaojbaacnngaaGreat

namespace Go.Proofs.YtokaojbaacnngaaGreat
set_option maxRecDepth 100000
open Go.SS

structure SInv(s:Sto):Prop where
 sm:mP s
 c:s.d.cache.length<=500
 pd:eI s.d
 n69:s.d.sec.length=69
 su:0<=s.sure/\s.sure<=s.log.length
 l60:s.log.length<=60
 rc:m6 s.log=true
 fr3:s.fr.length<=3
 frp:∀i,i<s.fr.length->0<=(s.fr.getD i default).no/\(s.fr.getD i default).no<=7/\cN (s.fr.getD i default).pg/\(s.fr.getD i default).pg.lsn<=s.log.length
 hd:0<=s.hand/\s.hand<=2
 pg:∀no,no<8->(R3 s.d no).2=true/\(S9 s.d (1+no)).length<=1000
theorem SInv.flu{s:Sto}(h:SInv s){lsn:Int}(hl:lsn<=s.log.length):sL s lsn:=
 ⟨h.sm.1,by have:=h.c;omega,h.pd,h.n69,h.su.1,h.su.2,h.l60,hl,λi hi=>by
  obtain⟨a,b⟩:=B2.1 h.rc i hi;exact⟨b,b3d a⟩⟩
theorem b4K{s:Sto}(h:L3 s=true)(hm:mP s):SInv s:=by
 obtain⟨⟨h1,h2,h3⟩,_,h4,h5,h6⟩:=(K6 s).1 h;obtain⟨c1,c2,_,_,c5⟩:=(w6 s).1 h1;have hf:=b5P (lsn:=0) h (by omega) hm
 have h3:=uA h3;have h6:=uA h6;unfold i5 at h5;simp only[J6,wD,K2,o9] at h5;refine⟨hm,c1.2.2.1,hf.2.2.1,c2,h3,c5,h2,by omega,λi hi=> ?_,h6,λno hn=>⟨?_,?_⟩⟩
 ·have hb:=h5.1 i hi;unfold b9 at hb;simp only[uL,xO,tW] at hb;obtain⟨⟨⟨⟨⟨b1,_⟩,b3⟩,b4⟩,_⟩,_⟩:=hb;have b1:=uA b1;have b3:cN (s.fr.getD i default).pg:=F3 b3;exact⟨b1.1,b1.2,b3,by omega⟩
 ·have hb:=h4 no hn;unfold m7 at hb;simp only[uL,xO] at hb;exact hb.1
 ·have:=rL c1 (at_:=1+no) (by omega)
  omega
def G1(d:Dsk):Dsk×Bool:=if 500<=d.cache.length then V5 d else(d,true)
def clF(f:Frm):Frm:=⟨f.no,f.pg,false,0⟩
def wrF(a:Sto)(k:Nat):Sto:=⟨wrD a.d (1+(a.fr.getD k default).no) (T1 (a.fr.getD k default).no (a.fr.getD k default).pg),a.ep,a.log,a.sure,a.fr.set k (clF (a.fr.getD k default)),a.hand⟩
def Y0(s:Sto)(k:Nat):Sto×Bool:=if(s.fr.getD k default).dirty=true then
  if(X5 s (s.fr.getD k default).pg.lsn).2=true then
   if(G1 (X5 s (s.fr.getD k default).pg.lsn).1.d).2=true then(wrF ((X5 s (s.fr.getD k default).pg.lsn).1.sd (G1 (X5 s (s.fr.getD k default).pg.lsn).1.d).1) k,true)
   else((X5 s (s.fr.getD k default).pg.lsn).1.sd (G1 (X5 s (s.fr.getD k default).pg.lsn).1.d).1,false)
  else((X5 s (s.fr.getD k default).pg.lsn).1,false)
 else(s,true)
def b0c:Con:=.reff ⟨Sto×Nat×Nat,λx=>[.ref 0 0 0,.int .i64 x.2.1],λx=>x.1.bx x.2.2,λx=>.bool (Y0 x.1 x.2.1).2,λx=>(Y0 x.1 x.2.1).1.bxY x.2.2,λx=>SInv x.1/\x.2.1<x.1.fr.length⟩
theorem gO(s:Sto)(l:Int):(X5 s l).1.fr=s.fr:=by
 by_cases h:l<=s.sure
 ·rw[zY h]
 ·rw[g7 h]
theorem j4(d:Dsk):(V5 d).1.cache=[]:=by
 unfold V5;split<;>rfl
theorem a92{d:Dsk}(h:d.cache=[]):eI d:=λi hi=>by rw[h] at hi;exact absurd hi (F2 _)
theorem dU{s:Sto}{l:Int}(h:eI s.d):eI (X5 s l).1.d:=by
 by_cases hl:l<=s.sure
 ·rw[zY hl];exact h
 ·rw[g7 hl];exact a92 (j4 _)
theorem a4T{s:Sto}{l:Int}(h:s.d.cache.length<=500):(X5 s l).1.d.cache.length<=500:=by
 by_cases hl:l<=s.sure
 ·rw[zY hl];exact h
 ·rw[g7 hl];dsimp only;rw[j4];exact S7 _
theorem yO{s:Sto}{k:Nat}(h:(s.fr.getD k default).dirty=false):Y0 s k=(s,true):=by
 unfold Y0;rw[if_neg (by rw[h];simp)]
theorem wA{s:Sto}{k:Nat}(h:(s.fr.getD k default).dirty=true)(hu:(X5 s (s.fr.getD k default).pg.lsn).2=false):Y0 s k=((X5 s (s.fr.getD k default).pg.lsn).1,false):=by
 unfold Y0;rw[if_pos h,if_neg (by rw[hu];simp)]
theorem rM{s:Sto}{k:Nat}(h:(s.fr.getD k default).dirty=true)(hu:(X5 s (s.fr.getD k default).pg.lsn).2=true)(hb:(G1 (X5 s (s.fr.getD k default).pg.lsn).1.d).2=false):Y0 s k=((X5 s (s.fr.getD k default).pg.lsn).1.sd (G1 (X5 s (s.fr.getD k default).pg.lsn).1.d).1,false):=by
 unfold Y0;rw[if_pos h,if_pos hu,if_neg (by rw[hb];simp)]
theorem nX{s:Sto}{k:Nat}(h:(s.fr.getD k default).dirty=true)(hu:(X5 s (s.fr.getD k default).pg.lsn).2=true)(hb:(G1 (X5 s (s.fr.getD k default).pg.lsn).1.d).2=true):Y0 s k=(wrF ((X5 s (s.fr.getD k default).pg.lsn).1.sd (G1 (X5 s (s.fr.getD k default).pg.lsn).1.d).1) k,true):=by
 unfold Y0;rw[if_pos h,if_pos hu,if_pos hb]
theorem xG{d:Dsk}(h:500<=d.cache.length):G1 d=V5 d:=if_pos h
theorem nT{d:Dsk}(h:¬500<=d.cache.length):G1 d=(d,true):=if_neg h
theorem b1T{L:List Frm}{k:Nat}(hk:k<L.length):U9 L.length (setRow (setRow (Y8 L) k 3 [T.bool false]) k 4 [T.int IntKind.i64 0]) (Y8 (L.set k (clF (L.getD k default)))):=xC λi _=>by
 have hl:∀j,(Y8 L j).length=5:=λ_=>rfl
 by_cases h:i=k
 ·subst h;have e:(L.set i (clF (L.getD i default))).getD i default=clF (L.getD i default):=by rw[L5,j_k hk];rfl
  unfold setRow;rw[pD rfl];unfold Y8;rw[e];rfl
 ·have e:(L.set k (clF (L.getD k default))).getD i default=L.getD i default:=by rw[L5,j_l (Ne.symm h),←L5]
  rw[P4 (by rw[U7 (by rw[hl];decide),hl];decide) h,P4 (by rw[hl];decide) h]
  unfold Y8;rw[e]
theorem iP:GK 273 b0c:=gk Tryz.func273<|by
 rintro⟨s,k,v⟩ ⟨h,hk⟩;dsimp only at h hk;have hfp:=h.frp k hk;have hf:=h.flu hfp.2.2.2;have hfr:=gO s (s.fr.getD k default).pg.lsn;have hS:=lY hf h.sm;have hP:=dU (l:=(s.fr.getD k default).pg.lsn) h.pd;have hc5:=a4T (l:=(s.fr.getD k default).pg.lsn) h.c;have o1:= @wA s k;have o2:= @rM s k;have o3:= @nX s k;refine C4 (gC b0G (gC a40 (gC gL (gC bO gN)))) Tryz.func273 Z0 [[.box 0,.arr 1,.arr 2,.arr 3,.arr 4,.arr 5,.arr 11,.arr 9],[.box 0,.arr 1,.arr 2,.arr 3,.arr 4,.arr 5,.arr 9,.arr 7],[.box 0,.arr 1,.arr 2,.arr 3,.arr 4,.arr 5,.arr 8,.arr 9],[.box 0,.arr 1,.arr 2,.arr 3,.arr 4,.arr 5,.arr 6,.arr 7],[.box 0,.arr 1,.arr 2,.arr 3,.arr 4,.arr 5,.arr 2,.arr 3]] (α:=W4 (k:Int) s.fr.length/\Lt (0+(k:Int).toNat) s.fr.length/\((!(s.fr.getD (0+(k:Int).toNat) default).dirty)=true->(true=(Y0 s k).2/\True)/\(1=1/\1=1/\pV s (Y0 s k).1)/\(Y5 Z5 s.d.sec (Y0 s k).1.d.sec)/\True/\True/\(Y5 Y7 s.log (Y0 s k).1.log)/\(v=v/\s.fr.length=(Y0 s k).1.fr.length/\U9 s.fr.length (Y8 s.fr) (Y8 (Y0 s k).1.fr))/\(Y5 Z3 s.d.cache (Y0 s k).1.d.cache)/\(Y5 Y9 s.d.keep (Y0 s k).1.d.keep)/\True)/\((!(s.fr.getD (0+(k:Int).toNat) default).dirty)=false->Lt (0+(k:Int).toNat) s.fr.length/\∃(x:(Sto×Int×Nat)),(((0=0/\0=0)/\(s.fr.getD (0+(k:Int).toNat) default).pg.lsn=x.2.1/\True)/\((1=1/\1=1/\pV s x.1)/\EqH (v) (x.2.2) s x.1)/\sL x.1 x.2.1)/\∃(x_1:(Sto×Nat)),((!(X5 x.1 x.2.1).2)=false->decide ((↑(X5 x.1 x.2.1).1.d.cache.length:Int)≥(500:Int))=true->((0=0/\0=0)/\True)/\((1=1/\1=1/\pV (X5 x.1 x.2.1).1 x_1.1)/\EqH (x.2.2) (x_1.2) (X5 x.1 x.2.1).1 x_1.1)/\sQ x_1.1.d/\eI x_1.1.d)/\((!(X5 x.1 x.2.1).2)=false->decide ((↑(X5 x.1 x.2.1).1.d.cache.length:Int)≥(500:Int))=true->((!(X5 x.1 x.2.1).2||decide ((↑(X5 x.1 x.2.1).1.d.cache.length:Int)≥(500:Int))&& !(V5 x_1.1.d).2)=true->(false=(Y0 s k).2/\True)/\(1=1/\1=1/\(0=0/\(V5 x_1.1.d).1.sec.length=(Y0 s k).1.d.sec.length)/\(0=0/\(V5 x_1.1.d).1.cache.length=(Y0 s k).1.d.cache.length)/\(V5 x_1.1.d).1.armed=(Y0 s k).1.d.armed/\(0=0/\(V5 x_1.1.d).1.keep.length=(Y0 s k).1.d.keep.length)/\x_1.1.ep=(Y0 s k).1.ep/\(0=0/\x_1.1.log.length=(Y0 s k).1.log.length)/\x_1.1.sure=(Y0 s k).1.sure/\(0=0/\x_1.1.fr.length=(Y0 s k).1.fr.length)/\x_1.1.hand=(Y0 s k).1.hand/\True)/\(Y5 Z5 (V5 x_1.1.d).1.sec (Y0 s k).1.d.sec)/\True/\True/\(Y5 Y7 x_1.1.log (Y0 s k).1.log)/\(x_1.2=v/\x_1.1.fr.length=(Y0 s k).1.fr.length/\U9 x_1.1.fr.length (Y8 x_1.1.fr) (Y8 (Y0 s k).1.fr))/\(Y5 Z3 (V5 x_1.1.d).1.cache (Y0 s k).1.d.cache)/\(Y5 Y9 (V5 x_1.1.d).1.keep (Y0 s k).1.d.keep)/\True)/\((!(X5 x.1 x.2.1).2||decide ((↑(X5 x.1 x.2.1).1.d.cache.length:Int)≥(500:Int))&& !(V5 x_1.1.d).2)=false->Lt (0+(k:Int).toNat) x_1.1.fr.length/\X4 .i64 ((1:Int)+(x_1.1.fr.getD (0+(k:Int).toNat) default).no)/\Lt (0+(k:Int).toNat) x_1.1.fr.length/\Lt (0+(k:Int).toNat) x_1.1.fr.length/\∃(x:(Int×Pg)),(PoB x_1.2 x_1.2 (0+(k:Int).toNat) x_1.1.fr.length (x_1.1.fr.getD (0+(k:Int).toNat) default).pg.sl.length (x_1.1.fr.getD (0+(k:Int).toNat) default).pg.sl.length/\((x_1.1.fr.getD (0+(k:Int).toNat) default).no=x.1/\((x_1.1.fr.getD (0+(k:Int).toNat) default).pg.lsn=x.2.lsn/\(Y5 Z5 (x_1.1.fr.getD (0+(k:Int).toNat) default).pg.sl x.2.sl)/\True)/\True)/\cN x.2)/\Le (0+(T1 x.1 x.2).length) (T1 x.1 x.2).length/\∃(x_2:(Sto×Int×List UInt8×Nat)),(((0=0/\0=0)/\(1:Int)+(x_1.1.fr.getD (0+(k:Int).toNat) default).no=x_2.2.1/\List.take (T1 x.1 x.2).length (List.drop 0 (T1 x.1 x.2))=x_2.2.2.1/\True)/\((1=1/\1=1/\(0=0/\(V5 x_1.1.d).1.sec.length=x_2.1.d.sec.length)/\(0=0/\(V5 x_1.1.d).1.cache.length=x_2.1.d.cache.length)/\(V5 x_1.1.d).1.armed=x_2.1.d.armed/\(0=0/\(V5 x_1.1.d).1.keep.length=x_2.1.d.keep.length)/\x_1.1.ep=x_2.1.ep/\(0=0/\x_1.1.log.length=x_2.1.log.length)/\x_1.1.sure=x_2.1.sure/\(0=0/\x_1.1.fr.length=x_2.1.fr.length)/\x_1.1.hand=x_2.1.hand/\True)/\(Y5 Z5 (V5 x_1.1.d).1.sec x_2.1.d.sec)/\(Y5 Z3 (V5 x_1.1.d).1.cache x_2.1.d.cache)/\(Y5 Y9 (V5 x_1.1.d).1.keep x_2.1.d.keep)/\(Y5 Y7 x_1.1.log x_2.1.log)/\(x_1.2=x_2.2.2.2/\x_1.1.fr.length=x_2.1.fr.length/\U9 x_1.1.fr.length (Y8 x_1.1.fr) (Y8 x_2.1.fr))/\True)/\x_2.1.d.cache.length<=1048576)/\rD (0+(k:Int).toNat) x_2.1.fr.length [T.bool (x_2.1.fr.getD (0+(k:Int).toNat) default).dirty]/\rD (0+(k:Int).toNat) x_2.1.fr.length [T.int .i64 (x_2.1.fr.getD (0+(k:Int).toNat) default).first]/\(true=(Y0 s k).2/\True)/\(1=1/\1=1/\(0=0/\x_2.1.d.sec.length=(Y0 s k).1.d.sec.length)/\(0=0/\(x_2.1.d.cache++[Pend.mk x_2.2.1 x_2.2.2.1]).length=(Y0 s k).1.d.cache.length)/\x_2.1.d.armed=(Y0 s k).1.d.armed/\(0=0/\x_2.1.d.keep.length=(Y0 s k).1.d.keep.length)/\x_2.1.ep=(Y0 s k).1.ep/\(0=0/\x_2.1.log.length=(Y0 s k).1.log.length)/\x_2.1.sure=(Y0 s k).1.sure/\(0=0/\x_2.1.fr.length=(Y0 s k).1.fr.length)/\x_2.1.hand=(Y0 s k).1.hand/\True)/\(Y5 Z5 x_2.1.d.sec (Y0 s k).1.d.sec)/\True/\True/\(Y5 Y7 x_2.1.log (Y0 s k).1.log)/\(x_2.2.2.2=v/\x_2.1.fr.length=(Y0 s k).1.fr.length/\U9 x_2.1.fr.length (setRow (setRow (Y8 x_2.1.fr) (0+(k:Int).toNat) 3 [T.bool false]) (0+(k:Int).toNat) 4 [T.int .i64 (0:Int)]) (Y8 (Y0 s k).1.fr))/\(Y5 Z3 (x_2.1.d.cache++[Pend.mk x_2.2.1 x_2.2.2.1]) (Y0 s k).1.d.cache)/\(Y5 Y9 x_2.1.d.keep (Y0 s k).1.d.keep)/\True))/\(((!(X5 x.1 x.2.1).2)=false->decide ((↑(X5 x.1 x.2.1).1.d.cache.length:Int)≥(500:Int))=true->False)->((!(X5 x.1 x.2.1).2||decide ((↑(X5 x.1 x.2.1).1.d.cache.length:Int)≥(500:Int))&& !(V5 x_1.1.d).2)=true->(false=(Y0 s k).2/\True)/\(1=1/\1=1/\pV (X5 x.1 x.2.1).1 (Y0 s k).1)/\(Y5 Z5 (X5 x.1 x.2.1).1.d.sec (Y0 s k).1.d.sec)/\True/\True/\(Y5 Y7 (X5 x.1 x.2.1).1.log (Y0 s k).1.log)/\(x.2.2=v/\(X5 x.1 x.2.1).1.fr.length=(Y0 s k).1.fr.length/\U9 (X5 x.1 x.2.1).1.fr.length (Y8 (X5 x.1 x.2.1).1.fr) (Y8 (Y0 s k).1.fr))/\(Y5 Z3 (X5 x.1 x.2.1).1.d.cache (Y0 s k).1.d.cache)/\(Y5 Y9 (X5 x.1 x.2.1).1.d.keep (Y0 s k).1.d.keep)/\True)/\((!(X5 x.1 x.2.1).2||decide ((↑(X5 x.1 x.2.1).1.d.cache.length:Int)≥(500:Int))&& !(V5 x_1.1.d).2)=false->Lt (0+(k:Int).toNat) (X5 x.1 x.2.1).1.fr.length/\X4 .i64 ((1:Int)+((X5 x.1 x.2.1).1.fr.getD (0+(k:Int).toNat) default).no)/\Lt (0+(k:Int).toNat) (X5 x.1 x.2.1).1.fr.length/\Lt (0+(k:Int).toNat) (X5 x.1 x.2.1).1.fr.length/\∃(x_2:(Int×Pg)),(PoB x.2.2 x.2.2 (0+(k:Int).toNat) (X5 x.1 x.2.1).1.fr.length ((X5 x.1 x.2.1).1.fr.getD (0+(k:Int).toNat) default).pg.sl.length ((X5 x.1 x.2.1).1.fr.getD (0+(k:Int).toNat) default).pg.sl.length/\(((X5 x.1 x.2.1).1.fr.getD (0+(k:Int).toNat) default).no=x_2.1/\(((X5 x.1 x.2.1).1.fr.getD (0+(k:Int).toNat) default).pg.lsn=x_2.2.lsn/\(Y5 Z5 ((X5 x.1 x.2.1).1.fr.getD (0+(k:Int).toNat) default).pg.sl x_2.2.sl)/\True)/\True)/\cN x_2.2)/\Le (0+(T1 x_2.1 x_2.2).length) (T1 x_2.1 x_2.2).length/\∃(x_3:(Sto×Int×List UInt8×Nat)),(((0=0/\0=0)/\(1:Int)+((X5 x.1 x.2.1).1.fr.getD (0+(k:Int).toNat) default).no=x_3.2.1/\List.take (T1 x_2.1 x_2.2).length (List.drop 0 (T1 x_2.1 x_2.2))=x_3.2.2.1/\True)/\((1=1/\1=1/\pV (X5 x.1 x.2.1).1 x_3.1)/\EqH (x.2.2) (x_3.2.2.2) (X5 x.1 x.2.1).1 x_3.1)/\x_3.1.d.cache.length<=1048576)/\rD (0+(k:Int).toNat) x_3.1.fr.length [T.bool (x_3.1.fr.getD (0+(k:Int).toNat) default).dirty]/\rD (0+(k:Int).toNat) x_3.1.fr.length [T.int .i64 (x_3.1.fr.getD (0+(k:Int).toNat) default).first]/\(true=(Y0 s k).2/\True)/\(1=1/\1=1/\(0=0/\x_3.1.d.sec.length=(Y0 s k).1.d.sec.length)/\(0=0/\(x_3.1.d.cache++[Pend.mk x_3.2.1 x_3.2.2.1]).length=(Y0 s k).1.d.cache.length)/\x_3.1.d.armed=(Y0 s k).1.d.armed/\(0=0/\x_3.1.d.keep.length=(Y0 s k).1.d.keep.length)/\x_3.1.ep=(Y0 s k).1.ep/\(0=0/\x_3.1.log.length=(Y0 s k).1.log.length)/\x_3.1.sure=(Y0 s k).1.sure/\(0=0/\x_3.1.fr.length=(Y0 s k).1.fr.length)/\x_3.1.hand=(Y0 s k).1.hand/\True)/\(Y5 Z5 x_3.1.d.sec (Y0 s k).1.d.sec)/\True/\True/\(Y5 Y7 x_3.1.log (Y0 s k).1.log)/\(x_3.2.2.2=v/\x_3.1.fr.length=(Y0 s k).1.fr.length/\U9 x_3.1.fr.length (setRow (setRow (Y8 x_3.1.fr) (0+(k:Int).toNat) 3 [T.bool false]) (0+(k:Int).toNat) 4 [T.int .i64 (0:Int)]) (Y8 (Y0 s k).1.fr))/\(Y5 Z3 (x_3.1.d.cache++[Pend.mk x_3.2.1 x_3.2.2.1]) (Y0 s k).1.d.cache)/\(Y5 Y9 x_3.1.d.keep (Y0 s k).1.d.keep)/\True)))) ?_
 rw[u9,show 0+k=k from C3 k]
 refine⟨Y2 hk,hk,λhd=> ?_,λhd=>⟨hk,(s,(s.fr.getD k default).pg.lsn,v),⟨⟨Z7,Z9⟩,⟨⟨rfl,rfl,Z7,Z7,rfl,Z7,rfl,Z7,rfl,Z7,Z9⟩,Z8,Z8,Z8,Z8,S2,trivial⟩,hf⟩,((X5 s (s.fr.getD k default).pg.lsn).1,v),λ_ _=>⟨(by repeat' first|exact trivial|exact rfl|exact Z2 _ _|exact S5 _|exact U5|exact U0 _|exact V2 _|exact S7 _|refine And.intro ?_ ?_),⟨⟨rfl,rfl,⟨rfl,rfl⟩,⟨rfl,rfl⟩,rfl,⟨rfl,rfl⟩,rfl,⟨rfl,rfl⟩,rfl,⟨rfl,rfl⟩,rfl,trivial⟩,⟨rfl,Z2 _ _⟩,⟨rfl,Z2 _ _⟩,⟨rfl,Z2 _ _⟩,⟨rfl,Z2 _ _⟩,⟨rfl,rfl,S5 _⟩,trivial⟩,hS.1,hP⟩,λhu hc=>⟨λhb=> ?_,λhb=> ?_⟩,λhn=>⟨λhb=> ?_,λhb=> ?_⟩⟩⟩
 ·rw[yO (by simpa using hd)]
  exact⟨Z9,⟨rfl,rfl,Z7,Z7,rfl,Z7,rfl,Z7,rfl,Z7,Z9⟩,Z8,trivial,trivial,Z8,S2,Z8,X8⟩
 all_goals
  have hd:(s.fr.getD k default).dirty=true:=by simpa using hd
  replace o1:=o1 hd;replace o2:=o2 hd;replace o3:=o3 hd;dsimp only at*;generalize X5 s (s.fr.getD k default).pg.lsn=A at*;obtain⟨a,up⟩:=A;dsimp only at*;rw[←hfr] at hk hfp
 ·have hu:up=true:=(xO _).mp hu;subst hu;have hc:500<=a.d.cache.length:=by have:=F3 hc;omega
  have hb:(V5 a.d).2=false:=by simp at hb;exact hb.2
  rw[o2 rfl (by rw[xG hc];exact hb),xG hc]
  exact⟨Z9,⟨rfl,rfl,Z7,Z7,rfl,Z7,rfl,Z7,rfl,Z7,Z9⟩,Z8,trivial,trivial,Z8,S2,Z8,X8⟩
 ·have hu:up=true:=(xO _).mp hu;subst hu;have hb:(V5 a.d).2=true:=by rw[hc] at hb;simpa using hb
  have hc:500<=a.d.cache.length:=by have:=F3 hc;omega
  rw[o3 rfl (by rw[xG hc];exact hb),xG hc]
  exact⟨hk,Z4 (by omega),hk,hk,((a.fr.getD k default).no,(a.fr.getD k default).pg),⟨⟨rfl,hk,V2 _⟩,⟨rfl,⟨rfl,X8⟩,trivial⟩,hfp.2.2.1⟩,U0 _,(a.sd (V5 a.d).1,1+(a.fr.getD k default).no,T1 (a.fr.getD k default).no (a.fr.getD k default).pg,v),⟨⟨Z7,rfl,by rw[List.drop_zero,kV],trivial⟩,⟨⟨rfl,rfl,⟨rfl,rfl⟩,⟨rfl,rfl⟩,rfl,⟨rfl,rfl⟩,rfl,⟨rfl,rfl⟩,rfl,⟨rfl,rfl⟩,rfl,trivial⟩,⟨rfl,Z2 _ _⟩,⟨rfl,Z2 _ _⟩,⟨rfl,Z2 _ _⟩,⟨rfl,Z2 _ _⟩,⟨rfl,rfl,S5 _⟩,trivial⟩,by show(V5 a.d).1.cache.length<=_;rw[j4];exact S7 _⟩,⟨hk,rfl⟩,⟨hk,rfl⟩,Z9,⟨rfl,rfl,Z7,Z7,rfl,Z7,rfl,Z7,rfl,⟨rfl,l9.symm⟩,Z9⟩,Z8,trivial,trivial,Z8,⟨rfl,l9.symm,b1T hk⟩,Z8,X8⟩
 ·cases up with
  |false=>
   rw[o1 rfl];exact⟨Z9,⟨rfl,rfl,Z7,Z7,rfl,Z7,rfl,Z7,rfl,Z7,Z9⟩,Z8,trivial,trivial,Z8,S2,Z8,X8⟩
  |true=>
   have:decide ((a.d.cache.length:Int)≥500)=false:=by
    cases hd:decide ((a.d.cache.length:Int)≥500) with
    |false=>rfl
    |true=>exact(hn rfl hd).elim
   rw[this] at hb;simp at hb
 ·have hu:up=true:=by cases up<;>simp at hb ⊢
  subst hu;have hc:¬500<=a.d.cache.length:=λhc=>hn rfl (iZ (by omega))
  rw[o3 rfl (by rw[nT hc]),nT hc]
  exact⟨hk,Z4 (by omega),hk,hk,((a.fr.getD k default).no,(a.fr.getD k default).pg),⟨⟨rfl,hk,V2 _⟩,⟨rfl,⟨rfl,X8⟩,trivial⟩,hfp.2.2.1⟩,U0 _,(a,1+(a.fr.getD k default).no,T1 (a.fr.getD k default).no (a.fr.getD k default).pg,v),⟨⟨Z7,rfl,by rw[List.drop_zero,kV],trivial⟩,⟨⟨rfl,rfl,⟨rfl,rfl⟩,⟨rfl,rfl⟩,rfl,⟨rfl,rfl⟩,rfl,⟨rfl,rfl⟩,rfl,⟨rfl,rfl⟩,rfl,trivial⟩,⟨rfl,Z2 _ _⟩,⟨rfl,Z2 _ _⟩,⟨rfl,Z2 _ _⟩,⟨rfl,Z2 _ _⟩,⟨rfl,rfl,S5 _⟩,trivial⟩,by show a.d.cache.length<=_;omega⟩,⟨hk,rfl⟩,⟨hk,rfl⟩,⟨rfl,trivial⟩,⟨rfl,rfl,⟨rfl,rfl⟩,⟨rfl,rfl⟩,rfl,⟨rfl,rfl⟩,rfl,⟨rfl,rfl⟩,rfl,⟨rfl,l9.symm⟩,rfl,trivial⟩,⟨rfl,Z2 _ _⟩,trivial,trivial,⟨rfl,Z2 _ _⟩,⟨rfl,l9.symm,b1T hk⟩,⟨rfl,Z2 _ _⟩,⟨rfl,Z2 _ _⟩,trivial⟩
end Go.Proofs.YtokaojbaacnngaaGreat

namespace Go.Proofs.YtokaojbaacnngaaGreat
set_option maxRecDepth 100000
open Go.SS

theorem lO(L D:List Pend)(a:Int):∀i,i<=L.length->K7 (L++D) a i=K7 L a i
 |0,_=>rfl
 |i+1,h=>by
  unfold K7;rw[show(L++D).getD i default=L.getD i default by rw[L5,oX (by omega),←L5],lO L D a i (by omega)]
theorem a3q(d:Dsk)(a:Int)(t:List UInt8)(n:Nat):S9 (wrD d a t) n=if a=n then t else S9 d n:=by
 have e:(d.cache++[(⟨a,t⟩:Pend)]).getD d.cache.length default=⟨a,t⟩:=by rw[L5,iA (V2 _)];simp
 have e2:K7 (d.cache++[(⟨a,t⟩:Pend)]) n (d.cache.length+1)=if a=n then some t else K7 d.cache n d.cache.length:=by
  conv=>lhs;unfold K7
  rw[e,lO _ _ _ _ (V2 _)]
 have e3:S9 (wrD d a t) n=(K7 (d.cache++[(⟨a,t⟩:Pend)]) n (d.cache.length+1)).getD (d.sec.getD n []):=by
  unfold S9 wrD;dsimp only;rw[show(d.cache++[(⟨a,t⟩:Pend)]).length=d.cache.length+1 by simp]
 rw[e3,e2];split<;>rfl
theorem b1D{s:Sto}{l:Int}(h:sL s l){n:Nat}(hn:n<9):∀i,i<=O2 s l->S9 (lI s i) n=S9 s.d n
 |0,_=>by
  have:lI s 0=s.d:=by unfold lI;simp
  rw[this]
 |i+1,hi=>by
  have e:lI s (i+1)=wrD (lI s i) (sO s i).at_ (sO s i).d:=by
   unfold lI wrD;dsimp only;rw[←yB]
  obtain⟨e2,_,_⟩:=lJ h (i:=i) (by omega)
  have h0:=h.2.2.2.2.1;rw[e,a3q,if_neg (by rw[e2];omega),b1D h hn i (by omega)]
theorem a5X{sec:List (List UInt8)}{C:List Pend}{n:Nat}(hn:n<sec.length)(hp:∀i,i<C.length->0<=(C.getD i default).at_):∀i,i<=C.length->(s6 sec C (λ_=>true) i).getD n []=(K7 C n i).getD (sec.getD n [])
 |0,_=>rfl
 |i+1,hi=>by
  have ih:=a5X hn hp i (by omega)
  have h0:=hp i (by omega)
  rw[b6r rfl];unfold K7;by_cases h:(C.getD i default).at_=n
  ·rw[if_pos h,show(C.getD i default).at_.toNat=n by omega,L5,j_k (by rw[H8];exact hn)]
   rfl
  ·rw[if_neg h,L5,j_l (by omega),←L5,ih]
theorem b8U{d:Dsk}(h:(V5 d).2=true):V5 d=(⟨s6 d.sec d.cache (λ_=>true) d.cache.length,[],d.armed,d.keep⟩,true):=by
 unfold V5 at h ⊢;split at h
 ·cases h
 ·rw[if_neg (by assumption)]
theorem b2R{d:Dsk}{n:Nat}(h:(V5 d).2=true)(hp:eI d)(hn:n<d.sec.length):S9 (V5 d).1 n=S9 d n:=by
 rw[b8U h];exact a5X hn (λi hi=>(hp i hi).1) _ (V2 _)
theorem b7y{s:Sto}{l:Int}(h:sL s l)(hu:(X5 s l).2=true){n:Nat}(hn:n<9):S9 (X5 s l).1.d n=S9 s.d n:=by
 by_cases hl:l<=s.sure
 ·rw[zY hl]
 ·rw[g7 hl] at hu ⊢;have:=h.2.2.2.1;rw[b2R hu (fP h).2 (show n<s.d.sec.length by omega),b1D h hn _ (V2 _)]
theorem b44{d:Dsk}{n:Nat}(h:(G1 d).2=true)(hp:eI d)(hn:n<d.sec.length):S9 (G1 d).1 n=S9 d n:=by
 by_cases hc:500<=d.cache.length
 ·rw[xG hc] at h ⊢;exact b2R h hp hn
 ·rw[nT hc]
theorem a5s(d:Dsk):(V5 d).1.sec.length=d.sec.length:=by
 unfold V5;split
 ·exact H8 _ _ _ _
 ·exact H8 _ _ _ _
theorem a4I(s:Sto)(l:Int):(X5 s l).1.d.sec.length=s.d.sec.length:=by
 by_cases hl:l<=s.sure
 ·rw[zY hl]
 ·rw[g7 hl];exact a5s _
theorem a0G(s:Sto)(l:Int):(X5 s l).1.fr=s.fr/\(X5 s l).1.hand=s.hand/\(X5 s l).1.log=s.log/\(X5 s l).1.ep=s.ep:=by
 by_cases h:l<=s.sure
 ·rw[zY h];exact⟨rfl,rfl,rfl,rfl⟩
 ·rw[g7 h];exact⟨rfl,rfl,rfl,rfl⟩
theorem a0U(d:Dsk):(G1 d).1.sec.length=d.sec.length:=by
 unfold G1;split
 ·exact a5s d
 ·rfl
theorem b2m{d:Dsk}(h:d.cache.length<=500):(G1 d).1.cache.length<=499:=by
 unfold G1;split
 ·rw[j4];exact S7 _
 ·dsimp only;omega
theorem s7(s:Sto)(k:Nat):(Y0 s k).1.fr.length=s.fr.length/\(Y0 s k).1.hand=s.hand/\(Y0 s k).1.log=s.log/\(Y0 s k).1.ep=s.ep/\(Y0 s k).1.d.sec.length=s.d.sec.length:=by
 obtain⟨h1,h2,h3,h4⟩:=a0G s (s.fr.getD k default).pg.lsn;have h5:=a4I s (s.fr.getD k default).pg.lsn;unfold Y0;split
 ·split
  ·split
   ·exact⟨by show(List.set _ _ _).length=_;rw[l9];exact congrArg List.length h1,h2,h3,h4,by show(G1 _).1.sec.length=_;rw[a0U,h5]⟩
   ·exact⟨congrArg List.length h1,h2,h3,h4,by show(G1 _).1.sec.length=_;rw[a0U,h5]⟩
  ·exact⟨congrArg List.length h1,h2,h3,h4,h5⟩
 ·exact⟨rfl,rfl,rfl,rfl,rfl⟩
theorem bW{s:Sto}{k no:Nat}(h:SInv s)(hk:k<s.fr.length)(hno:no<8)(hne:(s.fr.getD k default).no≠no)(hu:(Y0 s k).2=true):S9 (Y0 s k).1.d (1+no)=S9 s.d (1+no)/\(Y0 s k).1.d.cache.length<=500:=by
 have hf:=h.flu (h.frp k hk).2.2.2;have h0:=(h.frp k hk).1;have hfr:=gO s (s.fr.getD k default).pg.lsn;have hc:=a4T (l:=(s.fr.getD k default).pg.lsn) h.c;have hp:=dU (l:=(s.fr.getD k default).pg.lsn) h.pd;have hs:=a4I s (s.fr.getD k default).pg.lsn;have h69:=h.n69;by_cases hd:(s.fr.getD k default).dirty=true
 ·by_cases hf2:(X5 s (s.fr.getD k default).pg.lsn).2=true
  ·by_cases h5:(G1 (X5 s (s.fr.getD k default).pg.lsn).1.d).2=true
   ·rw[nX hd hf2 h5];refine⟨?_,?_⟩
    ·show S9 (wrD _ (1+((X5 s _).1.fr.getD k default).no) _) (1+no)=_;rw[hfr,a3q,if_neg (by omega)]
     exact(b44 h5 hp (by omega)).trans (b7y hf hf2 (by omega))
    ·have:=b2m hc;show((G1 _).1.cache++[_]).length<=500;rw[A3];simp only[List.length_cons,List.length_nil];omega
   ·rw[rM hd hf2 (by simpa using h5)] at hu
    cases hu
  ·rw[wA hd (by simpa using hf2)] at hu
   cases hu
 ·rw[yO (by simpa using hd)]
  exact⟨rfl,h.c⟩
theorem eA{L:List Frm}{no:Int}(h:0<=frAt L no):(frAt L no).toNat<L.length:=by
 unfold frAt M3 at h ⊢;split at h
 ·rename_i i hi;have:=List.mem_range.1 (List.mem_of_find?_eq_some hi)
  simpa using this
 ·omega
theorem b55{L:List Frm}{no:Int}(h:¬0<=frAt L no){i:Nat}(hi:i<L.length):(L.getD i default).no≠no:=by
 have e:=z7 L.length (pH L no);rw[show M3 L.length (pH L no)=frAt L no from rfl,uK h] at e
 have:=K2.1 e.symm i hi;unfold pH at this
 simpa using this
theorem lS{d d':Dsk}{no:Nat}(h:S9 d (1+no)=S9 d' (1+no)):R3 d no=R3 d' no/\U1 d no=U1 d' no:=by
 unfold R3 U1;rw[h];exact Z7
def sV(no:Nat)(p:Pg):Frm:=⟨no,p,false,0⟩
noncomputable def a5g(a:Sto)(k no:Nat):Sto:=⟨a.d,a.ep,a.log,a.sure,a.fr.set k (sV no (R3 a.d no).1),(a.hand+1).tmod 3⟩
noncomputable def a2R(a:Sto)(no:Nat):Sto:=⟨a.d,a.ep,a.log,a.sure,a.fr++[sV no (R3 a.d no).1],a.hand⟩
noncomputable def Y4(s:Sto)(no:Nat):Sto×Nat×Bool:=if 0<=frAt s.fr no then(s,(frAt s.fr no).toNat,true)
 else if s.fr.length=3 then
  if(Y0 s s.hand.toNat).2=true then(a5g (Y0 s s.hand.toNat).1 s.hand.toNat no,s.hand.toNat,true) else((Y0 s s.hand.toNat).1,0,false)
 else(a2R s no,s.fr.length,true)
noncomputable def B6(s:Sto)(no v:Nat):Nat:=if 0<=frAt s.fr no then v
 else if s.fr.length=3 then
  if(Y0 s s.hand.toNat).2=true then v+1 else v
 else 1
def Sto.bxF(s:Sto)(v:Nat):Y3:=[uG (s.tn 1 6 7 4 8),G0 s.d.sec,none,none,v6 s.log,none,I8 s.d.cache,A5 s.d.keep,zS v s.fr s.fr.length]
def a6v(s:Sto)(no:Nat):Prop:=SInv s/\no<8
noncomputable def b0W:Con:=.reff ⟨Sto×Nat×Nat,λx=>[.ref 0 0 0,.int .i64 x.2.1],λx=>x.1.bx x.2.2,λx=>.ref 8 (Y4 x.1 x.2.1).2.1 0,λx=>(Y4 x.1 x.2.1).1.bxF (B6 x.1 x.2.1 x.2.2),λx=>a6v x.1 x.2.1/\(Y4 x.1 x.2.1).2.2=true⟩
noncomputable def b1a:Con:=.reff ⟨Sto×Nat×Nat,λx=>[.ref 0 0 0,.int .i64 x.2.1],λx=>x.1.bx x.2.2,λ_=>.v (.pointer none),λx=>(Y4 x.1 x.2.1).1.bxF (B6 x.1 x.2.1 x.2.2),λx=>a6v x.1 x.2.1/\(Y4 x.1 x.2.1).2.2=false⟩
theorem b4W{L:List Frm}{k:Nat}(f:Frm)(hk:k<L.length):U9 L.length (setRow (Y8 L) (0+k) 0 [T.int IntKind.i64 f.no,T.int IntKind.i64 f.pg.lsn,T.own 0 1 f.pg.sl.length (Z5 f.pg.sl),T.bool f.dirty,T.int IntKind.i64 f.first]) (Y8 (L.set k f)):=xC λi _=>by
 have hl:∀j,(Y8 L j).length=5:=λ_=>rfl
 rw[C3,I2 (by rw[hl];rfl)]
 by_cases h:i=k
 ·subst h;rw[pD rfl];unfold Y8;rw[show(L.set i f).getD i default=f by rw[L5,j_k hk];rfl]
 ·rw[a6N h];unfold Y8;rw[show(L.set k f).getD i default=L.getD i default by rw[L5,j_l (Ne.symm h),←L5]]
theorem b5R{L:List Frm}(f:Frm)(r:Nat->List T)(hr:(r 0).length=5):U9 (L.length+1) (setRow (W6 (Y8 L) L.length r) (0+(L.length:Int).toNat) 0 [T.int IntKind.i64 f.no,T.int IntKind.i64 f.pg.lsn,T.own 0 1 f.pg.sl.length (Z5 f.pg.sl),T.bool f.dirty,T.int IntKind.i64 f.first]) (Y8 (L++[f])):=xC λi hi=>by
 rw[u9,C3];have hl:(W6 (Y8 L) L.length r i).length=5:=by
  unfold W6;by_cases h:i<L.length
  ·rw[lW h];rfl
  ·rw[a1h h,show i-L.length=0 by omega]
   exact hr
 rw[I2 (by rw[hl];rfl)]
 by_cases h:i=L.length
 ·subst h;rw[pD rfl];unfold Y8;rw[show(L++[f]).getD L.length default=f by rw[L5,iA (V2 _)];simp]
 ·rw[a6N h];unfold W6;rw[lW (by omega)]
  unfold Y8;rw[show(L++[f]).getD i default=L.getD i default by rw[L5,oX (by omega),←L5]]
theorem yZ{s:Sto}{no:Nat}(v:Nat)(h:0<=frAt s.fr no):Y4 s no=(s,(frAt s.fr no).toNat,true)/\B6 s no v=v:=⟨if_pos h,if_pos h⟩
theorem u5{s:Sto}{no:Nat}(v:Nat)(h:¬0<=frAt s.fr no)(h3:s.fr.length=3)(hu:(Y0 s s.hand.toNat).2=true):Y4 s no=(a5g (Y0 s s.hand.toNat).1 s.hand.toNat no,s.hand.toNat,true)/\B6 s no v=v+1:=by
 unfold Y4 B6;rw[if_neg h,if_pos h3,if_pos hu,if_neg h,if_pos h3,if_pos hu];exact Z7
theorem t3{s:Sto}{no:Nat}(v:Nat)(h:¬0<=frAt s.fr no)(h3:s.fr.length=3)(hu:(Y0 s s.hand.toNat).2=false):Y4 s no=((Y0 s s.hand.toNat).1,0,false)/\B6 s no v=v:=by
 have hu:¬ (Y0 s s.hand.toNat).2=true:=by rw[hu];simp
 unfold Y4 B6;rw[if_neg h,if_pos h3,if_neg hu,if_neg h,if_pos h3,if_neg hu];exact Z7
theorem zC{s:Sto}{no:Nat}(v:Nat)(h:¬0<=frAt s.fr no)(h3:¬s.fr.length=3):Y4 s no=(a2R s no,s.fr.length,true)/\B6 s no v=1:=by
 unfold Y4 B6;rw[if_neg h,if_neg h3,if_neg h,if_neg h3];exact Z7
theorem dE{s:Sto}{no:Nat}(h:SInv s)(hno:no<8)(hc:¬0<=frAt s.fr no)(h3:s.fr.length=3)(hu:(Y0 s s.hand.toNat).2=true):DkB ((Y0 s s.hand.toNat).1.d,no)/\U1 (Y0 s s.hand.toNat).1.d no=R3 (Y0 s s.hand.toNat).1.d no/\(R3 (Y0 s s.hand.toNat).1.d no).2=true:=by
 have hh:=h.hd;have hk:s.hand.toNat<s.fr.length:=by omega
 obtain⟨p1,p2⟩:=bW h hk hno (b55 hc hk) hu;obtain⟨_,_,_,_,r5⟩:=s7 s s.hand.toNat;have h69:=h.n69;obtain⟨g1,g2⟩:=h.pg no hno;obtain⟨c1,c2⟩:=lS p1;refine⟨⟨by dsimp only;omega,by dsimp only;omega,by dsimp only;omega,by show(S9 _ _).length<=_;rw[p1];exact g2⟩,?_,by rw[c1];exact g1⟩
 rw[c1,c2];exact(lF s.d no).2 g1
theorem a4C{s:Sto}{no:Nat}(h:SInv s)(hno:no<8):DkB (s.d,no)/\U1 s.d no=R3 s.d no:=by
 have h69:=h.n69;have hc:=h.c;obtain⟨g1,g2⟩:=h.pg no hno;exact⟨⟨by dsimp only;omega,by dsimp only;omega,by dsimp only;omega,g2⟩,(lF s.d no).2 g1⟩
theorem a7k:GK 243 b0W:=gk Tryz.func243<|by
 rintro⟨s,no,v⟩ ⟨⟨h,hno⟩,hup⟩;dsimp only at h hno hup;have hL:M7 s.fr.length:=by have:=h.fr3;unfold M7;omega
 refine C4 (gC tL (gC iP (gC iH gN))) Tryz.func243 Z0 [[.box 0,.arr 1,.arr 2,.arr 3,.arr 4,.arr 5,.arr 6,.arr 7,.arr 5],[.box 0,.arr 1,.arr 2,.arr 3,.arr 4,.arr 5,.arr 2,.arr 3,.arr 7],[.box 0,.arr 1,.arr 2,.arr 3,.arr 4,.arr 5,.arr 2,.arr 3,.arr 5]] (α:=∃(x:uX.ι),((LeS s)/\((EqF s x.1)/\(no:Int)=x.2/\True)/\M7 x.1.fr.length)/\(decide (frAt x.1.fr x.2≥(0:Int))=true->W4 (frAt x.1.fr x.2) s.fr.length/\((0+(frAt x.1.fr x.2).toNat=(Y4 s no).2.1/\0=0)/\True)/\(1=1/\1=1/\pV s (Y4 s no).1)/\(Y5 Z5 s.d.sec (Y4 s no).1.d.sec)/\True/\True/\(Y5 Y7 s.log (Y4 s no).1.log)/\True/\(Y5 Z3 s.d.cache (Y4 s no).1.d.cache)/\(Y5 Y9 s.d.keep (Y4 s no).1.d.keep)/\(v=B6 s no v/\s.fr.length=(Y4 s no).1.fr.length/\U9 s.fr.length (Y8 s.fr) (Y8 (Y4 s no).1.fr))/\True)/\(decide (frAt x.1.fr x.2≥(0:Int))=false->(((s.fr.length:Int)==(3:Int))=true->∃(x:(Sto×Nat×Nat)),(((0=0/\0=0)/\s.hand=(x.2.1:Int)/\True)/\((1=1/\1=1/\pV s x.1)/\EqH (v) (x.2.2) s x.1)/\SInv x.1/\x.2.1<x.1.fr.length)/\((!(Y0 x.1 x.2.1).2)=true->(M2 (v9 [some 0,some 1,some 2,some 3,some 4,some 5,some 6,some 7,some 5]) (T.v (Value.pointer none)) (T.ref 8 (Y4 s no).2.1 0)/\True)/\(1=1/\1=1/\pV (Y0 x.1 x.2.1).1 (Y4 s no).1)/\(Y5 Z5 (Y0 x.1 x.2.1).1.d.sec (Y4 s no).1.d.sec)/\True/\True/\(Y5 Y7 (Y0 x.1 x.2.1).1.log (Y4 s no).1.log)/\True/\(Y5 Z3 (Y0 x.1 x.2.1).1.d.cache (Y4 s no).1.d.cache)/\(Y5 Y9 (Y0 x.1 x.2.1).1.d.keep (Y4 s no).1.d.keep)/\(x.2.2=B6 s no v/\(Y0 x.1 x.2.1).1.fr.length=(Y4 s no).1.fr.length/\U9 (Y0 x.1 x.2.1).1.fr.length (Y8 (Y0 x.1 x.2.1).1.fr) (Y8 (Y4 s no).1.fr))/\True)/\((!(Y0 x.1 x.2.1).2)=false->X4 .i64 ((Y0 x.1 x.2.1).1.hand+(1:Int))/\Nz (3:Int)/\∃(x_1:(Dsk×Nat)),((LeS (Y0 x.1 x.2.1).1)/\((k4 (Y0 x.1 x.2.1).1.d x_1.1)/\(no:Int)=(x_1.2:Int)/\True)/\DkB x_1)/\W4 s.hand (Y0 x.1 x.2.1).1.fr.length/\(0+s.hand.toNat<(Y0 x.1 x.2.1).1.fr.length/\Le (U1 x_1.1 x_1.2).1.sl.length (U1 x_1.1 x_1.2).1.sl.length)/\W4 s.hand (Y0 x.1 x.2.1).1.fr.length/\((0+s.hand.toNat=(Y4 s no).2.1/\0=0)/\True)/\(1=1/\1=1/\(0=0/\(Y0 x.1 x.2.1).1.d.sec.length=(Y4 s no).1.d.sec.length)/\(0=0/\(Y0 x.1 x.2.1).1.d.cache.length=(Y4 s no).1.d.cache.length)/\(Y0 x.1 x.2.1).1.d.armed=(Y4 s no).1.d.armed/\(0=0/\(Y0 x.1 x.2.1).1.d.keep.length=(Y4 s no).1.d.keep.length)/\(Y0 x.1 x.2.1).1.ep=(Y4 s no).1.ep/\(0=0/\(Y0 x.1 x.2.1).1.log.length=(Y4 s no).1.log.length)/\(Y0 x.1 x.2.1).1.sure=(Y4 s no).1.sure/\(0=0/\(Y0 x.1 x.2.1).1.fr.length=(Y4 s no).1.fr.length)/\((Y0 x.1 x.2.1).1.hand+(1:Int)).tmod (3:Int)=(Y4 s no).1.hand/\True)/\(Y5 Z5 (Y0 x.1 x.2.1).1.d.sec (Y4 s no).1.d.sec)/\True/\True/\(Y5 Y7 (Y0 x.1 x.2.1).1.log (Y4 s no).1.log)/\True/\(Y5 Z3 (Y0 x.1 x.2.1).1.d.cache (Y4 s no).1.d.cache)/\(Y5 Y9 (Y0 x.1 x.2.1).1.d.keep (Y4 s no).1.d.keep)/\(x.2.2+1=B6 s no v/\(Y0 x.1 x.2.1).1.fr.length=(Y4 s no).1.fr.length/\U9 (Y0 x.1 x.2.1).1.fr.length (setRow (Y8 (Y0 x.1 x.2.1).1.fr) (0+s.hand.toNat) 0 [T.int .i64 (no:Int),T.int .i64 (U1 x_1.1 x_1.2).1.lsn,T.own 0 1 (U1 x_1.1 x_1.2).1.sl.length (Z5 (U1 x_1.1 x_1.2).1.sl),T.bool false,T.int .i64 (0:Int)]) (Y8 (Y4 s no).1.fr))/\True))/\(((s.fr.length:Int)==(3:Int))=false->(Le 1 1/\Le s.fr.length s.fr.length/\V6 s.fr.length 1 56)/\∃(x:(Dsk×Nat)),((Le (0+s.d.sec.length) s.d.sec.length/\Le (0+s.d.cache.length) s.d.cache.length/\Le (0+s.d.keep.length) s.d.keep.length/\Le (0+s.log.length) s.log.length/\Le (0+(s.fr.length+1)) (s.fr.length+1))/\((k4 s.d x.1)/\(no:Int)=(x.2:Int)/\True)/\DkB x)/\W4 (s.fr.length:Int) (s.fr.length+1)/\(0+(s.fr.length:Int).toNat<s.fr.length+1/\Le (U1 x.1 x.2).1.sl.length (U1 x.1 x.2).1.sl.length)/\W4 (s.fr.length:Int) (s.fr.length+1)/\((0+(s.fr.length:Int).toNat=(Y4 s no).2.1/\0=0)/\True)/\(1=1/\1=1/\(0=0/\s.d.sec.length=(Y4 s no).1.d.sec.length)/\(0=0/\s.d.cache.length=(Y4 s no).1.d.cache.length)/\s.d.armed=(Y4 s no).1.d.armed/\(0=0/\s.d.keep.length=(Y4 s no).1.d.keep.length)/\s.ep=(Y4 s no).1.ep/\(0=0/\s.log.length=(Y4 s no).1.log.length)/\s.sure=(Y4 s no).1.sure/\(0=0/\s.fr.length+1=(Y4 s no).1.fr.length)/\s.hand=(Y4 s no).1.hand/\True)/\(Y5 Z5 s.d.sec (Y4 s no).1.d.sec)/\True/\True/\(Y5 Y7 s.log (Y4 s no).1.log)/\True/\(Y5 Z3 s.d.cache (Y4 s no).1.d.cache)/\(Y5 Y9 s.d.keep (Y4 s no).1.d.keep)/\(1=B6 s no v/\s.fr.length+1=(Y4 s no).1.fr.length/\U9 (s.fr.length+1) (setRow (W6 (Y8 s.fr) s.fr.length λ(k:Nat)=>List.take 5 (List.drop (k*5) [T.int .i64 (0:Int),T.int .i64 (0:Int),T.v (Value.slice none 0 0),T.bool false,T.int .i64 (0:Int)])) (0+(s.fr.length:Int).toNat) 0 [T.int .i64 (no:Int),T.int .i64 (U1 x.1 x.2).1.lsn,T.own 0 1 (U1 x.1 x.2).1.sl.length (Z5 (U1 x.1 x.2).1.sl),T.bool false,T.int .i64 (0:Int)]) (Y8 (Y4 s no).1.fr))/\True))) ⟨(s,(no:Int)),⟨⟨U0 _,U0 _,U0 _,U0 _,U0 _⟩,⟨⟨Z8,Z8,rfl,Z8,rfl,Z8,rfl,⟨rfl,λ_ _=>rfl⟩,Z9⟩,Z9⟩,hL⟩,λhc=> ?_,λhc=>⟨λh3=> ?_,λh3=> ?_⟩⟩
 ·have hc:0<=frAt s.fr no:=F3 hc;obtain⟨e1,e2⟩:=yZ v hc;rw[e1,e2];exact⟨⟨hc,by have:=eA hc;show frAt s.fr no<_;omega⟩,⟨⟨C3 _,rfl⟩,trivial⟩,⟨rfl,rfl,⟨rfl,rfl⟩,⟨rfl,rfl⟩,rfl,⟨rfl,rfl⟩,rfl,⟨rfl,rfl⟩,rfl,⟨rfl,rfl⟩,rfl,trivial⟩,⟨rfl,Z2 _ _⟩,trivial,trivial,⟨rfl,Z2 _ _⟩,trivial,⟨rfl,Z2 _ _⟩,⟨rfl,Z2 _ _⟩,⟨rfl,rfl,S5 _⟩,trivial⟩
 ·have hc:¬0<=frAt s.fr no:=yQ hc;have h3:s.fr.length=3:=by have:=beq_iff_eq.1 h3;omega
  have hh:=h.hd;have hk:s.hand.toNat<s.fr.length:=by omega
  obtain⟨r1,r2,_⟩:=s7 s s.hand.toNat;refine⟨(s,s.hand.toNat,v),⟨⟨Z7,by dsimp only;omega,trivial⟩,⟨⟨rfl,rfl,⟨rfl,rfl⟩,⟨rfl,rfl⟩,rfl,⟨rfl,rfl⟩,rfl,⟨rfl,rfl⟩,rfl,⟨rfl,rfl⟩,rfl,trivial⟩,⟨rfl,Z2 _ _⟩,⟨rfl,Z2 _ _⟩,⟨rfl,Z2 _ _⟩,⟨rfl,Z2 _ _⟩,⟨rfl,rfl,S5 _⟩,trivial⟩,h,hk⟩,λhu=> ?_,λhu=> ?_⟩
  ·have hu:(Y0 s s.hand.toNat).2=false:=(wD _).mp hu;rw[(t3 v hc h3 hu).1] at hup;cases hup
  ·have hu:(Y0 s s.hand.toNat).2=true:=(xO _).mp hu;obtain⟨e1,e2⟩:=u5 v hc h3 hu;obtain⟨d1,d2,_⟩:=dE h hno hc h3 hu;rw[e1,e2];refine⟨Z4 (by dsimp only;omega),by unfold Nz;omega,((Y0 s s.hand.toNat).1.d,no),⟨⟨U0 _,U0 _,U0 _,U0 _,U0 _⟩,⟨xN _,rfl,trivial⟩,d1⟩,⟨by omega,by dsimp only;omega⟩,⟨by dsimp only;omega,V2 _⟩,⟨by omega,by dsimp only;omega⟩,⟨⟨C3 _,rfl⟩,trivial⟩,⟨rfl,rfl,⟨rfl,rfl⟩,⟨rfl,rfl⟩,rfl,⟨rfl,rfl⟩,rfl,⟨rfl,rfl⟩,rfl,⟨rfl,l9.symm⟩,rfl,trivial⟩,⟨rfl,Z2 _ _⟩,trivial,trivial,⟨rfl,Z2 _ _⟩,trivial,⟨rfl,Z2 _ _⟩,⟨rfl,Z2 _ _⟩,⟨rfl,l9.symm,?_⟩,trivial⟩
   dsimp only;rw[d2];exact b4W (sV no (R3 (Y0 s s.hand.toNat).1.d no).1) (by omega)
 ·have hc:¬0<=frAt s.fr no:=yQ hc;have h3:¬s.fr.length=3:=λe=>by rw[e] at h3;simp at h3
  have hl:=h.fr3;obtain⟨e1,e2⟩:=zC v hc h3;obtain⟨d1,d2⟩:=a4C h hno;rw[e1,e2];refine⟨⟨V2 _,V2 _,by unfold V6;omega⟩,(s.d,no),⟨⟨U0 _,U0 _,U0 _,U0 _,U0 _⟩,⟨xN _,Z9⟩,d1⟩,⟨by omega,by omega⟩,⟨by omega,V2 _⟩,⟨by omega,by omega⟩,⟨⟨by dsimp only;omega,rfl⟩,trivial⟩,⟨rfl,rfl,⟨rfl,rfl⟩,⟨rfl,rfl⟩,rfl,⟨rfl,rfl⟩,rfl,⟨rfl,rfl⟩,rfl,⟨rfl,by unfold a2R;simp⟩,rfl,trivial⟩,⟨rfl,Z2 _ _⟩,trivial,trivial,⟨rfl,Z2 _ _⟩,trivial,⟨rfl,Z2 _ _⟩,⟨rfl,Z2 _ _⟩,⟨rfl,by unfold a2R;simp,?_⟩,trivial⟩
  dsimp only;rw[d2];exact b5R (sV no (R3 s.d no).1) _ rfl
theorem a8b:GK 243 b1a:=gk Tryz.func243<|by
 rintro⟨s,no,v⟩ ⟨⟨h,hno⟩,hup⟩;dsimp only at h hno hup;have hL:M7 s.fr.length:=by have:=h.fr3;unfold M7;omega
 refine C4 (gC tL (gC iP (gC iH gN))) Tryz.func243 Z0 [[.box 0,.arr 1,.arr 2,.arr 3,.arr 4,.arr 5,.arr 6,.arr 7,.arr 5],[.box 0,.arr 1,.arr 2,.arr 3,.arr 4,.arr 5,.arr 2,.arr 3,.arr 7],[.box 0,.arr 1,.arr 2,.arr 3,.arr 4,.arr 5,.arr 2,.arr 3,.arr 5]] (α:=∃(x:uX.ι),((LeS s)/\((EqF s x.1)/\(no:Int)=x.2/\True)/\M7 x.1.fr.length)/\(decide (frAt x.1.fr x.2≥(0:Int))=true->W4 (frAt x.1.fr x.2) s.fr.length/\(M2 (v9 [some 0,some 1,some 2,some 3,some 4,some 5,some 2,some 3,some 5]) (T.ref 5 (0+(frAt x.1.fr x.2).toNat) 0) (T.v (Value.pointer none))/\True)/\(1=1/\1=1/\pV s (Y4 s no).1)/\(Y5 Z5 s.d.sec (Y4 s no).1.d.sec)/\True/\True/\(Y5 Y7 s.log (Y4 s no).1.log)/\True/\(Y5 Z3 s.d.cache (Y4 s no).1.d.cache)/\(Y5 Y9 s.d.keep (Y4 s no).1.d.keep)/\(v=B6 s no v/\s.fr.length=(Y4 s no).1.fr.length/\U9 s.fr.length (Y8 s.fr) (Y8 (Y4 s no).1.fr))/\True)/\(decide (frAt x.1.fr x.2≥(0:Int))=false->(((s.fr.length:Int)==(3:Int))=true->∃(x:(Sto×Nat×Nat)),(((0=0/\0=0)/\s.hand=(x.2.1:Int)/\True)/\((1=1/\1=1/\pV s x.1)/\EqH (v) (x.2.2) s x.1)/\SInv x.1/\x.2.1<x.1.fr.length)/\((!(Y0 x.1 x.2.1).2)=true->(Value.pointer none=Value.pointer none/\True)/\(1=1/\1=1/\pV (Y0 x.1 x.2.1).1 (Y4 s no).1)/\(Y5 Z5 (Y0 x.1 x.2.1).1.d.sec (Y4 s no).1.d.sec)/\True/\True/\(Y5 Y7 (Y0 x.1 x.2.1).1.log (Y4 s no).1.log)/\True/\(Y5 Z3 (Y0 x.1 x.2.1).1.d.cache (Y4 s no).1.d.cache)/\(Y5 Y9 (Y0 x.1 x.2.1).1.d.keep (Y4 s no).1.d.keep)/\(x.2.2=B6 s no v/\(Y0 x.1 x.2.1).1.fr.length=(Y4 s no).1.fr.length/\U9 (Y0 x.1 x.2.1).1.fr.length (Y8 (Y0 x.1 x.2.1).1.fr) (Y8 (Y4 s no).1.fr))/\True)/\((!(Y0 x.1 x.2.1).2)=false->X4 .i64 ((Y0 x.1 x.2.1).1.hand+(1:Int))/\Nz (3:Int)/\∃(x_1:(Dsk×Nat)),((LeS (Y0 x.1 x.2.1).1)/\((k4 (Y0 x.1 x.2.1).1.d x_1.1)/\(no:Int)=(x_1.2:Int)/\True)/\DkB x_1)/\W4 s.hand (Y0 x.1 x.2.1).1.fr.length/\(0+s.hand.toNat<(Y0 x.1 x.2.1).1.fr.length/\Le (U1 x_1.1 x_1.2).1.sl.length (U1 x_1.1 x_1.2).1.sl.length)/\W4 s.hand (Y0 x.1 x.2.1).1.fr.length/\(M2 (v9 [some 0,some 1,some 2,some 3,some 4,some 5,some 6,some 7,some 5]) (T.ref 5 (0+s.hand.toNat) 0) (T.v (Value.pointer none))/\True)/\(1=1/\1=1/\(0=0/\(Y0 x.1 x.2.1).1.d.sec.length=(Y4 s no).1.d.sec.length)/\(0=0/\(Y0 x.1 x.2.1).1.d.cache.length=(Y4 s no).1.d.cache.length)/\(Y0 x.1 x.2.1).1.d.armed=(Y4 s no).1.d.armed/\(0=0/\(Y0 x.1 x.2.1).1.d.keep.length=(Y4 s no).1.d.keep.length)/\(Y0 x.1 x.2.1).1.ep=(Y4 s no).1.ep/\(0=0/\(Y0 x.1 x.2.1).1.log.length=(Y4 s no).1.log.length)/\(Y0 x.1 x.2.1).1.sure=(Y4 s no).1.sure/\(0=0/\(Y0 x.1 x.2.1).1.fr.length=(Y4 s no).1.fr.length)/\((Y0 x.1 x.2.1).1.hand+(1:Int)).tmod (3:Int)=(Y4 s no).1.hand/\True)/\(Y5 Z5 (Y0 x.1 x.2.1).1.d.sec (Y4 s no).1.d.sec)/\True/\True/\(Y5 Y7 (Y0 x.1 x.2.1).1.log (Y4 s no).1.log)/\True/\(Y5 Z3 (Y0 x.1 x.2.1).1.d.cache (Y4 s no).1.d.cache)/\(Y5 Y9 (Y0 x.1 x.2.1).1.d.keep (Y4 s no).1.d.keep)/\(x.2.2+1=B6 s no v/\(Y0 x.1 x.2.1).1.fr.length=(Y4 s no).1.fr.length/\U9 (Y0 x.1 x.2.1).1.fr.length (setRow (Y8 (Y0 x.1 x.2.1).1.fr) (0+s.hand.toNat) 0 [T.int .i64 (no:Int),T.int .i64 (U1 x_1.1 x_1.2).1.lsn,T.own 0 1 (U1 x_1.1 x_1.2).1.sl.length (Z5 (U1 x_1.1 x_1.2).1.sl),T.bool false,T.int .i64 (0:Int)]) (Y8 (Y4 s no).1.fr))/\True))/\(((s.fr.length:Int)==(3:Int))=false->(Le 1 1/\Le s.fr.length s.fr.length/\V6 s.fr.length 1 56)/\∃(x:(Dsk×Nat)),((Le (0+s.d.sec.length) s.d.sec.length/\Le (0+s.d.cache.length) s.d.cache.length/\Le (0+s.d.keep.length) s.d.keep.length/\Le (0+s.log.length) s.log.length/\Le (0+(s.fr.length+1)) (s.fr.length+1))/\((k4 s.d x.1)/\(no:Int)=(x.2:Int)/\True)/\DkB x)/\W4 (s.fr.length:Int) (s.fr.length+1)/\(0+(s.fr.length:Int).toNat<s.fr.length+1/\Le (U1 x.1 x.2).1.sl.length (U1 x.1 x.2).1.sl.length)/\W4 (s.fr.length:Int) (s.fr.length+1)/\(M2 (v9 [some 0,some 1,some 2,some 3,some 4,some 5,some 2,some 3,some 7]) (T.ref 7 (0+(s.fr.length:Int).toNat) 0) (T.v (Value.pointer none))/\True)/\(1=1/\1=1/\(0=0/\s.d.sec.length=(Y4 s no).1.d.sec.length)/\(0=0/\s.d.cache.length=(Y4 s no).1.d.cache.length)/\s.d.armed=(Y4 s no).1.d.armed/\(0=0/\s.d.keep.length=(Y4 s no).1.d.keep.length)/\s.ep=(Y4 s no).1.ep/\(0=0/\s.log.length=(Y4 s no).1.log.length)/\s.sure=(Y4 s no).1.sure/\(0=0/\s.fr.length+1=(Y4 s no).1.fr.length)/\s.hand=(Y4 s no).1.hand/\True)/\(Y5 Z5 s.d.sec (Y4 s no).1.d.sec)/\True/\True/\(Y5 Y7 s.log (Y4 s no).1.log)/\True/\(Y5 Z3 s.d.cache (Y4 s no).1.d.cache)/\(Y5 Y9 s.d.keep (Y4 s no).1.d.keep)/\(1=B6 s no v/\s.fr.length+1=(Y4 s no).1.fr.length/\U9 (s.fr.length+1) (setRow (W6 (Y8 s.fr) s.fr.length λ(k:Nat)=>List.take 5 (List.drop (k*5) [T.int .i64 (0:Int),T.int .i64 (0:Int),T.v (Value.slice none 0 0),T.bool false,T.int .i64 (0:Int)])) (0+(s.fr.length:Int).toNat) 0 [T.int .i64 (no:Int),T.int .i64 (U1 x.1 x.2).1.lsn,T.own 0 1 (U1 x.1 x.2).1.sl.length (Z5 (U1 x.1 x.2).1.sl),T.bool false,T.int .i64 (0:Int)]) (Y8 (Y4 s no).1.fr))/\True))) ⟨(s,(no:Int)),⟨⟨U0 _,U0 _,U0 _,U0 _,U0 _⟩,⟨⟨Z8,Z8,rfl,Z8,rfl,Z8,rfl,⟨rfl,λ_ _=>rfl⟩,Z9⟩,Z9⟩,hL⟩,λhc=> ?_,λhc=>⟨λh3=> ?_,λh3=> ?_⟩⟩
 ·have hc:0<=frAt s.fr no:=F3 hc;rw[(yZ v hc).1] at hup;cases hup
 ·have hc:¬0<=frAt s.fr no:=yQ hc;have h3:s.fr.length=3:=by have:=beq_iff_eq.1 h3;omega
  have hh:=h.hd;have hk:s.hand.toNat<s.fr.length:=by omega
  refine⟨(s,s.hand.toNat,v),⟨⟨Z7,by dsimp only;omega,trivial⟩,⟨⟨rfl,rfl,⟨rfl,rfl⟩,⟨rfl,rfl⟩,rfl,⟨rfl,rfl⟩,rfl,⟨rfl,rfl⟩,rfl,⟨rfl,rfl⟩,rfl,trivial⟩,⟨rfl,Z2 _ _⟩,⟨rfl,Z2 _ _⟩,⟨rfl,Z2 _ _⟩,⟨rfl,Z2 _ _⟩,⟨rfl,rfl,S5 _⟩,trivial⟩,h,hk⟩,λhu=> ?_,λhu=> ?_⟩
  ·have hu:(Y0 s s.hand.toNat).2=false:=(wD _).mp hu;obtain⟨e1,e2⟩:=t3 v hc h3 hu;rw[e1,e2];exact⟨Z9,⟨rfl,rfl,Z7,Z7,rfl,Z7,rfl,Z7,rfl,Z7,Z9⟩,Z8,trivial,trivial,Z8,trivial,Z8,Z8,S2,trivial⟩
  ·have hu:(Y0 s s.hand.toNat).2=true:=(xO _).mp hu;rw[(u5 v hc h3 hu).1] at hup;cases hup
 ·have hc:¬0<=frAt s.fr no:=yQ hc;have h3:¬s.fr.length=3:=λe=>by rw[e] at h3;simp at h3
  rw[(zC v hc h3).1] at hup;cases hup
end Go.Proofs.YtokaojbaacnngaaGreat

