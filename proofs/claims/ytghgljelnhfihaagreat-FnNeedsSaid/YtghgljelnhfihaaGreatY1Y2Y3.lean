/- A part of the proof. -/
import Derived.Test.YtghgljelnhfihaaGreatX11X11rX12X13X14
namespace Go.Proofs.YtghgljelnhfihaaGreat
set_option maxRecDepth 100000
open Go.SS

def b4N(l:List UInt8)(L:List (List UInt8)):Nat->Ann
 |0=>.one {i:Nat//i<=L.length} (λx=>⟨[(0,.osl 1 0 (l++W2 L x.1).length),(13,xM L),(14,.int .i64 L.length),(15,.int .i64 x.1)],[none,some (.bys 5 (l++W2 L x.1))]⟩) (λx=>L.length-x.1) [.arr 0,.arr 2] [.arr 0,.at_ 0] (λ_=>Y5)
 |_=>.none
def dL:Con:=.reff ⟨List UInt8×List (List UInt8),λx=>[.osl 0 0 x.1.length,xM x.2],λx=>[some (.bys 5 x.1)],λx=>.osl 1 0 (x.1++S2 x.2).length,λx=>[none,some (.bys 5 (x.1++S2 x.2))],λx=>x.1.length<=1000/\w6 x.2⟩
theorem gY:GK 297 dL:=gk Tryz.func297<|by
 rintro⟨l,L⟩ ⟨h1,h2,h3⟩;dsimp only at h1 h2 h3;have e0:List.take l.length l++List.take 1 (List.drop 0 (List.map P2 [IntKind.u8.wrap (L.length:Int)]))=l++W2 L 0:=by rw[nJ];rfl
 refine v8 gN Tryz.func297 (b4N l L) [[.arr 0,.arr 1]] (α:=let z:=(L.length:Int);W7 IntKind.u8 (IntKind.u8.wrap z)/\(Le 1 1/\Le l.length l.length/\W6 l.length 1 1)/\(∃(x:{i:Nat//i<=L.length}),((0=0/\l.length+1=(l++W2 L x.val).length)/\(Y8 Z5 L L)/\z=z/\0=(x.val:Int)/\True)/\True/\List.take l.length l++List.take 1 (List.drop 0 (List.map P2 [IntKind.u8.wrap z]))=l++W2 L x.val/\True)/\∀(x:{i:Nat//i<=L.length}),let u:=(x.val:Int);let q:=(L.getD u.toNat []).length;let p:=(l++W2 L x.val).length;let r:=(List.take p (l++W2 L x.val)++List.take 1 (List.drop 0 (List.map P2 [IntKind.u8.wrap (↑q:Int)])));(decide (u<z)=true->V3 u L.length/\W7 IntKind.u8 (IntKind.u8.wrap (↑q:Int))/\(Le 1 1/\Le p p/\W6 p 1 1)/\(Le (p+1) r.length/\W6 (p+1) q 1)/\W7 .i64 (u+1)/\∃(y:{i:Nat//i<=L.length}),(((0=0/\p+1+q=(l++W2 L y.val).length)/\(Y8 Z5 L L)/\z=z/\u+1=(y.val:Int)/\True)/\True/\List.take (p+1) r++L.getD u.toNat []=l++W2 L y.val/\True)/\Lt (L.length-y.val) (L.length-x.val))/\(decide (u<z)=false->((0=0/\p=(l++S2 L).length)/\True)/\True/\l++W2 L x.val=l++S2 L/\True)) ⟨P1 _,⟨W4 _,W4 _,by unfold W6;omega⟩,⟨⟨0,S7 _⟩,⟨⟨rfl,by simp[W2]⟩,⟨rfl,Z2 _ _⟩,rfl,rfl,trivial⟩,trivial,e0,trivial⟩,λx=>⟨λhc=> ?_,λhc=> ?_⟩⟩
 ·have hlt:=X6 hc;have f1:=xW L h3 x.val (by omega)
  have f2:=h3 x.val hlt;rw[F5];have hl:(l++W2 L x.val).length<=1100000:=by rw[K6];omega
  have e:List.take (l++W2 L x.val).length (l++W2 L x.val)++List.take 1 (List.drop 0 (List.map P2 [IntKind.u8.wrap ((L.getD x.val []).length:Int)]))=l++W2 L x.val++[j4 (L.getD x.val []).length]:=by
   rw[nJ];rfl
  rw[e];have e2:(l++W2 L x.val++[j4 (L.getD x.val []).length]).length=(l++W2 L x.val).length+1:=by rw[K6];rfl
  refine⟨X8 hlt,P1 _,⟨W4 _,W4 _,by unfold W6;omega⟩,⟨by rw[e2];exact W4 _,by unfold W6;omega⟩,Z4 (by omega),⟨x.val+1,hlt⟩,⟨⟨⟨rfl,?_⟩,Z7,rfl,by dsimp only;omega,trivial⟩,trivial,?_,trivial⟩,V1.ext_lt hlt⟩
  ·simp only[W2,K6,List.length_cons,List.length_nil];omega
  ·rw[←e2,nJ];simp only[W2,List.append_assoc]
 ·have hx:x.val=L.length:=by have:=x.2;have:=X4 hc;omega
  rw[hx];exact⟨U3,trivial,Z9⟩
def a9s:Con:=.reff ⟨List UInt8,λl=>[.osl 0 0 l.length],λl=>[some (.bys 5 l)],λl=>.osl 1 0 (l++E4 (t6 l)).length,λl=>[none,some (.bys 5 (l++E4 (t6 l)))],λl=>l.length<=1000000⟩
theorem a5m:GK 214 a9s:=gk Tryz.func214<|by
 intro(l:List UInt8) (hl:l.length<=1000000);have e4:(E4 (t6 l)).length=4:=rfl;have hc:=bB l;refine v8 (gC sD (gC a7m gN)) Tryz.func214 Y5 [[.arr 0,.arr 1]] (α:=∃(x:(vZ IntKind.u32).ι),(Le (0+l.length) l.length/\(List.take l.length (List.drop 0 l)=x/\True)/\G4 x)/\∃(x_1:Nat),((IntKind.i64.wrap (↑(t6 x):Int)=(x_1:Int)/\True)/\x_1<4294967296)/\(Le l.length l.length/\W6 l.length 4 1)/\((0=0/\l.length+4=(l++E4 (t6 l)).length)/\True)/\True/\List.take l.length l++E4 x_1=l++E4 (t6 l)/\True) ⟨l,⟨by unfold Le;omega,⟨by rw[List.drop_zero,nJ],trivial⟩,by unfold G4;omega⟩,t6 l,⟨⟨?_,trivial⟩,hc⟩,⟨W4 _,by unfold W6;omega⟩,⟨⟨rfl,by rw[K6,e4]⟩,trivial⟩,trivial,by rw[nJ],trivial⟩
 rw[IntKind.wrap_i64];omega
def a2R:Con:=.rmk ⟨Int×Pg,λx=>[.int .i64 x.1,.agg x.2.ts],λ_=>[],λx=>.osl 0 0 (S6 x.1 x.2).length,λx=>[some (.bys 5 (S6 x.1 x.2))],λx=>eB x.2⟩
theorem a0m:GK 296 a2R:=gk Tryz.func296<|by
 rintro⟨no,p⟩ ⟨h1,h2,h3,h4⟩;dsimp only at h1 h2 h3 h4;have hs:w6 p.sl:=⟨by omega,λi hi=>Nat.le_trans (h4 i hi) (by decide)⟩
 have hfl:=xW p.sl hs.2 p.sl.length (W4 _);have hfl:(S2 p.sl).length<=5000:=by unfold S2;omega
 have e:List.map P2 [(112:Int),IntKind.u8.wrap no,IntKind.u8.wrap (p.Q.fdiv 256),IntKind.u8.wrap p.Q]=[P2 112,j4 no]++i6 p.Q.toNat:=by
  unfold i6;rw[show((p.Q.toNat:Nat):Int)=p.Q by omega,Int.fdiv_one]
  rfl
 refine⟨v8 (gC gY (gC a5m gN)) Tryz.func296 Y5 [[.arr 3]] (α:=let q:=(p.Q.fdiv (256:Int));Nn (8:Int)/\(W7 IntKind.u8 (112:Int)/\W7 IntKind.u8 (IntKind.u8.wrap no)/\W7 IntKind.u8 (IntKind.u8.wrap q)/\W7 IntKind.u8 (IntKind.u8.wrap p.Q))/\∃(x:(List UInt8×List (List UInt8))),(((0=0/\4=x.1.length)/\(Y8 Z5 p.sl x.2)/\True)/\(List.map P2 [(112:Int),IntKind.u8.wrap no,IntKind.u8.wrap q,IntKind.u8.wrap p.Q]=x.1/\True)/\x.1.length<=1000/\w6 x.2)/\∃(x_1:(List UInt8)),(((0=0/\(x.1++S2 x.2).length=List.length x_1)/\True)/\(x.1++S2 x.2=x_1/\True)/\List.length x_1<=1000000)/\((0=0/\(x_1++E4 (t6 x_1)).length=(S6 no p).length)/\True)/\x_1++E4 (t6 x_1)=S6 no p/\True) ⟨by unfold Nn;omega,⟨(pG _).2 (by omega),P1 _,P1 _,P1 _⟩,([P2 112,j4 no]++i6 p.Q.toNat,p.sl),⟨⟨Z8,X5⟩,⟨e,trivial⟩,by simp[i6],hs⟩,uN no p,⟨⟨⟨rfl,rfl⟩,trivial⟩,⟨rfl,trivial⟩,?_⟩,⟨⟨rfl,rfl⟩,trivial⟩,rfl,trivial⟩,rfl,F6 trivial B6⟩
 unfold uN;rw[K6,K6];have e2:(i6 p.Q.toNat).length=2:=rfl;simp only[List.length_cons,List.length_nil];omega
def a5i:Con:=.rmk ⟨Unit,λ_=>[],λ_=>[],λ_=>.agg (Pg.tm ⟨0,[[],[],[],[]]⟩ 0),λ_=>[A1 [[],[],[],[]]],λ_=>True⟩
theorem a3k(h:
  (Nn (4:Int)/\LeI (4:Int) (4:Int)/\wK 16 4 140737488355328/\Lt 4 9223372036854775808)/\(((0:Int)=(0:Int)/\(0=0/\4=4)/\True)/\True)/\(4=4/\Z6 4 (λ(x:Nat)=>[T.str []]) (Z5 [[],[],[],
  []]))/\True):
  H3 Tryz.prog 240 [] [] (.agg (Pg.tm ⟨0,[[],[],[],[]]⟩ 0)) [A1 [[],[],[],[]]]:=
 v8 gN Tryz.func240 Y5 [[.arr 1]] h
theorem a23:GK 240 a5i:=gk Tryz.func240<|λ_ _=>⟨a3k ⟨⟨by unfold Nn;omega,by unfold LeI;omega,by unfold wK;omega,by unfold Lt;omega⟩,⟨⟨rfl,U3⟩,trivial⟩,⟨rfl,mC⟩,trivial⟩,rfl,t4 _⟩
def a9g:Con:=.reff ⟨List UInt8×Bool,λ_=>[.ref 0 0 0],λx=>[rdr x.1 x.2],λx=>.osl 1 0 (U8 x.1 x.2).out.length,λx=>[rdr (U8 x.1 x.2).l (U8 x.1 x.2).fl,A1 (U8 x.1 x.2).out],λ_=>True⟩
theorem a3F:GK 299 a9g:=gk Tryz.func299<|by
 rintro⟨l,fl⟩ _;have hn:=w9 l;refine v8 (gC bG (gC pW gN)) Tryz.func299 (a2P l fl) [[.box 0,.arr 1]] (α:=let j:=(U8 l fl);(∃(x:{i:Nat//i<=(numR l).toNat}),let q:=(I9 l fl x.val);((0=0/\0=0)/\(0=0/\0=q.out.length)/\numR l=numR l/\0=(x.val:Int)/\True)/\(1=1/\1=1/\List.drop 1 l=q.l/\(fl||l.isEmpty)=q.fl/\True)/\(0=q.out.length/\Z6 0 (λ(k:Nat)=>List.take 1 (List.drop (k*1) [])) (Z5 q.out))/\True)/\∀(x:{i:Nat//i<=(numR l).toNat}),let v:=(x.val:Int);let p:=(I9 l fl x.val);let w:=(numR p.l);let u:=(List.drop 1 p.l);let z:=p.out.length;(decide (v<numR l)=true->vY w/\(Le 1 1/\Le p.out.length z/\W6 p.out.length 1 16)/\W7 .i64 (v+1)/\∃(y:{i:Nat//i<=(numR l).toNat}),let r:=(I9 l fl y.val);(((0=0/\0=0)/\(0=0/\z+1=r.out.length)/\numR l=numR l/\v+1=(y.val:Int)/\True)/\(1=1/\1=1/\O9 u w=r.l/\(p.fl||p.l.isEmpty||big u w)=r.fl/\True)/\(z+1=r.out.length/\Z6 (z+1) (X3 (Z5 p.out) p.out.length λ(k:Nat)=>List.take 1 (List.drop (k*1) [T.str (R6 u w)])) (Z5 r.out))/\True)/\Lt ((numR l).toNat-y.val) ((numR l).toNat-x.val))/\(decide (v<numR l)=false->((0=0/\z=j.out.length)/\True)/\(1=1/\1=1/\p.l=j.l/\p.fl=j.fl/\True)/\(Y8 Z5 p.out j.out)/\True)) ⟨⟨⟨0,S7 _⟩,⟨Z8,Z8,rfl,Z9⟩,⟨rfl,rfl,rfl,Z9⟩,⟨rfl,oG _ _⟩,trivial⟩,λx=>⟨λhc=> ?_,λhc=> ?_⟩⟩
 ·have hlt:(x.val:Int)<numR l:=C7 hc;have hlen:=wI l fl x.val;have hm:=w9 (I9 l fl x.val).l;exact⟨⟨hm.1,by omega⟩,⟨W4 _,W4 _,by omega,by omega⟩,Z4 (by omega),⟨x.val+1,by omega⟩,⟨⟨Z8,⟨rfl,(congrArg (· +1) hlen).trans (wI l fl (x.val+1)).symm⟩,rfl,by simp only;omega,trivial⟩,⟨rfl,rfl,rfl,rfl,trivial⟩,⟨(congrArg (· +1) hlen).trans (wI l fl (x.val+1)).symm,a0v _ _⟩,trivial⟩,by unfold Lt;simp only;omega⟩
 ·have hge:¬ (x.val:Int)<numR l:=l7 hc;have hx:=x.2;have he:x.val=(numR l).toNat:=by omega
  rw[he];exact⟨U3,⟨rfl,rfl,rfl,Z9⟩,X5⟩
noncomputable def a2L:Con:=.rmk ⟨Int×List UInt8,λx=>[.int .i64 x.1,.bys x.2],λ_=>[],λx=>.tup [.agg ((P3 x.1 x.2).tm 0),.int .i64 (L7 x.1 x.2)],λx=>[A1 (P3 x.1 x.2).sl],λx=>RdB x.2⟩
theorem a0D:GK 241 a2L:=gk Tryz.func241<|by
 rintro⟨no,b⟩ (hb:b.length<=1000);have hl:∀(x:List UInt8),(R6 x 4).length=4:=λx=>by
  unfold R6;split
  ·exact List.length_replicate
  ·rename_i h;have:¬4>(x.length:Int):=by simpa[big] using h
   rw[List.length_take,show(4:Int).toNat=4 from rfl]
   omega
 refine⟨v8 (gC uS (gC pW (gC a5G (gC a3F (gC tL (gC sL gN)))))) Tryz.func241 Y5 [[.nilS 0 [0,1] 0 1,.arr 4],[.arr 2],[.nilS 0 [0,1] 0 1,.arr 1]] (α:=let m:=((b.length:Int)>65536);let j:=(P3 no b);let z:=j.sl.length;let v:=(0=j.Q/\(0=0/\0=z)/\True);(decide m=true->((v/\2=L7 no b/\True)/\True)/\(0=z/\Z6 0 (λ(x:Nat)=>[]) (Z5 j.sl))/\True)/\(decide m=false->∃(x:vG.ι),let w:=(0=z/\Z6 0 (λ(x:Nat)=>[]) (Z5 j.sl));let r:=(R6 (X1 x) (4:Int));let k:=(↑(r.getD 1 (0:UInt8)).toNat:Int);let u:=(↑(r.getD 0 (0:UInt8)).toNat:Int);((b=x/\True)/\G4 x)/\((!S3 x)=true->((v/\8=L7 no b/\True)/\True)/\w/\True)/\((!S3 x)=false->vY (4:Int)/\lL (2:Int) r.length/\∃(x_1:a7d.ι),((List.drop 2 r=x_1/\True)/\oW x_1)/\∃(x_2:(List UInt8×Bool)),let q:=(U8 x_2.1 x_2.2);let n:=q.out.length;let y:=(! q.fl&&q.l.isEmpty);(((0=0/\0=0)/\True)/\((1=1/\Z6 1 (λ(x_3:Nat)=>[T.bys (O9 (X1 x) (4:Int)),T.bool (false||big (X1 x) (4:Int))]) λ(x:Nat)=>[T.bys x_2.1,T.bool x_2.2])/\True)/\True)/\((! y)=false->V3 (0:Int) r.length)/\((! y||u !=112)=false->V3 (1:Int) r.length)/\∃(x_3:yV.ι),let p:=(! y||u !=112||IntKind.i64.wrap k !=no|| !A2 x_3);((! y||u !=112||IntKind.i64.wrap k !=no)=false->Le (0+n) n/\(((↑(be x_1):Int)=x_3.Q/\(Y8 Z5 q.out x_3.sl)/\True)/\True)/\PgB x_3)/\(p=true->((v/\3=L7 no b/\True)/\True)/\w/\True)/\(p=false->((((↑(be x_1):Int)=j.Q/\(0=0/\n=z)/\True)/\0=L7 no b/\True)/\True)/\(Y8 Z5 q.out j.sl)/\True)))) ⟨λh=> ?_,λ_=>⟨b,⟨Z9,Nat.le_trans hb (by decide)⟩,λh=> ?_,λh=>⟨⟨by omega,by omega⟩,⟨by omega,by rw[hl];omega⟩,(R6 (X1 b) 4).drop 2,⟨⟨rfl,trivial⟩,by unfold oW;rw[List.length_drop,hl];omega⟩,
  (O9 (X1 b) 4,false||big (X1 b) 4),(by repeat' first|exact trivial|exact rfl|exact Z2 _ _|exact U2 _|exact V7|exact S8 _|exact W4 _|exact S7 _|refine And.intro ?_ ?_),λ_=>⟨by omega,by rw[hl];omega⟩,λ_=>⟨by omega,by rw[hl];omega⟩,rpQ (X1 b),λ_=>⟨S8 _,⟨⟨rfl,X5⟩,trivial⟩,?_⟩,λg=> ?_,λg=> ?_⟩⟩⟩,rfl,t4 _⟩
 ·have:=C7 h;omega
 ·have hu:S3 b=false:=by simpa using h
  have e2:(I7 no b).2=false:=by unfold I7;rw[hu];rfl
  have e1:P3 no b=⟨0,[]⟩:=by unfold P3;rw[e2];rfl
  have e3:L7 no b=8:=by unfold L7;rw[hu];rfl
  rw[e1,e3];exact(by repeat' first|exact trivial|exact rfl|exact Z2 _ _|exact U2 _|exact V7|exact S8 _|exact W4 _|exact S7 _|refine And.intro ?_ ?_)
 ·show(U8 (O9 (X1 b) 4) (false||big (X1 b) 4)).out.length<1000000000000;unfold U8;rw[wI];have:=w9 (O9 (X1 b) 4);omega
 ·have hu:S3 b=true:=by simpa using h
  have hq:=(a6y no b hu).1;have e2:(I7 no b).2=false:=by
   have g:(qS no (X1 b)|| !A2 (rpQ (X1 b)))=true:=g;rw[g] at hq;exact(xP _).mp hq.symm
  have e1:P3 no b=⟨0,[]⟩:=by unfold P3;rw[e2];rfl
  have e3:L7 no b=3:=by unfold L7;rw[hu,e2];rfl
  rw[e1,e3];exact(by repeat' first|exact trivial|exact rfl|exact Z2 _ _|exact U2 _|exact V7|exact S8 _|exact W4 _|exact S7 _|refine And.intro ?_ ?_)
 ·have hu:S3 b=true:=by simpa using h
  have hq:=a6y no b hu;have e2:(I7 no b).2=true:=by
   have g:(qS no (X1 b)|| !A2 (rpQ (X1 b)))=false:=g;rw[g] at hq;exact(yT _).mp hq.1.symm
  have e1:P3 no b=rpQ (X1 b):=by unfold P3;rw[e2,hq.2 e2];rfl
  have e3:L7 no b=0:=by unfold L7;rw[hu,e2];rfl
  rw[e1,e3];exact(by repeat' first|exact trivial|exact rfl|exact Z2 _ _|exact U2 _|exact V7|exact S8 _|exact W4 _|exact S7 _|refine And.intro ?_ ?_)
def DkB(x:Dsk×Nat):Prop:=1+x.2<x.1.E.length/\x.1.E.length<=1048576/\x.1.C.length<=1048576/\(U6 x.1 (1+x.2)).length<=1000
noncomputable def b1N:Con:=.rmk ⟨Dsk×Nat,λx=>[.bref x.1.ts,.int .i64 x.2],λ_=>[],λx=>.tup [.agg ((T0 x.1 x.2).1.tm 0),.bool (T0 x.1 x.2).2],λx=>[A1 (T0 x.1 x.2).1.sl],DkB⟩
theorem gF:GK 142 b1N:=gk Tryz.func142<|by
 rintro⟨d,no⟩ ⟨h1,h2,h3,h4⟩;dsimp only at h1 h2 h3 h4;refine⟨v8 (gC jK (gC a23 (gC a0D gN))) Tryz.func142 Y5 [[.arr 1]] (α:=let p:=(T0 d no);let r:=p.1.sl.length;W7 .i64 (1+(no:Int))/\∃(x:rT.ι),(((yM d x.1)/\1+(no:Int)=(x.2:Int)/\True)/\AtB x)/\((U6 x.1 x.2==[])=true->∃(x:Unit),(True/\True)/\(((0=p.1.Q/\(0=0/\4=r)/\True)/\true=p.2/\True)/\True)/\(4=r/\Z6 4 (Z5 [[],[],[],[]]) (Z5 p.1.sl))/\True)/\((U6 x.1 x.2==[])=false->Lt (U6 x.1 x.2).length 140737488355329/\∃(x_1:(Int×List UInt8)),let q:=(P3 x_1.1 x_1.2);(((no:Int)=x_1.1/\U6 x.1 x.2=x_1.2/\True)/\RdB x_1.2)/\(((q.Q=p.1.Q/\(0=0/\q.sl.length=r)/\True)/\(L7 x_1.1 x_1.2==(0:Int))=p.2/\True)/\True)/\(Y8 Z5 q.sl p.1.sl)/\True)) ⟨Z4 (by omega),(d,1+no),⟨⟨uX _,by simp only;omega,trivial⟩,h1,by simp only;omega⟩,λh=>⟨(),A7,?_⟩,λh=>⟨by unfold Lt;simp only;omega,((no:Int),U6 d (1+no)),⟨⟨rfl,rfl,trivial⟩,h4⟩,?_⟩⟩,rfl,t4 _⟩
 ·have h:U6 d (1+no)=[]:=by simpa using h
  have e:T0 d no=(⟨0,[[],[],[],[]]⟩,true):=by unfold T0;rw[if_pos h]
  rw[e];exact(by repeat' first|exact trivial|exact rfl|exact Z2 _ _|exact U2 _|exact V7|exact S8 _|exact W4 _|exact S7 _|refine And.intro ?_ ?_)
 ·have h:U6 d (1+no)≠[]:=by simpa using h
  have e:T0 d no=(P3 no (U6 d (1+no)),(I7 no (U6 d (1+no))).2):=by unfold T0;rw[if_neg h]
  rw[e];exact⟨⟨⟨(by repeat' first|exact trivial|exact rfl|exact Z2 _ _|exact U2 _|exact V7|exact S8 _|exact W4 _|exact S7 _|refine And.intro ?_ ?_),eK _ _,trivial⟩,trivial⟩,⟨rfl,Z2 _ _⟩,trivial⟩
end Go.Proofs.YtghgljelnhfihaaGreat

namespace Go.Proofs.YtghgljelnhfihaaGreat
set_option maxRecDepth 100000
open Go.SS

structure SInv(s:Sto):Prop where
 sm:SmS s
 c:s.d.C.length<=500
 pd:iE s.d
 n69:s.d.E.length=69
 su:0<=s.S/\s.S<=s.L.length
 l60:s.L.length<=60
 rc:u9 s.L=true
 fr3:s.fr.length<=3
 frp:∀i,i<s.fr.length->0<=(s.fr.getD i dz).no/\(s.fr.getD i dz).no<=7/\eB (s.fr.getD i dz).pg/\(s.fr.getD i dz).pg.Q<=s.L.length
 hd:0<=s.J/\s.J<=2
 pg:∀no,no<8->(T6 s.d no).2=true/\(U6 s.d (1+no)).length<=1000
theorem SInv.flu{s:Sto}(h:SInv s){lsn:Int}(hl:lsn<=s.L.length):wU s lsn:=
 ⟨h.sm.1,by have:=h.c;omega,h.pd,h.n69,h.su.1,h.su.2,h.l60,hl,λi hi=>by
  obtain⟨a,b⟩:=J6.1 h.rc i hi;exact⟨b,a5D a⟩⟩
theorem a5W{s:Sto}(h:J8 s=true)(hm:SmS s):SInv s:=by
 obtain⟨⟨h1,h2,h3⟩,_,h4,h5,h6⟩:=(M2 s).1 h;obtain⟨c1,c2,_,_,c5⟩:=(B7 s).1 h1;have hf:=b6A (lsn:=0) h (by omega) hm
 have h3:=sU h3;have h6:=sU h6;unfold j3 at h5;simp only[L3,xP,Q8,k4] at h5;refine⟨hm,c1.2.2.1,hf.2.2.1,c2,h3,c5,h2,by omega,λi hi=> ?_,h6,λno hn=>⟨?_,?_⟩⟩
 ·have hb:=h5.1 i hi;unfold i7 at hb;simp only[yP,yT,rX] at hb;obtain⟨⟨⟨⟨⟨b1,_⟩,b3⟩,b4⟩,_⟩,_⟩:=hb;have b1:=sU b1;have b3:eB (s.fr.getD i dz).pg:=C7 b3;exact⟨b1.1,b1.2,b3,by omega⟩
 ·have hb:=h4 no hn;unfold l9 at hb;simp only[yP,yT] at hb;exact hb.1
 ·have:=pY c1 (at_:=1+no) (by omega)
  omega
def E8(d:Dsk):Dsk×Bool:=if 500<=d.C.length then V6 d else(d,true)
def nU(f:Frm):Frm:=⟨f.no,f.pg,false,0⟩
def wrF(a:Sto)(k:Nat):Sto:=⟨wrD a.d (1+(a.fr.getD k dz).no) (S6 (a.fr.getD k dz).no (a.fr.getD k dz).pg),a.ep,a.L,a.S,a.fr.set k (nU (a.fr.getD k dz)),a.J⟩
def Y4(s:Sto)(k:Nat):Sto×Bool:=if(s.fr.getD k dz).D=true then
  if(X7 s (s.fr.getD k dz).pg.Q).2=true then
   if(E8 (X7 s (s.fr.getD k dz).pg.Q).1.d).2=true then(wrF ((X7 s (s.fr.getD k dz).pg.Q).1.sd (E8 (X7 s (s.fr.getD k dz).pg.Q).1.d).1) k,true)
   else((X7 s (s.fr.getD k dz).pg.Q).1.sd (E8 (X7 s (s.fr.getD k dz).pg.Q).1.d).1,false)
  else((X7 s (s.fr.getD k dz).pg.Q).1,false)
 else(s,true)
def b1F:Con:=.reff ⟨Sto×Nat×Nat,λx=>[.ref 0 0 0,.int .i64 x.2.1],λx=>x.1.bx x.2.2,λx=>.bool (Y4 x.1 x.2.1).2,λx=>(Y4 x.1 x.2.1).1.bxY x.2.2,λx=>SInv x.1/\x.2.1<x.1.fr.length⟩
theorem dH(s:Sto)(l:Int):(X7 s l).1.fr=s.fr:=by
 by_cases h:l<=s.S
 ·rw[q7 h]
 ·rw[j6 h]
theorem o9(d:Dsk):(V6 d).1.C=[]:=by
 unfold V6;split<;>rfl
theorem b3R{d:Dsk}(h:d.C=[]):iE d:=λi hi=>by rw[h] at hi;exact absurd hi (J5 _)
theorem aQ{s:Sto}{l:Int}(h:iE s.d):iE (X7 s l).1.d:=by
 by_cases hl:l<=s.S
 ·rw[q7 hl];exact h
 ·rw[j6 hl];exact b3R (o9 _)
theorem a1F{s:Sto}{l:Int}(h:s.d.C.length<=500):(X7 s l).1.d.C.length<=500:=by
 by_cases hl:l<=s.S
 ·rw[q7 hl];exact h
 ·rw[j6 hl];dsimp only;rw[o9];exact S7 _
theorem zQ{s:Sto}{k:Nat}(h:(s.fr.getD k dz).D=false):Y4 s k=(s,true):=by
 unfold Y4;rw[if_neg (by rw[h];simp)]
theorem uF{s:Sto}{k:Nat}(h:(s.fr.getD k dz).D=true)(hu:(X7 s (s.fr.getD k dz).pg.Q).2=false):Y4 s k=((X7 s (s.fr.getD k dz).pg.Q).1,false):=by
 unfold Y4;rw[if_pos h,if_neg (by rw[hu];simp)]
theorem qT{s:Sto}{k:Nat}(h:(s.fr.getD k dz).D=true)(hu:(X7 s (s.fr.getD k dz).pg.Q).2=true)(hb:(E8 (X7 s (s.fr.getD k dz).pg.Q).1.d).2=false):Y4 s k=((X7 s (s.fr.getD k dz).pg.Q).1.sd (E8 (X7 s (s.fr.getD k dz).pg.Q).1.d).1,false):=by
 unfold Y4;rw[if_pos h,if_pos hu,if_neg (by rw[hb];simp)]
theorem oX{s:Sto}{k:Nat}(h:(s.fr.getD k dz).D=true)(hu:(X7 s (s.fr.getD k dz).pg.Q).2=true)(hb:(E8 (X7 s (s.fr.getD k dz).pg.Q).1.d).2=true):Y4 s k=(wrF ((X7 s (s.fr.getD k dz).pg.Q).1.sd (E8 (X7 s (s.fr.getD k dz).pg.Q).1.d).1) k,true):=by
 unfold Y4;rw[if_pos h,if_pos hu,if_pos hb]
theorem xI{d:Dsk}(h:500<=d.C.length):E8 d=V6 d:=if_pos h
theorem pA{d:Dsk}(h:¬500<=d.C.length):E8 d=(d,true):=if_neg h
theorem b3C{L:List Frm}{k:Nat}(hk:k<L.length):T9 L.length (setRow (setRow (Y2 L) k 3 [T.bool false]) k 4 [T.int IntKind.i64 0]) (Y2 (L.set k (nU (L.getD k dz)))):=a32 λi _=>by
 have hl:∀j,(Y2 L j).length=5:=λ_=>rfl
 by_cases h:i=k
 ·subst h;have e:(L.set i (nU (L.getD i dz))).getD i dz=nU (L.getD i dz):=by rw[P8,j_j hk];rfl
  unfold setRow;rw[lF rfl];unfold Y2;rw[e];rfl
 ·have e:(L.set k (nU (L.getD k dz))).getD i dz=L.getD i dz:=by rw[P8,aP (Ne.symm h),←P8]
  rw[M8 (by rw[T7 (by rw[hl];decide),hl];decide) h,M8 (by rw[hl];decide) h]
  unfold Y2;rw[e]
theorem dN:GK 220 b1F:=gk Tryz.func220<|by
 rintro⟨s,k,v⟩ ⟨h,hk⟩;dsimp only at h hk;have hfp:=h.frp k hk;have hf:=h.flu hfp.2.2.2;have hfr:=dH s (s.fr.getD k dz).pg.Q;have hS:=iT hf h.sm;have hP:=aQ (l:=(s.fr.getD k dz).pg.Q) h.pd;have hc5:=a1F (l:=(s.fr.getD k dz).pg.Q) h.c;have o1:= @uF s k;have o2:= @qT s k;have o3:= @oX s k;refine v8 (gC b2D (gC a6f (gC a0m (gC a2B gN)))) Tryz.func220 Y5 [[.box 0,.arr 1,.arr 2,.arr 3,.arr 4,.arr 5,.arr 11,.arr 9],[.box 0,.arr 1,.arr 2,.arr 3,.arr 4,.arr 5,.arr 9,.arr 7],[.box 0,.arr 1,.arr 2,.arr 3,.arr 4,.arr 5,.arr 8,.arr 9],[.box 0,.arr 1,.arr 2,.arr 3,.arr 4,.arr 5,.arr 6,.arr 7],[.box 0,.arr 1,.arr 2,.arr 3,.arr 4,.arr 5,.arr 2,.arr 3]] (α:=let ps:=(Y4 s k).1.J;let pr:=(Y4 s k).1.S;let pq:=(Y4 s k).1.ep;let pp:=(false=(Y4 s k).2/\True);let po:=(0=0/\0=0);let pn:=(Y4 s k).1.d.A;let ph:=(Y4 s k).1.L.length;let pd:=(Y4 s k).1.d.C.length;let pc:=(Y4 s k).1.d.E.length;let pb:=(Y4 s k).1.L;let t:=(true=(Y4 s k).2/\True);let l:=(Y4 s k).1.d.keep.length;let i:=(Y4 s k).1.d.C;let c:=(Y4 s k).1.d.E;let a:=(Y4 s k).1.d.keep;let g:=(Y2 (Y4 s k).1.fr);let u:=(Y4 s k).1.fr.length;let p:=(0+(k:Int).toNat);let pk:=(s.fr.getD p dz);V3 (k:Int) s.fr.length/\Lt p s.fr.length/\((! pk.D)=true->t/\(1=1/\1=1/\oE s (Y4 s k).1)/\(Y8 Z5 s.d.E c)/\True/\True/\(Y8 Y3 s.L pb)/\(v=v/\s.fr.length=u/\T9 s.fr.length (Y2 s.fr) g)/\(Y8 Y9 s.d.C i)/\(Y8 Y6 s.d.keep a)/\True)/\((! pk.D)=false->Lt p s.fr.length/\∃(x:(Sto×Int×Nat)),let q:=(X7 x.1 x.2.1);let pj:=q.1.fr.length;let j:=(q.1.fr.getD p dz);let r:=((↑q.1.d.C.length:Int)≥(500:Int));((po/\pk.pg.Q=x.2.1/\True)/\((1=1/\1=1/\oE s x.1)/\EqH (v) (x.2.2) s x.1)/\wU x.1 x.2.1)/\∃(x_1:(Sto×Nat)),let m:=x_1.1;let b:=m.fr.length;let y:=(m.fr.getD p dz);let z:=(V6 m.d);let n:=(! q.2||decide r&& ! z.2);((! q.2)=false->decide r=true->(po/\True)/\((1=1/\1=1/\oE q.1 m)/\EqH (x.2.2) (x_1.2) q.1 m)/\nD m.d/\iE m.d)/\((! q.2)=false->decide r=true->(n=true->pp/\(1=1/\1=1/\(0=0/\z.1.E.length=pc)/\(0=0/\z.1.C.length=pd)/\z.1.A=pn/\(0=0/\z.1.keep.length=l)/\m.ep=pq/\(0=0/\m.L.length=ph)/\m.S=pr/\(0=0/\b=u)/\m.J=ps/\True)/\(Y8 Z5 z.1.E c)/\True/\True/\(Y8 Y3 m.L pb)/\(x_1.2=v/\b=u/\T9 m.fr.length (Y2 m.fr) g)/\(Y8 Y9 z.1.C i)/\(Y8 Y6 z.1.keep a)/\True)/\(n=false->Lt p b/\W7 .i64 (1+y.no)/\Lt p b/\Lt p b/\∃(x:(Int×Pg)),let pi:=(S6 x.1 x.2).length;(PoB x_1.2 x_1.2 p m.fr.length y.pg.sl.length y.pg.sl.length/\(y.no=x.1/\(y.pg.Q=x.2.Q/\(Y8 Z5 y.pg.sl x.2.sl)/\True)/\True)/\eB x.2)/\Le (0+pi) pi/\∃(x_2:(Sto×Int×List UInt8×Nat)),let w:=x_2.1;let pm:=w.fr.length;let pe:=(w.d.C++[Pend.mk x_2.2.1 x_2.2.2.1]);((po/\1+y.no=x_2.2.1/\List.take pi (List.drop 0 (S6 x.1 x.2))=x_2.2.2.1/\True)/\((1=1/\1=1/\(0=0/\z.1.E.length=w.d.E.length)/\(0=0/\z.1.C.length=w.d.C.length)/\z.1.A=w.d.A/\(0=0/\z.1.keep.length=w.d.keep.length)/\m.ep=w.ep/\(0=0/\m.L.length=w.L.length)/\m.S=w.S/\(0=0/\b=pm)/\m.J=w.J/\True)/\(Y8 Z5 z.1.E w.d.E)/\(Y8 Y9 z.1.C w.d.C)/\(Y8 Y6 z.1.keep w.d.keep)/\(Y8 Y3 m.L w.L)/\(x_1.2=x_2.2.2.2/\b=pm/\T9 m.fr.length (Y2 m.fr) (Y2 w.fr))/\True)/\w.d.C.length<=1048576)/\bS p w.fr.length [T.bool (w.fr.getD p dz).D]/\bS p w.fr.length [T.int .i64 (w.fr.getD p dz).first]/\t/\(1=1/\1=1/\(0=0/\w.d.E.length=pc)/\(0=0/\pe.length=pd)/\w.d.A=pn/\(0=0/\w.d.keep.length=l)/\w.ep=pq/\(0=0/\w.L.length=ph)/\w.S=pr/\(0=0/\pm=u)/\w.J=ps/\True)/\(Y8 Z5 w.d.E c)/\True/\True/\(Y8 Y3 w.L pb)/\(x_2.2.2.2=v/\pm=u/\T9 w.fr.length (setRow (setRow (Y2 w.fr) p 3 [T.bool false]) p 4 [T.int .i64 0]) g)/\(Y8 Y9 pe i)/\(Y8 Y6 w.d.keep a)/\True))/\(((! q.2)=false->decide r=true->False)->(n=true->pp/\(1=1/\1=1/\oE q.1 (Y4 s k).1)/\(Y8 Z5 q.1.d.E c)/\True/\True/\(Y8 Y3 q.1.L pb)/\(x.2.2=v/\pj=u/\T9 q.1.fr.length (Y2 q.1.fr) g)/\(Y8 Y9 q.1.d.C i)/\(Y8 Y6 q.1.d.keep a)/\True)/\(n=false->Lt p pj/\W7 .i64 (1+j.no)/\Lt p pj/\Lt p pj/\∃(x_2:(Int×Pg)),let pa:=(S6 x_2.1 x_2.2).length;(PoB x.2.2 x.2.2 p q.1.fr.length j.pg.sl.length j.pg.sl.length/\(j.no=x_2.1/\(j.pg.Q=x_2.2.Q/\(Y8 Z5 j.pg.sl x_2.2.sl)/\True)/\True)/\eB x_2.2)/\Le (0+pa) pa/\∃(x_3:(Sto×Int×List UInt8×Nat)),let f:=x_3.1;let pf:=(f.d.C++[Pend.mk x_3.2.1 x_3.2.2.1]);((po/\1+j.no=x_3.2.1/\List.take pa (List.drop 0 (S6 x_2.1 x_2.2))=x_3.2.2.1/\True)/\((1=1/\1=1/\oE q.1 f)/\EqH (x.2.2) (x_3.2.2.2) q.1 f)/\f.d.C.length<=1048576)/\bS p f.fr.length [T.bool (f.fr.getD p dz).D]/\bS p f.fr.length [T.int .i64 (f.fr.getD p dz).first]/\t/\(1=1/\1=1/\(0=0/\f.d.E.length=pc)/\(0=0/\pf.length=pd)/\f.d.A=pn/\(0=0/\f.d.keep.length=l)/\f.ep=pq/\(0=0/\f.L.length=ph)/\f.S=pr/\(0=0/\f.fr.length=u)/\f.J=ps/\True)/\(Y8 Z5 f.d.E c)/\True/\True/\(Y8 Y3 f.L pb)/\(x_3.2.2.2=v/\f.fr.length=u/\T9 f.fr.length (setRow (setRow (Y2 f.fr) p 3 [T.bool false]) p 4 [T.int .i64 0]) g)/\(Y8 Y9 pf i)/\(Y8 Y6 f.d.keep a)/\True)))) ?_
 rw[F5,show 0+k=k from G9 k]
 refine⟨X8 hk,hk,λhd=> ?_,λhd=>⟨hk,(s,(s.fr.getD k dz).pg.Q,v),⟨⟨Z8,Z9⟩,⟨⟨rfl,rfl,Z8,Z8,rfl,Z8,rfl,Z8,rfl,Z8,Z9⟩,Z7,Z7,Z7,Z7,Q2,trivial⟩,hf⟩,((X7 s (s.fr.getD k dz).pg.Q).1,v),λ_ _=>⟨(by repeat' first|exact trivial|exact rfl|exact Z2 _ _|exact U2 _|exact V7|exact S8 _|exact W4 _|exact S7 _|refine And.intro ?_ ?_),⟨⟨rfl,rfl,⟨rfl,rfl⟩,⟨rfl,rfl⟩,rfl,⟨rfl,rfl⟩,rfl,⟨rfl,rfl⟩,rfl,⟨rfl,rfl⟩,rfl,trivial⟩,⟨rfl,Z2 _ _⟩,⟨rfl,Z2 _ _⟩,⟨rfl,Z2 _ _⟩,⟨rfl,Z2 _ _⟩,⟨rfl,rfl,U2 _⟩,trivial⟩,hS.1,hP⟩,λhu hc=>⟨λhb=> ?_,λhb=> ?_⟩,λhn=>⟨λhb=> ?_,λhb=> ?_⟩⟩⟩
 ·rw[zQ (by simpa using hd)]
  exact⟨Z9,⟨rfl,rfl,Z8,Z8,rfl,Z8,rfl,Z8,rfl,Z8,Z9⟩,Z7,trivial,trivial,Z7,Q2,Z7,X5⟩
 all_goals
  have hd:(s.fr.getD k dz).D=true:=by simpa using hd
  replace o1:=o1 hd;replace o2:=o2 hd;replace o3:=o3 hd;dsimp only at*;generalize X7 s (s.fr.getD k dz).pg.Q=A at*;obtain⟨a,up⟩:=A;dsimp only at*;rw[←hfr] at hk hfp
 ·have hu:up=true:=(yT _).mp hu;subst hu;have hc:500<=a.d.C.length:=by have:=C7 hc;omega
  have hb:(V6 a.d).2=false:=by simp at hb;exact hb.2
  rw[o2 rfl (by rw[xI hc];exact hb),xI hc]
  exact⟨Z9,⟨rfl,rfl,Z8,Z8,rfl,Z8,rfl,Z8,rfl,Z8,Z9⟩,Z7,trivial,trivial,Z7,Q2,Z7,X5⟩
 ·have hu:up=true:=(yT _).mp hu;subst hu;have hb:(V6 a.d).2=true:=by rw[hc] at hb;simpa using hb
  have hc:500<=a.d.C.length:=by have:=C7 hc;omega
  rw[o3 rfl (by rw[xI hc];exact hb),xI hc]
  exact⟨hk,Z4 (by omega),hk,hk,((a.fr.getD k dz).no,(a.fr.getD k dz).pg),⟨⟨rfl,hk,W4 _⟩,⟨rfl,⟨rfl,X5⟩,trivial⟩,hfp.2.2.1⟩,S8 _,(a.sd (V6 a.d).1,1+(a.fr.getD k dz).no,S6 (a.fr.getD k dz).no (a.fr.getD k dz).pg,v),⟨⟨Z8,rfl,by rw[List.drop_zero,nJ],trivial⟩,⟨⟨rfl,rfl,⟨rfl,rfl⟩,⟨rfl,rfl⟩,rfl,⟨rfl,rfl⟩,rfl,⟨rfl,rfl⟩,rfl,⟨rfl,rfl⟩,rfl,trivial⟩,⟨rfl,Z2 _ _⟩,⟨rfl,Z2 _ _⟩,⟨rfl,Z2 _ _⟩,⟨rfl,Z2 _ _⟩,⟨rfl,rfl,U2 _⟩,trivial⟩,by show(V6 a.d).1.C.length<=_;rw[o9];exact S7 _⟩,⟨hk,rfl⟩,⟨hk,rfl⟩,Z9,⟨rfl,rfl,Z8,Z8,rfl,Z8,rfl,Z8,rfl,⟨rfl,B1.symm⟩,Z9⟩,Z7,trivial,trivial,Z7,⟨rfl,B1.symm,b3C hk⟩,Z7,X5⟩
 ·cases up with
  |false=>
   rw[o1 rfl];exact⟨Z9,⟨rfl,rfl,Z8,Z8,rfl,Z8,rfl,Z8,rfl,Z8,Z9⟩,Z7,trivial,trivial,Z7,Q2,Z7,X5⟩
  |true=>
   have:decide ((a.d.C.length:Int)≥500)=false:=by
    cases hd:decide ((a.d.C.length:Int)≥500) with
    |false=>rfl
    |true=>exact(hn rfl hd).elim
   rw[this] at hb;simp at hb
 ·have hu:up=true:=by cases up<;>simp at hb ⊢
  subst hu;have hc:¬500<=a.d.C.length:=λhc=>hn rfl (pO (by omega))
  rw[o3 rfl (by rw[pA hc]),pA hc]
  exact⟨hk,Z4 (by omega),hk,hk,((a.fr.getD k dz).no,(a.fr.getD k dz).pg),⟨⟨rfl,hk,W4 _⟩,⟨rfl,⟨rfl,X5⟩,trivial⟩,hfp.2.2.1⟩,S8 _,(a,1+(a.fr.getD k dz).no,S6 (a.fr.getD k dz).no (a.fr.getD k dz).pg,v),⟨⟨Z8,rfl,by rw[List.drop_zero,nJ],trivial⟩,⟨⟨rfl,rfl,⟨rfl,rfl⟩,⟨rfl,rfl⟩,rfl,⟨rfl,rfl⟩,rfl,⟨rfl,rfl⟩,rfl,⟨rfl,rfl⟩,rfl,trivial⟩,⟨rfl,Z2 _ _⟩,⟨rfl,Z2 _ _⟩,⟨rfl,Z2 _ _⟩,⟨rfl,Z2 _ _⟩,⟨rfl,rfl,U2 _⟩,trivial⟩,by show a.d.C.length<=_;omega⟩,⟨hk,rfl⟩,⟨hk,rfl⟩,⟨rfl,trivial⟩,⟨rfl,rfl,⟨rfl,rfl⟩,⟨rfl,rfl⟩,rfl,⟨rfl,rfl⟩,rfl,⟨rfl,rfl⟩,rfl,⟨rfl,B1.symm⟩,rfl,trivial⟩,⟨rfl,Z2 _ _⟩,trivial,trivial,⟨rfl,Z2 _ _⟩,⟨rfl,B1.symm,b3C hk⟩,⟨rfl,Z2 _ _⟩,⟨rfl,Z2 _ _⟩,trivial⟩
end Go.Proofs.YtghgljelnhfihaaGreat

namespace Go.Proofs.YtghgljelnhfihaaGreat
set_option maxRecDepth 100000
open Go.SS

theorem kX(L D:List Pend)(a:Int):∀i,i<=L.length->L0 (L++D) a i=L0 L a i
 |0,_=>rfl
 |i+1,h=>by
  unfold L0;rw[show(L++D).getD i dz=L.getD i dz by rw[P8,tX (by omega),←P8],kX L D a i (by omega)]
theorem lD(d:Dsk)(a:Int)(t:List UInt8)(n:Nat):U6 (wrD d a t) n=if a=n then t else U6 d n:=by
 have e:(d.C++[(⟨a,t⟩:Pend)]).getD d.C.length dz=⟨a,t⟩:=by rw[P8,rK (W4 _)];simp
 have e2:L0 (d.C++[(⟨a,t⟩:Pend)]) n (d.C.length+1)=if a=n then some t else L0 d.C n d.C.length:=by
  conv=>lhs;unfold L0
  rw[e,kX _ _ _ _ (W4 _)]
 have e3:U6 (wrD d a t) n=(L0 (d.C++[(⟨a,t⟩:Pend)]) n (d.C.length+1)).getD (d.E.getD n []):=by
  unfold U6 wrD;dsimp only;rw[show(d.C++[(⟨a,t⟩:Pend)]).length=d.C.length+1 by simp]
 rw[e3,e2];split<;>rfl
theorem b2v{s:Sto}{l:Int}(h:wU s l){n:Nat}(hn:n<9):∀i,i<=O0 s l->U6 (sP s i) n=U6 s.d n
 |0,_=>by
  have:sP s 0=s.d:=by unfold sP;simp
  rw[this]
 |i+1,hi=>by
  have e:sP s (i+1)=wrD (sP s i) (sX s i).at_ (sX s i).d:=by
   unfold sP wrD;dsimp only;rw[←yR]
  obtain⟨e2,_,_⟩:=pD h (i:=i) (by omega)
  have h0:=h.2.2.2.2.1;rw[e,lD,if_neg (by rw[e2];omega),b2v h hn i (by omega)]
theorem a68{sec:List (List UInt8)}{C:List Pend}{n:Nat}(hn:n<sec.length)(hp:∀i,i<C.length->0<=(C.getD i dz).at_):∀i,i<=C.length->(k6 sec C (λ_=>true) i).getD n []=(L0 C n i).getD (sec.getD n [])
 |0,_=>rfl
 |i+1,hi=>by
  have ih:=a68 hn hp i (by omega)
  have h0:=hp i (by omega)
  rw[b61 rfl];unfold L0;by_cases h:(C.getD i dz).at_=n
  ·rw[if_pos h,show(C.getD i dz).at_.toNat=n by omega,P8,j_j (by rw[F2];exact hn)]
   rfl
  ·rw[if_neg h,P8,aP (by omega),←P8,ih]
theorem b64{d:Dsk}(h:(V6 d).2=true):V6 d=(⟨k6 d.E d.C (λ_=>true) d.C.length,[],d.A,d.keep⟩,true):=by
 unfold V6 at h ⊢;split at h
 ·cases h
 ·rw[if_neg (by assumption)]
theorem a3M{d:Dsk}{n:Nat}(h:(V6 d).2=true)(hp:iE d)(hn:n<d.E.length):U6 (V6 d).1 n=U6 d n:=by
 rw[b64 h];exact a68 hn (λi hi=>(hp i hi).1) _ (W4 _)
theorem b93{s:Sto}{l:Int}(h:wU s l)(hu:(X7 s l).2=true){n:Nat}(hn:n<9):U6 (X7 s l).1.d n=U6 s.d n:=by
 by_cases hl:l<=s.S
 ·rw[q7 hl]
 ·rw[j6 hl] at hu ⊢;have:=h.2.2.2.1;rw[a3M hu (cP h).2 (show n<s.d.E.length by omega),b2v h hn _ (W4 _)]
theorem b37{d:Dsk}{n:Nat}(h:(E8 d).2=true)(hp:iE d)(hn:n<d.E.length):U6 (E8 d).1 n=U6 d n:=by
 by_cases hc:500<=d.C.length
 ·rw[xI hc] at h ⊢;exact a3M h hp hn
 ·rw[pA hc]
theorem a0f(d:Dsk):(V6 d).1.E.length=d.E.length:=by
 unfold V6;split
 ·exact F2 _ _ _ _
 ·exact F2 _ _ _ _
theorem a67(s:Sto)(l:Int):(X7 s l).1.d.E.length=s.d.E.length:=by
 by_cases hl:l<=s.S
 ·rw[q7 hl]
 ·rw[j6 hl];exact a0f _
theorem pZ(s:Sto)(l:Int):(X7 s l).1.fr=s.fr/\(X7 s l).1.J=s.J/\(X7 s l).1.L=s.L/\(X7 s l).1.ep=s.ep:=by
 by_cases h:l<=s.S
 ·rw[q7 h];exact⟨rfl,rfl,rfl,rfl⟩
 ·rw[j6 h];exact⟨rfl,rfl,rfl,rfl⟩
theorem a2h(d:Dsk):(E8 d).1.E.length=d.E.length:=by
 unfold E8;split
 ·exact a0f d
 ·rfl
theorem a40{d:Dsk}(h:d.C.length<=500):(E8 d).1.C.length<=499:=by
 unfold E8;split
 ·rw[o9];exact S7 _
 ·dsimp only;omega
theorem w7(s:Sto)(k:Nat):(Y4 s k).1.fr.length=s.fr.length/\(Y4 s k).1.J=s.J/\(Y4 s k).1.L=s.L/\(Y4 s k).1.ep=s.ep/\(Y4 s k).1.d.E.length=s.d.E.length:=by
 obtain⟨h1,h2,h3,h4⟩:=pZ s (s.fr.getD k dz).pg.Q;have h5:=a67 s (s.fr.getD k dz).pg.Q;unfold Y4;split
 ·split
  ·split
   ·exact⟨by show(List.set _ _ _).length=_;rw[B1];exact congrArg List.length h1,h2,h3,h4,by show(E8 _).1.E.length=_;rw[a2h,h5]⟩
   ·exact⟨congrArg List.length h1,h2,h3,h4,by show(E8 _).1.E.length=_;rw[a2h,h5]⟩
  ·exact⟨congrArg List.length h1,h2,h3,h4,h5⟩
 ·exact⟨rfl,rfl,rfl,rfl,rfl⟩
theorem a2H{s:Sto}{k no:Nat}(h:SInv s)(hk:k<s.fr.length)(hno:no<8)(hne:(s.fr.getD k dz).no≠no)(hu:(Y4 s k).2=true):U6 (Y4 s k).1.d (1+no)=U6 s.d (1+no)/\(Y4 s k).1.d.C.length<=500:=by
 have hf:=h.flu (h.frp k hk).2.2.2;have h0:=(h.frp k hk).1;have hfr:=dH s (s.fr.getD k dz).pg.Q;have hc:=a1F (l:=(s.fr.getD k dz).pg.Q) h.c;have hp:=aQ (l:=(s.fr.getD k dz).pg.Q) h.pd;have hs:=a67 s (s.fr.getD k dz).pg.Q;have h69:=h.n69;by_cases hd:(s.fr.getD k dz).D=true
 ·by_cases hf2:(X7 s (s.fr.getD k dz).pg.Q).2=true
  ·by_cases h5:(E8 (X7 s (s.fr.getD k dz).pg.Q).1.d).2=true
   ·rw[oX hd hf2 h5];refine⟨?_,?_⟩
    ·show U6 (wrD _ (1+((X7 s _).1.fr.getD k dz).no) _) (1+no)=_;rw[hfr,lD,if_neg (by omega)]
     exact(b37 h5 hp (by omega)).trans (b93 hf hf2 (by omega))
    ·have:=a40 hc;show((E8 _).1.C++[_]).length<=500;rw[K6];simp only[List.length_cons,List.length_nil];omega
   ·rw[qT hd hf2 (by simpa using h5)] at hu
    cases hu
  ·rw[uF hd (by simpa using hf2)] at hu
   cases hu
 ·rw[zQ (by simpa using hd)]
  exact⟨rfl,h.c⟩
theorem vW{L:List Frm}{no:Int}(h:0<=frAt L no):(frAt L no).toNat<L.length:=by
 unfold frAt P9 at h ⊢;split at h
 ·rename_i i hi;have:=List.mem_range.1 (List.mem_of_find?_eq_some hi)
  simpa using this
 ·omega
theorem cV{L:List Frm}{no:Int}(h:¬0<=frAt L no){i:Nat}(hi:i<L.length):(L.getD i dz).no≠no:=by
 have e:=A5 L.length (pB L no);rw[show P9 L.length (pB L no)=frAt L no from rfl,uV h] at e
 have:=Q8.1 e.symm i hi;unfold pB at this
 simpa using this
theorem y9{d d':Dsk}{no:Nat}(h:U6 d (1+no)=U6 d' (1+no)):T6 d no=T6 d' no/\T0 d no=T0 d' no:=by
 unfold T6 T0;rw[h];exact Z8
def d8(no:Nat)(p:Pg):Frm:=⟨no,p,false,0⟩
noncomputable def a6I(a:Sto)(k no:Nat):Sto:=⟨a.d,a.ep,a.L,a.S,a.fr.set k (d8 no (T6 a.d no).1),(a.J+1).tmod 3⟩
noncomputable def a4N(a:Sto)(no:Nat):Sto:=⟨a.d,a.ep,a.L,a.S,a.fr++[d8 no (T6 a.d no).1],a.J⟩
noncomputable def Z1(s:Sto)(no:Nat):Sto×Nat×Bool:=if 0<=frAt s.fr no then(s,(frAt s.fr no).toNat,true)
 else if s.fr.length=3 then
  if(Y4 s s.J.toNat).2=true then(a6I (Y4 s s.J.toNat).1 s.J.toNat no,s.J.toNat,true) else((Y4 s s.J.toNat).1,0,false)
 else(a4N s no,s.fr.length,true)
noncomputable def z7(s:Sto)(no v:Nat):Nat:=if 0<=frAt s.fr no then v
 else if s.fr.length=3 then
  if(Y4 s s.J.toNat).2=true then v+1 else v
 else 1
def Sto.bxF(s:Sto)(v:Nat):Y1:=[sO (s.tn 1 6 7 4 8),A1 s.d.E,none,none,b9 s.L,none,C8 s.d.C,x7 s.d.keep,vL v s.fr s.fr.length]
def jJ(s:Sto)(no:Nat):Prop:=SInv s/\no<8
noncomputable def b2m:Con:=.reff ⟨Sto×Nat×Nat,λx=>[.ref 0 0 0,.int .i64 x.2.1],λx=>x.1.bx x.2.2,λx=>.ref 8 (Z1 x.1 x.2.1).2.1 0,λx=>(Z1 x.1 x.2.1).1.bxF (z7 x.1 x.2.1 x.2.2),λx=>jJ x.1 x.2.1/\(Z1 x.1 x.2.1).2.2=true⟩
noncomputable def b3d:Con:=.reff ⟨Sto×Nat×Nat,λx=>[.ref 0 0 0,.int .i64 x.2.1],λx=>x.1.bx x.2.2,λ_=>.v (.pointer none),λx=>(Z1 x.1 x.2.1).1.bxF (z7 x.1 x.2.1 x.2.2),λx=>jJ x.1 x.2.1/\(Z1 x.1 x.2.1).2.2=false⟩
theorem b4a{L:List Frm}{k:Nat}(f:Frm)(hk:k<L.length):T9 L.length (setRow (Y2 L) (0+k) 0 [T.int IntKind.i64 f.no,T.int IntKind.i64 f.pg.Q,T.own 0 1 f.pg.sl.length (Z5 f.pg.sl),T.bool f.D,T.int IntKind.i64 f.first]) (Y2 (L.set k f)):=a32 λi _=>by
 have hl:∀j,(Y2 L j).length=5:=λ_=>rfl
 rw[G9,m5 (by rw[hl];rfl)]
 by_cases h:i=k
 ·subst h;rw[lF rfl];unfold Y2;rw[show(L.set i f).getD i dz=f by rw[P8,j_j hk];rfl]
 ·rw[b2I h];unfold Y2;rw[show(L.set k f).getD i dz=L.getD i dz by rw[P8,aP (Ne.symm h),←P8]]
theorem b58{L:List Frm}(f:Frm)(r:Nat->List T)(hr:(r 0).length=5):T9 (L.length+1) (setRow (X3 (Y2 L) L.length r) (0+(L.length:Int).toNat) 0 [T.int IntKind.i64 f.no,T.int IntKind.i64 f.pg.Q,T.own 0 1 f.pg.sl.length (Z5 f.pg.sl),T.bool f.D,T.int IntKind.i64 f.first]) (Y2 (L++[f])):=a32 λi hi=>by
 rw[F5,G9];have hl:(X3 (Y2 L) L.length r i).length=5:=by
  unfold X3;by_cases h:i<L.length
  ·rw[uY h];rfl
  ·rw[sW h,show i-L.length=0 by omega]
   exact hr
 rw[m5 (by rw[hl];rfl)]
 by_cases h:i=L.length
 ·subst h;rw[lF rfl];unfold Y2;rw[show(L++[f]).getD L.length dz=f by rw[P8,rK (W4 _)];simp]
 ·rw[b2I h];unfold X3;rw[uY (by omega)]
  unfold Y2;rw[show(L++[f]).getD i dz=L.getD i dz by rw[P8,tX (by omega),←P8]]
theorem g7{s:Sto}{no:Nat}(v:Nat)(h:0<=frAt s.fr no):Z1 s no=(s,(frAt s.fr no).toNat,true)/\z7 s no v=v:=⟨if_pos h,if_pos h⟩
theorem x5{s:Sto}{no:Nat}(v:Nat)(h:¬0<=frAt s.fr no)(h3:s.fr.length=3)(hu:(Y4 s s.J.toNat).2=true):Z1 s no=(a6I (Y4 s s.J.toNat).1 s.J.toNat no,s.J.toNat,true)/\z7 s no v=v+1:=by
 unfold Z1 z7;rw[if_neg h,if_pos h3,if_pos hu,if_neg h,if_pos h3,if_pos hu];exact Z8
theorem l6{s:Sto}{no:Nat}(v:Nat)(h:¬0<=frAt s.fr no)(h3:s.fr.length=3)(hu:(Y4 s s.J.toNat).2=false):Z1 s no=((Y4 s s.J.toNat).1,0,false)/\z7 s no v=v:=by
 have hu:¬ (Y4 s s.J.toNat).2=true:=by rw[hu];simp
 unfold Z1 z7;rw[if_neg h,if_pos h3,if_neg hu,if_neg h,if_pos h3,if_neg hu];exact Z8
theorem zW{s:Sto}{no:Nat}(v:Nat)(h:¬0<=frAt s.fr no)(h3:¬s.fr.length=3):Z1 s no=(a4N s no,s.fr.length,true)/\z7 s no v=1:=by
 unfold Z1 z7;rw[if_neg h,if_neg h3,if_neg h,if_neg h3];exact Z8
theorem dK{s:Sto}{no:Nat}(h:SInv s)(hno:no<8)(hc:¬0<=frAt s.fr no)(h3:s.fr.length=3)(hu:(Y4 s s.J.toNat).2=true):DkB ((Y4 s s.J.toNat).1.d,no)/\T0 (Y4 s s.J.toNat).1.d no=T6 (Y4 s s.J.toNat).1.d no/\(T6 (Y4 s s.J.toNat).1.d no).2=true:=by
 have hh:=h.hd;have hk:s.J.toNat<s.fr.length:=by omega
 obtain⟨p1,p2⟩:=a2H h hk hno (cV hc hk) hu;obtain⟨_,_,_,_,r5⟩:=w7 s s.J.toNat;have h69:=h.n69;obtain⟨g1,g2⟩:=h.pg no hno;obtain⟨c1,c2⟩:=y9 p1;refine⟨⟨by dsimp only;omega,by dsimp only;omega,by dsimp only;omega,by show(U6 _ _).length<=_;rw[p1];exact g2⟩,?_,by rw[c1];exact g1⟩
 rw[c1,c2];exact(kI s.d no).2 g1
theorem a6z{s:Sto}{no:Nat}(h:SInv s)(hno:no<8):DkB (s.d,no)/\T0 s.d no=T6 s.d no:=by
 have h69:=h.n69;have hc:=h.c;obtain⟨g1,g2⟩:=h.pg no hno;exact⟨⟨by dsimp only;omega,by dsimp only;omega,by dsimp only;omega,g2⟩,(kI s.d no).2 g1⟩
theorem a7R:GK 116 b2m:=gk Tryz.func116<|by
 rintro⟨s,no,v⟩ ⟨⟨h,hno⟩,hup⟩;dsimp only at h hno hup;have hL:O6 s.fr.length:=by have:=h.fr3;unfold O6;omega
 refine v8 (gC sJ (gC dN (gC gF gN))) Tryz.func116 Y5 [[.box 0,.arr 1,.arr 2,.arr 3,.arr 4,.arr 5,.arr 6,.arr 7,.arr 5],[.box 0,.arr 1,.arr 2,.arr 3,.arr 4,.arr 5,.arr 2,.arr 3,.arr 7],[.box 0,.arr 1,.arr 2,.arr 3,.arr 4,.arr 5,.arr 2,.arr 3,.arr 5]] (α:=let j:=(s.fr.length+1);let r:=(s.fr.length:Int);let q:=(Z1 s no);let n:=(Y2 q.1.fr);let y:=q.1.fr.length;let z:=q.1.d;let a:=(Y8 Y6 s.d.keep z.keep);∃(x:tM.ι),let g:=(frAt x.1.fr x.2≥(0:Int));((LeS s)/\((EqF s x.1)/\(no:Int)=x.2/\True)/\O6 x.1.fr.length)/\(decide g=true->V3 (frAt x.1.fr x.2) s.fr.length/\((0+(frAt x.1.fr x.2).toNat=q.2.1/\0=0)/\True)/\(1=1/\1=1/\oE s q.1)/\(Y8 Z5 s.d.E z.E)/\True/\True/\(Y8 Y3 s.L q.1.L)/\True/\(Y8 Y9 s.d.C z.C)/\a/\(v=z7 s no v/\s.fr.length=y/\T9 s.fr.length (Y2 s.fr) n)/\True)/\(decide g=false->((r==3)=true->∃(x:(Sto×Nat×Nat)),let p:=(Y4 x.1 x.2.1);let l:=p.1.fr;let i:=(Y8 Y3 p.1.L q.1.L);let f:=p.1.d;let c:=(Y8 Y6 f.keep z.keep);let w:=l.length;(((0=0/\0=0)/\s.J=(x.2.1:Int)/\True)/\((1=1/\1=1/\oE s x.1)/\EqH (v) (x.2.2) s x.1)/\SInv x.1/\x.2.1<x.1.fr.length)/\((! p.2)=true->(L4 (q9 [some 0,some 1,some 2,some 3,some 4,some 5,some 6,some 7,some 5]) (T.v (Value.pointer none)) (T.ref 8 q.2.1 0)/\True)/\(1=1/\1=1/\oE p.1 q.1)/\(Y8 Z5 f.E z.E)/\True/\True/\i/\True/\(Y8 Y9 f.C z.C)/\c/\(x.2.2=z7 s no v/\w=y/\T9 l.length (Y2 l) n)/\True)/\((! p.2)=false->W7 .i64 (p.1.J+1)/\Nz (3:Int)/\∃(x_1:(Dsk×Nat)),let u:=(T0 x_1.1 x_1.2);((LeS p.1)/\((yM p.1.d x_1.1)/\(no:Int)=(x_1.2:Int)/\True)/\DkB x_1)/\V3 s.J w/\(0+s.J.toNat<w/\Le u.1.sl.length u.1.sl.length)/\V3 s.J w/\((0+s.J.toNat=q.2.1/\0=0)/\True)/\(1=1/\1=1/\(0=0/\f.E.length=z.E.length)/\(0=0/\f.C.length=z.C.length)/\f.A=z.A/\(0=0/\f.keep.length=z.keep.length)/\p.1.ep=q.1.ep/\(0=0/\p.1.L.length=q.1.L.length)/\p.1.S=q.1.S/\(0=0/\w=y)/\(p.1.J+1).tmod (3:Int)=q.1.J/\True)/\(Y8 Z5 f.E z.E)/\True/\True/\i/\True/\(Y8 Y9 f.C z.C)/\c/\(x.2.2+1=z7 s no v/\w=y/\T9 l.length (setRow (Y2 l) (0+s.J.toNat) 0 [T.int .i64 (no:Int),T.int .i64 u.1.Q,T.own 0 1 u.1.sl.length (Z5 u.1.sl),T.bool false,T.int .i64 0]) n)/\True))/\((r==3)=false->(Le 1 1/\Le s.fr.length s.fr.length/\W6 s.fr.length 1 56)/\∃(x:(Dsk×Nat)),let b:=(T0 x.1 x.2);let m:=b.1.sl.length;((Le (0+s.d.E.length) s.d.E.length/\Le (0+s.d.C.length) s.d.C.length/\Le (0+s.d.keep.length) s.d.keep.length/\Le (0+s.L.length) s.L.length/\Le (0+j) j)/\((yM s.d x.1)/\(no:Int)=(x.2:Int)/\True)/\DkB x)/\V3 r j/\(0+r.toNat<s.fr.length+1/\Le m m)/\V3 r j/\((0+r.toNat=q.2.1/\0=0)/\True)/\(1=1/\1=1/\(0=0/\s.d.E.length=z.E.length)/\(0=0/\s.d.C.length=z.C.length)/\s.d.A=z.A/\(0=0/\s.d.keep.length=z.keep.length)/\s.ep=q.1.ep/\(0=0/\s.L.length=q.1.L.length)/\s.S=q.1.S/\(0=0/\s.fr.length+1=y)/\s.J=q.1.J/\True)/\(Y8 Z5 s.d.E z.E)/\True/\True/\(Y8 Y3 s.L q.1.L)/\True/\(Y8 Y9 s.d.C z.C)/\a/\(1=z7 s no v/\s.fr.length+1=y/\T9 j (setRow (X3 (Y2 s.fr) s.fr.length λ(k:Nat)=>List.take 5 (List.drop (k*5) [T.int .i64 0,T.int .i64 0,T.v (Value.slice none 0 0),T.bool false,T.int .i64 0])) (0+r.toNat) 0 [T.int .i64 (no:Int),T.int .i64 b.1.Q,T.own 0 1 m (Z5 b.1.sl),T.bool false,T.int .i64 0]) n)/\True))) ⟨(s,(no:Int)),⟨⟨S8 _,S8 _,S8 _,S8 _,S8 _⟩,⟨⟨Z7,Z7,rfl,Z7,rfl,Z7,rfl,⟨rfl,λ_ _=>rfl⟩,Z9⟩,Z9⟩,hL⟩,λhc=> ?_,λhc=>⟨λh3=> ?_,λh3=> ?_⟩⟩
 ·have hc:0<=frAt s.fr no:=C7 hc;obtain⟨e1,e2⟩:=g7 v hc;rw[e1,e2];exact⟨⟨hc,by have:=vW hc;show frAt s.fr no<_;omega⟩,⟨⟨G9 _,rfl⟩,trivial⟩,⟨rfl,rfl,⟨rfl,rfl⟩,⟨rfl,rfl⟩,rfl,⟨rfl,rfl⟩,rfl,⟨rfl,rfl⟩,rfl,⟨rfl,rfl⟩,rfl,trivial⟩,⟨rfl,Z2 _ _⟩,trivial,trivial,⟨rfl,Z2 _ _⟩,trivial,⟨rfl,Z2 _ _⟩,⟨rfl,Z2 _ _⟩,⟨rfl,rfl,U2 _⟩,trivial⟩
 ·have hc:¬0<=frAt s.fr no:=l7 hc;have h3:s.fr.length=3:=by have:=beq_iff_eq.1 h3;omega
  have hh:=h.hd;have hk:s.J.toNat<s.fr.length:=by omega
  obtain⟨r1,r2,_⟩:=w7 s s.J.toNat;refine⟨(s,s.J.toNat,v),⟨⟨Z8,by dsimp only;omega,trivial⟩,⟨⟨rfl,rfl,⟨rfl,rfl⟩,⟨rfl,rfl⟩,rfl,⟨rfl,rfl⟩,rfl,⟨rfl,rfl⟩,rfl,⟨rfl,rfl⟩,rfl,trivial⟩,⟨rfl,Z2 _ _⟩,⟨rfl,Z2 _ _⟩,⟨rfl,Z2 _ _⟩,⟨rfl,Z2 _ _⟩,⟨rfl,rfl,U2 _⟩,trivial⟩,h,hk⟩,λhu=> ?_,λhu=> ?_⟩
  ·have hu:(Y4 s s.J.toNat).2=false:=(xP _).mp hu;rw[(l6 v hc h3 hu).1] at hup;cases hup
  ·have hu:(Y4 s s.J.toNat).2=true:=(yT _).mp hu;obtain⟨e1,e2⟩:=x5 v hc h3 hu;obtain⟨d1,d2,_⟩:=dK h hno hc h3 hu;rw[e1,e2];refine⟨Z4 (by dsimp only;omega),by unfold Nz;omega,((Y4 s s.J.toNat).1.d,no),⟨⟨S8 _,S8 _,S8 _,S8 _,S8 _⟩,⟨uX _,rfl,trivial⟩,d1⟩,⟨by omega,by dsimp only;omega⟩,⟨by dsimp only;omega,W4 _⟩,⟨by omega,by dsimp only;omega⟩,⟨⟨G9 _,rfl⟩,trivial⟩,⟨rfl,rfl,⟨rfl,rfl⟩,⟨rfl,rfl⟩,rfl,⟨rfl,rfl⟩,rfl,⟨rfl,rfl⟩,rfl,⟨rfl,B1.symm⟩,rfl,trivial⟩,⟨rfl,Z2 _ _⟩,trivial,trivial,⟨rfl,Z2 _ _⟩,trivial,⟨rfl,Z2 _ _⟩,⟨rfl,Z2 _ _⟩,⟨rfl,B1.symm,?_⟩,trivial⟩
   dsimp only;rw[d2];exact b4a (d8 no (T6 (Y4 s s.J.toNat).1.d no).1) (by omega)
 ·have hc:¬0<=frAt s.fr no:=l7 hc;have h3:¬s.fr.length=3:=λe=>by rw[e] at h3;simp at h3
  have hl:=h.fr3;obtain⟨e1,e2⟩:=zW v hc h3;obtain⟨d1,d2⟩:=a6z h hno;rw[e1,e2];refine⟨⟨W4 _,W4 _,by unfold W6;omega⟩,(s.d,no),⟨⟨S8 _,S8 _,S8 _,S8 _,S8 _⟩,⟨uX _,Z9⟩,d1⟩,⟨by omega,by omega⟩,⟨by omega,W4 _⟩,⟨by omega,by omega⟩,⟨⟨by dsimp only;omega,rfl⟩,trivial⟩,⟨rfl,rfl,⟨rfl,rfl⟩,⟨rfl,rfl⟩,rfl,⟨rfl,rfl⟩,rfl,⟨rfl,rfl⟩,rfl,⟨rfl,by unfold a4N;simp⟩,rfl,trivial⟩,⟨rfl,Z2 _ _⟩,trivial,trivial,⟨rfl,Z2 _ _⟩,trivial,⟨rfl,Z2 _ _⟩,⟨rfl,Z2 _ _⟩,⟨rfl,by unfold a4N;simp,?_⟩,trivial⟩
  dsimp only;rw[d2];exact b58 (d8 no (T6 s.d no).1) _ rfl
theorem a7N:GK 116 b3d:=gk Tryz.func116<|by
 rintro⟨s,no,v⟩ ⟨⟨h,hno⟩,hup⟩;dsimp only at h hno hup;have hL:O6 s.fr.length:=by have:=h.fr3;unfold O6;omega
 refine v8 (gC sJ (gC dN (gC gF gN))) Tryz.func116 Y5 [[.box 0,.arr 1,.arr 2,.arr 3,.arr 4,.arr 5,.arr 6,.arr 7,.arr 5],[.box 0,.arr 1,.arr 2,.arr 3,.arr 4,.arr 5,.arr 2,.arr 3,.arr 7],[.box 0,.arr 1,.arr 2,.arr 3,.arr 4,.arr 5,.arr 2,.arr 3,.arr 5]] (α:=let m:=(T.v (Value.pointer none));let j:=(s.fr.length+1);let r:=(s.fr.length:Int);let q:=(Z1 s no);let f:=(Y2 q.1.fr);let y:=q.1.fr.length;let z:=q.1.d;let b:=(Y8 Y6 s.d.keep z.keep);∃(x:tM.ι),let a:=(frAt x.1.fr x.2≥(0:Int));((LeS s)/\((EqF s x.1)/\(no:Int)=x.2/\True)/\O6 x.1.fr.length)/\(decide a=true->V3 (frAt x.1.fr x.2) s.fr.length/\(L4 (q9 [some 0,some 1,some 2,some 3,some 4,some 5,some 2,some 3,some 5]) (T.ref 5 (0+(frAt x.1.fr x.2).toNat) 0) m/\True)/\(1=1/\1=1/\oE s q.1)/\(Y8 Z5 s.d.E z.E)/\True/\True/\(Y8 Y3 s.L q.1.L)/\True/\(Y8 Y9 s.d.C z.C)/\b/\(v=z7 s no v/\s.fr.length=y/\T9 s.fr.length (Y2 s.fr) f)/\True)/\(decide a=false->((r==3)=true->∃(x:(Sto×Nat×Nat)),let p:=(Y4 x.1 x.2.1);let t:=p.1.fr;let l:=(Y8 Y3 p.1.L q.1.L);let g:=p.1.d;let i:=(Y8 Y6 g.keep z.keep);let w:=t.length;(((0=0/\0=0)/\s.J=(x.2.1:Int)/\True)/\((1=1/\1=1/\oE s x.1)/\EqH (v) (x.2.2) s x.1)/\SInv x.1/\x.2.1<x.1.fr.length)/\((! p.2)=true->(Value.pointer none=Value.pointer none/\True)/\(1=1/\1=1/\oE p.1 q.1)/\(Y8 Z5 g.E z.E)/\True/\True/\l/\True/\(Y8 Y9 g.C z.C)/\i/\(x.2.2=z7 s no v/\w=y/\T9 t.length (Y2 t) f)/\True)/\((! p.2)=false->W7 .i64 (p.1.J+1)/\Nz (3:Int)/\∃(x_1:(Dsk×Nat)),let u:=(T0 x_1.1 x_1.2);((LeS p.1)/\((yM p.1.d x_1.1)/\(no:Int)=(x_1.2:Int)/\True)/\DkB x_1)/\V3 s.J w/\(0+s.J.toNat<w/\Le u.1.sl.length u.1.sl.length)/\V3 s.J w/\(L4 (q9 [some 0,some 1,some 2,some 3,some 4,some 5,some 6,some 7,some 5]) (T.ref 5 (0+s.J.toNat) 0) m/\True)/\(1=1/\1=1/\(0=0/\g.E.length=z.E.length)/\(0=0/\g.C.length=z.C.length)/\g.A=z.A/\(0=0/\g.keep.length=z.keep.length)/\p.1.ep=q.1.ep/\(0=0/\p.1.L.length=q.1.L.length)/\p.1.S=q.1.S/\(0=0/\w=y)/\(p.1.J+1).tmod (3:Int)=q.1.J/\True)/\(Y8 Z5 g.E z.E)/\True/\True/\l/\True/\(Y8 Y9 g.C z.C)/\i/\(x.2.2+1=z7 s no v/\w=y/\T9 t.length (setRow (Y2 t) (0+s.J.toNat) 0 [T.int .i64 (no:Int),T.int .i64 u.1.Q,T.own 0 1 u.1.sl.length (Z5 u.1.sl),T.bool false,T.int .i64 0]) f)/\True))/\((r==3)=false->(Le 1 1/\Le s.fr.length s.fr.length/\W6 s.fr.length 1 56)/\∃(x:(Dsk×Nat)),let c:=(T0 x.1 x.2);let n:=c.1.sl.length;((Le (0+s.d.E.length) s.d.E.length/\Le (0+s.d.C.length) s.d.C.length/\Le (0+s.d.keep.length) s.d.keep.length/\Le (0+s.L.length) s.L.length/\Le (0+j) j)/\((yM s.d x.1)/\(no:Int)=(x.2:Int)/\True)/\DkB x)/\V3 r j/\(0+r.toNat<s.fr.length+1/\Le n n)/\V3 r j/\(L4 (q9 [some 0,some 1,some 2,some 3,some 4,some 5,some 2,some 3,some 7]) (T.ref 7 (0+r.toNat) 0) m/\True)/\(1=1/\1=1/\(0=0/\s.d.E.length=z.E.length)/\(0=0/\s.d.C.length=z.C.length)/\s.d.A=z.A/\(0=0/\s.d.keep.length=z.keep.length)/\s.ep=q.1.ep/\(0=0/\s.L.length=q.1.L.length)/\s.S=q.1.S/\(0=0/\s.fr.length+1=y)/\s.J=q.1.J/\True)/\(Y8 Z5 s.d.E z.E)/\True/\True/\(Y8 Y3 s.L q.1.L)/\True/\(Y8 Y9 s.d.C z.C)/\b/\(1=z7 s no v/\s.fr.length+1=y/\T9 j (setRow (X3 (Y2 s.fr) s.fr.length λ(k:Nat)=>List.take 5 (List.drop (k*5) [T.int .i64 0,T.int .i64 0,T.v (Value.slice none 0 0),T.bool false,T.int .i64 0])) (0+r.toNat) 0 [T.int .i64 (no:Int),T.int .i64 c.1.Q,T.own 0 1 n (Z5 c.1.sl),T.bool false,T.int .i64 0]) f)/\True))) ⟨(s,(no:Int)),⟨⟨S8 _,S8 _,S8 _,S8 _,S8 _⟩,⟨⟨Z7,Z7,rfl,Z7,rfl,Z7,rfl,⟨rfl,λ_ _=>rfl⟩,Z9⟩,Z9⟩,hL⟩,λhc=> ?_,λhc=>⟨λh3=> ?_,λh3=> ?_⟩⟩
 ·have hc:0<=frAt s.fr no:=C7 hc;rw[(g7 v hc).1] at hup;cases hup
 ·have hc:¬0<=frAt s.fr no:=l7 hc;have h3:s.fr.length=3:=by have:=beq_iff_eq.1 h3;omega
  have hh:=h.hd;have hk:s.J.toNat<s.fr.length:=by omega
  refine⟨(s,s.J.toNat,v),⟨⟨Z8,by dsimp only;omega,trivial⟩,⟨⟨rfl,rfl,⟨rfl,rfl⟩,⟨rfl,rfl⟩,rfl,⟨rfl,rfl⟩,rfl,⟨rfl,rfl⟩,rfl,⟨rfl,rfl⟩,rfl,trivial⟩,⟨rfl,Z2 _ _⟩,⟨rfl,Z2 _ _⟩,⟨rfl,Z2 _ _⟩,⟨rfl,Z2 _ _⟩,⟨rfl,rfl,U2 _⟩,trivial⟩,h,hk⟩,λhu=> ?_,λhu=> ?_⟩
  ·have hu:(Y4 s s.J.toNat).2=false:=(xP _).mp hu;obtain⟨e1,e2⟩:=l6 v hc h3 hu;rw[e1,e2];exact⟨Z9,⟨rfl,rfl,Z8,Z8,rfl,Z8,rfl,Z8,rfl,Z8,Z9⟩,Z7,trivial,trivial,Z7,trivial,Z7,Z7,Q2,trivial⟩
  ·have hu:(Y4 s s.J.toNat).2=true:=(yT _).mp hu;rw[(x5 v hc h3 hu).1] at hup;cases hup
 ·have hc:¬0<=frAt s.fr no:=l7 hc;have h3:¬s.fr.length=3:=λe=>by rw[e] at h3;simp at h3
  rw[(zW v hc h3).1] at hup;cases hup
end Go.Proofs.YtghgljelnhfihaaGreat

