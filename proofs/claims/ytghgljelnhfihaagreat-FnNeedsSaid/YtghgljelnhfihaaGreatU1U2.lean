/- A part of the proof. -/
import Derived.Test.YtghgljelnhfihaaGreatX1X2X3X4X5X6X7
import Derived.Test.YtghgljelnhfihaaGreatW4W6W7
namespace Go.Proofs.YtghgljelnhfihaaGreat
set_option maxRecDepth 100000
open Go.SS

def qM(L:List Txn):Option Ob:=some (.arr true 0 2 L.length (X0 L))
theorem fF(L:List Txn):H5 [qM L]:=F6 (λi _ t ht=>by
 simp only[X0,Txn.ts,wY,j_i,or_false] at ht;rcases ht with rfl|rfl<;>rfl) B6
def b5M:Con:=.rmk ⟨List Txn,λL=>[a4a L],λ_=>[],λL=>.osl 0 0 L.length,λL=>[qM L],λL=>L.length<=1048576⟩
theorem b5f(L:List Txn)(h:
  ∀(b:Bool),(b=true->L.length=0)->(b=true->((0=0/\0=L.length)/\True)/\(0=L.length/\Z6 0 (λ(x:Nat)=>[]) (X0 L))/\True)/\(b=false->(Le 0 0/\W6 0 L.length 16)/\((0=0/\0+L.length=
  L.length)/\True)/\(0+L.length=L.length/\Z6 (0+L.length) (X3 (λ(k:Nat)=>List.take 2 (List.drop (k*2) [])) 0 (X0 L)) (X0 L))/\True)):
  H3 Tryz.prog 77 [a4a L] [] (.osl 0 0 L.length) [qM L]:=
 v8 gN Tryz.func77 Y5 [[.arr 1],[.nilS 0 [] 0 2,.arr 0]] h
theorem b1W:GK 77 b5M:=gk Tryz.func77<|λ(L:List Txn) (hL:L.length<=1048576)=>
 ⟨b5f L (λb hb=>⟨λh=>⟨⟨⟨rfl,(hb h).symm⟩,trivial⟩,⟨(hb h).symm,λi hi=>absurd hi (J5 _)⟩,trivial⟩,λ_=>⟨⟨W4 _,by unfold W6;omega⟩,⟨⟨rfl,by omega⟩,trivial⟩,⟨by omega,B4⟩,trivial⟩⟩),rfl,fF L⟩
def xH(L:List Lck):Option Ob:=some (.arr true 0 4 L.length (Y7 L))
theorem dT(L:List Lck):H5 [xH L]:=F6 (λi _ t ht=>by
 simp only[Y7,Lck.ts,wY,j_i,or_false] at ht;rcases ht with rfl|rfl|rfl|rfl<;>rfl) B6
def b4p:Con:=.rmk ⟨List Lck,λL=>[jQ L],λ_=>[],λL=>.osl 0 0 L.length,λL=>[xH L],λL=>L.length<=1048576⟩
theorem b4m(L:List Lck)(h:
  ∀(b:Bool),(b=true->L.length=0)->(b=true->((0=0/\0=L.length)/\True)/\(0=L.length/\Z6 0 (λ(x:Nat)=>[]) (Y7 L))/\True)/\(b=false->(Le 0 0/\W6 0 L.length 32)/\((0=0/\0+L.length=
  L.length)/\True)/\(0+L.length=L.length/\Z6 (0+L.length) (X3 (λ(k:Nat)=>List.take 4 (List.drop (k*4) [])) 0 (Y7 L)) (Y7 L))/\True)):
  H3 Tryz.prog 207 [jQ L] [] (.osl 0 0 L.length) [xH L]:=
 v8 gN Tryz.func207 Y5 [[.arr 1],[.nilS 0 [] 0 4,.arr 0]] h
theorem b05:GK 207 b4p:=gk Tryz.func207<|λ(L:List Lck) (hL:L.length<=1048576)=>
 ⟨b4m L (λb hb=>⟨λh=>⟨⟨⟨rfl,(hb h).symm⟩,trivial⟩,⟨(hb h).symm,λi hi=>absurd hi (J5 _)⟩,trivial⟩,λ_=>⟨⟨W4 _,by unfold W6;omega⟩,⟨⟨rfl,by omega⟩,trivial⟩,⟨by omega,B4⟩,trivial⟩⟩),rfl,dT L⟩
def nC(L:List Wt):Option Ob:=some (.arr true 0 2 L.length (Y0 L))
theorem a1o(L:List Wt):H5 [nC L]:=F6 (λi _ t ht=>by
 simp only[Y0,Wt.ts,wY,j_i,or_false] at ht;rcases ht with rfl|rfl<;>rfl) B6
def b8a:Con:=.rmk ⟨List Wt,λL=>[wtS L],λ_=>[],λL=>.osl 0 0 L.length,λL=>[nC L],λL=>L.length<=1048576⟩
theorem b8K(L:List Wt)(h:
  ∀(b:Bool),(b=true->L.length=0)->(b=true->((0=0/\0=L.length)/\True)/\(0=L.length/\Z6 0 (λ(x:Nat)=>[]) (Y0 L))/\True)/\(b=false->(Le 0 0/\W6 0 L.length 16)/\((0=0/\0+L.length=
  L.length)/\True)/\(0+L.length=L.length/\Z6 (0+L.length) (X3 (λ(k:Nat)=>List.take 2 (List.drop (k*2) [])) 0 (Y0 L)) (Y0 L))/\True)):
  H3 Tryz.prog 208 [wtS L] [] (.osl 0 0 L.length) [nC L]:=
 v8 gN Tryz.func208 Y5 [[.arr 1],[.nilS 0 [] 0 2,.arr 0]] h
theorem b4S:GK 208 b8a:=gk Tryz.func208<|λ(L:List Wt) (hL:L.length<=1048576)=>
 ⟨b8K L (λb hb=>⟨λh=>⟨⟨⟨rfl,(hb h).symm⟩,trivial⟩,⟨(hb h).symm,λi hi=>absurd hi (J5 _)⟩,trivial⟩,λ_=>⟨⟨W4 _,by unfold W6;omega⟩,⟨⟨rfl,by omega⟩,trivial⟩,⟨by omega,B4⟩,trivial⟩⟩),rfl,a1o L⟩
def b97:Con:=.tmp
theorem N5:GK 68 b97:=gk Tryz.func68<|trivial
def b84:Con:=.tmp
theorem a6s:GK 321 b84:=gk Tryz.func321<|trivial
def b9N:Con:=.tmp
theorem b6B:GK 230 b9N:=gk Tryz.func230<|trivial
def Lks.tm(l:Lks)(b:Nat):List T:=[.osl b 0 l.H.length,.osl (b+1) 0 l.W.length]
def Lks.hp(l:Lks):Y1:=[xH l.H,nC l.W]
theorem pJ(l:Lks):H5 l.hp:=s5 (dT _) (a1o _)
def b5r:Con:=.rmk ⟨Lks,λl=>[.agg l.ts],λ_=>[],λl=>.agg (l.tm 0),λl=>l.hp,oD⟩
theorem b0s:GK 103 b5r:=gk Tryz.func103<|by
 rintro(l:Lks) ⟨h1,h2⟩;exact⟨v8 (gC b05 (gC b4S gN)) Tryz.func103 Y5 [[.arr 2,.arr 3]] (α:=∃(x:(List Lck)),(((l.H.length=List.length x/\Z6 l.H.length (Y7 l.H) (Y7 x))/\True)/\List.length x<=1048576)/\∃(x_1:(List Wt)),(((l.W.length=List.length x_1/\Z6 l.W.length (Y0 l.W) (Y0 x_1))/\True)/\List.length x_1<=1048576)/\(((0=0/\List.length x=l.H.length)/\(0=0/\List.length x_1=l.W.length)/\True)/\True)/\(List.length x=l.H.length/\Z6 (List.length x) (Y7 x) (Y7 l.H))/\(List.length x_1=l.W.length/\Z6 (List.length x_1) (Y0 x_1) (Y0 l.W))/\True) ⟨l.H,⟨X5,h1⟩,l.W,⟨X5,h2⟩,⟨⟨Z8,U3⟩,trivial⟩,Z7,X5⟩,rfl,pJ l⟩
def b3x:Con:=.rel ⟨Lks,λl=>[.agg l.ts],λl=>.agg l.ts,oD⟩
theorem a81:GK 137 b3x:=gk Tryz.func137<|by
 rintro(l:Lks) ⟨h1,h2⟩;exact Q5 (gC N5 (gC a6s (gC b6B gN))) Tryz.func137 Y5 (α:=W6 0 l.H.length 32/\W6 0 l.W.length 16/\(Y8 Y7 l.H l.H)/\(Y8 Y0 l.W l.W)/\True) ⟨by unfold W6;omega,by unfold W6;omega,Z7,X5⟩
end Go.Proofs.YtghgljelnhfihaaGreat

namespace Go.Proofs.YtghgljelnhfihaaGreat
set_option maxRecDepth 100000
open Go.SS

def Eng.tm(e:Eng)(b:Nat):List T:=[.osl b 0 e.s.d.E.length,.osl (b+1) 0 e.s.d.C.length,.bool e.s.d.A,.osl (b+2) 0 e.s.d.keep.length,.int .i64 e.s.ep,.osl (b+3) 0 e.s.L.length,.int .i64 e.s.S,.osl (b+4) 0 e.s.fr.length,.int .i64 e.s.J,.bool e.up,.osl (b+5) 0 e.X.length,.osl (b+6) 0 e.lk.H.length,.osl (b+7) 0 e.lk.W.length,.int .i64 e.N]
def Eng.hp(e:Eng)(v:Nat):Y1:=[A1 e.s.d.E,C8 e.s.d.C,x7 e.s.d.keep,b9 e.s.L,vL v e.s.fr e.s.fr.length,qM e.X,xH e.lk.H,nC e.lk.W]
abbrev a2f(a b:Eng):Prop:=Y8 Z5 a.s.d.E b.s.d.E/\Y8 Y9 a.s.d.C b.s.d.C/\a.s.d.A=b.s.d.A/\Y8 Y6 a.s.d.keep b.s.d.keep/\a.s.ep=b.s.ep/\Y8 Y3 a.s.L b.s.L/\a.s.S=b.s.S/\(a.s.fr.length=b.s.fr.length/\Z6 a.s.fr.length (a4d (Y2 a.s.fr)) (X2 b.s.fr))/\a.s.J=b.s.J/\a.up=b.up/\Y8 X0 a.X b.X/\Y8 Y7 a.lk.H b.lk.H/\Y8 Y0 a.lk.W b.lk.W/\a.N=b.N/\True
abbrev uR(a b:Eng):Prop:=((0:Nat)=0/\a.s.d.E.length=b.s.d.E.length)/\((0:Nat)=0/\a.s.d.C.length=b.s.d.C.length)/\a.s.d.A=b.s.d.A/\((0:Nat)=0/\a.s.d.keep.length=b.s.d.keep.length)/\a.s.ep=b.s.ep/\((0:Nat)=0/\a.s.L.length=b.s.L.length)/\a.s.S=b.s.S/\((0:Nat)=0/\a.s.fr.length=b.s.fr.length)/\a.s.J=b.s.J/\a.up=b.up/\((0:Nat)=0/\a.X.length=b.X.length)/\((0:Nat)=0/\a.lk.H.length=b.lk.H.length)/\((0:Nat)=0/\a.lk.W.length=b.lk.W.length)/\a.N=b.N/\True
abbrev rO(v u:Nat)(a b:Eng):Prop:=Y8 Z5 a.s.d.E b.s.d.E/\Y8 Y9 a.s.d.C b.s.d.C/\Y8 Y6 a.s.d.keep b.s.d.keep/\Y8 Y3 a.s.L b.s.L/\(v=u/\a.s.fr.length=b.s.fr.length/\T9 a.s.fr.length (Y2 a.s.fr) (Y2 b.s.fr))/\Y8 X0 a.X b.X/\Y8 Y7 a.lk.H b.lk.H/\Y8 Y0 a.lk.W b.lk.W/\True
abbrev LeG(a:Eng):Prop:=Le (0+a.s.d.E.length) a.s.d.E.length/\Le (0+a.s.d.C.length) a.s.d.C.length/\Le (0+a.s.d.keep.length) a.s.d.keep.length/\Le (0+a.s.L.length) a.s.L.length/\Le (0+a.s.fr.length) a.s.fr.length/\Le (0+a.X.length) a.X.length/\Le (0+a.lk.H.length) a.lk.H.length/\Le (0+a.lk.W.length) a.lk.W.length
theorem a9Z(e:Eng)(v:Nat):H5 (e.hp v):=s5 (H:=e.s.hp v) (pL _ _) (s5 (H:=[qM e.X]) (fF _) (pJ e.lk))
def b5o:Con:=.rmk ⟨Eng,λe=>[.agg e.ts],λ_=>[],λe=>.agg (e.tm 0),λe=>e.hp 0,y8⟩
theorem b2Z:GK 49 b5o:=gk Tryz.func49<|by
 rintro(e:Eng) ⟨h1,h2,h3⟩;exact⟨v8 (gC b0e (gC b1W (gC b0s gN))) Tryz.func49 Y5 [[.arr 2,.arr 3,.arr 4,.arr 5,.arr 6,.arr 7,.arr 8,.arr 9]] (α:=∃(x:Sto),(((yL e.s x)/\True)/\SmS x)/\∃(x_1:(List Txn)),(((e.X.length=List.length x_1/\Z6 e.X.length (X0 e.X) (X0 x_1))/\True)/\List.length x_1<=1048576)/\∃(x_2:Lks),((((Y8 Y7 e.lk.H x_2.H)/\(Y8 Y0 e.lk.W x_2.W)/\True)/\True)/\oD x_2)/\(((0=0/\x.d.E.length=e.s.d.E.length)/\(0=0/\x.d.C.length=e.s.d.C.length)/\x.d.A=e.s.d.A/\(0=0/\x.d.keep.length=e.s.d.keep.length)/\x.ep=e.s.ep/\(0=0/\x.L.length=e.s.L.length)/\x.S=e.s.S/\(0=0/\x.fr.length=e.s.fr.length)/\x.J=e.s.J/\e.up=e.up/\(0=0/\List.length x_1=e.X.length)/\(0=0/\x_2.H.length=e.lk.H.length)/\(0=0/\x_2.W.length=e.lk.W.length)/\e.N=e.N/\True)/\True)/\(Y8 Z5 x.d.E e.s.d.E)/\(Y8 Y9 x.d.C e.s.d.C)/\(Y8 Y6 x.d.keep e.s.d.keep)/\(Y8 Y3 x.L e.s.L)/\(0=0/\x.fr.length=e.s.fr.length/\T9 x.fr.length (Y2 x.fr) (Y2 e.s.fr))/\(List.length x_1=e.X.length/\Z6 (List.length x_1) (X0 x_1) (X0 e.X))/\(Y8 Y7 x_2.H e.lk.H)/\(Y8 Y0 x_2.W e.lk.W)/\True) ⟨e.s,⟨⟨(zE _),trivial⟩,h1⟩,e.X,⟨X5,h2⟩,e.lk,⟨⟨⟨Z7,X5⟩,trivial⟩,h3⟩,⟨⟨Z8,Z8,rfl,Z8,rfl,Z8,rfl,Z8,rfl,rfl,Z8,Z8,Z8,Z9⟩,trivial⟩,Z7,Z7,Z7,Z7,Q2,Z7,Z7,X5⟩,rfl,a9Z e 0⟩
def b01:Con:=.rel ⟨Eng,λe=>[.agg e.ts],λe=>.agg e.ts,y8⟩
theorem a8B:GK 68 b01:=gk Tryz.func68<|by
 rintro(e:Eng) ⟨h1,h2,h3⟩;exact Q5 (gC a8k (gC a81 gN)) Tryz.func68 Y5 (α:=let p:=(0+e.X.length);∃(x:Sto),let q:=x.fr.length;(((yL e.s x)/\True)/\SmS x)/\(Le 0 0/\W6 0 e.X.length 16)/\∃(x_1:Lks),((((Y8 Y7 e.lk.H x_1.H)/\(Y8 Y0 e.lk.W x_1.W)/\True)/\True)/\oD x_1)/\(Le (0+x.d.E.length) x.d.E.length/\Le (0+x.d.C.length) x.d.C.length/\Le (0+x.d.keep.length) x.d.keep.length/\Le (0+x.L.length) x.L.length/\Le (0+q) q/\Le (0+p) p)/\(Y8 Z5 x.d.E e.s.d.E)/\(Y8 Y9 x.d.C e.s.d.C)/\x.d.A=e.s.d.A/\(Y8 Y6 x.d.keep e.s.d.keep)/\x.ep=e.s.ep/\(Y8 Y3 x.L e.s.L)/\x.S=e.s.S/\(q=e.s.fr.length/\Z6 x.fr.length (a4d (Y2 x.fr)) (X2 e.s.fr))/\x.J=e.s.J/\e.up=e.up/\(0+e.X.length=e.X.length/\Z6 p (X3 (λ(k:Nat)=>List.take 2 (List.drop (k*2) [])) 0 (X0 e.X)) (X0 e.X))/\(Y8 Y7 x_1.H e.lk.H)/\(Y8 Y0 x_1.W e.lk.W)/\e.N=e.N/\True) ⟨e.s,⟨⟨(zE _),trivial⟩,h1⟩,⟨W4 _,by unfold W6;omega⟩,e.lk,⟨⟨⟨Z7,X5⟩,trivial⟩,h3⟩,⟨S8 _,S8 _,S8 _,S8 _,S8 _,by unfold Le;omega⟩,Z7,Z7,rfl,Z7,rfl,Z7,rfl,⟨rfl,λ_ _=>rfl⟩,rfl,rfl,⟨by omega,B4⟩,Z7,Z7,Z9⟩
end Go.Proofs.YtghgljelnhfihaaGreat

