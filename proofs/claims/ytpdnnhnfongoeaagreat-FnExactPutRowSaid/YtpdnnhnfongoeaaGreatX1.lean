/- A part of the proof. -/
import Derived.Test.YtpdnnhnfongoeaaGreatE4
namespace Go.Proofs.YtpdnnhnfongoeaaGreat
set_option maxRecDepth 100000
open Go.SS Go.Proofs.Tryz
noncomputable section
def v9:C8 []:=λk ob h=>by simp[Y4] at h
def B2{o:Ob}{H:X9}(h:a17 o)(k:C8 H):C8 (some o::H):=λi ob hi=>by
 cases i with
 |zero=>
  simp only[Y4,List.getElem?_cons_zero,Option.bind_some,id,X0] at hi
  rw[←hi];exact h
 |succ i=>exact k i ob (by simpa[Y4] using hi)
def v8{row row':Nat->List T}{n:Nat}:Z7 (0+n) (X4 row 0 row') row':=λi _=>rfl
def D3(L:List Pend):Option Ob:=some (.arr true 0 2 L.length (Z1 L))
def A0(L:List Int):Option Ob:=some (.arr true 0 1 L.length (Y9 L))
def j6(L:List Rec):Option Ob:=some (.arr true 0 10 L.length (Y1 L))
def z7(L:List (Bz)):C8 [A1 L]:=B2 (λi _ t h=>by simp only[Z5,List.mem_singleton] at h;rw[h];rfl) v9
def nU(L:List Pend):C8 [D3 L]:=B2 (λi _ t h=>by
 simp only[Z1,Pend.ts,vN,j_i,or_false] at h;rcases h with rfl|rfl<;>rfl) v9
def kU(L:List Int):C8 [A0 L]:=B2 (λi _ t h=>by simp only[Y9,List.mem_singleton] at h;rw[h];rfl) v9
def qG(L:List Rec):C8 [j6 L]:=B2 (λi _ t h=>by
 simp only[Y1,Rec.ts,vN,j_i,or_false] at h;rcases h with rfl|rfl|rfl|rfl|rfl|rfl|rfl|rfl|rfl|rfl<;>rfl) v9
def c1y:Con:=.rmk ⟨List (Bz),λL=>[u2 L],λ_=>[],λL=>.osl 0 0 L.length,λL=>[A1 L],λL=>L.length<=1048576⟩
def c1P(L:List (Bz))(h:
  ∀(b:Bool),(b=true->L.length=0)->br b (((0=0/\0=L.length)/\True)/\(0=L.length/\Z7 0 (λ(x:Nat)=>[]) (Z5 L))/\True) ((Le 0 0/\U8 0 L.length 16)/\((0=0/\0+L.length=L.length)/\True)/\(0+L.length=L.length/\Z7 (0+L.length) (X4 (λ(k:Nat)=>List.take 1 (List.drop (k*1) [])) 0 (Z5 L)) (Z5 L))/\True)):
  G3 prog 244 [u2 L] [] (.osl 0 0 L.length) [A1 L]:=
 C6 gN func244 Z3 [[.arr 1],[.nilS 0 [] 0 1,.arr 0]] h
def a4G:GK 244 c1y:=gk func244<|λ(L:List (Bz)) (hL:L.length<=1048576)=>
 ⟨c1P L (λb B=>⟨λh=>⟨⟨⟨rfl,(B h).symm⟩,Z6⟩,⟨(B h).symm,λi hi=>absurd hi (D2 _)⟩,Z6⟩,λ_=>⟨⟨U9 _,R0⟩,⟨⟨rfl,Z9⟩,Z6⟩,⟨Z9,v8⟩,Z6⟩⟩),rfl,z7 L⟩
def b40:Con:=.rmk ⟨List Pend,λL=>[v6 L],λ_=>[],λL=>.osl 0 0 L.length,λL=>[D3 L],λL=>L.length<=1048576⟩
def b5B(L:List Pend)(h:
  ∀(b:Bool),(b=true->L.length=0)->br b (((0=0/\0=L.length)/\True)/\(0=L.length/\Z7 0 (λ(x:Nat)=>[]) (Z1 L))/\True) ((Le 0 0/\U8 0 L.length 24)/\((0=0/\0+L.length=L.length)/\True)/\(0+L.length=L.length/\Z7 (0+L.length) (X4 (λ(k:Nat)=>List.take 2 (List.drop (k*2) [])) 0 (Z1 L)) (Z1 L))/\True)):
  G3 prog 245 [v6 L] [] (.osl 0 0 L.length) [D3 L]:=
 C6 gN func245 Z3 b6z h
def b12:GK 245 b40:=gk func245<|λ(L:List Pend) (hL:L.length<=1048576)=>
 ⟨b5B L (λb B=>⟨λh=>⟨⟨⟨rfl,(B h).symm⟩,Z6⟩,⟨(B h).symm,λi hi=>absurd hi (D2 _)⟩,Z6⟩,λ_=>⟨⟨U9 _,R0⟩,⟨⟨rfl,Z9⟩,Z6⟩,⟨Z9,v8⟩,Z6⟩⟩),rfl,nU L⟩
def c1o:Con:=.rmk ⟨List Int,λL=>[sN L],λ_=>[],λL=>.osl 0 0 L.length,λL=>[A0 L],λL=>L.length<=1048576⟩
def c2G(L:List Int)(h:
  ∀(b:Bool),(b=true->L.length=0)->br b (((0=0/\0=L.length)/\True)/\(0=L.length/\Z7 0 (λ(x:Nat)=>[]) (Y9 L))/\True) ((Le 0 0/\U8 0 L.length 8)/\((0=0/\0+L.length=L.length)/\True)/\(0+L.length=L.length/\Z7 (0+L.length) (X4 (λ(k:Nat)=>List.take 1 (List.drop (k*1) [])) 0 (Y9 L)) (Y9 L))/\True)):
  G3 prog 246 [sN L] [] (.osl 0 0 L.length) [A0 L]:=
 C6 gN func246 Z3 [[.arr 1],[.nilS 0 [] 0 1,.arr 0]] h
def a4g:GK 246 c1o:=gk func246<|λ(L:List Int) (hL:L.length<=1048576)=>
 ⟨c2G L (λb B=>⟨λh=>⟨⟨⟨rfl,(B h).symm⟩,Z6⟩,⟨(B h).symm,λi hi=>absurd hi (D2 _)⟩,Z6⟩,λ_=>⟨⟨U9 _,R0⟩,⟨⟨rfl,Z9⟩,Z6⟩,⟨Z9,v8⟩,Z6⟩⟩),rfl,kU L⟩
def c0p:Con:=.rmk ⟨List Rec,λL=>[zE L],λ_=>[],λL=>.osl 0 0 L.length,λL=>[j6 L],λL=>L.length<=1048576⟩
def c2p(L:List Rec)(h:
  ∀(b:Bool),(b=true->L.length=0)->br b (((0=0/\0=L.length)/\True)/\(0=L.length/\Z7 0 (λ(x:Nat)=>[]) (Y1 L))/\True) ((Le 0 0/\U8 0 L.length 96)/\((0=0/\0+L.length=L.length)/\True)/\(0+L.length=L.length/\Z7 (0+L.length) (X4 (λ(k:Nat)=>List.take 10 (List.drop (k*10) [])) 0 (Y1 L)) (Y1 L))/\True)):
  G3 prog 179 [zE L] [] (.osl 0 0 L.length) [j6 L]:=
 C6 gN func179 Z3 [[.arr 1],[.nilS 0 [] 0 10,.arr 0]] h
def b7K:GK 179 c0p:=gk func179<|λ(L:List Rec) (hL:L.length<=1048576)=>
 ⟨c2p L (λb B=>⟨λh=>⟨⟨⟨rfl,(B h).symm⟩,Z6⟩,⟨(B h).symm,λi hi=>absurd hi (D2 _)⟩,Z6⟩,λ_=>⟨⟨U9 _,R0⟩,⟨⟨rfl,Z9⟩,Z6⟩,⟨Z9,v8⟩,Z6⟩⟩),rfl,qG L⟩
def Dsk.tm(d:Dsk)(b:Nat):List T:=[.osl b 0 d.E.length,.osl (b+1) 0 d.C.length,.bool d.A,.osl (b+2) 0 d.keep.length]
def Dsk.hp(d:Dsk):X9:=[A1 d.E,D3 d.C,A0 d.keep]
def i4{H K:X9}(h:C8 H)(k:C8 K):C8 (H++K):=λi ob hi=>by
 unfold Y4 at hi;rw[List.getElem?_append] at hi
 split at hi
 ·exact h i ob hi
 ·exact k _ ob hi
def qJ(d:Dsk):C8 d.hp:=i4 (z7 _) (i4 (nU _) (kU _))
def c0U:Con:=.rmk ⟨Dsk,λd=>[.agg d.ts],λ_=>[],λd=>.agg (d.tm 0),λd=>d.hp,nN⟩
def b60:GK 145 c0U:=gk func145<|by
 rintro(d:Dsk) ⟨h1,h2,h3⟩;exact⟨C6 (gC a4G (gC b12 (gC a4g gN))) func145 Z3 [[.arr 2,.arr 3,.arr 4]] (α:=∃(x:(List (Bz))),let p:=x.length;(((Z0 Z5 d.E x)/\True)/\p<=1048576)/\∃(X:(List Pend)),(((Z0 Z1 d.C X)/\True)/\X.length<=1048576)/\∃(e:(List Int)),let q:=e.length;(((Z0 Y9 d.keep e)/\True)/\q<=1048576)/\(((0=0/\p=d.E.length)/\(0=0/\X.length=d.C.length)/\d.A=d.A/\(0=0/\q=d.keep.length)/\True)/\True)/\(p=d.E.length/\Z7 (p) (Z5 x) (Z5 d.E))/\(X.length=d.C.length/\Z7 (X.length) (Z1 X) (Z1 d.C))/\(q=d.keep.length/\Z7 (q) (Y9 e) (Y9 d.keep))/\True) ⟨d.E,⟨X7,h1⟩,d.C,⟨X7,h2⟩,d.keep,⟨X7,h3⟩,X7⟩,rfl,qJ d⟩
def Pg.tm(p:Pg)(b:Nat):List T:=[Ji p.Q,.osl b 0 p.sl.length]
def c7i:Con:=.rmk ⟨Pg,λp=>[.agg p.ts],λ_=>[],λp=>.agg (p.tm 0),λp=>[A1 p.sl],λp=>p.sl.length<=1048576⟩
def c09:GK 180 c7i:=gk func180<|by
 intro(p:Pg) (h1:p.sl.length<=1048576);exact⟨C6 (gC a4G gN) func180 Z3 [[.arr 2]] (α:=∃(x:(List (Bz))),let q:=x.length;(((Z0 Z5 p.sl x)/\True)/\q<=1048576)/\((p.Q=p.Q/\(0=0/\q=p.sl.length)/\True)/\True)/\(q=p.sl.length/\Z7 (q) (Z5 x) (Z5 p.sl))/\True) ⟨p.sl,⟨X7,h1⟩,X7⟩,rfl,z7 _⟩
def Y5(L:List Frm)(i:Nat):List T:=[Ji (L.getD i dz).no,Ji (L.getD i dz).pg.Q,.own 0 1 (L.getD i dz).pg.sl.length (Z5 (L.getD i dz).pg.sl),.bool (L.getD i dz).D,Ji (L.getD i dz).first]
def xA(v:Nat)(L:List Frm)(n:Nat):Option Ob:=some (.fam v 0 5 n (Y5 L))
def Sto.tm(s:Sto)(b:Nat):List T:=[.osl b 0 s.d.E.length,.osl (b+1) 0 s.d.C.length,.bool s.d.A,.osl (b+2) 0 s.d.keep.length,Ji s.ep,.osl (b+3) 0 s.L.length,Ji s.S,.osl (b+4) 0 s.fr.length,Ji s.J]
def Sto.hp(s:Sto)(v:Nat):X9:=[A1 s.d.E,D3 s.d.C,A0 s.d.keep,j6 s.L,xA v s.fr s.fr.length]
def c9R:List T:=[.v (.slice none 0 0),.v (.slice none 0 0),.bool false,.v (.slice none 0 0),Ji 0,.v (.slice none 0 0),Ji 0,.v (.slice none 0 0),Ji 0]
def b57:Option Ob:=some (.arr true 1000000 9 1 λ_=>c9R)
def pL(l:List T):Option Ob:=some (.arr false 1000000 9 1 λ_=>l)
abbrev EqF(a b:Sto):Prop:=Z0 Z5 a.d.E b.d.E/\Z0 Z1 a.d.C b.d.C/\a.d.A=b.d.A/\Z0 Y9 a.d.keep b.d.keep/\a.ep=b.ep/\Z0 Y1 a.L b.L/\a.S=b.S/\(a.fr.length=b.fr.length/\Z7 a.fr.length (a1C (Y5 a.fr)) (V9 b.fr))/\a.J=b.J/\True
abbrev EqC(a b:Sto):Prop:=((0:Nat)=0/\a.d.E.length=b.d.E.length)/\((0:Nat)=0/\a.d.C.length=b.d.C.length)/\a.d.A=b.d.A/\((0:Nat)=0/\a.d.keep.length=b.d.keep.length)/\a.ep=b.ep/\((0:Nat)=0/\a.L.length=b.L.length)/\a.S=b.S/\((0:Nat)=0/\a.fr.length=b.fr.length)/\a.J=b.J/\True
abbrev EqH(v u:Nat)(a b:Sto):Prop:=Z0 Z5 a.d.E b.d.E/\Z0 Z1 a.d.C b.d.C/\Z0 Y9 a.d.keep b.d.keep/\Z0 Y1 a.L b.L/\(v=u/\a.fr.length=b.fr.length/\V2 a.fr.length (Y5 a.fr) (Y5 b.fr))/\True
abbrev nO(a b:Sto):Prop:=(1:Nat)=1/\(1:Nat)=1/\EqC a b
abbrev LnS(v u:Nat)(a b:Sto):Prop:=nO a b/\EqH v u a b
abbrev LeS(a:Sto):Prop:=Le (0+a.d.E.length) a.d.E.length/\Le (0+a.d.C.length) a.d.C.length/\Le (0+a.d.keep.length) a.d.keep.length/\Le (0+a.L.length) a.L.length/\Le (0+a.fr.length) a.fr.length
abbrev EqR(a b:Rec):Prop:=a.e=b.e/\a.l=b.l/\a.t=b.t/\a.k=b.k/\a.p=b.p/\a.n=b.n/\a.g=b.g/\a.s=b.s/\a.b=b.b/\a.a=b.a/\True
def mU{L:List Frm}(n:Nat):V2 n (Y5 L) (Y5 L):=λi _=>by
 refine⟨?_,?_,X7,?_,?_,Z6⟩<;>rfl
def u5{q r:Sort _}{v:q}{a:r}{n:Nat}{L:List Frm}:v=v/\a=a/\V2 n (Y5 L) (Y5 L):=⟨rfl,rfl,mU _⟩
def Z8{p:Prop}(h:p:=by repeat' first|exact rfl|exact mU _|exact trivial|refine And.intro ?_ ?_|exact λ_ _=>rfl|exact U9 _|exact N4 _|exact λi hi=>absurd hi (D2 i)|(unfold Le;omega)):p:=h
def rX{i n:Nat}(h:i<n):Nat.blt i n=true:=Nat.ble_eq_true_of_le h
def mH{i n:Nat}(h:¬i<n):Nat.blt i n=false:=by
 cases B:Nat.blt i n with
 |false=>rfl
 |true=>exact absurd (yH B) h
def a9G{L:List Frm}{i:Nat}:V2 (i+1) (X4 (Y5 L) i λ_=>Y5 L i) (Y5 L):=λj J=>by
 have:X4 (Y5 L) i (λ_=>Y5 L i) j=Y5 L j:=by
  unfold X4;by_cases h:j<i
  ·rw[rX h]
  ·rw[mH h,show i=j by omega]
 rw[this];exact mU (j+1) j (Nat.lt_succ_self j)
def a0j(v:Nat)(L:List Frm)(n:Nat):C8 [xA v L n]:=B2 (λi _ t h=>by
 simp only[Y5,vN,j_i,or_false] at h;rcases h with rfl|rfl|rfl|rfl|rfl
 ·rfl
 ·rfl
 ·intro j _ t h;simp only[Z5,List.mem_singleton] at h;rw[h];rfl
 ·rfl
 ·rfl) v9
def rG(s:Sto)(v:Nat):C8 (s.hp v):=i4 (H:=s.d.hp) (qJ _) (i4 (qG _) (a0j _ _ _))
def kX:∀l:List T,b58 l l
 | []=>trivial
 |a::r=>⟨by cases a<;>first|rfl|exact⟨rfl,rfl,X6 _ _⟩,kX r⟩
def tW{n:Nat}{f g:Nat->List T}(h:∀i,i<n->f i=g i):V2 n f g:=λi hi=>by rw[h i hi];exact kX _
def c1W:Con:=.rmk ⟨Sto,λs=>[.agg s.ts],λ_=>[],λs=>.agg (s.tm 0),λs=>s.hp 0,iC⟩
def c28(s:Sto):Nat->Ann
 |0=>.one (Up s.fr.length) (λx=>⟨[(1,.ref 0 0 0),(2,.ref 1 0 0),(17,uC s.fr),(18,Ji s.fr.length),(19,Ji x.1)],[pL [.osl 2 0 s.d.E.length,.osl 3 0 s.d.C.length,.bool s.d.A,.osl 4 0 s.d.keep.length,Ji s.ep,.osl 5 0 s.L.length,Ji s.S,.osl 6 0 x.1,Ji s.J],b57,A1 s.d.E,D3 s.d.C,A0 s.d.keep,j6 s.L,xA 0 s.fr x.1]⟩) (λx=>s.fr.length-x.1) [.nilC 0 7 0 5,.fam 6,.box 0,.box 1,.arr 2,.arr 3,.arr 4,.arr 5,.arr 6] [.box 0,.box 1,.arr 2,.arr 3,.arr 4,.arr 5,.at_ 31] (λ_=>Z3)
 |_=>.none
def b41:GK 92 c1W:=gk func92<|by
 rintro(s:Sto) ⟨h1,h2,h3,h4⟩;refine⟨C6 (gC b60 (gC b7K (gC c09 gN))) func92 (c28 s) [c4n] (α:=let b:=(Z0 Z1 s.d.C s.d.C);let a:=(Z0 Z5 s.d.E s.d.E);let n:=(Z0 Y9 s.d.keep s.d.keep);let m:=(0=0/\0=0);let k:=(0=0/\s.L.length=s.L.length);let j:=(Y5 s.fr);let w:=(0=0/\s.d.C.length=s.d.C.length);let v:=(0=0/\s.d.E.length=s.d.E.length);let u:=(0=0/\s.d.keep.length=s.d.keep.length);let r:=(s.fr.length:Int);let p:=(1=1/\1=1/\Value.slice none 0 0=Value.slice none 0 0/\Value.slice none 0 0=Value.slice none 0 0/\false=false/\Value.slice none 0 0=Value.slice none 0 0/\(0:Int)=0/\Value.slice none 0 0=Value.slice none 0 0/\(0:Int)=0/\Value.slice none 0 0=Value.slice none 0 0/\(0:Int)=0/\True);∃(x:Dsk),(((zJ s.d x)/\True)/\nN x)/\∃(e:(List Rec)),let g:=e.length;(((Z0 Y1 s.L e)/\True)/\g<=1048576)/\(∃(X:Up s.fr.length),(m/\m/\(Z0 V9 s.fr s.fr)/\r=r/\0=(X.val:Int)/\True)/\(1=1/\1=1/\(0=0/\x.E.length=s.d.E.length)/\(0=0/\x.C.length=s.d.C.length)/\x.A=s.d.A/\(0=0/\x.keep.length=s.d.keep.length)/\s.ep=s.ep/\(0=0/\g=s.L.length)/\s.S=s.S/\(0=0/\0=X.val)/\s.J=s.J/\True)/\p/\(Z0 Z5 x.E s.d.E)/\(Z0 Z1 x.C s.d.C)/\(Z0 Y9 x.keep s.d.keep)/\(g=s.L.length/\Z7 (g) (Y1 e) (Y1 s.L))/\(0=0/\0=X.val/\V2 0 (λ(x:Nat)=>[]) j)/\True)/\∀(x:Up s.fr.length),let f:=x.1;let z:=(f:Int);let q:=(s.fr.getD z.toNat dz);bd (z<r) (W9 z s.fr.length/\∃(X:Pg),(((q.pg.Q=X.Q/\(Z0 Z5 q.pg.sl X.sl)/\True)/\True)/\X.sl.length<=1048576)/\(Le X.sl.length X.sl.length/\Le x.1 f/\U8 x.1 1 56)/\Ri (z+1)/\∃(y:Up s.fr.length),((m/\m/\(Z0 V9 s.fr s.fr)/\r=r/\z+1=(y.1:Int)/\True)/\(1=1/\1=1/\v/\w/\s.d.A=s.d.A/\u/\s.ep=s.ep/\k/\s.S=s.S/\(0=0/\f+1=y.1)/\s.J=s.J/\True)/\p/\a/\b/\n/\(Z0 Y1 s.L s.L)/\(0=0/\f+1=y.1/\V2 (f+1) (X4 j x.1 λ(x_3:Nat)=>[Ji q.no,Ji X.Q,T.own 0 1 X.sl.length (Z5 X.sl),T.bool q.D,Ji q.first]) j)/\True)/\Lt (s.fr.length-y.1) (s.fr.length-f)) (((v/\w/\s.d.A=s.d.A/\u/\s.ep=s.ep/\k/\s.S=s.S/\(0=0/\f=s.fr.length)/\s.J=s.J/\True)/\True)/\a/\b/\n/\(Z0 Y1 s.L s.L)/\(0=0/\f=s.fr.length/\V2 x.1 j j)/\True)) ⟨s.d,⟨X7,h1⟩,s.L,⟨X7,h2⟩,⟨⟨0,N4 _⟩,X7,X7,X7,X7,X7,X7,X7,⟨rfl,rfl,λi hi=>absurd hi (D2 _)⟩,Z6⟩,λx=>⟨λhc=>?_,λhc=>?_⟩⟩,rfl,?_⟩
 ·have h:=Y2 hc;rw[E3];exact⟨Y6 h,(s.fr.getD x.1 dz).pg,⟨X7,h4 _ h⟩,⟨U9 _,U9 _,R0⟩,Z4 Z9,⟨x.1+1,h⟩,⟨⟨X7,X7,X7,rfl,X5,Z6⟩,X7,X7,X7,X7,X7,X7,⟨rfl,rfl,a9G⟩,Z6⟩,V5.ext_lt h⟩
 ·have hx:x.1=s.fr.length:=by have:=x.2;have:=Y0 hc;omega
  rw[hx];exact⟨X7,X7,X7,X7,X7,u5,Z6⟩
 ·exact rG s 0
def Sto.tn(s:Sto)(a b c d e:Nat):List T:=[.osl a 0 s.d.E.length,.osl b 0 s.d.C.length,.bool s.d.A,.osl c 0 s.d.keep.length,Ji s.ep,.osl d 0 s.L.length,Ji s.S,.osl e 0 s.fr.length,Ji s.J]
def Sto.bx(s:Sto)(v:Nat):X9:=[pL (s.tn 1 2 3 4 5),A1 s.d.E,D3 s.d.C,A0 s.d.keep,j6 s.L,xA v s.fr s.fr.length]
def Sto.bxL(s:Sto)(v:Nat):X9:=[pL (s.tn 1 2 3 6 5),A1 s.d.E,D3 s.d.C,A0 s.d.keep,none,xA v s.fr s.fr.length,j6 s.L]
def P9(s:Sto)(r:Rec):Rec:=⟨s.ep,(s.L.length:Int)+1,r.t,r.k,r.p,r.n,r.g,r.s,r.b,r.a⟩
def Q5(s:Sto)(r:Rec):Sto:=if O9 (P9 s r)=true then{s with L:=s.L++[P9 s r]} else s
def SmR(r:Rec):Prop:=r.b.length<=1048576/\r.a.length<=1048576
def a5h:Rle:=⟨Sto×Rec×Nat,λx=>[.ref 0 0 0,.agg x.2.1.ts],λx=>x.1.bx x.2.2,λx=>.bool (O9 (P9 x.1 x.2.1)),λx=>(Q5 x.1 x.2.1).bxL x.2.2,λx=>x.1.L.length<=60/\SmR x.2.1⟩
def b7X:Con:=.reff a5h
def hJ(L:List Rec)(r:Rec):Z7 (L.length+1) (X4 (Y1 L) L.length λk=>List.take 10 (List.drop (k*10) r.ts)) (Y1 (L++[r])):=by
 intro i hi;unfold X4 Y1;by_cases h:i<L.length
 ·rw[rX h,P4,P4,rL h]
 ·have:i=L.length:=by omega
  subst this;rw[mH h];have:(L++[r]).getD L.length dz=r:=by rw[P4,qA (U9 _)];simp
  rw[this];simp[Rec.ts]
theorem kF:GK 208 b7X:=gk func208<|by
 rintro⟨s,r,v⟩ ⟨f,j,i⟩;dsimp only at f j i;refine C6 (gC tL gN) func208 Z3 [c4t,[.box 0,.arr 1,.arr 2,.arr 3,.arr 4,.arr 5,.arr 4]] (α:=let j:=(Q5 s r).fr.length;let w:=(Z0 Z1 s.d.C (Q5 s r).d.C);let y:=(Z0 Z5 s.d.E (Q5 s r).d.E);let u:=(Z0 Y9 s.d.keep (Q5 s r).d.keep);let z:=((s.L.length:Int)+1);let q:=(v=v/\s.fr.length=j/\V2 s.fr.length (Y5 s.fr) (Y5 (Q5 s r).fr));Ri z/\b3I r.a/\br (!O9 (Rec.mk s.ep z r.t r.k r.p r.n r.g r.s r.b r.a)) ((false=O9 (P9 s r)/\True)/\nO s (Q5 s r)/\y/\w/\u/\True/\q/\(Z0 Y1 s.L (Q5 s r).L)/\True) ((Le 1 1/\Le s.L.length s.L.length/\U8 s.L.length 1 96)/\(true=O9 (P9 s r)/\True)/\(1=1/\1=1/\(0=0/\s.d.E.length=(Q5 s r).d.E.length)/\(0=0/\s.d.C.length=(Q5 s r).d.C.length)/\s.d.A=(Q5 s r).d.A/\(0=0/\s.d.keep.length=(Q5 s r).d.keep.length)/\s.ep=(Q5 s r).ep/\(0=0/\s.L.length+1=(Q5 s r).L.length)/\s.S=(Q5 s r).S/\(0=0/\s.fr.length=j)/\s.J=(Q5 s r).J/\True)/\y/\w/\u/\True/\q/\(s.L.length+1=(Q5 s r).L.length/\Z7 (s.L.length+1) (X4 (Y1 s.L) s.L.length λ(k:Nat)=>List.take 10 (List.drop (k*10) [Ji s.ep,Ji z,Ji r.t,Ji r.k,Ji r.p,Ji r.n,Ji r.g,Ji r.s,T.str r.b,T.str r.a])) (Y1 (Q5 s r).L))/\True)) ⟨Z4 Z9,by unfold b3I;omega,λh=>?_,λh=>?_⟩
 ·have hr:O9 (P9 s r)=false:=by simpa[P9] using h
  have e:Q5 s r=s:=by unfold Q5;rw[if_neg (by rw[hr];simp)]
  rw[e,hr];exact⟨X7,X7,X7,X7,X7,Z6,u5,X7,Z6⟩
 ·have hr:O9 (P9 s r)=true:=by simpa[P9] using h
  have e:Q5 s r={s with L:=s.L++[P9 s r]}:=by unfold Q5;rw[if_pos hr]
  rw[e,hr];have l:s.L.length+1=(s.L++[P9 s r]).length:=W7
  exact⟨⟨U9 _,U9 _,R0⟩,X7,⟨rfl,rfl,X7,X7,rfl,X7,rfl,⟨rfl,l⟩,X7⟩,X7,X7,X7,Z6,u5,⟨l,hJ s.L (P9 s r)⟩,Z6⟩
def c9E:Sto:=⟨⟨[],[],false,[]⟩,0,[],0,[],0⟩
def uA(n:Nat):Le (0+n) n:=Nat.le_of_eq (D4 n)
def P1{row row':Nat->List T}:Z7 0 row row':=λi hi=>absurd hi (D2 _)
def b7R:Con:=.rmk ⟨Dsk,λd=>[.agg d.ts],λ_=>[],λd=>.agg (d.tm 0),λd=>d.hp,nN⟩
def lN:GK 170 b7R:=gk func170<|by
 rintro(d:Dsk) ⟨h1,h2,h3⟩;exact⟨C6 gN func170 Z3 [[.arr 3,.arr 5,.arr 7]] (α:=let p:=(λ(k:Nat)=>List.take 1 (List.drop (k*1) []));(Le 0 0/\U8 0 d.E.length 16)/\(Le 0 0/\U8 0 d.C.length 24)/\(Le 0 0/\U8 0 d.keep.length 8)/\(((0=0/\0+d.E.length=d.E.length)/\(0=0/\0+d.C.length=d.C.length)/\d.A=d.A/\(0=0/\0+d.keep.length=d.keep.length)/\True)/\True)/\(0+d.E.length=d.E.length/\Z7 (0+d.E.length) (X4 p 0 (Z5 d.E)) (Z5 d.E))/\(0+d.C.length=d.C.length/\Z7 (0+d.C.length) (X4 (λ(k:Nat)=>List.take 2 (List.drop (k*2) [])) 0 (Z1 d.C)) (Z1 d.C))/\(0+d.keep.length=d.keep.length/\Z7 (0+d.keep.length) (X4 p 0 (Y9 d.keep)) (Y9 d.keep))/\True) ⟨⟨U9 _,R0⟩,⟨U9 _,R0⟩,⟨U9 _,R0⟩,⟨⟨⟨rfl,Z9⟩,⟨rfl,Z9⟩,rfl,⟨rfl,Z9⟩,Z6⟩,Z6⟩,⟨Z9,v8⟩,⟨Z9,v8⟩,⟨Z9,v8⟩,Z6⟩,rfl,qJ d⟩
def b5J:Con:=.rmk ⟨Pg,λp=>[.agg p.ts],λ_=>[],λp=>.agg (p.tm 0),λp=>[A1 p.sl],λp=>p.sl.length<=1048576⟩
def a0u:GK 171 b5J:=gk func171<|by
 intro(p:Pg) (h1:p.sl.length<=1048576);exact⟨C6 gN func171 Z3 [[.arr 3]] (α:=(Le 0 0/\U8 0 p.sl.length 16)/\((p.Q=p.Q/\(0=0/\0+p.sl.length=p.sl.length)/\True)/\True)/\(0+p.sl.length=p.sl.length/\Z7 (0+p.sl.length) (X4 (λ(k:Nat)=>List.take 1 (List.drop (k*1) [])) 0 (Z5 p.sl)) (Z5 p.sl))/\True) ⟨⟨U9 _,R0⟩,⟨⟨rfl,⟨rfl,Z9⟩,Z6⟩,Z6⟩,⟨Z9,v8⟩,Z6⟩,rfl,z7 _⟩
def b9B:Con:=.rmk ⟨Sto,λs=>[.agg s.ts],λ_=>[],λs=>.agg (s.tm 0),λs=>s.hp 0,iC⟩
def b73(s:Sto):Nat->Ann
 |0=>.one (Up s.fr.length) (λx=>⟨[(1,.ref 0 0 0),(2,.ref 1 0 0),(3,.osl 6 0 x.1),(4,Ji x.1)],[pL [.osl 2 0 s.d.E.length,.osl 3 0 s.d.C.length,.bool s.d.A,.osl 4 0 s.d.keep.length,Ji s.ep,.osl 5 0 s.L.length,Ji s.S,uC s.fr,Ji s.J],b57,A1 s.d.E,D3 s.d.C,A0 s.d.keep,j6 s.L,xA 0 s.fr x.1]⟩) (λx=>s.fr.length-x.1) [.fam 7,.box 0,.box 1,.arr 2,.arr 3,.arr 4,.arr 6,.arr 7] [.box 0,.box 1,.arr 2,.arr 3,.arr 4,.arr 5,.at_ 3] (λ_=>Z3)
 |_=>.none
def b2x:GK 83 b9B:=gk func83<|by
 rintro(s:Sto) ⟨h1,h2,h3,h4⟩;refine⟨C6 (gC lN (gC a0u gN)) func83 (b73 s) [c4n] (α:=let a:=(Z0 Z1 s.d.C s.d.C);let g:=(Z0 Z5 s.d.E s.d.E);let n:=(Z0 Y9 s.d.keep s.d.keep);let m:=(0=0/\0=0);let j:=(0=0/\s.L.length=s.L.length);let w:=(Y5 s.fr);let v:=(0=0/\s.d.C.length=s.d.C.length);let u:=(0=0/\s.d.E.length=s.d.E.length);let z:=(0=0/\s.d.keep.length=s.d.keep.length);let p:=(1=1/\1=1/\Value.slice none 0 0=Value.slice none 0 0/\Value.slice none 0 0=Value.slice none 0 0/\false=false/\Value.slice none 0 0=Value.slice none 0 0/\(0:Int)=0/\Value.slice none 0 0=Value.slice none 0 0/\(0:Int)=0/\Value.slice none 0 0=Value.slice none 0 0/\(0:Int)=0/\True);∃(x:Dsk),(((zJ s.d x)/\True)/\nN x)/\(Le 0 0/\U8 0 s.L.length 96)/\(∃(X:Up s.fr.length),(m/\m/\(0=0/\0=X.val)/\0=(X.val:Int)/\True)/\(1=1/\1=1/\(0=0/\x.E.length=s.d.E.length)/\(0=0/\x.C.length=s.d.C.length)/\x.A=s.d.A/\(0=0/\x.keep.length=s.d.keep.length)/\s.ep=s.ep/\(0=0/\0+s.L.length=s.L.length)/\s.S=s.S/\(Z0 V9 s.fr s.fr)/\s.J=s.J/\True)/\p/\(Z0 Z5 x.E s.d.E)/\(Z0 Z1 x.C s.d.C)/\(Z0 Y9 x.keep s.d.keep)/\(0+s.L.length=s.L.length/\Z7 (0+s.L.length) (X4 (λ(k:Nat)=>List.take 10 (List.drop (k*10) [])) 0 (Y1 s.L)) (Y1 s.L))/\(0=0/\0=X.val/\V2 0 (λ(k:Nat)=>List.take 5 (List.drop (k*5) [])) w)/\True)/\∀(x:Up s.fr.length),let f:=x.1;let r:=(f:Int);let q:=(s.fr.getD r.toNat dz);bd (r<(s.fr.length:Int)) (W9 r s.fr.length/\∃(X:Pg),(((q.pg.Q=X.Q/\(Z0 Z5 q.pg.sl X.sl)/\True)/\True)/\X.sl.length<=1048576)/\(Le X.sl.length X.sl.length/\Le x.1 f/\U8 x.1 1 56)/\Ri (r+1)/\∃(y:Up s.fr.length),((m/\m/\(0=0/\f+1=y.1)/\r+1=(y.1:Int)/\True)/\(1=1/\1=1/\u/\v/\s.d.A=s.d.A/\z/\s.ep=s.ep/\j/\s.S=s.S/\(Z0 V9 s.fr s.fr)/\s.J=s.J/\True)/\p/\g/\a/\n/\(Z0 Y1 s.L s.L)/\(0=0/\f+1=y.1/\V2 (f+1) (X4 w x.1 λ(x_2:Nat)=>[Ji q.no,Ji X.Q,T.own 0 1 X.sl.length (Z5 X.sl),T.bool q.D,Ji q.first]) w)/\True)/\Lt (s.fr.length-y.1) (s.fr.length-f)) (((u/\v/\s.d.A=s.d.A/\z/\s.ep=s.ep/\j/\s.S=s.S/\(0=0/\f=s.fr.length)/\s.J=s.J/\True)/\True)/\g/\a/\n/\(Z0 Y1 s.L s.L)/\(0=0/\f=s.fr.length/\V2 x.1 w w)/\True)) ⟨s.d,⟨X7,h1⟩,⟨U9 _,R0⟩,⟨⟨0,N4 _⟩,X7,⟨rfl,rfl,X7,X7,rfl,X7,rfl,⟨rfl,Z9⟩,X7⟩,X7,X7,X7,X7,⟨Z9,v8⟩,⟨rfl,rfl,λi hi=>absurd hi (D2 _)⟩,Z6⟩,λx=>⟨λhc=>?_,λhc=>?_⟩⟩,rfl,rG s 0⟩
 ·have h:=Y2 hc;rw[E3];exact⟨Y6 h,(s.fr.getD x.1 dz).pg,⟨X7,h4 _ h⟩,⟨U9 _,U9 _,R0⟩,Z4 Z9,⟨x.1+1,h⟩,⟨⟨X7,X7,X7,X5,Z6⟩,X7,X7,X7,X7,X7,X7,⟨rfl,rfl,a9G⟩,Z6⟩,V5.ext_lt h⟩
 ·have hx:x.1=s.fr.length:=by have:=x.2;have:=Y0 hc;omega
  rw[hx];exact⟨X7,X7,X7,X7,X7,u5,Z6⟩
def b8r:Con:=.rmk ⟨List (Bz),λL=>[u2 L],λ_=>[],λL=>.osl 0 0 L.length,λL=>[A1 L],λL=>L.length<=1048576⟩
def a0S:GK 172 b8r:=gk func172<|by
 intro(L:List (Bz)) (hL:L.length<=1048576);refine⟨C6 gN func172 (b6I L) pZ (α:=let z:=(0=0/\L.length=L.length);let p:=(L.length:Int);(Nn p/\LeI p p/\yO 16 p.toNat 140737488355328/\Lt p.toNat 9223372036854775808)/\(∃(x:Up L.length),((Z0 Z5 L L)/\(0=0/\p.toNat=L.length)/\0=(x.1:Int)/\True)/\(p.toNat=L.length/\Z7 p.toNat (λ(x:Nat)=>[T.str []]) (xX (Z5 L) [T.str []] x.1))/\True)/\∀(x:Up L.length),let r:=(xX (Z5 L) [T.str []] x.1);let q:=(x.1:Int);bd (q<p) (W9 q L.length/\W9 q L.length/\Lt (0+q.toNat) L.length/\Ri (q+1)/\∃(y:Up L.length),(((Z0 Z5 L L)/\z/\q+1=(y.1:Int)/\True)/\(L.length=L.length/\Z7 L.length (setRow r (0+q.toNat) 0 [T.str (L.getD q.toNat [])]) (xX (Z5 L) [T.str []] y.1))/\True)/\Lt (L.length-y.1) (L.length-x.1)) ((z/\True)/\(L.length=L.length/\Z7 L.length r (Z5 L))/\True)) ⟨⟨m3,sH,sX,Q2⟩,⟨⟨0,N4 _⟩,⟨⟨S7,X6 _ _⟩,⟨S7,Z9⟩,X7⟩,⟨Z9,uT⟩,Z6⟩,λx=>⟨λhc=>?_,λhc=>?_⟩⟩,rfl,z7 L⟩
 ·have hlt:=Y2 hc;refine⟨Y6 hlt,Y6 hlt,Q2,W2 hlt Z9,⟨x.1+1,hlt⟩,⟨⟨⟨S7,X6 _ _⟩,⟨S7,S7⟩,M0,Z6⟩,⟨S7,λj hj=>?_⟩,Z6⟩,V5.ext_lt hlt⟩
  exact wW (m:=1) (λ_=>rfl) rfl x.1 rfl j
 ·have hx:x.1=L.length:=by have:=x.2;have:=Y0 hc;omega
  rw[hx];exact⟨X7,⟨rfl,λi hi=>uE (n:=L.length) i Z9⟩,Z6⟩
def b7M:Con:=.rmk ⟨List Int,λL=>[sN L],λ_=>[],λL=>.osl 0 0 L.length,λL=>[A0 L],λL=>L.length<=1048576⟩
def b1N:GK 174 b7M:=gk func174<|by
 intro(L:List Int) (hL:L.length<=1048576);refine⟨C6 gN func174 (b7C L) pZ (α:=let z:=(0=0/\L.length=L.length);let p:=(L.length:Int);(Nn p/\LeI p p/\yO 8 p.toNat 140737488355328/\Lt p.toNat 9223372036854775808)/\(∃(x:Up L.length),((Z0 Y9 L L)/\(0=0/\p.toNat=L.length)/\0=(x.1:Int)/\True)/\(p.toNat=L.length/\Z7 p.toNat (λ(x:Nat)=>[Ji 0]) (xX (Y9 L) [Ji 0] x.1))/\True)/\∀(x:Up L.length),let r:=(xX (Y9 L) [Ji 0] x.1);let q:=(x.1:Int);bd (q<p) (W9 q L.length/\W9 q L.length/\Lt (0+q.toNat) L.length/\Ri (q+1)/\∃(y:Up L.length),(((Z0 Y9 L L)/\z/\q+1=(y.1:Int)/\True)/\(L.length=L.length/\Z7 L.length (setRow r (0+q.toNat) 0 [Ji (L.getD q.toNat (0:Int))]) (xX (Y9 L) [Ji 0] y.1))/\True)/\Lt (L.length-y.1) (L.length-x.1)) ((z/\True)/\(L.length=L.length/\Z7 L.length r (Y9 L))/\True)) ⟨⟨m3,sH,sX,Q2⟩,⟨⟨0,N4 _⟩,⟨⟨S7,X6 _ _⟩,⟨S7,Z9⟩,X7⟩,⟨Z9,uT⟩,Z6⟩,λx=>⟨λhc=>?_,λhc=>?_⟩⟩,rfl,kU L⟩
 ·have hlt:=Y2 hc;refine⟨Y6 hlt,Y6 hlt,Q2,W2 hlt Z9,⟨x.1+1,hlt⟩,⟨⟨⟨S7,X6 _ _⟩,⟨S7,S7⟩,M0,Z6⟩,⟨S7,λj hj=>?_⟩,Z6⟩,V5.ext_lt hlt⟩
  exact wW (m:=1) (λ_=>rfl) rfl x.1 rfl j
 ·have hx:x.1=L.length:=by have:=x.2;have:=Y0 hc;omega
  rw[hx];exact⟨X7,⟨rfl,λi hi=>uE (n:=L.length) i Z9⟩,Z6⟩
def b4l:Con:=.rmk ⟨List Pend,λL=>[v6 L],λ_=>[],λL=>.osl 0 0 L.length,λL=>[D3 L],λL=>L.length<=1048576⟩
def a7n:GK 173 b4l:=gk func173<|by
 intro(L:List Pend) (hL:L.length<=1048576);refine⟨C6 (gC b2G gN) func173 (b2f L) pZ (α:=let z:=(0=0/\L.length=L.length);let p:=(L.length:Int);(Nn p/\LeI p p/\yO 24 p.toNat 140737488355328/\Lt p.toNat 9223372036854775808)/\(∃(x:Up L.length),((Z0 Z1 L L)/\(0=0/\p.toNat=L.length)/\0=(x.1:Int)/\True)/\(p.toNat=L.length/\Z7 p.toNat (λ(x:Nat)=>[Ji 0,T.str []]) (xX (Z1 L) [Ji 0,T.str []] x.1))/\True)/\∀(x:Up L.length),let r:=(xX (Z1 L) [Ji 0,T.str []] x.1);let q:=(x.1:Int);let u:=(L.getD q.toNat dz);bd (q<p) (W9 q L.length/\∃(X:a3h.ι),(((u.at_=X.at_/\u.d=X.d/\True)/\True)/\SmP X)/\W9 q L.length/\Lt (0+q.toNat) L.length/\Ri (q+1)/\∃(y:Up L.length),(((Z0 Z1 L L)/\z/\q+1=(y.1:Int)/\True)/\(L.length=L.length/\Z7 L.length (setRow r (0+q.toNat) 0 [Ji X.at_,T.str X.d]) (xX (Z1 L) [Ji 0,T.str []] y.1))/\True)/\Lt (L.length-y.1) (L.length-x.1)) ((z/\True)/\(L.length=L.length/\Z7 L.length r (Z1 L))/\True)) ⟨⟨m3,sH,sX,Q2⟩,⟨⟨0,N4 _⟩,⟨⟨S7,X6 _ _⟩,⟨S7,Z9⟩,X7⟩,⟨Z9,uT⟩,Z6⟩,λx=>⟨λhc=>?_,λhc=>?_⟩⟩,rfl,nU L⟩
 ·have hlt:=Y2 hc;refine⟨Y6 hlt,L.getD x.1 dz,X7,Y6 hlt,Q2,W2 hlt Z9,⟨x.1+1,hlt⟩,⟨⟨⟨S7,X6 _ _⟩,⟨S7,S7⟩,M0,Z6⟩,⟨S7,λj hj=>?_⟩,Z6⟩,V5.ext_lt hlt⟩
  exact wW (m:=2) (λ_=>rfl) rfl x.1 rfl j
 ·have hx:x.1=L.length:=by have:=x.2;have:=Y0 hc;omega
  rw[hx];exact⟨X7,⟨rfl,λi hi=>uE (n:=L.length) i Z9⟩,Z6⟩
def b5D:Con:=.rmk ⟨List Rec,λL=>[zE L],λ_=>[],λL=>.osl 0 0 L.length,λL=>[j6 L],λL=>L.length<=1048576⟩
def b4e:GK 86 b5D:=gk func86<|by
 intro(L:List Rec) (hL:L.length<=1048576);refine⟨C6 (gC b5V gN) func86 (b50 L) pZ (α:=let m:=(0=0/\L.length=L.length);let v:=(L.length:Int);(Nn v/\LeI v v/\yO 96 v.toNat 140737488355328/\Lt v.toNat 9223372036854775808)/\(∃(x:Up L.length),((Z0 Y1 L L)/\(0=0/\v.toNat=L.length)/\0=(x.1:Int)/\True)/\(v.toNat=L.length/\Z7 v.toNat (λ(x:Nat)=>[Ji 0,Ji 0,Ji 0,Ji 0,Ji 0,Ji 0,Ji 0,Ji 0,T.str [],T.str []]) λ(j:Nat)=>let r:=(G6 dz M6 L x.1 j);[Ji r.e,Ji r.l,Ji r.t,Ji r.k,Ji r.p,Ji r.n,Ji r.g,Ji r.s,T.str r.b,T.str r.a])/\True)/\∀(x:Up L.length),let w:=(x.1:Int);let q:=(λ(j:Nat)=>let z:=(G6 dz M6 L x.1 j);[Ji z.e,Ji z.l,Ji z.t,Ji z.k,Ji z.p,Ji z.n,Ji z.g,Ji z.s,T.str z.b,T.str z.a]);bd (w<v) (W9 w L.length/\∃(X:a94.ι),(((EqR (L.getD w.toNat dz) X)/\True)/\True)/\W9 w L.length/\Lt (0+w.toNat) L.length/\Ri (w+1)/\∃(y:Up L.length),(((Z0 Y1 L L)/\m/\w+1=(y.1:Int)/\True)/\(L.length=L.length/\Z7 L.length (setRow q (0+w.toNat) 0 [Ji X.e,Ji X.l,Ji X.t,Ji X.k,Ji X.p,Ji X.n,Ji X.g,Ji X.s,T.str X.b,T.str X.a]) λ(j:Nat)=>let u:=(G6 dz M6 L y.1 j);[Ji u.e,Ji u.l,Ji u.t,Ji u.k,Ji u.p,Ji u.n,Ji u.g,Ji u.s,T.str u.b,T.str u.a])/\True)/\Lt (L.length-y.1) (L.length-x.1)) ((m/\True)/\(L.length=L.length/\Z7 L.length q (Y1 L))/\True)) ⟨⟨m3,sH,sX,Q2⟩,⟨⟨0,N4 _⟩,⟨⟨S7,X6 _ _⟩,⟨S7,Z9⟩,X7⟩,⟨Z9,λj hj=>rfl⟩,Z6⟩,λx=>⟨λhc=>?_,λhc=>?_⟩⟩,rfl,qG L⟩
 ·have hlt:=Y2 hc;refine⟨Y6 hlt,L.getD x.1 dz,X7,Y6 hlt,Q2,W2 hlt Z9,⟨x.1+1,hlt⟩,⟨⟨⟨S7,X6 _ _⟩,⟨S7,S7⟩,M0,Z6⟩,⟨S7,λj hj=>?_⟩,Z6⟩,V5.ext_lt hlt⟩
  exact c2M Rec.ts 10 (λ_=>rfl) dz M6 L x.1 j
 ·have hx:x.1=L.length:=by have:=x.2;have:=Y0 hc;omega
  refine⟨X7,⟨rfl,λj hj=>?_⟩,Z6⟩
  have:G6 dz M6 L x.1 j=L.getD j dz:=by unfold G6;rw[if_pos Z9]
  exact congrArg Rec.ts this
def c1V:Con:=.rmk ⟨Dsk,λd=>[.agg d.ts],λ_=>[],λd=>.agg (d.tm 0),λd=>d.hp,nN⟩
def b7l:GK 85 c1V:=gk func85<|by
 rintro(d:Dsk) ⟨h1,h2,h3⟩;exact⟨C6 (gC a0S (gC a7n (gC b1N gN))) func85 Z3 [[.arr 3,.arr 4,.arr 5]] (α:=∃(x:(List (Bz))),let p:=x.length;(((Z0 Z5 d.E x)/\True)/\p<=1048576)/\∃(X:(List Pend)),(((Z0 Z1 d.C X)/\True)/\X.length<=1048576)/\∃(e:(List Int)),let q:=e.length;(((Z0 Y9 d.keep e)/\True)/\q<=1048576)/\(((0=0/\p=d.E.length)/\(0=0/\X.length=d.C.length)/\d.A=d.A/\(0=0/\q=d.keep.length)/\True)/\True)/\(p=d.E.length/\Z7 (p) (Z5 x) (Z5 d.E))/\(X.length=d.C.length/\Z7 (X.length) (Z1 X) (Z1 d.C))/\(q=d.keep.length/\Z7 (q) (Y9 e) (Y9 d.keep))/\True) ⟨d.E,⟨X7,h1⟩,d.C,⟨X7,h2⟩,d.keep,⟨X7,h3⟩,X7⟩,rfl,qJ d⟩
def c60:Con:=.rmk ⟨Pg,λp=>[.agg p.ts],λ_=>[],λp=>.agg (p.tm 0),λp=>[A1 p.sl],SmG⟩
def c0I:GK 267 c60:=gk func267<|by
 intro(p:Pg) h1;exact⟨C6 (gC a0S gN) func267 Z3 [[.arr 3]] (α:=∃(x:(List (Bz))),let q:=x.length;(((Z0 Z5 p.sl x)/\True)/\q<=1048576)/\((p.Q=p.Q/\(0=0/\q=p.sl.length)/\True)/\True)/\(q=p.sl.length/\Z7 (q) (Z5 x) (Z5 p.sl))/\True) ⟨p.sl,⟨X7,h1⟩,X7⟩,rfl,z7 p.sl⟩
def Frm.tm(f:Frm)(b:Nat):List T:=[Ji f.no,Ji f.pg.Q,.osl b 0 f.pg.sl.length,.bool f.D,Ji f.first]
def c1i:Con:=.rmk ⟨Frm,λf=>[.agg f.ts],λ_=>[],λf=>.agg (f.tm 0),λf=>[A1 f.pg.sl],SmF⟩
def c0g:GK 176 c1i:=gk func176<|by
 intro(f:Frm) h1;exact⟨C6 (gC c0I gN) func176 Z3 [[.arr 3]] (α:=∃(x:Pg),(((f.pg.Q=x.Q/\(Z0 Z5 f.pg.sl x.sl)/\True)/\True)/\SmG x)/\((f.no=f.no/\x.Q=f.pg.Q/\(0=0/\x.sl.length=f.pg.sl.length)/\f.D=f.D/\f.first=f.first/\True)/\True)/\(Z0 Z5 x.sl f.pg.sl)/\True) ⟨f.pg,⟨X7,h1⟩,X7⟩,rfl,z7 f.pg.sl⟩
def c9N:List T:=[Ji 0,Ji 0,.v (.slice none 0 0),.bool false,Ji 0]
def b9R:Con:=.rmk ⟨List Frm,λL=>[uC L],λ_=>[],λL=>.osl 0 0 L.length,λL=>[xA L.length L L.length],λL=>L.length<=1048576/\∀i,i<L.length->SmF (L.getD i dz)⟩
def b6a(L:List Frm):Nat->Ann
 |0=>.one (Up L.length) (λx=>⟨[(0,uC L),(3,.osl 0 0 L.length),(4,Ji x.1)],[some (.fam x.1 0 5 L.length (xX (Y5 L) c9N x.1))]⟩) (λx=>L.length-x.1) [.fam 0,.arr 0] [.arr 0] (λ_=>Z3)
 |_=>.none
def b3c:GK 87 b9R:=gk func87<|by
 rintro(L:List Frm) ⟨hL,hb⟩;refine⟨C6 (gC c0g gN) func87 (b6a L) pZ (α:=let w:=(0=0/\L.length=L.length);let u:=(Value.slice none 0 0);let q:=(L.length:Int);(Nn q/\LeI q q/\yO 56 q.toNat 140737488355328/\Lt q.toNat 9223372036854775808)/\(∃(x:Up L.length),((Z0 V9 L L)/\(0=0/\q.toNat=L.length)/\0=(x.1:Int)/\True)/\(0=x.1/\q.toNat=L.length/\V2 q.toNat (λ(x:Nat)=>[Ji 0,Ji 0,T.v u,T.bool false,Ji 0]) (xX (Y5 L) [Ji 0,Ji 0,T.v u,T.bool false,Ji 0] x.1))/\True)/\∀(x:Up L.length),let z:=(x.1:Int);let r:=(xX (Y5 L) [Ji 0,Ji 0,T.v u,T.bool false,Ji 0] x.1);let p:=(L.getD z.toNat dz);bd (z<q) (W9 z L.length/\∃(X:Frm),(((p.no=X.no/\p.pg.Q=X.pg.Q/\(Z0 Z5 p.pg.sl X.pg.sl)/\p.D=X.D/\p.first=X.first/\True)/\True)/\SmF X)/\W9 z L.length/\(0+z.toNat<L.length/\Le X.pg.sl.length X.pg.sl.length)/\Ri (z+1)/\∃(y:Up L.length),(((Z0 V9 L L)/\w/\z+1=(y.1:Int)/\True)/\(x.1+1=y.1/\L.length=L.length/\V2 L.length (setRow r (0+z.toNat) 0 [Ji X.no,Ji X.pg.Q,T.own 0 1 X.pg.sl.length (Z5 X.pg.sl),T.bool X.D,Ji X.first]) (xX (Y5 L) [Ji 0,Ji 0,T.v u,T.bool false,Ji 0] y.1))/\True)/\Lt (L.length-y.1) (L.length-x.1)) ((w/\True)/\(x.1=L.length/\L.length=L.length/\V2 L.length r (Y5 L))/\True)) ⟨⟨m3,sH,sX,Q2⟩,⟨⟨0,N4 _⟩,⟨X7,⟨rfl,Z9⟩,X7⟩,⟨rfl,Z9,tW λi _=>rfl⟩,Z6⟩,λx=>⟨λhc=>?_,λhc=>?_⟩⟩,rfl,a0j _ _ _⟩
 ·have h:=Y2 hc;exact⟨Y6 h,L.getD x.1 dz,⟨X7,hb _ h⟩,Y6 h,⟨Z9,U9 _⟩,W2 h Z9,⟨x.1+1,h⟩,⟨⟨X7,X7,X5,Z6⟩,⟨rfl,rfl,tW λj _=>wW (m:=5) (λ_=>rfl) rfl x.1 rfl j⟩,Z6⟩,V5.ext_lt h⟩
 ·have hx:x.1=L.length:=by have:=x.2;have:=Y0 hc;omega
  rw[hx];exact⟨X7,⟨rfl,rfl,tW λi hi=>uE (n:=L.length) i hi⟩,Z6⟩
def c4b:Con:=.rmk ⟨Sto,λs=>[.agg s.ts],λ_=>[],λs=>.agg (s.tm 0),λs=>s.hp s.fr.length,iC⟩
def b92:GK 36 c4b:=gk func36<|by
 rintro(s:Sto) ⟨h1,h2,h3,h4⟩;exact⟨C6 (gC b7l (gC b4e (gC b3c gN))) func36 Z3 [[.arr 3,.arr 4,.arr 5,.arr 6,.arr 7]] (α:=∃(x:Dsk),(((zJ s.d x)/\True)/\nN x)/\∃(e:(List Rec)),(((Z0 Y1 s.L e)/\True)/\e.length<=1048576)/\∃(X:(List Frm)),(((Z0 V9 s.fr X)/\True)/\X.length<=1048576/\∀(i:Nat),i<X.length->SmF (List.getD X i dz))/\((EqC {s with d:=x,L:=e,fr:=X} s)/\True)/\(Z0 Z5 x.E s.d.E)/\(Z0 Z1 x.C s.d.C)/\(Z0 Y9 x.keep s.d.keep)/\(e.length=s.L.length/\Z7 (e.length) (Y1 e) (Y1 s.L))/\(X.length=s.fr.length/\X.length=s.fr.length/\V2 (X.length) (Y5 X) (Y5 s.fr))/\True) ⟨s.d,⟨X7,h1⟩,s.L,⟨X7,h2⟩,s.fr,⟨X7,h3,h4⟩,X7,X7,X7,X7,X7,u5,Z6⟩,rfl,rG s _⟩
def dig(k:Nat):UInt8:=R1 (IntKind.u8.wrap (48+(k:Int).tmod 10))
def dgs(k:Nat)(acc:Bz):Bz:=if h:k=0 then acc else dgs (k/10) (dig k::acc)
termination_by k
decreasing_by omega
def c0v{k:Nat}(acc:Bz)(h:k≠0):dgs k acc=dgs (k/10) (dig k::acc):=by
 rw[dgs];simp[h]
def b8p(acc:Bz):dgs 0 acc=acc:=by
 rw[dgs];simp
def bM(k:Nat):Bz:=R1 109::dgs k []
def KB(n:Nat):Prop:=1<=n/\n<=10000000000000
def a6G:Con:=.rel ⟨Nat,λk=>[Ji k],λk=>.str (bM k),KB⟩
def c3r(k:Nat):Type:={p:Nat×Bz//dgs p.1 p.2=dgs k []/\p.2.length+p.1<=k}
def a7w(k:Nat):Nat->Ann
 |0=>.one (c3r k) (λx=>⟨[(0,Ji x.1.1),(3,.str x.1.2)],[]⟩) (λx=>x.1.1) [] [] (λ_=>Z3)
 |_=>.none
def o4:GK 63 a6G:=gk func63<|by
 rintro(k:Nat) ⟨h1,h2⟩;have z:Nz 10:=by unfold Nz;omega
 refine U5 gN func63 (a7w k) (α:=bd ((k:Int)<=0) ([(109:UInt8),(48:UInt8)]=bM k) ((∃(x:c3r k),((k:Int)=(x.1.1:Int)/\[]=x.1.2/\True)/\True)/\∀(x:c3r k),let r:=(1+x.1.2.length);let q:=(x.1.1:Int);let p:=(48+q.tmod (10:Int));bd (q>0) (Nz (10:Int)/\Ri p/\R2 IntKind.u8 (IntKind.u8.wrap p)/\Le 1 1/\Lt r 9223372036854775808/\(Nz (10:Int)/\Ri (q.tdiv (10:Int)))/\∃(y:c3r k),((q.tdiv (10:Int)=(y.1.1:Int)/\List.take 1 (List.drop 0 (List.map R1 [IntKind.u8.wrap p]))++x.1.2=y.1.2/\True)/\True)/\Lt y.1.1 x.1.1) (Lt r 9223372036854775808/\[(109:UInt8)]++x.1.2=bM k))) ⟨λh=>absurd (G7 h) Z9,λ_=>⟨⟨⟨(k,[]),rfl,W7⟩,X7⟩,λx=>?_⟩⟩
 obtain⟨⟨q,acc⟩,hd,l⟩:=x;dsimp only at hd l ⊢;have d:(q:Int).tmod 10=((q % 10:Nat):Int):=by rw[Int.tmod_eq_emod_of_nonneg Z9];omega
 have t:(q:Int).tdiv 10=((q/10:Nat):Int):=by rw[Int.tdiv_eq_ediv_of_nonneg Z9];omega
 refine⟨λhc=>?_,λhc=>?_⟩
 ·have hq:0<q:=by have:=G7 hc;omega
  refine⟨z,Z4 (by rw[d];omega),O7 _,U9 _,Q2,⟨z,Z4 (by rw[t];omega)⟩,⟨(q/10,dig q::acc),by rw[←hd];exact(c0v acc Z9).symm,by simp only[List.length_cons];omega⟩,⟨⟨t,rfl,Z6⟩,Z6⟩,show q/10<q by omega⟩
 ·have hq:q=0:=by have:=r9 hc;omega
  subst hq;rw[b8p] at hd;refine⟨Q2,?_⟩
  rw[hd];rfl
def i8(new old:Nat->List T)(x j:Nat):List T:=if j<x then new j else old j
def wX{new old:Nat->List T}{n:Nat}:Z7 n old (i8 new old 0):=λi _=>by unfold i8;rw[if_neg (D2 _)]
def uD{new old:Nat->List T}{n:Nat}:Z7 n (i8 new old n) new:=λi hi=>by unfold i8;rw[if_pos hi]
def a5m{new old:Nat->List T}{x:Nat}{f:Nat->List T}(h1:∀j,j≠x->f j=i8 new old x j)(d:f x=new x)(j:Nat):f j=i8 new old (x+1) j:=by
 by_cases hj:j=x
 ·rw[hj,d];unfold i8;rw[if_pos (Nat.lt_succ_self _)]
 ·rw[h1 j hj];unfold i8;by_cases h:j<x
  ·rw[if_pos h,if_pos Z9]
  ·rw[if_neg h,if_neg Z9]
def b3E{a b:Nat}(h:a≠b):Nat.beq a b=false:=by
 cases B:Nat.beq a b with
 |false=>rfl
 |true=>exact absurd (F5 B) h
def iU{a b:Nat}(h:a=b):Nat.beq a b=true:=by subst h;exact Nat.beq_refl a
def a9t{new old:Nat->List T}{cs:List T}{m:Nat}(n:∀j,(new j).length=m)(o:∀j,(old j).length=m)(x:Nat)(h:cs=new x)(j:Nat):setRow (i8 new old x) (0+(x:Int).toNat) 0 cs j=i8 new old (x+1) j:=by
 have l:∀j,(i8 new old x j).length=m:=λj=>by unfold i8;split<;>simp only[n,o]
 refine a5m (f:=setRow (i8 new old x) (0+(x:Int).toNat) 0 cs) (λi hi=>?_) ?_ j
 ·rw[E6 (by rw[l,h,n]),show Nat.beq i (0+(x:Int).toNat)=false from b3E Z9]
 ·rw[E6 (by rw[l,h,n]),show Nat.beq x (0+(x:Int).toNat)=true from iU Z9,h]
def yR(n k:Nat):List (Bz):=(List.range n).map λi=>bM (k+i)
def vH(n k:Nat):List Pend:=(List.range n).map λi=>⟨((k+2*i:Nat):Int),bM (k+2*i+1)⟩
def vE(n k:Nat):List Int:=(List.range n).map λi=>((k+i:Nat):Int)
def c7e(k:Nat):Rec:=⟨(k:Int),(k:Int)+1,(k:Int)+1+1,(k:Int)+1+1+1,(k:Int)+1+1+1+1,(k:Int)+1+1+1+1+1,(k:Int)+1+1+1+1+1+1,(k:Int)+1+1+1+1+1+1+1,bM (k+8),bM (k+9)⟩
def g8(n k:Nat):List Rec:=(List.range n).map λi=>c7e (k+10*i)
def j4{α:Type}(f:Nat->α){n i:Nat}(h:i<n)(d:α):((List.range n).map f).getD i d=f i:=by
 rw[P4,oE,List.getElem?_range h]
 rfl
def O3{α:Type}(f:Nat->α)(n:Nat):((List.range n).map f).length=n:=W7
def nR(n k m:Nat):Prop:=n<=1048576/\1<=k/\k+m*n<=10000000000000
def a55:Con:=.reff ⟨List (Bz)×Nat,λx=>[.osl 0 0 x.1.length,Ji x.2],λx=>[A1 x.1],λx=>Ji (x.2+x.1.length:Nat),λx=>[A1 (yR x.1.length x.2)],λx=>nR x.1.length x.2 1⟩
def a7J(L:List (Bz))(k:Nat):Nat->Ann
 |0=>.one (Up L.length) (λx=>⟨[(0,.osl 0 0 L.length),(1,Ji (k+x.1:Nat)),(5,Ji x.1)],[some (.arr true 0 1 L.length (i8 (Z5 (yR L.length k)) (Z5 L) x.1))]⟩) (λx=>L.length-x.1) [.arr 0] [.arr 0] (λ_=>Z3)
 |_=>.none
def jI:GK 196 a55:=gk func196<|by
 rintro⟨L,k⟩ ⟨d,h,e⟩;dsimp only at d h e;refine C6 (gC o4 gN) func196 (a7J L k) pZ (α:=let z:=(0=0/\L.length=L.length);let p:=(Z5 (yR L.length k));(∃(x:Up L.length),(z/\(k:Int)=(↑(k+x.1):Int)/\0=(x.1:Int)/\True)/\(L.length=L.length/\Z7 L.length (Z5 L) (i8 p (Z5 L) x.1))/\True)/\∀(x:Up L.length),let u:=(i8 p (Z5 L) x.1);let r:=(x.1:Int);let q:=(↑(k+x.1):Int);bd (r<(L.length:Int)) (∃(X:Nat),((q=(X:Int)/\True)/\KB X)/\W9 r L.length/\Lt (0+r.toNat) L.length/\Ri (q+1)/\Ri (r+1)/\∃(y:Up L.length),((z/\q+1=(↑(k+y.1):Int)/\r+1=(y.1:Int)/\True)/\(L.length=L.length/\Z7 L.length (setRow u (0+r.toNat) 0 [T.str (bM X)]) (i8 p (Z5 L) y.1))/\True)/\Lt (L.length-y.1) (L.length-x.1)) ((q=(↑(k+L.length):Int)/\True)/\(L.length=(yR L.length k).length/\Z7 L.length u p)/\True)) ⟨⟨⟨0,N4 _⟩,X7,⟨rfl,wX⟩,Z6⟩,λx=>⟨λhc=>?_,λhc=>?_⟩⟩
 ·have hlt:=Y2 hc;refine⟨k+x.1,⟨X7,Z9,Z9⟩,Y6 hlt,Q2,Z4 Z9,Z4 Z9,⟨x.1+1,hlt⟩,⟨⟨X7,X5,X5,Z6⟩,⟨rfl,λj _=>?_⟩,Z6⟩,V5.ext_lt hlt⟩
  exact a9t (m:=1) (λ_=>rfl) (λ_=>rfl) x.1 (show[T.str (bM (k+x.1))]=Z5 (yR L.length k) x.1 by unfold Z5 yR;rw[j4 _ hlt]) j
 ·have hx:x.1=L.length:=by have:=x.2;have:=Y0 hc;omega
  rw[hx];exact⟨X7,⟨(O3 _ _).symm,uD⟩,Z6⟩
def a7z:Con:=.rel ⟨Nat×Nat,λx=>[u2 (yR x.1 x.2),Ji x.2],λx=>Ji (x.2+x.1:Nat),λx=>nR x.1 x.2 1⟩
def a7x(n k:Nat):Nat->Ann
 |0=>.one (Up n) (λx=>⟨[(0,u2 (yR n k)),(1,Ji (k+x.1:Nat)),(5,Ji x.1)],[]⟩) (λx=>n-x.1) [] [] (λ_=>Z3)
 |_=>.none
def jU:GK 199 a7z:=gk func199<|by
 rintro⟨n,k⟩ ⟨g,d,f⟩;dsimp only at g d f;have N:(yR n k).length=n:=O3 _ _;refine U5 (gC o4 gN) func199 (a7x n k) (α:=let r:=(Z0 Z5 (yR n k) (yR n k));(∃(x:Up n),(r/\(k:Int)=(↑(k+x.1):Int)/\0=(x.1:Int)/\True)/\True)/\∀(x:Up n),let q:=(x.1:Int);let p:=(↑(k+x.1):Int);bd (q<(↑(yR n k).length:Int)) (W9 q (yR n k).length/\∃(X:Nat),((p=(X:Int)/\True)/\KB X)/\br (!(yR n k).getD q.toNat []==bM X) ((-1:Int)=(↑(k+n):Int)) (Ri (p+1)/\Ri (q+1)/\∃(y:Up n),((r/\p+1=(↑(k+y.1):Int)/\q+1=(y.1:Int)/\True)/\True)/\Lt (n-y.1) (n-x.1))) (p=(↑(k+n):Int))) ⟨⟨⟨0,N4 _⟩,X7⟩,λx=>⟨λhc=>?_,λhc=>?_⟩⟩
 ·have hlt:=Y2 hc;have hlt':x.1<n:=by omega
  have e:(yR n k).getD (x.1:Int).toNat []=bM (k+x.1):=by rw[E3];exact j4 _ hlt' _
  exact⟨Y6 hlt,k+x.1,⟨X7,Z9,Z9⟩,λh=>by rw[e] at h;simp at h,λ_=>⟨Z4 Z9,Z4 Z9,⟨x.1+1,hlt'⟩,⟨⟨X7,X5,X5,Z6⟩,Z6⟩,V5.ext_lt hlt'⟩⟩
 ·have hx:x.1=n:=by have:=x.2;have:=Y0 hc;omega
  rw[hx]
def jQ(row:Nat->List T)(i:Nat):List (Nat×T)->Nat->List T
 | []=>row
 |(j,t)::r=>jQ (setRow row i j [t]) i r
def L5{row:Nat->List T}{i j k:Nat}{cs:List T}(h:j+cs.length<=(row k).length)(d:k≠i):setRow row i j cs k=row k:=by
 rw[g9 h,b3E d]
def pD{row:Nat->List T}{i j:Nat}{t:T}(h:j<(row i).length):setRow row i j [t] i=(row i).set j t:=by
 rw[g9 C7,iU rfl]
 rw[List.set_eq_take_append_cons_drop,if_pos h];simp
def dG{i k:Nat}(e:k≠i):∀{l:List (Nat×T)} {row:Nat->List T},(∀p ∈ l,p.1<(row k).length)->jQ row i l k=row k
 | [],row,_=>rfl
 |(j,t)::r,row,h=>by
  have d:setRow row i j [t] k=row k:=L5 (by have:=h (j,t) W7;simp only[List.length_singleton];omega) e
  show jQ (setRow row i j [t]) i r k=row k;rw[dG e (λp hp=>by rw[d];exact h p (by simp[hp])),d]
def cV{i:Nat}:∀{l:List (Nat×T)} {row:Nat->List T},(∀p ∈ l,p.1<(row i).length)->jQ row i l i=l.foldl (λc p=>c.set p.1 p.2) (row i)
 | [],row,_=>rfl
 |(j,t)::r,row,h=>by
  have d:setRow row i j [t] i=(row i).set j t:=pD (h (j,t) W7)
  show jQ (setRow row i j [t]) i r i=r.foldl (λc p=>c.set p.1 p.2) ((row i).set j t)
  rw[cV (λp hp=>by rw[d,zW];exact h p (by simp[hp])),d]
def uY{new old:Nat->List T}{m:Nat}(n:∀j,(new j).length=m)(o:∀j,(old j).length=m)(x:Nat)(l:List (Nat×T))(L:∀p ∈ l,p.1<m)(C:l.foldl (λc p=>c.set p.1 p.2) (old x)=new x)(j:Nat):jQ (i8 new old x) (0+(x:Int).toNat) l j=i8 new old (x+1) j:=by
 have h:∀j,(i8 new old x j).length=m:=λj=>by unfold i8;split<;>simp only[n,o]
 have X:0+(x:Int).toNat=x:=Z9
 rw[X];refine a5m (f:=jQ (i8 new old x) x l) (λi hi=>?_) ?_ j
 ·exact dG hi λp hp=>by rw[h];exact L p hp
 ·rw[cV λp hp=>by rw[h];exact L p hp,show i8 new old x x=old x by unfold i8;rw[if_neg (Nat.lt_irrefl x)],C]
def a6o:Con:=.reff ⟨List Int×Nat,λx=>[.osl 0 0 x.1.length,Ji x.2],λx=>[A0 x.1],λx=>Ji (x.2+x.1.length:Nat),λx=>[A0 (vE x.1.length x.2)],λx=>nR x.1.length x.2 1⟩
def a8y(L:List Int)(k:Nat):Nat->Ann
 |0=>.one (Up L.length) (λx=>⟨[(0,.osl 0 0 L.length),(1,Ji (k+x.1:Nat)),(5,Ji x.1)],[some (.arr true 0 1 L.length (i8 (Y9 (vE L.length k)) (Y9 L) x.1))]⟩) (λx=>L.length-x.1) [.arr 0] [.arr 0] (λ_=>Z3)
 |_=>.none
def a3A:GK 198 a6o:=gk func198<|by
 rintro⟨L,k⟩ ⟨d,h,e⟩;dsimp only at d h e;refine C6 gN func198 (a8y L k) pZ (α:=let z:=(0=0/\L.length=L.length);let p:=(Y9 (vE L.length k));(∃(x:Up L.length),(z/\(k:Int)=(↑(k+x.1):Int)/\0=(x.1:Int)/\True)/\(L.length=L.length/\Z7 L.length (Y9 L) (i8 p (Y9 L) x.1))/\True)/\∀(x:Up L.length),let u:=(i8 p (Y9 L) x.1);let r:=(x.1:Int);let q:=(↑(k+x.1):Int);bd (r<(L.length:Int)) (W9 r L.length/\Lt (0+r.toNat) L.length/\Ri (q+1)/\Ri (r+1)/\∃(y:Up L.length),((z/\q+1=(↑(k+y.1):Int)/\r+1=(y.1:Int)/\True)/\(L.length=L.length/\Z7 L.length (setRow u (0+r.toNat) 0 [Ji q]) (i8 p (Y9 L) y.1))/\True)/\Lt (L.length-y.1) (L.length-x.1)) ((q=(↑(k+L.length):Int)/\True)/\(L.length=(vE L.length k).length/\Z7 L.length u p)/\True)) ⟨⟨⟨0,N4 _⟩,X7,⟨rfl,wX⟩,Z6⟩,λx=>⟨λhc=>?_,λhc=>?_⟩⟩
 ·have hlt:=Y2 hc;refine⟨Y6 hlt,Q2,Z4 Z9,Z4 Z9,⟨x.1+1,hlt⟩,⟨⟨X7,X5,X5,Z6⟩,⟨rfl,λj _=>?_⟩,Z6⟩,V5.ext_lt hlt⟩
  exact a9t (m:=1) (λ_=>rfl) (λ_=>rfl) x.1 (show[Ji ((k+x.1:Nat):Int)]=Y9 (vE L.length k) x.1 by unfold Y9 vE;rw[j4 _ hlt]) j
 ·have hx:x.1=L.length:=by have:=x.2;have:=Y0 hc;omega
  rw[hx];exact⟨X7,⟨(O3 _ _).symm,uD⟩,Z6⟩
def a8D:Con:=.rel ⟨Nat×Nat,λx=>[sN (vE x.1 x.2),Ji x.2],λx=>Ji (x.2+x.1:Nat),λx=>nR x.1 x.2 1⟩
def a8V(n k:Nat):Nat->Ann
 |0=>.one (Up n) (λx=>⟨[(0,sN (vE n k)),(1,Ji (k+x.1:Nat)),(5,Ji x.1)],[]⟩) (λx=>n-x.1) [] [] (λ_=>Z3)
 |_=>.none
def a26:GK 201 a8D:=gk func201<|by
 rintro⟨n,k⟩ ⟨f,d,g⟩;dsimp only at f d g;have N:(vE n k).length=n:=O3 _ _;refine U5 gN func201 (a8V n k) (α:=let r:=(Z0 Y9 (vE n k) (vE n k));(∃(x:Up n),(r/\(k:Int)=(↑(k+x.1):Int)/\0=(x.1:Int)/\True)/\True)/\∀(x:Up n),let q:=(x.1:Int);let p:=(↑(k+x.1):Int);bd (q<(↑(vE n k).length:Int)) (W9 q (vE n k).length/\br ((vE n k).getD q.toNat (0:Int) !=p) ((-1:Int)=(↑(k+n):Int)) (Ri (p+1)/\Ri (q+1)/\∃(y:Up n),((r/\p+1=(↑(k+y.1):Int)/\q+1=(y.1:Int)/\True)/\True)/\Lt (n-y.1) (n-x.1))) (p=(↑(k+n):Int))) ⟨⟨⟨0,N4 _⟩,X7⟩,λx=>⟨λhc=>?_,λhc=>?_⟩⟩
 ·have hlt:=Y2 hc;have hlt':x.1<n:=by omega
  have e:(vE n k).getD (x.1:Int).toNat 0=((k+x.1:Nat):Int):=by rw[E3];exact j4 _ hlt' _
  exact⟨Y6 hlt,λh=>by rw[e] at h;simp at h,λ_=>⟨Z4 Z9,Z4 Z9,⟨x.1+1,hlt'⟩,⟨⟨X7,X5,X5,Z6⟩,Z6⟩,V5.ext_lt hlt'⟩⟩
 ·have hx:x.1=n:=by have:=x.2;have:=Y0 hc;omega
  rw[hx]
def a3f:Con:=.reff ⟨List Pend×Nat,λx=>[.osl 0 0 x.1.length,Ji x.2],λx=>[D3 x.1],λx=>Ji (x.2+2*x.1.length:Nat),λx=>[D3 (vH x.1.length x.2)],λx=>nR x.1.length x.2 2⟩
def a5K(L:List Pend)(k:Nat):Nat->Ann
 |0=>.one (Up L.length) (λx=>⟨[(0,.osl 0 0 L.length),(1,Ji (k+2*x.1:Nat)),(5,Ji x.1)],[some (.arr true 0 2 L.length (i8 (Z1 (vH L.length k)) (Z1 L) x.1))]⟩) (λx=>L.length-x.1) [.arr 0] [.arr 0] (λ_=>Z3)
 |_=>.none
def a2P:GK 197 a3f:=gk func197<|by
 rintro⟨L,k⟩ ⟨d,h,e⟩;dsimp only at d h e;refine C6 (gC o4 gN) func197 (a5K L k) pZ (α:=let u:=(0=0/\L.length=L.length);let q:=(Z1 (vH L.length k));(∃(x:Up L.length),(u/\(k:Int)=(↑(k+2*x.1):Int)/\0=(x.1:Int)/\True)/\(L.length=L.length/\Z7 L.length (Z1 L) (i8 q (Z1 L) x.1))/\True)/\∀(x:Up L.length),let v:=(i8 q (Z1 L) x.1);let r:=(x.1:Int);let z:=(0+r.toNat);let p:=(↑(k+2*x.1):Int);bd (r<(L.length:Int)) (W9 r L.length/\Lt z L.length/\Ri (p+1)/\∃(X:Nat),((p+1=(X:Int)/\True)/\KB X)/\W9 r L.length/\Lt z L.length/\Ri (p+1+1)/\Ri (r+1)/\∃(y:Up L.length),((u/\p+1+1=(↑(k+2*y.1):Int)/\r+1=(y.1:Int)/\True)/\(L.length=L.length/\Z7 L.length (setRow (setRow v z 0 [Ji p]) z 1 [T.str (bM X)]) (i8 q (Z1 L) y.1))/\True)/\Lt (L.length-y.1) (L.length-x.1)) ((p=(↑(k+2*L.length):Int)/\True)/\(L.length=(vH L.length k).length/\Z7 L.length v q)/\True)) ⟨⟨⟨0,N4 _⟩,X7,⟨rfl,wX⟩,Z6⟩,λx=>⟨λhc=>?_,λhc=>?_⟩⟩
 ·have hlt:=Y2 hc;have ib:=Y6 hlt;have lt:Lt (0+(x.1:Int).toNat) L.length:=by unfold Lt;omega
  refine⟨ib,lt,Z4 Z9,k+2*x.1+1,⟨⟨Z9,Z6⟩,Z9,Z9⟩,ib,lt,Z4 Z9,Z4 Z9,⟨x.1+1,hlt⟩,⟨⟨X7,X5,X5,Z6⟩,⟨rfl,λj _=>?_⟩,Z6⟩,V5.ext_lt hlt⟩
  exact uY (m:=2) (λ_=>rfl) (λ_=>rfl) x.1 [(0,Ji (k+2*x.1:Nat)),(1,.str (bM (k+2*x.1+1)))] W7 (by unfold Z1 vH;rw[j4 _ hlt];rfl) j
 ·have hx:x.1=L.length:=by have:=x.2;have:=Y0 hc;omega
  rw[hx];exact⟨X7,⟨(O3 _ _).symm,uD⟩,Z6⟩
def a5w:Con:=.rel ⟨Nat×Nat,λx=>[v6 (vH x.1 x.2),Ji x.2],λx=>Ji (x.2+2*x.1:Nat),λx=>nR x.1 x.2 2⟩
def a4t(n k:Nat):Nat->Ann
 |0=>.one (Up n) (λx=>⟨[(0,v6 (vH n k)),(1,Ji (k+2*x.1:Nat)),(5,Ji x.1)],[]⟩) (λx=>n-x.1) [] [] (λ_=>Z3)
 |_=>.none
def a1H:GK 200 a5w:=gk func200<|by
 rintro⟨n,k⟩ ⟨j,f,g⟩;dsimp only at j f g;have N:(vH n k).length=n:=O3 _ _;refine U5 (gC o4 gN) func200 (a4t n k) (α:=let v:=(Z0 Z1 (vH n k) (vH n k));let z:=(vH n k).length;let r:=(↑(k+2*n):Int);(∃(x:Up n),(v/\(k:Int)=(↑(k+2*x.1):Int)/\0=(x.1:Int)/\True)/\True)/\∀(x:Up n),let q:=(x.1:Int);let u:=((vH n k).getD q.toNat dz);let p:=(↑(k+2*x.1):Int);bd (q<(↑z:Int)) (W9 q z/\br (u.at_ !=p) ((-1:Int)=r) (Ri (p+1)/\W9 q z/\∃(X:Nat),((p+1=(X:Int)/\True)/\KB X)/\br (! u.d==bM X) ((-1:Int)=r) (Ri (p+1+1)/\Ri (q+1)/\∃(y:Up n),((v/\p+1+1=(↑(k+2*y.1):Int)/\q+1=(y.1:Int)/\True)/\True)/\Lt (n-y.1) (n-x.1)))) (p=r)) ⟨⟨⟨0,N4 _⟩,X7⟩,λx=>⟨λhc=>?_,λhc=>?_⟩⟩
 ·have hlt:=Y2 hc;have hlt':x.1<n:=by omega
  have e:(vH n k).getD (x.1:Int).toNat dz=⟨((k+2*x.1:Nat):Int),bM (k+2*x.1+1)⟩:=by rw[E3];exact j4 _ hlt' _
  rw[e];have i:=Y6 hlt;exact⟨i,λh=>L4,λ_=>⟨Z4 Z9,i,k+2*x.1+1,⟨⟨Z9,Z6⟩,Z9,Z9⟩,λh=>L4,λ_=>⟨Z4 Z9,Z4 Z9,⟨x.1+1,hlt'⟩,⟨⟨X7,X5,X5,Z6⟩,Z6⟩,V5.ext_lt hlt'⟩⟩⟩
 ·have hx:x.1=n:=by have:=x.2;have:=Y0 hc;omega
  rw[hx]
def a7H:Con:=.reff ⟨List Rec×Nat,λx=>[.osl 0 0 x.1.length,Ji x.2],λx=>[j6 x.1],λx=>Ji (x.2+10*x.1.length:Nat),λx=>[j6 (g8 x.1.length x.2)],λx=>nR x.1.length x.2 10⟩
def a7k(L:List Rec)(k:Nat):Nat->Ann
 |0=>.one (Up L.length) (λx=>⟨[(0,.osl 0 0 L.length),(1,Ji (k+10*x.1:Nat)),(5,Ji x.1)],[some (.arr true 0 10 L.length (i8 (Y1 (g8 L.length k)) (Y1 L) x.1))]⟩) (λx=>L.length-x.1) [.arr 0] [.arr 0] (λ_=>Z3)
 |_=>.none
def a5F:GK 107 a7H:=gk func107<|by
 rintro⟨L,k⟩ ⟨f,h,e⟩;dsimp only at f h e;refine C6 (gC o4 gN) func107 (a7k L k) pZ (α:=let u:=(0=0/\L.length=L.length);let z:=(Y1 (g8 L.length k));(∃(x:Up L.length),(u/\(k:Int)=(↑(k+10*x.1):Int)/\0=(x.1:Int)/\True)/\(L.length=L.length/\Z7 L.length (Y1 L) (i8 z (Y1 L) x.1))/\True)/\∀(x:Up L.length),let v:=(i8 z (Y1 L) x.1);let r:=(x.1:Int);let q:=(0+r.toNat);let p:=(↑(k+10*x.1):Int);bd (r<(L.length:Int)) (W9 r L.length/\Lt q L.length/\Ri (p+1)/\W9 r L.length/\Lt q L.length/\Ri (p+1+1)/\W9 r L.length/\Lt q L.length/\Ri (p+1+1+1)/\W9 r L.length/\Lt q L.length/\Ri (p+1+1+1+1)/\W9 r L.length/\Lt q L.length/\Ri (p+1+1+1+1+1)/\W9 r L.length/\Lt q L.length/\Ri (p+1+1+1+1+1+1)/\W9 r L.length/\Lt q L.length/\Ri (p+1+1+1+1+1+1+1)/\W9 r L.length/\Lt q L.length/\Ri (p+1+1+1+1+1+1+1+1)/\∃(X:Nat),((p+1+1+1+1+1+1+1+1=(X:Int)/\True)/\KB X)/\W9 r L.length/\Lt q L.length/\Ri (p+1+1+1+1+1+1+1+1+1)/\∃(d:Nat),((p+1+1+1+1+1+1+1+1+1=(d:Int)/\True)/\KB d)/\W9 r L.length/\Lt q L.length/\Ri (p+1+1+1+1+1+1+1+1+1+1)/\Ri (r+1)/\∃(y:Up L.length),((u/\p+1+1+1+1+1+1+1+1+1+1=(↑(k+10*y.1):Int)/\r+1=(y.1:Int)/\True)/\(L.length=L.length/\Z7 L.length (setRow (setRow (setRow (setRow (setRow (setRow (setRow (setRow (setRow (setRow v q 0 [Ji p]) q 1 [Ji (p+1)]) q 2 [Ji (p+1+1)]) q 3 [Ji (p+1+1+1)]) q 4 [Ji (p+1+1+1+1)]) q 5 [Ji (p+1+1+1+1+1)]) q 6 [Ji (p+1+1+1+1+1+1)]) q 7 [Ji (p+1+1+1+1+1+1+1)]) q 8 [T.str (bM X)]) q 9 [T.str (bM d)]) (i8 z (Y1 L) y.1))/\True)/\Lt (L.length-y.1) (L.length-x.1)) ((p=(↑(k+10*L.length):Int)/\True)/\(L.length=(g8 L.length k).length/\Z7 L.length v z)/\True)) ⟨⟨⟨0,N4 _⟩,X7,⟨rfl,wX⟩,Z6⟩,λx=>⟨λhc=>?_,λhc=>?_⟩⟩
 ·have hlt:=Y2 hc;have ib:=Y6 hlt;have lt:Lt (0+(x.1:Int).toNat) L.length:=by unfold Lt;omega
  refine⟨ib,lt,Z4 Z9,ib,lt,Z4 Z9,ib,lt,Z4 Z9,ib,lt,Z4 Z9,ib,lt,Z4 Z9,ib,lt,Z4 Z9,ib,lt,Z4 Z9,ib,lt,Z4 Z9,k+10*x.1+8,⟨⟨Z9,Z6⟩,Z9,Z9⟩,ib,lt,Z4 Z9,k+10*x.1+9,⟨⟨Z9,Z6⟩,Z9,Z9⟩,ib,lt,Z4 Z9,Z4 Z9,⟨x.1+1,hlt⟩,⟨⟨X7,X5,X5,Z6⟩,⟨rfl,λj _=>?_⟩,Z6⟩,V5.ext_lt hlt⟩
  exact uY (m:=10) (λ_=>rfl) (λ_=>rfl) x.1 [(0,Ji (((k+10*x.1:Nat):Int))),(1,Ji (((k+10*x.1:Nat):Int)+1)),(2,Ji (((k+10*x.1:Nat):Int)+1+1)),(3,Ji (((k+10*x.1:Nat):Int)+1+1+1)),(4,Ji (((k+10*x.1:Nat):Int)+1+1+1+1)),(5,Ji (((k+10*x.1:Nat):Int)+1+1+1+1+1)),(6,Ji (((k+10*x.1:Nat):Int)+1+1+1+1+1+1)),(7,Ji (((k+10*x.1:Nat):Int)+1+1+1+1+1+1+1)),(8,.str (bM (k+10*x.1+8))),(9,.str (bM (k+10*x.1+9)))] W7 (by unfold Y1 g8;rw[j4 _ hlt];rfl) j
 ·have hx:x.1=L.length:=by have:=x.2;have:=Y0 hc;omega
  rw[hx];exact⟨X7,⟨(O3 _ _).symm,uD⟩,Z6⟩
def a6y:Con:=.rel ⟨Nat×Nat,λx=>[zE (g8 x.1 x.2),Ji x.2],λx=>Ji (x.2+10*x.1:Nat),λx=>nR x.1 x.2 10⟩
def a8M(n k:Nat):Nat->Ann
 |0=>.one (Up n) (λx=>⟨[(0,zE (g8 n k)),(1,Ji (k+10*x.1:Nat)),(5,Ji x.1)],[]⟩) (λx=>n-x.1) [] [] (λ_=>Z3)
 |_=>.none
def a4w:GK 112 a6y:=gk func112<|by
 rintro⟨n,k⟩ ⟨o,f,j⟩;dsimp only at o f j;have N:(g8 n k).length=n:=O3 _ _;refine U5 (gC o4 gN) func112 (a8M n k) (α:=let w:=(Z0 Y1 (g8 n k) (g8 n k));let u:=(g8 n k).length;let z:=((-1:Int)=(↑(k+10*n):Int));(∃(x:Up n),(w/\(k:Int)=(↑(k+10*x.1):Int)/\0=(x.1:Int)/\True)/\True)/\∀(x:Up n),let v:=(x.1:Int);let r:=((g8 n k).getD v.toNat dz);let q:=(↑(k+10*x.1):Int);bd (v<(↑u:Int)) (W9 v u/\br (r.e !=q) z (Ri (q+1)/\W9 v u/\br (r.l !=q+1) z (Ri (q+1+1)/\W9 v u/\br (r.t !=q+1+1) z (Ri (q+1+1+1)/\W9 v u/\br (r.k !=q+1+1+1) z (Ri (q+1+1+1+1)/\W9 v u/\br (r.p !=q+1+1+1+1) z (Ri (q+1+1+1+1+1)/\W9 v u/\br (r.n !=q+1+1+1+1+1) z (Ri (q+1+1+1+1+1+1)/\W9 v u/\br (r.g !=q+1+1+1+1+1+1) z (Ri (q+1+1+1+1+1+1+1)/\W9 v u/\br (r.s !=q+1+1+1+1+1+1+1) z (Ri (q+1+1+1+1+1+1+1+1)/\W9 v u/\∃(X:Nat),((q+1+1+1+1+1+1+1+1=(X:Int)/\True)/\KB X)/\br (! r.b==bM X) z (Ri (q+1+1+1+1+1+1+1+1+1)/\W9 v u/\∃(d:Nat),((q+1+1+1+1+1+1+1+1+1=(d:Int)/\True)/\KB d)/\br (! r.a==bM d) z (Ri (q+1+1+1+1+1+1+1+1+1+1)/\Ri (v+1)/\∃(y:Up n),((w/\q+1+1+1+1+1+1+1+1+1+1=(↑(k+10*y.1):Int)/\v+1=(y.1:Int)/\True)/\True)/\Lt (n-y.1) (n-x.1)))))))))))) (q=(↑(k+10*n):Int))) ⟨⟨⟨0,N4 _⟩,X7⟩,λx=>⟨λhc=>?_,λhc=>?_⟩⟩
 ·have hlt:=Y2 hc;have hlt':x.1<n:=by omega
  have e:(g8 n k).getD (x.1:Int).toNat dz=c7e (k+10*x.1):=by rw[E3];exact j4 _ hlt' _
  rw[e];have i:=Y6 hlt;unfold c7e;exact⟨i,λh=>L4,λ_=>⟨Z4 Z9,i,λh=>L4,λ_=>⟨Z4 Z9,i,λh=>L4,λ_=>⟨Z4 Z9,i,λh=>L4,λ_=>⟨Z4 Z9,i,λh=>L4,λ_=>⟨Z4 Z9,i,λh=>L4,λ_=>⟨Z4 Z9,i,λh=>L4,λ_=>⟨Z4 Z9,i,λh=>L4,λ_=>⟨Z4 Z9,i,k+10*x.1+8,⟨⟨Z9,Z6⟩,Z9,Z9⟩,λh=>L4,λ_=>⟨Z4 Z9,i,k+10*x.1+9,⟨⟨Z9,Z6⟩,Z9,Z9⟩,λh=>L4,λ_=>⟨Z4 Z9,Z4 Z9,⟨x.1+1,hlt'⟩,⟨⟨X7,X5,X5,Z6⟩,Z6⟩,V5.ext_lt hlt'⟩⟩⟩⟩⟩⟩⟩⟩⟩⟩⟩
 ·have hx:x.1=n:=by have:=x.2;have:=Y0 hc;omega
  rw[hx]
def L7(l:Nat->Nat)(k:Nat):Nat->Nat
 |0=>k
 |i+1=>L7 l k i+(l i+4)
def hM(l:Nat->Nat)(k:Nat):∀{n:Nat},(∀i,i<n->l i<=1048576)->L7 l k n<=k+n*1048580
 |0,_=>by show k<=_;omega
 |n+1,h=>by
  have d:=hM l k (n:=n) λi hi=>h i Z9
  have e:=h n (Nat.lt_succ_self n);show L7 l k n+(l n+4)<=_;omega
def yA(ln:Nat->Nat)(k:Nat){i:Nat}:∀{j:Nat},i<=j->L7 ln k i<=L7 ln k j
 |0,h=>by(obtain rfl:i=0:=by omega);exact U9 _
 |j+1,h=>by
  by_cases J:i=j+1
  ·rw[J];exact U9 _
  ·have:=yA ln k (i:=i) (j:=j) Z9
   show L7 ln k i<=L7 ln k j+(ln j+4);omega
def a7Z(q n:Nat):Frm:=⟨(q:Int),⟨(q:Int)+1,yR n (q+2)⟩,((q+2+n:Nat):Int).tmod 3==0,((q+2+n:Nat):Int)+1⟩
def vO(n:Nat)(l:Nat->Nat)(k:Nat):List Frm:=(List.range n).map λi=>a7Z (L7 l k i) (l i)
def N5(L:List Frm)(i:Nat):Nat:=(L.getD i dz).pg.sl.length
def vX(L:List Frm)(k x j:Nat):Frm:=if j<x then a7Z (L7 (N5 L) k j) (N5 L j) else L.getD j dz
def fcs(f:Frm):List T:=[Ji f.no,Ji f.pg.Q,.own 0 1 f.pg.sl.length (Z5 f.pg.sl),.bool f.D,Ji f.first]
def KBf(n:Nat)(l:Nat->Nat)(k:Nat):Prop:=n<=1048576/\1<=k/\L7 l k n<=10000000000000/\∀i,i<n->l i<=1048576
def a6d:Con:=.reff ⟨List Frm×Nat×Nat,λx=>[.osl 0 0 x.1.length,Ji x.2.1],λx=>[xA x.2.2 x.1 x.1.length],λx=>Ji (L7 (N5 x.1) x.2.1 x.1.length),λx=>[xA x.2.2 (vO x.1.length (N5 x.1) x.2.1) x.1.length],λx=>KBf x.1.length (N5 x.1) x.2.1⟩
def a9k(L:List Frm)(k v:Nat):Nat->Ann
 |0=>.one (Up L.length) (λx=>⟨[(0,.osl 0 0 L.length),(1,Ji (L7 (N5 L) k x.1)),(5,Ji x.1)],[some (.fam v 0 5 L.length λj=>fcs (vX L k x.1 j))]⟩) (λx=>L.length-x.1) [.arr 0] [.arr 0] (λ_=>Z3)
 |_=>.none
def c35{L:List Frm}{k x:Nat}(j:Nat):jQ (λj=>fcs (vX L k x j)) x [(0,Ji (L7 (N5 L) k x)),(1,Ji ((L7 (N5 L) k x:Int)+1)),(2,.own 0 1 (yR (L.getD x dz).pg.sl.length (L7 (N5 L) k x+2)).length (Z5 (yR (L.getD x dz).pg.sl.length (L7 (N5 L) k x+2)))),(3,.bool (((L7 (N5 L) k x+2+(L.getD x dz).pg.sl.length:Nat):Int).tmod 3==0)),(4,Ji (((L7 (N5 L) k x+2+(L.getD x dz).pg.sl.length:Nat):Int)+1))] j=fcs (vX L k (x+1) j):=by
 by_cases hj:j=x
 ·subst hj;rw[cV (by simp[fcs]),show vX L k (j+1) j=a7Z (L7 (N5 L) k j) (N5 L j) by unfold vX;rw[if_pos (Nat.lt_succ_self _)]]
  rfl
 ·rw[dG hj (by simp[fcs])]
  have:vX L k x j=vX L k (x+1) j:=by
   unfold vX;by_cases h:j<x
   ·rw[if_pos h,if_pos Z9]
   ·rw[if_neg h,if_neg Z9]
  rw[this]
def a5a:GK 108 a6d:=gk func108<|by
 rintro⟨L,k,v⟩ ⟨g,d,e,h4⟩;dsimp only at g d e h4;refine C6 (gC jI gN) func108 (a9k L k v) pZ (α:=let a:=(0=0/\L.length=L.length);(∃(x:Up L.length),(a/\(k:Int)=(↑(L7 (N5 L) k x.1):Int)/\0=(x.1:Int)/\True)/\(v=v/\L.length=L.length/\V2 L.length (Y5 L) λ(j:Nat)=>let m:=(vX L k x.1 j);[Ji m.no,Ji m.pg.Q,T.own 0 1 m.pg.sl.length (Z5 m.pg.sl),T.bool m.D,Ji m.first])/\True)/\∀(x:Up L.length),let w:=(x.1:Int);let r:=(↑(L7 (N5 L) k x.1):Int);let q:=(λ(j:Nat)=>let n:=(vX L k x.1 j);[Ji n.no,Ji n.pg.Q,T.own 0 1 n.pg.sl.length (Z5 n.pg.sl),T.bool n.D,Ji n.first]);let p:=(0+w.toNat);let z:=(vX L k x.1 p);bd (w<(L.length:Int)) (W9 w L.length/\kV p L.length [Ji z.no]/\Ri (r+1)/\W9 w L.length/\kV p L.length [Ji z.pg.Q]/\Ri (r+1+1)/\W9 w L.length/\Lt p L.length/\∃(X:(List (Bz)×Nat)),let g:=(yR X.1.length X.2);let u:=(↑(X.2+X.1.length):Int);((((0=0/\z.pg.sl.length=X.1.length)/\r+1+1=(X.2:Int)/\True)/\((Z0 Z5 z.pg.sl X.1)/\True)/\nR X.1.length X.2 1)/\c9w v v p L.length z.pg.sl.length z.pg.sl.length g.length (Z5 g))/\Nz (3:Int)/\W9 w L.length/\kV p L.length [T.bool z.D]/\Ri (u+1)/\W9 w L.length/\kV p L.length [Ji z.first]/\Ri (u+1+1)/\Ri (w+1)/\∃(y:Up L.length),((a/\u+1+1=(↑(L7 (N5 L) k y.1):Int)/\w+1=(y.1:Int)/\True)/\(v=v/\L.length=L.length/\V2 L.length (setRow (setRow (setRow (setRow (setRow q p 0 [Ji r]) p 1 [Ji (r+1)]) p 2 [T.own 0 1 g.length (Z5 g)]) p 3 [T.bool (u.tmod (3:Int)==0)]) p 4 [Ji (u+1)]) λ(j:Nat)=>let f:=(vX L k y.1 j);[Ji f.no,Ji f.pg.Q,T.own 0 1 f.pg.sl.length (Z5 f.pg.sl),T.bool f.D,Ji f.first])/\True)/\Lt (L.length-y.1) (L.length-x.1)) ((r=(↑(L7 (N5 L) k L.length):Int)/\True)/\(v=v/\L.length=L.length/\V2 L.length q (Y5 (vO L.length (N5 L) k)))/\True)) ⟨⟨⟨0,N4 _⟩,X7,⟨rfl,rfl,tW λi _=>rfl⟩,Z6⟩,λx=>⟨λhc=>?_,λhc=>?_⟩⟩
 ·have hlt:=Y2 hc;have ib:=Y6 hlt;have hm:=yA (N5 L) k (i:=x.1+1) (j:=L.length) hlt;have hk:=yA (N5 L) k (i:=0) (j:=x.1) (N4 _);have hp:L7 (N5 L) k (x.1+1)=L7 (N5 L) k x.1+((L.getD x.1 dz).pg.sl.length+4):=rfl;have h0:L7 (N5 L) k 0=k:=rfl;have hx4:(L.getD x.1 dz).pg.sl.length<=1048576:=h4 _ hlt;have eu:vX L k x.1 x.1=L.getD x.1 dz:=by unfold vX;rw[if_neg (Nat.lt_irrefl _)]
  rw[E3,D4,eu];refine⟨ib,⟨hlt,rfl⟩,Z4 Z9,ib,⟨hlt,rfl⟩,Z4 Z9,ib,hlt,((L.getD x.1 dz).pg.sl,L7 (N5 L) k x.1+2),⟨⟨⟨X7,X5,Z6⟩,X7,hx4,X5,X5⟩,rfl,hlt,U9 _,O3 _ _,λr _ t h=>?_⟩,b0C,ib,⟨hlt,rfl⟩,Z4 X5,ib,⟨hlt,rfl⟩,Z4 X5,Z4 Z9,⟨x.1+1,hlt⟩,⟨⟨X7,X5,X5,Z6⟩,⟨rfl,rfl,tW λj _=>?_⟩,Z6⟩,V5.ext_lt hlt⟩
  ·simp only[Z5,List.mem_singleton] at h;rw[h];rfl
  ·exact c35 j
 ·have hx:x.1=L.length:=by have:=x.2;have:=Y0 hc;omega
  rw[hx];refine⟨X7,⟨rfl,rfl,tW λi hi=>?_⟩,Z6⟩
  have f:vX L k L.length i=a7Z (L7 (N5 L) k i) (N5 L i):=by unfold vX;rw[if_pos hi]
  have l:(vO L.length (N5 L) k).getD i dz=a7Z (L7 (N5 L) k i) (N5 L i):=j4 _ hi _;rw[f];unfold Y5;rw[l]
def a57:Con:=.rel ⟨Nat×(Nat->Nat)×Nat,λx=>[uC (vO x.1 x.2.1 x.2.2),Ji x.2.2],λx=>Ji (L7 x.2.1 x.2.2 x.1),λx=>KBf x.1 x.2.1 x.2.2⟩
def a8C(n:Nat)(l:Nat->Nat)(k:Nat):Nat->Ann
 |0=>.one (Up n) (λx=>⟨[(0,uC (vO n l k)),(1,Ji (L7 l k x.1)),(5,Ji x.1)],[]⟩) (λx=>n-x.1) [] [] (λ_=>Z3)
 |_=>.none
def a3i:GK 113 a57:=gk func113<|by
 rintro⟨n,l,k⟩ ⟨q,g,o,f⟩;dsimp only at q g o f;have N:(vO n l k).length=n:=O3 _ _;refine U5 (gC jU gN) func113 (a8C n l k) (α:=let j:=(↑(L7 l k n):Int);let z:=(vO n l k);let w:=z.length;let q:=((-1:Int)=j);(∃(x:Up n),((Z0 V9 z z)/\(k:Int)=(↑(L7 l k x.1):Int)/\0=(x.1:Int)/\True)/\True)/\∀(x:Up n),let v:=(x.1:Int);let r:=(↑(L7 l k x.1):Int);let p:=(z.getD v.toNat dz);bd (v<(↑w:Int)) (W9 v w/\br (p.no !=r) q (Ri (r+1)/\W9 v w/\br (p.pg.Q !=r+1) q (Ri (r+1+1)/\W9 v w/\∃(X:(Nat×Nat)),let u:=(↑(X.2+X.1):Int);(((Z0 Z5 p.pg.sl (yR X.1 X.2))/\r+1+1=(X.2:Int)/\True)/\nR X.1 X.2 1)/\bd (u<0) q (W9 v w/\Nz (3:Int)/\br (! p.D==(u.tmod (3:Int)==0)) q (Ri (u+1)/\W9 v w/\br (p.first !=u+1) q (Ri (u+1+1)/\Ri (v+1)/\∃(y:Up n),(((Z0 V9 z z)/\u+1+1=(↑(L7 l k y.1):Int)/\v+1=(y.1:Int)/\True)/\True)/\Lt (n-y.1) (n-x.1))))))) (r=j)) ⟨⟨⟨0,N4 _⟩,X7⟩,λx=>⟨λhc=>?_,λhc=>?_⟩⟩
 ·have hlt:=Y2 hc;have hlt':x.1<n:=by omega
  have I:=Y6 hlt;have e:(vO n l k).getD (x.1:Int).toNat dz=a7Z (L7 l k x.1) (l x.1):=by rw[E3];exact j4 _ hlt' _
  rw[e];have M:=yA l k (i:=x.1+1) (j:=n) hlt';have t:=yA l k (i:=0) (j:=x.1) (N4 _);have hp:L7 l k (x.1+1)=L7 l k x.1+(l x.1+4):=rfl;have r:L7 l k 0=k:=rfl;have d:=f _ hlt';unfold a7Z;exact⟨I,λh=>L4,λ_=>⟨Z4 Z9,I,λh=>L4,λ_=>⟨Z4 Z9,I,(l x.1,L7 l k x.1+2),⟨⟨X7,X5,Z6⟩,d,X5,X5⟩,λh=>by(have:=G7 h;dsimp only at this;omega),λ_=>⟨I,b0C,λh=>L4,λ_=>⟨Z4 X5,I,λh=>L4,λ_=>⟨Z4 X5,Z4 Z9,⟨x.1+1,hlt'⟩,⟨⟨X7,X5,X5,Z6⟩,Z6⟩,V5.ext_lt hlt'⟩⟩⟩⟩⟩⟩
 ·have hx:x.1=n:=by have:=x.2;have:=Y0 hc;omega
  rw[hx]
def mkD(d:Dsk)(k:Nat):Dsk:={d with E:=yR d.E.length k,C:=vH d.C.length (k+d.E.length),keep:=vE d.keep.length (k+d.E.length+2*d.C.length)}
def O4(d:Dsk)(k:Nat):Nat:=k+d.E.length+2*d.C.length+d.keep.length
def KBd(d:Dsk)(k:Nat):Prop:=nN d/\1<=k/\k<=100000000
def b3x:Con:=.reff ⟨Dsk×Nat,λx=>[.agg (x.1.tm 0),Ji x.2],λx=>x.1.hp,λx=>Ji (O4 x.1 x.2),λx=>(mkD x.1 x.2).hp,λx=>KBd x.1 x.2⟩
def a61:GK 106 b3x:=gk func106<|by
 rintro⟨d,k⟩ ⟨⟨g,h,i⟩,f,j⟩;dsimp only at g h i f j;exact C6 (gC jI (gC a2P (gC a3A gN))) func106 Z3 [[.arr 0,.arr 1,.arr 2]] (α:=∃(x:(List (Bz)×Nat)),(((0=0/\d.E.length=x.1.length)/\(k:Int)=(x.2:Int)/\True)/\((Z0 Z5 d.E x.1)/\True)/\nR x.1.length x.2 1)/\∃(e:(List Pend×Nat)),(((0=0/\d.C.length=e.1.length)/\(↑(x.2+x.1.length):Int)=(e.2:Int)/\True)/\((Z0 Z1 d.C e.1)/\True)/\nR e.1.length e.2 2)/\∃(X:(List Int×Nat)),(((0=0/\d.keep.length=X.1.length)/\(↑(e.2+2*e.1.length):Int)=(X.2:Int)/\True)/\((Z0 Y9 d.keep X.1)/\True)/\nR X.1.length X.2 1)/\((↑(X.2+X.1.length):Int)=(↑(O4 d k):Int)/\True)/\(Z0 Z5 (yR x.1.length x.2) (yR d.E.length k))/\(Z0 Z1 (vH e.1.length e.2) (vH d.C.length (k+d.E.length)))/\(Z0 Y9 (vE X.1.length X.2) (vE d.keep.length (k+d.E.length+2*d.C.length)))/\True) ⟨(d.E,k),⟨X7,X7,g,f,X5⟩,(d.C,k+d.E.length),⟨X7,X7,h,X5,X5⟩,(d.keep,k+d.E.length+2*d.C.length),⟨X7,X7,i,X5,X5⟩,X7⟩
def b3Q:Con:=.rel ⟨Dsk×Nat,λx=>[.agg (mkD x.1 x.2).ts,Ji x.2],λx=>Ji (O4 x.1 x.2),λx=>KBd x.1 x.2⟩
def a6b:GK 111 b3Q:=gk func111<|by
 rintro⟨d,k⟩ ⟨⟨i,e,j⟩,f,l⟩;dsimp only at i e j f l;have g:∀n:Nat,decide ((n:Int)<0)=true->∀{p:Prop},p:=λn h=>absurd (G7 h) Z9
 exact U5 (gC jU (gC a1H (gC a26 gN))) func111 Z3 (α:=let p:=((-1:Int)=(↑(O4 d k):Int));∃(x:(Nat×Nat)),let r:=(↑(x.2+x.1):Int);(((Z0 Z5 (yR d.E.length k) (yR x.1 x.2))/\(k:Int)=(x.2:Int)/\True)/\nR x.1 x.2 1)/\bd (r<0) p (∃(X:(Nat×Nat)),let q:=(↑(X.2+2*X.1):Int);(((Z0 Z1 (vH d.C.length (k+d.E.length)) (vH X.1 X.2))/\r=(X.2:Int)/\True)/\nR X.1 X.2 2)/\bd (q<0) p (∃(x:(Nat×Nat)),let z:=(↑(x.2+x.1):Int);(((Z0 Y9 (vE d.keep.length (k+d.E.length+2*d.C.length)) (vE x.1 x.2))/\q=(x.2:Int)/\True)/\nR x.1 x.2 1)/\bd (z<0) p (z=(↑(O4 d k):Int))))) ⟨(d.E.length,k),⟨X7,i,f,X5⟩,λh=>g _ h,λ_=>⟨(d.C.length,k+d.E.length),⟨X7,e,X5,X5⟩,λh=>g _ h,λ_=>⟨(d.keep.length,k+d.E.length+2*d.C.length),⟨X7,j,X5,X5⟩,λh=>g _ h,λ_=>rfl⟩⟩⟩
def c6c(s:Sto)(k:Nat):Sto:={s with d:=mkD s.d k,L:=g8 s.L.length (O4 s.d k),fr:=vO s.fr.length (N5 s.fr) (O4 s.d k+10*s.L.length)}
def K7(s:Sto)(k:Nat):Nat:=L7 (N5 s.fr) (O4 s.d k+10*s.L.length) s.fr.length
def KBs(s:Sto)(k:Nat):Prop:=iC s/\1<=k/\k<=100000000
def b15:Con:=.reff ⟨Sto×Nat×Nat,λx=>[.agg (x.1.tm 0),Ji x.2.1],λx=>x.1.hp x.2.2,λx=>Ji (K7 x.1 x.2.1),λx=>(c6c x.1 x.2.1).hp x.2.2,λx=>KBs x.1 x.2.1⟩
def a8t:GK 48 b15:=gk func48<|by
 rintro⟨s,k,v⟩ ⟨⟨g,j,l,f⟩,o,q⟩;dsimp only at g j l f o q;have hd:O4 s.d k<=110000000:=by unfold O4;obtain⟨A,r,t⟩:=g;omega
 have h:1<=O4 s.d k:=by unfold O4;omega
 have hp:=hM (N5 s.fr) (O4 s.d k+10*s.L.length) (n:=s.fr.length) f;have i:L7 (N5 s.fr) (O4 s.d k+10*s.L.length) s.fr.length<=10000000000000:=Z9
 exact C6 (gC a61 (gC a5F (gC a5a gN))) func48 Z3 [[.arr 0,.arr 1,.arr 2,.arr 3,.arr 4]] (α:=let p:=(vO s.fr.length (N5 s.fr) (O4 s.d k+10*s.L.length));∃(x:(Dsk×Nat)),let q:=x.1.E.length;((((0=0/\s.d.E.length=q)/\(0=0/\s.d.C.length=x.1.C.length)/\s.d.A=x.1.A/\(0=0/\s.d.keep.length=x.1.keep.length)/\True)/\(k:Int)=(x.2:Int)/\True)/\((Z0 Z5 s.d.E x.1.E)/\(Z0 Z1 s.d.C x.1.C)/\(Z0 Y9 s.d.keep x.1.keep)/\True)/\KBd x.1 x.2)/\∃(e:(List Rec×Nat)),(((0=0/\s.L.length=e.1.length)/\(↑(O4 x.1 x.2):Int)=(e.2:Int)/\True)/\((Z0 Y1 s.L e.1)/\True)/\nR e.1.length e.2 10)/\∃(X:(List Frm×Nat×Nat)),(((0=0/\s.fr.length=X.1.length)/\(↑(e.2+10*e.1.length):Int)=(X.2.1:Int)/\True)/\((v=X.2.2/\s.fr.length=X.1.length/\V2 s.fr.length (Y5 s.fr) (Y5 X.1))/\True)/\KBf X.1.length (N5 X.1) X.2.1)/\((↑(L7 (N5 X.1) X.2.1 X.1.length):Int)=(↑(K7 s k):Int)/\True)/\(Z0 Z5 (yR x.1.E.length x.2) (yR s.d.E.length k))/\(Z0 Z1 (vH x.1.C.length (x.2+q)) (vH s.d.C.length (k+s.d.E.length)))/\(Z0 Y9 (vE x.1.keep.length (x.2+q+2*x.1.C.length)) (vE s.d.keep.length (k+s.d.E.length+2*s.d.C.length)))/\(Z0 Y1 (g8 e.1.length e.2) (g8 s.L.length (O4 s.d k)))/\(X.2.2=v/\X.1.length=p.length/\V2 X.1.length (Y5 (vO X.1.length (N5 X.1) X.2.1)) (Y5 p))/\True) ⟨(s.d,k),⟨X7,X7,g,o,q⟩,(s.L,O4 s.d k),⟨X7,X7,j,h,X5⟩,(s.fr,O4 s.d k+10*s.L.length,v),⟨X7,⟨u5,Z6⟩,l,X5,i,f⟩,X7,X7,X7,X7,X7,⟨rfl,(O3 _ _).symm,mU _⟩,Z6⟩
def b1B:Con:=.rel ⟨Sto×Nat,λx=>[.agg (c6c x.1 x.2).ts,Ji x.2],λx=>Ji (K7 x.1 x.2),λx=>KBs x.1 x.2⟩
def a6h:GK 51 b1B:=gk func51<|by
 rintro⟨s,k⟩ ⟨⟨g,j,l,f⟩,o,q⟩;dsimp only at g j l f o q;have hd:O4 s.d k<=110000000:=by unfold O4;obtain⟨A,r,t⟩:=g;omega
 have e:1<=O4 s.d k:=by unfold O4;omega
 have hp:=hM (N5 s.fr) (O4 s.d k+10*s.L.length) (n:=s.fr.length) f;have i:L7 (N5 s.fr) (O4 s.d k+10*s.L.length) s.fr.length<=10000000000000:=Z9
 have N:∀n:Nat,decide ((n:Int)<0)=true->∀{p:Prop},p:=λn h=>absurd (G7 h) Z9
 exact U5 (gC a6b (gC a4w (gC a3i gN))) func51 Z3 (α:=let p:=((-1:Int)=(↑(K7 s k):Int));∃(x:(Dsk×Nat)),let r:=(↑(O4 x.1 x.2):Int);((((Z0 Z5 (yR s.d.E.length k) (yR x.1.E.length x.2))/\(Z0 Z1 (vH s.d.C.length (k+s.d.E.length)) (vH x.1.C.length (x.2+x.1.E.length)))/\s.d.A=x.1.A/\(Z0 Y9 (vE s.d.keep.length (k+s.d.E.length+2*s.d.C.length)) (vE x.1.keep.length (x.2+x.1.E.length+2*x.1.C.length)))/\True)/\(k:Int)=(x.2:Int)/\True)/\KBd x.1 x.2)/\bd (r<0) p (∃(X:(Nat×Nat)),let z:=(↑(X.2+10*X.1):Int);(((Z0 Y1 (g8 s.L.length (O4 s.d k)) (g8 X.1 X.2))/\r=(X.2:Int)/\True)/\nR X.1 X.2 10)/\bd (z<0) p (∃(x:(Nat×(Nat->Nat)×Nat)),let q:=(↑(L7 x.2.1 x.2.2 x.1):Int);(((Z0 V9 (vO s.fr.length (N5 s.fr) (O4 s.d k+10*s.L.length)) (vO x.1 x.2.1 x.2.2))/\z=(x.2.2:Int)/\True)/\KBf x.1 x.2.1 x.2.2)/\bd (q<0) p (q=(↑(K7 s k):Int))))) ⟨(s.d,k),⟨X7,g,o,q⟩,λh=>N _ h,λ_=>⟨(s.L.length,O4 s.d k),⟨X7,j,e,X5⟩,λh=>N _ h,λ_=>⟨(s.fr.length,N5 s.fr,O4 s.d k+10*s.L.length),⟨X7,l,X5,i,f⟩,λh=>N _ h,λ_=>rfl⟩⟩⟩
def c69(l:Bz)(L:List (Bz)):Nat->Ann
 |0=>.one (Up L.length) (λx=>⟨[(0,.osl 2 0 (l++V7 L x.1).length),(13,.osl 1 0 L.length),(14,Ji L.length),(15,Ji x.1)],[none,A1 L,some (.bys 5 (l++V7 L x.1))]⟩) (λx=>L.length-x.1) [.arr 0,.arr 1,.arr 3] [.arr 0,.arr 1,.at_ 0] (λ_=>Z3)
 |_=>.none
def a3F:Con:=.reff ⟨Bz×List (Bz),λx=>[.osl 0 0 x.1.length,.osl 1 0 x.2.length],λx=>[some (.bys 5 x.1),A1 x.2],λx=>.osl 2 0 (x.1++S5 x.2).length,λx=>[none,A1 x.2,some (.bys 5 (x.1++S5 x.2))],λx=>x.1.length<=1000/\k9 x.2⟩
def a2i:GK 332 a3F:=gk func332<|by
 rintro⟨l,L⟩ ⟨g,h,h3⟩;dsimp only at g h h3;have f:List.take l.length l++List.take 1 (List.drop 0 (List.map R1 [IntKind.u8.wrap (L.length:Int)]))=l++V7 L 0:=by rw[j_l];rfl
 refine C6 gN func332 (c69 l L) [[.arr 0,.arr 1,.arr 2]] (α:=let w:=(Z0 Z5 L L);let v:=(0=0/\L.length=L.length);let z:=(L.length:Int);R2 IntKind.u8 (IntKind.u8.wrap z)/\(Le 1 1/\Le l.length l.length/\U8 l.length 1 1)/\(∃(x:Up L.length),((0=0/\l.length+1=(l++V7 L x.1).length)/\v/\z=z/\0=(x.1:Int)/\True)/\True/\w/\List.take l.length l++List.take 1 (List.drop 0 (List.map R1 [IntKind.u8.wrap z]))=l++V7 L x.1/\True)/\∀(x:Up L.length),let u:=(x.1:Int);let j:=(0+u.toNat);let q:=(L.getD j []).length;let p:=(l++V7 L x.1).length;let r:=(List.take p (l++V7 L x.1)++List.take 1 (List.drop 0 (List.map R1 [IntKind.u8.wrap (↑q:Int)])));bd (u<z) (W9 u L.length/\Lt j L.length/\R2 IntKind.u8 (IntKind.u8.wrap (↑q:Int))/\(Le 1 1/\Le p p/\U8 p 1 1)/\(Le (p+1) r.length/\U8 (p+1) q 1)/\Ri (u+1)/\∃(y:Up L.length),(((0=0/\p+1+q=(l++V7 L y.1).length)/\v/\z=z/\u+1=(y.1:Int)/\True)/\True/\w/\List.take (p+1) r++L.getD j []=l++V7 L y.1/\True)/\Lt (L.length-y.1) (L.length-x.1)) (((0=0/\p=(l++S5 L).length)/\True)/\True/\w/\l++V7 L x.1=l++S5 L/\True)) ⟨O7 _,⟨U9 _,U9 _,R0⟩,⟨⟨0,N4 _⟩,⟨⟨rfl,by simp[V7]⟩,⟨rfl,rfl⟩,rfl,rfl,Z6⟩,Z6,⟨rfl,X6 _ _⟩,f,Z6⟩,λx=>⟨λhc=>?_,λhc=>?_⟩⟩
 ·have hlt:=Y2 hc;have f1:=vY L h3 x.1 Z9
  have F:=h3 x.1 hlt;rw[E3,D4];have i:(l++V7 L x.1).length<=1100000:=by rw[F9];omega
  have e:List.take (l++V7 L x.1).length (l++V7 L x.1)++List.take 1 (List.drop 0 (List.map R1 [IntKind.u8.wrap ((L.getD x.1 []).length:Int)]))=l++V7 L x.1++[yJ (L.getD x.1 []).length]:=by
   rw[j_l];rfl
  rw[e];have d:(l++V7 L x.1++[yJ (L.getD x.1 []).length]).length=(l++V7 L x.1).length+1:=by rw[F9];rfl
  refine⟨Y6 hlt,Q2,O7 _,⟨U9 _,U9 _,R0⟩,⟨by rw[d];exact U9 _,R0⟩,Z4 Z9,⟨x.1+1,hlt⟩,⟨⟨⟨rfl,?_⟩,X7,rfl,X5,Z6⟩,Z6,X7,?_,Z6⟩,V5.ext_lt hlt⟩
  ·simp only[V7,F9,List.length_cons,List.length_nil];omega
  ·rw[←d,j_l];simp only[V7,List.append_assoc]
 ·have hx:x.1=L.length:=by have:=x.2;have:=Y0 hc;omega
  rw[hx];exact X7
def c6d:Con:=.rel ⟨Nat,λn=>[Ji n],λn=>.bys (z8 n),λn=>n<4294967296⟩
def a2S:GK 279 c6d:=gk func279<|by
 intro(n:Nat) hn;have h:Nn 8:=by unfold Nn;omega
 exact U5 gN func279 Z3 (α:=let p:=(n:Int).fdiv;let q:=(p (16777216:Int));Nn (24:Int)/\Nn (16:Int)/\Nn (8:Int)/\(R2 IntKind.u8 (IntKind.u8.wrap q)/\R2 IntKind.u8 (IntKind.u8.wrap (p (65536:Int)))/\R2 IntKind.u8 (IntKind.u8.wrap (p (256:Int)))/\R2 IntKind.u8 (IntKind.u8.wrap (n:Int)))/\Le 4 4/\List.take 4 (List.drop 0 (List.map R1 [IntKind.u8.wrap q,IntKind.u8.wrap (p (65536:Int)),IntKind.u8.wrap (p (256:Int)),IntKind.u8.wrap (n:Int)]))=z8 n) ⟨m3,m3,h,⟨O7 _,O7 _,O7 _,O7 _⟩,U9 _,by unfold z8;rw[show(n:Int).fdiv 1=n by rw[Int.fdiv_one]];rfl⟩
def b45:Con:=.eff vV
def b32:GK 247 b45:=gk func247<|by
 intro args H res H' p h hp;unfold vV at h;split at h
 case h_2=>cases h
 rename_i k off n ty l;split at h
 ·skip
  simp only[X0,U4] at h;obtain⟨rfl,rfl,rfl⟩:=h;obtain⟨rfl,hl⟩:xC n l:=hp;have e4:(z8 (zO l)).length=4:=rfl;have hc:=a1W l;refine vcE (gC oS (gC a2S gN)) func247 Z3 (bs:=[false]) (α:=∃(x:(tY IntKind.u32).ι),(Le (0+l.length) l.length/\(List.take l.length (List.drop 0 l)=x/\True)/\v5 x)/\∃(x_1:Nat),let p:=(List.take l.length l++z8 x_1);((IntKind.i64.wrap (↑(zO x):Int)=(x_1:Int)/\True)/\x_1<4294967296)/\(Le l.length l.length/\U8 l.length 4 1)/\Le (0+(l.length+4)) p.length/\List.take (l.length+4) (List.drop 0 p)=l++z8 (zO l)/\True/\True) ⟨l,⟨K0,⟨cI,Z6⟩,a0W⟩,zO l,⟨⟨?_,Z6⟩,hc⟩,⟨U9 _,R0⟩,?_,?_,X7⟩
  ·rw[IntKind.wrap_i64];omega
  ·unfold Le;rw[j_l,F9,e4,D4];exact U9 _
  ·rw[j_l,List.drop_zero];exact List.take_of_length_le (by rw[F9,e4];exact U9 _)
 ·cases h
def b4N(r:Rec):Bz:=[R1 108,yJ r.e,yJ r.l,yJ r.t,yJ r.k,yJ r.p,yJ r.n,yJ r.g,yJ r.s]++S5 [r.b,r.a]
def J4(r:Rec):Bz:=b4N r++z8 (zO (b4N r))
def a7s(r:Rec):Prop:=r.b.length<=1000/\r.a.length<=1000
def pH(a b:Bz):Z7 2 (λk=>List.take 1 (List.drop (k*1) [T.str a,T.str b])) (Z5 [a,b]):=λi hi=>by
 match i,hi with
 |0,_=>rfl
 |1,_=>rfl
def fs2{a b:Bz}(h:a.length<=1000)(d:b.length<=1000):k9 [a,b]:=⟨W7,λi hi=>by
 match i,hi with
 |0,_=>exact h
 |1,_=>exact d⟩
def b8e{r:Rec}(f:k9 [r.b,r.a]):(b4N r).length<=1000000:=by
 have h:=vY [r.b,r.a] f.2 2 (U9 _);have h:(S5 [r.b,r.a]).length<=2003:=h;unfold b4N;rw[F9];simp only[List.length_cons,List.length_nil];omega
def bW:Con:=.rel ⟨Rec,λr=>[.agg r.ts],λr=>.bys (J4 r),a7s⟩
def cZ:GK 253 bW:=gk func253<|by
 rintro(r:Rec) ⟨h1,h2⟩;have f:=fs2 h1 h2;exact U5 (gC a2i (gC b32 gN)) func253 (b9c 9) (α:=let pr:=(1+1+1+1);let pg:=(List.map R1 [(108:Int)]);let pf:=(1+1+1+1+1);let pd:=(1+1+1+1+1+1+1+1);let pa:=(1+1+1+1+1+1+1);let i:=(1+1+1+1+1+1);let d:=(List.drop 0 (List.map R1 [IntKind.u8.wrap r.g]));let c:=(List.drop 0 (List.map R1 [IntKind.u8.wrap r.p]));let f:=(List.drop 0 (List.map R1 [IntKind.u8.wrap r.t]));let m:=(List.drop 0 (List.map R1 [IntKind.u8.wrap r.e]));let j:=(List.drop 0 (List.map R1 [IntKind.u8.wrap r.n]));let w:=(List.drop 0 (List.map R1 [IntKind.u8.wrap r.k]));let y:=(List.drop 0 (List.map R1 [IntKind.u8.wrap r.l]));let v:=(List.take 1 pg++List.take 1 m);let pc:=(List.take (1+1) v++List.take 1 y);let z:=(λ(k:Nat)=>List.take 1 (List.drop (k*1) [T.str r.b,T.str r.a]));let q:=(List.take (1+1+1) pc++List.take 1 f);let pb:=(List.take pr q++List.take 1 w);let u:=(List.take pf pb++List.take 1 c);let pe:=(List.take i u++List.take 1 j);R2 IntKind.u8 (108:Int)/\br true (W9 (0:Int) 8/\R2 IntKind.u8 (IntKind.u8.wrap r.e)/\(Le 1 1/\Le 1 1/\U8 1 1 1)/\Ri (1:Int)/\br true (W9 (1:Int) 8/\R2 IntKind.u8 (IntKind.u8.wrap r.l)/\(Le 1 1/\Le (1+1) 2/\U8 (1+1) 1 1)/\Ri (2:Int)/\br true (W9 (2:Int) 8/\R2 IntKind.u8 (IntKind.u8.wrap r.t)/\(Le 1 1/\Le (1+1+1) 3/\U8 (1+1+1) 1 1)/\Ri (3:Int)/\br true (W9 (3:Int) 8/\R2 IntKind.u8 (IntKind.u8.wrap r.k)/\(Le 1 1/\Le pr 4/\U8 pr 1 1)/\Ri (4:Int)/\br true (W9 (4:Int) 8/\R2 IntKind.u8 (IntKind.u8.wrap r.p)/\(Le 1 1/\Le pf 5/\U8 pf 1 1)/\Ri (5:Int)/\br true (W9 (5:Int) 8/\R2 IntKind.u8 (IntKind.u8.wrap r.n)/\(Le 1 1/\Le i 6/\U8 i 1 1)/\Ri (6:Int)/\br true (W9 (6:Int) 8/\R2 IntKind.u8 (IntKind.u8.wrap r.g)/\(Le 1 1/\Le pa 7/\U8 pa 1 1)/\Ri (7:Int)/\br true (W9 (7:Int) 8/\R2 IntKind.u8 (IntKind.u8.wrap r.s)/\(Le 1 1/\Le pd 8/\U8 pd 1 1)/\Ri (8:Int)/\br false False (∃(x:(Bz×List (Bz))),let ph:=(x.1++S5 x.2);(((0=0/\1+1+1+1+1+1+1+1+1=x.1.length)/\(0=0/\2=x.2.length)/\True)/\(List.take pd (List.take pa pe++List.take 1 d)++List.take 1 (List.drop 0 (List.map R1 [IntKind.u8.wrap r.s]))=x.1/\(2=x.2.length/\Z7 2 z (Z5 x.2))/\True)/\x.1.length<=1000/\k9 x.2)/\xC ph.length ph/\x.1++S5 x.2++z8 (zO ph)=J4 r)) (∃(x:(Bz×List (Bz))),let pi:=(x.1++S5 x.2);(((0=0/\1+1+1+1+1+1+1+1=x.1.length)/\(0=0/\2=x.2.length)/\True)/\(List.take pa pe++List.take 1 d=x.1/\(2=x.2.length/\Z7 2 z (Z5 x.2))/\True)/\x.1.length<=1000/\k9 x.2)/\xC pi.length pi/\x.1++S5 x.2++z8 (zO pi)=J4 r)) (∃(x:(Bz×List (Bz))),let pj:=(x.1++S5 x.2);(((0=0/\1+1+1+1+1+1+1=x.1.length)/\(0=0/\2=x.2.length)/\True)/\(List.take i u++List.take 1 j=x.1/\(2=x.2.length/\Z7 2 z (Z5 x.2))/\True)/\x.1.length<=1000/\k9 x.2)/\xC pj.length pj/\x.1++S5 x.2++z8 (zO pj)=J4 r)) (∃(x:(Bz×List (Bz))),let pk:=(x.1++S5 x.2);(((0=0/\1+1+1+1+1+1=x.1.length)/\(0=0/\2=x.2.length)/\True)/\(List.take pf pb++List.take 1 c=x.1/\(2=x.2.length/\Z7 2 z (Z5 x.2))/\True)/\x.1.length<=1000/\k9 x.2)/\xC pk.length pk/\x.1++S5 x.2++z8 (zO pk)=J4 r)) (∃(x:(Bz×List (Bz))),let pm:=(x.1++S5 x.2);(((0=0/\1+1+1+1+1=x.1.length)/\(0=0/\2=x.2.length)/\True)/\(List.take pr q++List.take 1 w=x.1/\(2=x.2.length/\Z7 2 z (Z5 x.2))/\True)/\x.1.length<=1000/\k9 x.2)/\xC pm.length pm/\x.1++S5 x.2++z8 (zO pm)=J4 r)) (∃(x:(Bz×List (Bz))),let pn:=(x.1++S5 x.2);(((0=0/\1+1+1+1=x.1.length)/\(0=0/\2=x.2.length)/\True)/\(List.take (1+1+1) pc++List.take 1 f=x.1/\(2=x.2.length/\Z7 2 z (Z5 x.2))/\True)/\x.1.length<=1000/\k9 x.2)/\xC pn.length pn/\x.1++S5 x.2++z8 (zO pn)=J4 r)) (∃(x:(Bz×List (Bz))),let po:=(x.1++S5 x.2);(((0=0/\1+1+1=x.1.length)/\(0=0/\2=x.2.length)/\True)/\(List.take (1+1) v++List.take 1 y=x.1/\(2=x.2.length/\Z7 2 z (Z5 x.2))/\True)/\x.1.length<=1000/\k9 x.2)/\xC po.length po/\x.1++S5 x.2++z8 (zO po)=J4 r)) (∃(x:(Bz×List (Bz))),let pp:=(x.1++S5 x.2);(((0=0/\1+1=x.1.length)/\(0=0/\2=x.2.length)/\True)/\(List.take 1 pg++List.take 1 m=x.1/\(2=x.2.length/\Z7 2 z (Z5 x.2))/\True)/\x.1.length<=1000/\k9 x.2)/\xC pp.length pp/\x.1++S5 x.2++z8 (zO pp)=J4 r)) (∃(x:(Bz×List (Bz))),let pq:=(x.1++S5 x.2);(((0=0/\1=x.1.length)/\(0=0/\2=x.2.length)/\True)/\(List.map R1 [(108:Int)]=x.1/\(2=x.2.length/\Z7 2 z (Z5 x.2))/\True)/\x.1.length<=1000/\k9 x.2)/\xC pq.length pq/\x.1++S5 x.2++z8 (zO pq)=J4 r)) ⟨(pI _).2 Z9,λ_=>⟨jF,O7 _,⟨U9 _,U9 _,R0⟩,Z4 Z9,λ_=>⟨jF,O7 _,⟨U9 _,U9 _,R0⟩,Z4 Z9,λ_=>⟨jF,O7 _,⟨U9 _,U9 _,R0⟩,Z4 Z9,λ_=>⟨jF,O7 _,⟨U9 _,U9 _,R0⟩,Z4 Z9,λ_=>⟨jF,O7 _,⟨U9 _,U9 _,R0⟩,Z4 Z9,λ_=>⟨jF,O7 _,⟨U9 _,U9 _,R0⟩,Z4 Z9,λ_=>⟨jF,O7 _,⟨U9 _,U9 _,R0⟩,Z4 Z9,λ_=>⟨jF,O7 _,⟨U9 _,U9 _,R0⟩,Z4 Z9,(λh=>F3),λ_=>⟨([R1 108,yJ r.e,yJ r.l,yJ r.t,yJ r.k,yJ r.p,yJ r.n,yJ r.g,yJ r.s],[r.b,r.a]),⟨X7,⟨rfl,⟨rfl,pH _ _⟩,Z6⟩,W7,f⟩,⟨rfl,b8e f⟩,rfl⟩⟩,λh=>F3⟩,λh=>F3⟩,λh=>F3⟩,λh=>F3⟩,λh=>F3⟩,λh=>F3⟩,λh=>F3⟩,λh=>F3⟩
def a1U:Con:=.rfz vW
def bF:GK 303 a1U:=gk func303<|l01Fields_ok.1
def a7E:Con:=.rel ⟨Rec,λr=>[.agg r.ts],λr=>.bys (J4 r),a7s⟩
def a5e:GK 225 a7E:=gk func225<|by
 rintro(r:Rec) ⟨h1,h2⟩;have f:=fs2 h1 h2;have h:=vY [r.b,r.a] f.2 2 (U9 _);have h:(S5 [r.b,r.a]).length<=2003:=h;refine U5 (gC bF (gC mI gN)) func225 Z3 (α:=let q:=(List.map R1 [(108:Int),IntKind.u8.wrap r.e,IntKind.u8.wrap r.l,IntKind.u8.wrap r.t,IntKind.u8.wrap r.k,IntKind.u8.wrap r.p,IntKind.u8.wrap r.n,IntKind.u8.wrap r.g,IntKind.u8.wrap r.s]);(R2 IntKind.u8 (108:Int)/\R2 IntKind.u8 (IntKind.u8.wrap r.e)/\R2 IntKind.u8 (IntKind.u8.wrap r.l)/\R2 IntKind.u8 (IntKind.u8.wrap r.t)/\R2 IntKind.u8 (IntKind.u8.wrap r.k)/\R2 IntKind.u8 (IntKind.u8.wrap r.p)/\R2 IntKind.u8 (IntKind.u8.wrap r.n)/\R2 IntKind.u8 (IntKind.u8.wrap r.g)/\R2 IntKind.u8 (IntKind.u8.wrap r.s))/\∃(x:vW.ι),let z:=(List.take 9 q++S5 x);(Le 2 2/\((2=x.length/\Z7 2 (λ(k:Nat)=>List.take 1 (List.drop (k*1) [T.str r.b,T.str r.a])) (Z5 x))/\True)/\k9 x)/\(Le 9 9/\U8 9 (S5 x).length 1)/\xC (9+(S5 x).length) z/\List.take 9 q++S5 x++z8 (zO z)=J4 r) ⟨⟨(pI _).2 Z9,O7 _,O7 _,O7 _,O7 _,O7 _,O7 _,O7 _,O7 _⟩,[r.b,r.a],⟨U9 _,⟨⟨rfl,pH _ _⟩,Z6⟩,f⟩,⟨U9 _,R0⟩,?_,?_⟩
 ·exact⟨by rw[F9];rfl,b8e f⟩
 ·rfl
def zQ(sec:List (Bz))(C:List Pend)(Q:Nat->Bool):Nat->List (Bz)
 |0=>sec
 |i+1=>if Q i=true then(zQ sec C Q i).set (C.getD i dz).at_.toNat (C.getD i dz).d else zQ sec C Q i
def A8(sec:List (Bz))(C:List Pend)(Q:Nat->Bool):∀i,(zQ sec C Q i).length=sec.length
 |0=>rfl
 |i+1=>by
  unfold zQ;split
  ·rw[zW,A8 sec C Q i]
  ·exact A8 sec C Q i
def c4C{sec:List (Bz)}{C:List Pend}{Q:Nat->Bool}{i:Nat}(h:Q i=true):zQ sec C Q (i+1)=(zQ sec C Q i).set (C.getD i dz).at_.toNat (C.getD i dz).d:=by
 conv=>lhs;unfold zQ
 rw[if_pos h]
def c4O{sec:List (Bz)}{C:List Pend}{Q:Nat->Bool}{i:Nat}(h:Q i=false):zQ sec C Q (i+1)=zQ sec C Q i:=by
 conv=>lhs;unfold zQ
 rw[if_neg cY]
def kp(K:List Int)(i:Nat):Bool:=decide (i<K.length)&&(K.getD i 0 !=0)
def wrD(d:Dsk)(at_:Int)(t:Bz):Dsk:=⟨d.E,d.C++[⟨at_,t⟩],d.A,d.keep⟩
def Sto.sd(s:Sto)(d:Dsk):Sto:=⟨d,s.ep,s.L,s.S,s.fr,s.J⟩
def crD(d:Dsk)(K:List Int):Dsk:=⟨zQ d.E d.C (kp K) d.C.length,[],false,[]⟩
def U3(d:Dsk):Dsk×Bool:=if d.A=true then(crD d d.keep,false) else(⟨zQ d.E d.C (λ_=>true) d.C.length,[],d.A,d.keep⟩,true)
def aM(d:Dsk):Prop:=∀i,i<d.C.length->0<=(d.C.getD i dz).at_/\(d.C.getD i dz).at_<d.E.length
def a31(L:List Pend)(p:Pend):Z7 (L.length+1) (X4 (Z1 L) L.length λk=>List.take 2 (List.drop (k*2) p.ts)) (Z1 (L++[p])):=by
 intro i hi;unfold X4 Z1;by_cases h:i<L.length
 ·rw[rX h,P4,P4,rL h]
 ·have:i=L.length:=by omega
  subst this;rw[mH h];have:(L++[p]).getD L.length dz=p:=by rw[P4,qA (U9 _)];simp
  rw[this];simp[Pend.ts]
def a1l{L:List (Bz)}{n:Nat}{t:Bz}(j:Nat)(J:j<L.length):setRow (Z5 L) n 0 [.str t] j=Z5 (L.set n t) j:=by
 by_cases h:j=n
 ·subst h;rw[pD (by simp[Z5])]
  simp[Z5,j_j J]
 ·rw[L5 (by simp[Z5]) h]
  simp[Z5,j_k (Ne.symm h)]
def hV{sec:List (Bz)}{C:List Pend}{Q:Nat->Bool}{i:Nat}(h:Q i=true):Z7 sec.length (setRow (Z5 (zQ sec C Q i)) (0+(C.getD i dz).at_.toNat) 0 [.str (C.getD i dz).d]) (Z5 (zQ sec C Q (i+1))):=λj J=>by
 rw[c4C h,D4];exact a1l j (by rw[A8];exact J)
def Sto.bxC(s:Sto)(v:Nat):X9:=[pL (s.tn 1 6 3 4 5),A1 s.d.E,none,A0 s.d.keep,j6 s.L,xA v s.fr s.fr.length,D3 s.d.C]
def c1n:Con:=.reff ⟨Sto×Int×Bz×Nat,λx=>[.ref 0 0 0,Ji x.2.1,.str x.2.2.1],λx=>x.1.bx x.2.2.2,λ_=>.tup [],λx=>(x.1.sd (wrD x.1.d x.2.1 x.2.2.1)).bxC x.2.2.2,λx=>x.1.d.C.length<=1048576⟩
def a45:GK 146 c1n:=gk func146<|by
 rintro⟨s,at_,t,v⟩ (h:s.d.C.length<=1048576);have l:s.d.C.length+1=(s.d.C++[(⟨at_,t⟩:Pend)]).length:=W7
 exact C6 gN func146 Z3 [[.box 0,.arr 1,.arr 2,.arr 3,.arr 4,.arr 5,.arr 7]] (α:=let p:=(s.d.C++[Pend.mk at_ t]);(Le 1 1/\Le s.d.C.length s.d.C.length/\U8 s.d.C.length 1 24)/\(True/\True)/\(1=1/\1=1/\(0=0/\s.d.E.length=s.d.E.length)/\(0=0/\s.d.C.length+1=p.length)/\s.d.A=s.d.A/\(0=0/\s.d.keep.length=s.d.keep.length)/\s.ep=s.ep/\(0=0/\s.L.length=s.L.length)/\s.S=s.S/\(0=0/\s.fr.length=s.fr.length)/\s.J=s.J/\True)/\(Z0 Z5 s.d.E s.d.E)/\True/\(Z0 Y9 s.d.keep s.d.keep)/\(Z0 Y1 s.L s.L)/\(v=v/\s.fr.length=s.fr.length/\V2 s.fr.length (Y5 s.fr) (Y5 s.fr))/\(s.d.C.length+1=p.length/\Z7 (s.d.C.length+1) (X4 (Z1 s.d.C) s.d.C.length λ(k:Nat)=>List.take 2 (List.drop (k*2) [Ji at_,T.str t])) (Z1 p))/\True) ⟨⟨U9 _,U9 _,R0⟩,X7,⟨rfl,rfl,X7,⟨rfl,l⟩,X7⟩,X7,Z6,X7,X7,u5,⟨l,a31 s.d.C ⟨at_,t⟩⟩,Z6⟩
def Sto.bxX(s:Sto)(v:Nat)(K:List Int):X9:=[pL (s.tn 1 7 8 4 5),A1 s.d.E,none,none,j6 s.L,xA v s.fr s.fr.length,A0 K,D3 s.d.C,A0 s.d.keep]
def c0O:Con:=.reff ⟨Sto×List Int×Nat,λx=>[.ref 0 0 0,.osl 6 0 x.2.1.length],λx=>x.1.bx x.2.2++[A0 x.2.1],λ_=>.tup [],λx=>(x.1.sd (crD x.1.d x.2.1)).bxX x.2.2 x.2.1,λx=>nN x.1.d/\aM x.1.d/\x.2.1.length<=1048576⟩
def c1L(s:Sto)(K:List Int)(v:Nat):Nat->Ann
 |0=>.one (Up s.d.C.length) (λx=>⟨[(0,.ref 0 0 0),(1,.osl 6 0 K.length),(9,.osl 2 0 s.d.C.length),(10,Ji s.d.C.length),(11,Ji x.1)],[pL (s.tn 1 2 3 4 5),some (.arr true 0 1 s.d.E.length (Z5 (zQ s.d.E s.d.C (kp K) x.1))),D3 s.d.C,A0 s.d.keep,j6 s.L,xA v s.fr s.fr.length,A0 K]⟩) (λx=>s.d.C.length-x.1) c4M c4M (λ_=>Z3)
 |_=>.none
def b5p:GK 248 c0O:=gk func248<|by
 rintro⟨s,K,v⟩ ⟨⟨o,g,i⟩,f,q⟩;dsimp only at o g i f q;refine C6 gN func248 (c1L s K v) [[.nilC 0 1 0 2,.nilC 0 3 0 1,.box 0,.arr 1,.arr 2,.arr 3,.arr 4,.arr 5,.arr 6,.arr 7,.arr 8]] (α:=let b:=(Z0 Y9 K K);let g:=(0=0/\0=0);let f:=(Z0 Z1 s.d.C s.d.C);let n:=(Z0 Y1 s.L s.L);let m:=(0=0/\K.length=K.length);let k:=(Z0 Y9 s.d.keep s.d.keep);let j:=(0=0/\s.d.C.length=s.d.C.length);let u:=(zQ s.d.E s.d.C (kp K) s.d.C.length);let r:=(s.d.C.length:Int);let p:=(v=v/\s.fr.length=s.fr.length/\V2 s.fr.length (Y5 s.fr) (Y5 s.fr));(∃(x:Up s.d.C.length),(g/\m/\j/\r=r/\0=(x.1:Int)/\True)/\nO s s/\(s.d.E.length=s.d.E.length/\Z7 s.d.E.length (Z5 s.d.E) (Z5 (zQ s.d.E s.d.C (kp K) x.1)))/\f/\k/\n/\p/\b/\True)/\∀(x:Up s.d.C.length),let i:=(s.d.C.length-x.1);let w:=(Z5 (zQ s.d.E s.d.C (kp K) x.1));let q:=(x.1:Int);let c:=(0+q.toNat);let a:=(q<(K.length:Int));let z:=(s.d.C.getD c dz);bd (q<r) (W9 q s.d.C.length/\Lt c s.d.C.length/\(decide a=true->W9 q K.length)/\(decide a=true->Lt c K.length)/\br (decide a&&K.getD c (0:Int) !=0) (W9 z.at_ s.d.E.length/\Lt (0+z.at_.toNat) s.d.E.length/\Ri (q+1)/\∃(y:Up s.d.C.length),((g/\m/\j/\r=r/\q+1=(y.1:Int)/\True)/\nO s s/\(s.d.E.length=s.d.E.length/\Z7 s.d.E.length (setRow w (0+z.at_.toNat) 0 [T.str z.d]) (Z5 (zQ s.d.E s.d.C (kp K) y.1)))/\f/\k/\n/\p/\b/\True)/\Lt (s.d.C.length-y.1) i) (Ri (q+1)/\∃(y:Up s.d.C.length),((g/\m/\j/\r=r/\q+1=(y.1:Int)/\True)/\nO s s/\(s.d.E.length=s.d.E.length/\Z7 s.d.E.length w (Z5 (zQ s.d.E s.d.C (kp K) y.1)))/\f/\k/\n/\p/\b/\True)/\Lt (s.d.C.length-y.1) i)) ((True/\True)/\(1=1/\1=1/\(0=0/\s.d.E.length=u.length)/\g/\false=false/\g/\s.ep=s.ep/\(0=0/\s.L.length=s.L.length)/\s.S=s.S/\(0=0/\s.fr.length=s.fr.length)/\s.J=s.J/\True)/\(s.d.E.length=u.length/\Z7 s.d.E.length w (Z5 u))/\True/\True/\n/\p/\b/\(0=0/\Z7 0 (λ(x:Nat)=>[]) (Z1 []))/\(0=0/\Z7 0 (λ(x:Nat)=>[]) (Y9 []))/\True)) ⟨⟨⟨0,N4 _⟩,X7,X7,X7,X7,X7,X7,u5,X7,Z6⟩,λx=>⟨λhc=>?_,λhc=>?_⟩⟩
 ·have t:=Y2 hc;have n:(decide ((x.1:Int)<(K.length:Int))&&K.getD x.1 0 !=0)=kp K x.1:=by
   unfold kp;rw[show decide ((x.1:Int)<(K.length:Int))=decide (x.1<K.length) from decide_eq_decide.2 Z9]
  rw[E3,show 0+x.1=x.1 by omega,n]
  have A:=f x.1 t;refine⟨Y6 t,t,λh=>Y6 (Y2 h),λh=>Y2 h,λe=>?_,λe=>?_⟩
  ·exact⟨A,Q2,Z4 Z9,⟨x.1+1,t⟩,⟨⟨X7,X7,X7,rfl,X5,Z6⟩,X7,⟨rfl,hV e⟩,X7,X7,X7,u5,X7,Z6⟩,V5.ext_lt t⟩
  ·exact⟨Z4 Z9,⟨x.1+1,t⟩,⟨⟨X7,X7,X7,rfl,X5,Z6⟩,X7,⟨rfl,λj _=>by dsimp only;rw[c4O e]⟩,⟨rfl,X6 _ _⟩,⟨rfl,X6 _ _⟩,⟨rfl,X6 _ _⟩,⟨rfl,rfl,mU _⟩,⟨rfl,X6 _ _⟩,Z6⟩,V5.ext_lt t⟩
 ·have hx:x.1=s.d.C.length:=by have:=x.2;have:=Y0 hc;omega
  rw[hx];have l:=(A8 s.d.E s.d.C (kp K) s.d.C.length).symm;exact⟨X7,⟨rfl,rfl,⟨rfl,l⟩,X7⟩,⟨l,X6 _ _⟩,Z6,Z6,X7,u5,X7,⟨rfl,P1⟩,⟨rfl,P1⟩,Z6⟩
def Sto.bxY(s:Sto)(v:Nat):X9:=[pL (s.tn 1 6 7 4 5),A1 s.d.E,none,none,j6 s.L,xA v s.fr s.fr.length,D3 s.d.C,A0 s.d.keep]
def c7a:Con:=.reff ⟨Sto×Nat,λx=>[.ref 0 0 0],λx=>x.1.bx x.2,λx=>.bool (U3 x.1.d).2,λx=>(x.1.sd ((U3 x.1.d).1)).bxY x.2,λx=>nN x.1.d/\aM x.1.d⟩
def c55(s:Sto)(v:Nat):Nat->Ann
 |0=>.one (Up s.d.C.length) (λx=>⟨[(0,.ref 0 0 0),(19,.osl 2 0 s.d.C.length),(20,Ji s.d.C.length),(21,Ji x.1)],[pL (s.tn 1 2 3 4 5),some (.arr true 0 1 s.d.E.length (Z5 (zQ s.d.E s.d.C (λ_=>true) x.1))),D3 s.d.C,A0 s.d.keep,j6 s.L,xA v s.fr s.fr.length]⟩) (λx=>s.d.C.length-x.1) c5g c5g (λ_=>Z3)
 |_=>.none
def a9U:GK 148 c7a:=gk func148<|by
 rintro⟨s,v⟩ ⟨⟨i,g,h⟩,f⟩;dsimp only at i g h f;refine C6 (gC a4g (gC b5p gN)) func148 (c55 s v) [c41,[.nilC 0 1 0 2,.box 0,.arr 1,.arr 2,.arr 3,.arr 4,.arr 5,.arr 6,.arr 3]] (α:=let i:=(0=0/\0=0);let c:=(Z0 Z1 s.d.C s.d.C);let a:=(Y5 s.fr);let g:=(Z0 Y9 s.d.keep s.d.keep);let f:=(Z0 Y1 s.L s.L);let n:=(0=0/\s.d.C.length=s.d.C.length);let m:=(U3 s.d).1.E.length;let k:=(U3 s.d).1.keep.length;let z:=(U3 s.d).1.C.length;let r:=(s.d.C.length:Int);let p:=(v=v/\s.fr.length=s.fr.length/\V2 s.fr.length a a);br s.d.A (∃(x:(List Int)),let b:=x.length;(Le (0+s.d.keep.length) s.d.keep.length/\((Z0 Y9 s.d.keep x)/\True)/\b<=1048576)/\∃(X:(Sto×List Int×Nat)),let w:=(zQ X.1.d.E X.1.d.C (kp X.2.1) X.1.d.C.length);((i/\(0=0/\b=X.2.1.length)/\True)/\(nO s X.1/\(Z0 Z5 s.d.E X.1.d.E)/\(Z0 Z1 s.d.C X.1.d.C)/\(Z0 Y9 s.d.keep X.1.d.keep)/\(Z0 Y1 s.L X.1.L)/\(v=X.2.2/\s.fr.length=X.1.fr.length/\V2 s.fr.length a (Y5 X.1.fr))/\(b=X.2.1.length/\Z7 (b) (Y9 x) (Y9 X.2.1))/\True)/\nN X.1.d/\aM X.1.d/\X.2.1.length<=1048576)/\(false=(U3 s.d).2/\True)/\(1=1/\1=1/\(0=0/\w.length=m)/\(0=0/\0=z)/\false=(U3 s.d).1.A/\(0=0/\0=k)/\X.1.ep=s.ep/\(0=0/\X.1.L.length=s.L.length)/\X.1.S=s.S/\(0=0/\X.1.fr.length=s.fr.length)/\X.1.J=s.J/\True)/\(Z0 Z5 w (U3 s.d).1.E)/\True/\True/\(Z0 Y1 X.1.L s.L)/\(X.2.2=v/\X.1.fr.length=s.fr.length/\V2 X.1.fr.length (Y5 X.1.fr) a)/\(0=z/\Z7 0 (Z1 []) (Z1 (U3 s.d).1.C))/\(0=k/\Z7 0 (Y9 []) (Y9 (U3 s.d).1.keep))/\True) ((∃(x:Up s.d.C.length),(i/\n/\r=r/\0=(x.1:Int)/\True)/\nO s s/\(s.d.E.length=s.d.E.length/\Z7 s.d.E.length (Z5 s.d.E) (Z5 (zQ s.d.E s.d.C (λ(x:Nat)=>true) x.1)))/\c/\g/\f/\p/\True)/\∀(x:Up s.d.C.length),let j:=(Z5 (zQ s.d.E s.d.C (λ(x:Nat)=>true) x.1));let u:=(x.1:Int);let q:=(s.d.C.getD (0+u.toNat) dz);bd (u<r) (W9 u s.d.C.length/\Lt (0+u.toNat) s.d.C.length/\W9 q.at_ s.d.E.length/\Lt (0+q.at_.toNat) s.d.E.length/\Ri (u+1)/\∃(y:Up s.d.C.length),((i/\n/\r=r/\u+1=(y.1:Int)/\True)/\nO s s/\(s.d.E.length=s.d.E.length/\Z7 s.d.E.length (setRow j (0+q.at_.toNat) 0 [T.str q.d]) (Z5 (zQ s.d.E s.d.C (λ(x:Nat)=>true) y.1)))/\c/\g/\f/\p/\True)/\Lt (s.d.C.length-y.1) (s.d.C.length-x.1)) ((true=(U3 s.d).2/\True)/\(1=1/\1=1/\(0=0/\s.d.E.length=m)/\(0=0/\0=z)/\s.d.A=(U3 s.d).1.A/\(0=0/\s.d.keep.length=k)/\s.ep=s.ep/\(0=0/\s.L.length=s.L.length)/\s.S=s.S/\(0=0/\s.fr.length=s.fr.length)/\s.J=s.J/\True)/\(s.d.E.length=m/\Z7 s.d.E.length j (Z5 (U3 s.d).1.E))/\True/\True/\f/\p/\(0=z/\Z7 0 (λ(x:Nat)=>[]) (Z1 (U3 s.d).1.C))/\(Z0 Y9 s.d.keep (U3 s.d).1.keep)/\True))) ⟨λha=>?_,λha=>?_⟩
 ·have e:U3 s.d=(crD s.d s.d.keep,false):=by unfold U3;rw[if_pos ha]
  rw[e];exact⟨s.d.keep,⟨uA _,X7,h⟩,(s,s.d.keep,v),⟨X7,⟨X7,X7,X7,X7,X7,u5,X7,Z6⟩,⟨i,g,h⟩,f,h⟩,X7,X7,X7,Z6,Z6,X7,u5,⟨rfl,P1⟩,⟨rfl,P1⟩,Z6⟩
 ·have e:U3 s.d=(⟨zQ s.d.E s.d.C (λ_=>true) s.d.C.length,[],s.d.A,s.d.keep⟩,true):=by unfold U3;rw[if_neg (by rw[ha];simp)]
  rw[e];refine⟨⟨⟨0,N4 _⟩,X7,X7,X7,X7,X7,X7,u5,Z6⟩,λx=>⟨λhc=>?_,λhc=>?_⟩⟩
  ·have hlt:=Y2 hc;rw[E3,show 0+x.1=x.1 by omega]
   have ha:=f x.1 hlt;exact⟨Y6 hlt,hlt,ha,Q2,Z4 Z9,⟨x.1+1,hlt⟩,⟨⟨X7,X7,rfl,X5,Z6⟩,X7,⟨rfl,hV (Q:=λ_=>true) rfl⟩,X7,X7,X7,u5,Z6⟩,V5.ext_lt hlt⟩
  ·have hx:x.1=s.d.C.length:=by have:=x.2;have:=Y0 hc;omega
   rw[hx];have l:=(A8 s.d.E s.d.C (λ_=>true) s.d.C.length).symm
   exact⟨X7,⟨rfl,rfl,⟨rfl,l⟩,X7⟩,⟨l,X6 _ _⟩,Z6,Z6,X7,u5,⟨rfl,P1⟩,X7⟩
def c5e{hi lsn:Int}{s:RdSt}:∀n,(RdSt.go hi lsn s n).ok=true->s.ok=true
 |0,h=>h
 |n+1,h=>by
  refine c5e (hi:=hi) (lsn:=lsn) n ?_
  simp only[RdSt.go,RdSt.step,J5] at h;exact h.1.1
def b9f{hi lsn:Int}{s:RdSt}:∀n,s.l.length<=(RdSt.go hi lsn s n).l.length+2*n
 |0=>by simp[RdSt.go]
 |n+1=>by
  have:=b9f (hi:=hi) (lsn:=lsn) (s:=s) n;simp only[RdSt.go,RdSt.step,List.length_drop];omega
def b8H{most lo hi lsn:Int}{l:Bz}{fl:Bool}(h:(N6 most lo hi lsn l fl).ok=true):(l.length:Int)<=(N6 most lo hi lsn l fl).l.length+2*most+1:=by
 have h1:=c5e _ h;have h2:=b9f (hi:=hi) (lsn:=lsn) (s:=uK most lo l fl) (numR l).toNat;have h3:numR l<=most:=G7 h1;have h4:=(r6 l).1;have h5:(uK most lo l fl).l.length=l.length-1:=by simp[uK]
 have h6:(N6 most lo hi lsn l fl).l.length=(RdSt.go hi lsn (uK most lo l fl) (numR l).toNat).l.length:=rfl;omega
def a1o{a:Bz}{lsn:Int}(h:a4M a lsn=true):a.length<=38:=by
 unfold a4M at h;simp only[J5] at h;have f:=b8H h.1.1.1;have d:=b8H h.1.2.1;have e:=List.isEmpty_iff.1 h.2.2;rw[e] at d;simp at d;omega
def b90{r:Rec}(h:O9 r=true):a7s r:=by
 have h:=(Q4 r).1 h;unfold zG at h;obtain⟨_,_,_,_,_,_,_,_,_,_,_,_,_,_,B,f,e⟩:=h;refine⟨Z9,?_⟩
 by_cases d:r.k=6
 ·have:=a1o (f d).2.2.2.2.2.2;omega
 ·have:=(e d).2.2.1;omega
def nS(s:Sto)(i:Nat):Pend:=⟨9+(s.L.getD (s.S.toNat+i) dz).l-1,J4 (s.L.getD (s.S.toNat+i) dz)⟩
def cT(s:Sto)(n:Nat):Dsk:=⟨s.d.E,s.d.C++(List.range n).map (nS s),s.d.A,s.d.keep⟩
def J0(s:Sto)(lsn:Int):Nat:=lsn.toNat-s.S.toNat
def V8(s:Sto)(lsn:Int):Sto×Bool:=if lsn<=s.S then(s,true) else
 (⟨(U3 (cT s (J0 s lsn))).1,s.ep,s.L,if(U3 (cT s (J0 s lsn))).2=true then lsn else s.S,s.fr,s.J⟩,(U3 (cT s (J0 s lsn))).2)
def mD(s:Sto)(lsn:Int):Prop:=nN s.d/\s.d.C.length<=1000/\aM s.d/\s.d.E.length=69/\0<=s.S/\s.S<=s.L.length/\s.L.length<=60/\lsn<=s.L.length/\∀i,i<s.L.length->(s.L.getD i dz).l=(i:Int)+1/\a7s (s.L.getD i dz)
def c00:Con:=.reff ⟨Sto×Int×Nat,λx=>[.ref 0 0 0,Ji x.2.1],λx=>x.1.bx x.2.2,λx=>.bool (V8 x.1 x.2.1).2,λx=>(V8 x.1 x.2.1).1.bxY x.2.2,λx=>mD x.1 x.2.1⟩
def c29(s:Sto)(lsn:Int)(v:Nat):Nat->Ann
 |0=>.one (Up (J0 s lsn)) (λx=>⟨[(0,.ref 0 0 0),(1,Ji lsn),(22,.osl 4 s.S.toNat (J0 s lsn)),(23,Ji (J0 s lsn)),(24,Ji x.1)],(s.sd (cT s x.1)).bxC v⟩) (λx=>J0 s lsn-x.1) [.box 0,.arr 1,.arr 2,.arr 3,.arr 4,.arr 5,.arr 2] c4t (λ_=>Z3)
 |_=>.none
def xE{s:Sto}{lsn:Int}(h:lsn<=s.S):V8 s lsn=(s,true):=if_pos h
def xR{s:Sto}{lsn:Int}(h:¬lsn<=s.S):V8 s lsn=(⟨(U3 (cT s (J0 s lsn))).1,s.ep,s.L,if(U3 (cT s (J0 s lsn))).2=true then lsn else s.S,s.fr,s.J⟩,(U3 (cT s (J0 s lsn))).2):=if_neg h
def fY{s:Sto}{lsn:Int}{i:Nat}(h:mD s lsn)(hi:i<J0 s lsn):(nS s i).at_=9+s.S+i/\a7s (s.L.getD (s.S.toNat+i) dz)/\s.S+i<lsn:=by
 obtain⟨_,_,_,_,g,e,_,f,d⟩:=h;unfold J0 at hi;obtain⟨a,b⟩:=d (s.S.toNat+i) Z9
 refine⟨?_,b,Z9⟩
 unfold nS;dsimp only;rw[a];omega
def uJ(s:Sto)(n:Nat):s.d.C++List.map (nS s) (List.range n)++[nS s n]=s.d.C++List.map (nS s) (List.range (n+1)):=by
 rw[List.range_succ,List.map_append,List.append_assoc];rfl
def a1j{s:Sto}{lsn:Int}(h:mD s lsn):nN (cT s (J0 s lsn))/\aM (cT s (J0 s lsn)):=by
 have n:=λi=>fY (i:=i) h
 obtain⟨⟨A,t,g⟩,l,f,h4,v,o,u,j,r⟩:=h;have N:J0 s lsn<=60:=by unfold J0;omega
 refine⟨⟨A,?_,g⟩,λi hi=>?_⟩
 ·show(s.d.C++List.map (nS s) (List.range _)).length<=1048576;simp only[F9,List.length_map,j_g];omega
 ·have hi:i<(s.d.C++List.map (nS s) (List.range (J0 s lsn))).length:=hi;show 0<=((s.d.C++List.map (nS s) (List.range (J0 s lsn))).getD i dz).at_/\((s.d.C++List.map (nS s) (List.range (J0 s lsn))).getD i dz).at_<(s.d.E.length:Int);rw[h4,P4]
  by_cases hc:i<s.d.C.length
  ·rw[rL hc,←P4]
   have:=f i hc;rw[h4] at this;exact this
  ·rw[qA Z9,←P4]
   simp only[F9,List.length_map,j_g] at hi;rw[j4 _ Z9]
   obtain⟨e,_,q⟩:=n (i-s.d.C.length) Z9
   rw[e];omega
def b8z:GK 151 c00:=gk func151<|by
 rintro⟨s,lsn,v⟩ h;dsimp only at h;have hn:=λi=>fY (i:=i) h
 have W:=a1j h;obtain⟨⟨u,z,A⟩,g,o,j,h5,r,n,h8,t⟩:=h;have N:J0 s lsn<=60:=by unfold J0;omega
 refine C6 (gC cZ (gC a45 (gC a9U gN))) func151 (c29 s lsn v) [c41,c4D] (α:=let i:=(0=0/\0=0);let g:=(Y5 s.fr);let w:=(↑(J0 s lsn):Int);let p:=(V8 s lsn);let t:=p.1.d;bd (lsn<=s.S) ((true=p.2/\True)/\nO s p.1/\(Z0 Z5 s.d.E t.E)/\True/\True/\(Z0 Y1 s.L p.1.L)/\(v=v/\s.fr.length=p.1.fr.length/\V2 s.fr.length g (Y5 p.1.fr))/\(Z0 Z1 s.d.C t.C)/\(Z0 Y9 s.d.keep t.keep)/\True) (b1Q s.S lsn s.L.length/\(∃(x:Up (J0 s lsn)),let m:=(s.d.C++List.map (nS s) (List.range x.1));(i/\lsn=lsn/\(0+s.S.toNat=s.S.toNat/\lsn.toNat-s.S.toNat=J0 s lsn)/\(↑(lsn.toNat-s.S.toNat):Int)=w/\0=(x.1:Int)/\True)/\(1=1/\1=1/\(0=0/\s.d.E.length=s.d.E.length)/\(0=0/\s.d.C.length=m.length)/\s.d.A=s.d.A/\(0=0/\s.d.keep.length=s.d.keep.length)/\s.ep=s.ep/\(0=0/\s.L.length=s.L.length)/\s.S=s.S/\(0=0/\s.fr.length=s.fr.length)/\s.J=s.J/\True)/\(Z0 Z5 s.d.E s.d.E)/\True/\(Z0 Y9 s.d.keep s.d.keep)/\(Z0 Y1 s.L s.L)/\(v=v/\s.fr.length=s.fr.length/\V2 s.fr.length g g)/\(Z0 Z1 s.d.C m)/\True)/\∀(x:Up (J0 s lsn)),let j:=(x.1:Int);let r:=(s.d.C++List.map (nS s) (List.range x.1));let q:=(s.L.getD (s.S.toNat+j.toNat) dz);bd (j<w) (W9 j (J0 s lsn)/\Lt (s.S.toNat+j.toNat) s.L.length/\Ri (9+q.l)/\Ri (9+q.l-1)/\∃(X:Rec),(((EqR q X)/\True)/\a7s X)/\∃(f:(Sto×Int×Bz×Nat)),let a:=f.1.fr.length;let k:=f.1.d;let b:=(k.C++[Pend.mk f.2.1 f.2.2.1]);((i/\9+q.l-1=f.2.1/\J4 X=f.2.2.1/\True)/\((1=1/\1=1/\(0=0/\s.d.E.length=k.E.length)/\(0=0/\r.length=k.C.length)/\s.d.A=k.A/\(0=0/\s.d.keep.length=k.keep.length)/\s.ep=f.1.ep/\(0=0/\s.L.length=f.1.L.length)/\s.S=f.1.S/\(0=0/\s.fr.length=a)/\s.J=f.1.J/\True)/\(Z0 Z5 s.d.E k.E)/\(Z0 Z1 r k.C)/\(Z0 Y9 s.d.keep k.keep)/\(Z0 Y1 s.L f.1.L)/\(v=f.2.2.2/\s.fr.length=a/\V2 s.fr.length g (Y5 f.1.fr))/\True)/\k.C.length<=1048576)/\Ri (j+1)/\∃(y:Up (J0 s lsn)),let n:=(s.d.C++List.map (nS s) (List.range y.1));((i/\lsn=lsn/\(s.S.toNat=s.S.toNat/\J0 s lsn=J0 s lsn)/\w=w/\j+1=(y.1:Int)/\True)/\(1=1/\1=1/\(0=0/\k.E.length=s.d.E.length)/\(0=0/\b.length=n.length)/\k.A=s.d.A/\(0=0/\k.keep.length=s.d.keep.length)/\f.1.ep=s.ep/\(0=0/\f.1.L.length=s.L.length)/\f.1.S=s.S/\(0=0/\a=s.fr.length)/\f.1.J=s.J/\True)/\(Z0 Z5 k.E s.d.E)/\True/\(Z0 Y9 k.keep s.d.keep)/\(Z0 Y1 f.1.L s.L)/\(f.2.2.2=v/\a=s.fr.length/\V2 f.1.fr.length (Y5 f.1.fr) g)/\(Z0 Z1 b n)/\True)/\Lt (J0 s lsn-y.1) (J0 s lsn-x.1)) (∃(X:(Sto×Nat)),let u:=(U3 X.1.d);let c:=(Z0 Y9 u.1.keep t.keep);let z:=(X.2=v/\X.1.fr.length=p.1.fr.length/\V2 X.1.fr.length (Y5 X.1.fr) (Y5 p.1.fr));((i/\True)/\((1=1/\1=1/\(0=0/\s.d.E.length=X.1.d.E.length)/\(0=0/\r.length=X.1.d.C.length)/\s.d.A=X.1.d.A/\(0=0/\s.d.keep.length=X.1.d.keep.length)/\s.ep=X.1.ep/\(0=0/\s.L.length=X.1.L.length)/\s.S=X.1.S/\(0=0/\s.fr.length=X.1.fr.length)/\s.J=X.1.J/\True)/\(Z0 Z5 s.d.E X.1.d.E)/\(Z0 Z1 r X.1.d.C)/\(Z0 Y9 s.d.keep X.1.d.keep)/\(Z0 Y1 s.L X.1.L)/\(v=X.2/\s.fr.length=X.1.fr.length/\V2 s.fr.length g (Y5 X.1.fr))/\True)/\nN X.1.d/\aM X.1.d)/\br (! u.2) ((false=p.2/\True)/\nO {X.1 with d:=u.1} p.1/\(Z0 Z5 u.1.E t.E)/\True/\True/\(Z0 Y1 X.1.L p.1.L)/\z/\(Z0 Z1 u.1.C t.C)/\c/\True) ((true=p.2/\True)/\nO {X.1 with d:=u.1,S:=lsn} p.1/\(Z0 Z5 u.1.E t.E)/\True/\True/\(Z0 Y1 X.1.L p.1.L)/\z/\(Z0 Z1 u.1.C t.C)/\c/\True)))) ⟨λhc=>?_,λhc=>?_⟩
 ·rw[xE (G7 hc)];exact⟨X7,X7,X7,Z6,Z6,X7,u5,X7,X7,Z6⟩
 ·have hc:=r9 hc;refine⟨⟨h5,Z9,h8⟩,⟨⟨0,N4 _⟩,⟨X7,rfl,⟨D4 _,rfl⟩,X7⟩,⟨rfl,rfl,X7,⟨rfl,W7⟩,X7⟩,X7,Z6,X7,X7,u5,⟨W7,λi _=>W7⟩,Z6⟩,λx=>⟨λhx=>?_,λhx=>?_⟩⟩
  ·have hlt:=Y2 hx;obtain⟨e,hb,q⟩:=hn x.1 hlt;have e':9+(s.L.getD (s.S.toNat+x.1) dz).l-1=9+s.S+x.1:=e;rw[E3];refine⟨Y6 hlt,Q2,Z4 Z9,Z4 Z9,_,⟨X7,hb⟩,(s.sd (cT s x.1),9+(s.L.getD (s.S.toNat+x.1) dz).l-1,J4 (s.L.getD (s.S.toNat+x.1) dz),v),⟨X7,⟨X7,X7,X7,X7,X7,u5,Z6⟩,?_⟩,Z4 Z9,⟨x.1+1,hlt⟩,⟨⟨X7,rfl,X7,rfl,X5,Z6⟩,⟨rfl,rfl,X7,⟨rfl,congrArg List.length (uJ s x.1)⟩,X7⟩,X7,Z6,X7,X7,u5,⟨congrArg List.length (uJ s x.1),λi _=>congrArg (λL=>Z1 L i) (uJ s x.1)⟩,Z6⟩,V5.ext_lt hlt⟩
   show(s.d.C++List.map (nS s) (List.range _)).length<=1048576;simp only[F9,List.length_map,j_g];omega
  ·have hx:x.1=J0 s lsn:=by have:=x.2;have:=Y0 hx;omega
   rw[hx,xR hc];refine⟨(s.sd (cT s (J0 s lsn)),v),⟨X7,⟨X7,X7,X7,X7,X7,u5,Z6⟩,W⟩,λY=>?_,λY=>?_⟩
   ·have Y:(U3 (cT s (J0 s lsn))).2=false:=(vZ _).mp Y;exact⟨⟨Y.symm,Z6⟩,⟨rfl,rfl,X7,X7,rfl,X7,rfl,X7,(if_neg (by rw[Y];simp)).symm,⟨rfl,rfl⟩,rfl,Z6⟩,⟨rfl,X6 _ _⟩,Z6,Z6,⟨rfl,X6 _ _⟩,⟨rfl,rfl,mU _⟩,⟨rfl,X6 _ _⟩,⟨rfl,X6 _ _⟩,Z6⟩
   ·have Y:(U3 (cT s (J0 s lsn))).2=true:=(wU _).mp Y;exact⟨⟨Y.symm,Z6⟩,⟨rfl,rfl,X7,X7,rfl,X7,rfl,X7,(if_pos Y).symm,X7⟩,X7,Z6,Z6,X7,u5,X7,X7,Z6⟩
def pQ{a b c:Int}(h:V6 a b c=true):b<=a/\a<=c:=by simpa[V6] using h
def c7j{a b c:Int}(h:(!V6 a b c)=false):b<=a/\a<=c:=pQ x5
def c3R{s:Sto}{lsn:Int}(h:F7 s=true)(l:lsn<=s.L.length)(M:iC s):mD s lsn:=by
 obtain⟨⟨f,e,d⟩,_⟩:=(G4 s).1 h;obtain⟨j,c2,_,_,C⟩:=(o5 s).1 f;obtain⟨_,_,n,_,_,_,g⟩:=j;have d:=pQ d;refine⟨M.1,Z9,λi hi=>?_,c2,d.1,d.2,C,l,λi hi=>?_⟩
 ·have:=g i hi;unfold P3 at this;simp only[wS,wU] at this;have:=pQ this.1;omega
 ·obtain⟨a,b⟩:=C4.1 e i hi;exact⟨b,b90 a⟩
def b0b{d:Dsk}(h:nN d):nN (U3 d).1:=by
 obtain⟨e,g,f⟩:=h;unfold U3;split
 ·exact⟨by unfold crD;dsimp only;rw[A8];exact e,X7⟩
 ·exact⟨by dsimp only;rw[A8];exact e,N4 _,f⟩
def cL{s:Sto}{lsn:Int}(h:mD s lsn)(M:iC s):iC (V8 s lsn).1:=by
 by_cases l:lsn<=s.S
 ·rw[xE l];exact M
 ·rw[xR l];exact⟨b0b (a1j h).1,M.2.1,M.2.2.1,M.2.2.2⟩
def a80:Con:=.rel ⟨Dsk×Int×Bz,λx=>[.agg x.1.ts,Ji x.2.1,.str x.2.2],λx=>.agg (wrD x.1 x.2.1 x.2.2).ts,λx=>x.1.C.length<=1048576⟩
def kA:GK 134 a80:=gk func134<|by
 rintro⟨d,at_,t⟩ (h:d.C.length<=1048576);exact U5 gN func134 Z3 (α:=let r:=(d.C++[Pend.mk at_ t]);let q:=(0+d.C.length+1);let p:=(0+d.C.length);(Le 0 0/\U8 0 d.C.length 24)/\(Le 1 1/\Le p p/\U8 p 1 24)/\Le (0+q) q/\(Z0 Z5 d.E d.E)/\(0+d.C.length+1=r.length/\Z7 q (X4 (X4 (λ(k:Nat)=>List.take 2 (List.drop (k*2) [])) 0 (Z1 d.C)) p λ(k:Nat)=>List.take 2 (List.drop (k*2) [Ji at_,T.str t])) (Z1 r))/\d.A=d.A/\(Z0 Y9 d.keep d.keep)/\True) ⟨⟨U9 _,R0⟩,⟨U9 _,U9 _,R0⟩,K0,X7,⟨W7,by rw[D4];exact a31 d.C ⟨at_,t⟩⟩,X7⟩
def c4G(l:List T):Option Ob:=some (.arr false 1000000 4 1 λ_=>l)
def b09(l:List T):Option Ob:=some (.arr true 1000000 4 1 λ_=>l)
def c8L:List T:=[.v (.slice none 0 0),.v (.slice none 0 0),.bool false,.v (.slice none 0 0)]
def a9h:Con:=.rel ⟨Dsk×List Int,λx=>[.agg x.1.ts,sN x.2],λx=>.agg (crD x.1 x.2).ts,λx=>nN x.1/\aM x.1⟩
def a7R(d:Dsk)(K:List Int):Nat->Ann
 |0=>.one (Up d.C.length) (λx=>⟨[(1,sN K),(2,.ref 0 0 0),(4,.ref 1 0 0),(5,.ref 2 0 0),(6,Ji x.1)],[b09 d.ts,b09 c8L,c4G (d.tm 3),some (.arr true 0 1 d.E.length (Z5 (zQ d.E d.C (kp K) x.1))),D3 d.C,A0 d.keep]⟩) (λx=>d.C.length-x.1) c4I c4m (λ_=>Z3)
 |_=>.none
def K8{p:Prop}(h:p:=by repeat' first|exact trivial|exact rfl|exact X6 _ _|exact mU _|exact P1|exact uA _|exact U9 _|exact N4 _|refine And.intro ?_ ?_):p:=h
def a33:GK 220 a9h:=gk func220<|by
 rintro⟨d,K⟩ ⟨⟨l,f,g⟩,i⟩;dsimp only at l f g i;refine U5 (gC lN gN) func220 (a7R d K) (α:=let n:=(Z0 Y9 K K);let m:=(Z0 Y9 d.keep d.keep);let j:=(zQ d.E d.C (kp K) d.C.length);let w:=(1=1/\1=1/\zJ d d);let z:=(0=0/\0=0);let r:=(1=1/\1=1/\(0=0/\d.E.length=d.E.length)/\(0=0/\d.C.length=d.C.length)/\d.A=d.A/\(0=0/\d.keep.length=d.keep.length)/\True);let p:=(1=1/\1=1/\Value.slice none 0 0=Value.slice none 0 0/\Value.slice none 0 0=Value.slice none 0 0/\false=false/\Value.slice none 0 0=Value.slice none 0 0/\True);∃(x:Dsk),(((zJ d x)/\True)/\nN x)/\(∃(X:Up d.C.length),(n/\z/\z/\z/\0=(X.val:Int)/\True)/\w/\p/\(1=1/\1=1/\(0=0/\x.E.length=d.E.length)/\(0=0/\x.C.length=d.C.length)/\x.A=d.A/\(0=0/\x.keep.length=d.keep.length)/\True)/\(x.E.length=d.E.length/\Z7 x.E.length (Z5 x.E) (Z5 (zQ d.E d.C (kp K) X.val)))/\(Z0 Z1 x.C d.C)/\(Z0 Y9 x.keep d.keep)/\True)/\∀(x:Up d.C.length),let g:=(d.C.length-x.1);let v:=(Z5 (zQ d.E d.C (kp K) x.1));let q:=(x.1:Int);let f:=(q<(K.length:Int));let u:=(d.C.getD q.toNat dz);bd (q<(d.C.length:Int)) ((decide f=true->W9 q K.length)/\br (decide f&&K.getD q.toNat (0:Int) !=0) (W9 q d.C.length/\W9 q d.C.length/\W9 u.at_ d.E.length/\Lt (0+u.at_.toNat) d.E.length/\Ri (q+1)/\∃(y:Up d.C.length),((n/\z/\z/\z/\q+1=(y.1:Int)/\True)/\w/\p/\r/\(d.E.length=d.E.length/\Z7 d.E.length (setRow v (0+u.at_.toNat) 0 [T.str u.d]) (Z5 (zQ d.E d.C (kp K) y.1)))/\(Z0 Z1 d.C d.C)/\m/\True)/\Lt (d.C.length-y.1) g) (Ri (q+1)/\∃(y:Up d.C.length),((n/\z/\z/\z/\q+1=(y.1:Int)/\True)/\w/\p/\r/\(d.E.length=d.E.length/\Z7 d.E.length v (Z5 (zQ d.E d.C (kp K) y.1)))/\(Z0 Z1 d.C d.C)/\m/\True)/\Lt (d.C.length-y.1) g)) ((Le (0+d.E.length) d.E.length/\Le 0 0/\Le 0 0)/\(d.E.length=j.length/\Z7 d.E.length v (Z5 j))/\(0=0/\Z7 0 (λ(k:Nat)=>List.take 2 (List.drop (k*2) [])) (Z1 []))/\false=false/\(0=0/\Z7 0 (λ(k:Nat)=>List.take 1 (List.drop (k*1) [])) (Y9 []))/\True)) ⟨d,⟨X7,l,f,g⟩,⟨⟨0,N4 _⟩,K8⟩,λx=>⟨λhc=>?_,λhc=>?_⟩⟩
 ·have t:=Y2 hc;have n:(decide ((x.1:Int)<(K.length:Int))&&K.getD x.1 0 !=0)=kp K x.1:=by
   unfold kp;rw[show decide ((x.1:Int)<(K.length:Int))=decide (x.1<K.length) from decide_eq_decide.2 Z9]
  have A:=i x.1 t;rw[E3,n];refine⟨λh=>Y6 (Y2 h),λe=>?_,λe=>?_⟩
  ·exact⟨Y6 t,Y6 t,A,Q2,Z4 Z9,⟨x.1+1,t⟩,⟨⟨X7,X7,X7,X7,X5,Z6⟩,X7,K8,K8,⟨rfl,hV e⟩,K8⟩,V5.ext_lt t⟩
  ·exact⟨Z4 Z9,⟨x.1+1,t⟩,⟨⟨X7,X7,X7,X7,X5,Z6⟩,X7,K8,K8,⟨rfl,λj _=>by dsimp only;rw[c4O e]⟩,K8⟩,V5.ext_lt t⟩
 ·have hx:x.1=d.C.length:=by have:=x.2;have:=Y0 hc;omega
  rw[hx];exact⟨K8,⟨(A8 _ _ _ _).symm,X6 _ _⟩,K8⟩
def b1S:Con:=.rel ⟨Dsk,λd=>[.agg d.ts],λd=>.tup [.agg (U3 d).1.ts,.bool (U3 d).2],λd=>nN d/\aM d⟩
def b3J(d:Dsk):Nat->Ann
 |0=>.one (Up d.C.length) (λx=>⟨[(1,.ref 0 0 0),(2,.ref 1 0 0),(4,.ref 2 0 0),(5,Ji x.1)],[b09 d.ts,b09 c8L,c4G (d.tm 3),some (.arr true 0 1 d.E.length (Z5 (zQ d.E d.C (λ_=>true) x.1))),D3 d.C,A0 d.keep]⟩) (λx=>d.C.length-x.1) c4I c4m (λ_=>Z3)
 |_=>.none
def dA:GK 133 b1S:=gk func133<|by
 rintro(d:Dsk) ⟨⟨h1,h2,h3⟩,h4⟩;refine U5 (gC a33 (gC lN gN)) func133 (b3J d) (α:=let v:=(1=1/\1=1/\zJ d d);let z:=(0=0/\0=0);let p:=(1=1/\1=1/\Value.slice none 0 0=Value.slice none 0 0/\Value.slice none 0 0=Value.slice none 0 0/\false=false/\Value.slice none 0 0=Value.slice none 0 0/\True);br d.A (∃(x:(Dsk×List Int)),(((zJ d x.1)/\(Z0 Y9 d.keep x.2)/\True)/\nN x.1/\aM x.1)/\((Z0 Z5 (zQ x.1.E x.1.C (kp x.2) x.1.C.length) (U3 d).1.E)/\(0=(U3 d).1.C.length/\Z7 0 (Z1 []) (Z1 (U3 d).1.C))/\false=(U3 d).1.A/\(0=(U3 d).1.keep.length/\Z7 0 (Y9 []) (Y9 (U3 d).1.keep))/\True)/\false=(U3 d).2/\True) (∃(x:Dsk),(((zJ d x)/\True)/\nN x)/\(∃(X:Up d.C.length),(z/\z/\z/\0=(X.val:Int)/\True)/\v/\p/\(1=1/\1=1/\(0=0/\x.E.length=d.E.length)/\(0=0/\x.C.length=d.C.length)/\x.A=d.A/\(0=0/\x.keep.length=d.keep.length)/\True)/\(x.E.length=d.E.length/\Z7 x.E.length (Z5 x.E) (Z5 (zQ d.E d.C (λ(x:Nat)=>true) X.val)))/\(Z0 Z1 x.C d.C)/\(Z0 Y9 x.keep d.keep)/\True)/\∀(x:Up d.C.length),let u:=(Z5 (zQ d.E d.C (λ(x:Nat)=>true) x.1));let r:=(x.1:Int);let q:=(d.C.getD r.toNat dz);bd (r<(d.C.length:Int)) (W9 r d.C.length/\W9 r d.C.length/\W9 q.at_ d.E.length/\Lt (0+q.at_.toNat) d.E.length/\Ri (r+1)/\∃(y:Up d.C.length),((z/\z/\z/\r+1=(y.1:Int)/\True)/\v/\p/\(1=1/\1=1/\(0=0/\d.E.length=d.E.length)/\(0=0/\d.C.length=d.C.length)/\d.A=d.A/\(0=0/\d.keep.length=d.keep.length)/\True)/\(d.E.length=d.E.length/\Z7 d.E.length (setRow u (0+q.at_.toNat) 0 [T.str q.d]) (Z5 (zQ d.E d.C (λ(x:Nat)=>true) y.1)))/\(Z0 Z1 d.C d.C)/\(Z0 Y9 d.keep d.keep)/\True)/\Lt (d.C.length-y.1) (d.C.length-x.1)) ((Le (0+d.E.length) d.E.length/\Le 0 0/\Le (0+d.keep.length) d.keep.length)/\((d.E.length=(U3 d).1.E.length/\Z7 d.E.length u (Z5 (U3 d).1.E))/\(0=(U3 d).1.C.length/\Z7 0 (λ(k:Nat)=>List.take 2 (List.drop (k*2) [])) (Z1 (U3 d).1.C))/\d.A=(U3 d).1.A/\(Z0 Y9 d.keep (U3 d).1.keep)/\True)/\true=(U3 d).2/\True))) ⟨λhd=>?_,λhd=>?_⟩
 ·have e:U3 d=(crD d d.keep,false):=by unfold U3;rw[if_pos hd]
  rw[e];exact⟨(d,d.keep),⟨X7,⟨h1,h2,h3⟩,h4⟩,K8⟩
 ·have e:U3 d=(⟨zQ d.E d.C (λ_=>true) d.C.length,[],d.A,d.keep⟩,true):=by unfold U3;rw[if_neg (by rw[hd];simp)]
  rw[e];refine⟨d,⟨X7,h1,h2,h3⟩,⟨⟨0,N4 _⟩,K8⟩,λx=>⟨λhc=>?_,λhc=>?_⟩⟩
  ·have h:=Y2 hc;have A:=h4 x.1 h;rw[E3];exact⟨Y6 h,Y6 h,A,Q2,Z4 Z9,⟨x.1+1,h⟩,⟨⟨X7,X7,X7,X5,Z6⟩,X7,K8,K8,⟨rfl,hV (Q:=λ_=>true) rfl⟩,K8⟩,V5.ext_lt h⟩
  ·have hx:x.1=d.C.length:=by have:=x.2;have:=Y0 hc;omega
   rw[hx];exact⟨K8,⟨⟨(A8 _ _ _ _).symm,X6 _ _⟩,K8⟩,K8⟩
def c8y(l:List T):Option Ob:=some (.arr true 1000000 9 1 λ_=>l)
def a7e:Con:=.rel ⟨Sto×Int,λx=>[.agg x.1.ts,Ji x.2],λx=>.tup [.agg (V8 x.1 x.2).1.ts,.bool (V8 x.1 x.2).2],λx=>mD x.1 x.2⟩
def a7M(s:Sto)(lsn:Int):Nat->Ann
 |0=>.one (Up (J0 s lsn)) (λx=>⟨[(1,Ji lsn),(2,.ref 0 0 0),(4,.ref 1 0 0),(6,Ji (s.S+x.1+1))],[c8y (s.sd (cT s x.1)).ts,b57]⟩) (λx=>J0 s lsn-x.1) iQ iQ (λ_=>Z3)
 |_=>.none
def a4f:GK 138 a7e:=gk func138<|by
 rintro⟨s,lsn⟩ h;dsimp only at h;have n:=λi=>fY (i:=i) h
 have W:=a1j h;obtain⟨⟨A,t,C⟩,j,l,u,z,o,v,g,r⟩:=h;have N:J0 s lsn<=60:=by unfold J0;omega
 refine U5 (gC a5e (gC kA (gC dA gN))) func138 (a7M s lsn) (α:=let u:=(0=0/\0=0);let z:=(V8 s lsn);let p:=(1=1/\1=1/\Value.slice none 0 0=Value.slice none 0 0/\Value.slice none 0 0=Value.slice none 0 0/\false=false/\Value.slice none 0 0=Value.slice none 0 0/\(0:Int)=0/\Value.slice none 0 0=Value.slice none 0 0/\(0:Int)=0/\Value.slice none 0 0=Value.slice none 0 0/\(0:Int)=0/\True);bd (lsn<=s.S) ((yS s z.1)/\true=z.2/\True) (Ri (s.S+1)/\(∃(x:Up (J0 s lsn)),(lsn=lsn/\u/\u/\s.S+1=s.S+(x.1:Int)+1/\True)/\(1=1/\1=1/\(Z0 Z5 s.d.E s.d.E)/\(Z0 Z1 s.d.C (s.d.C++List.map (nS s) (List.range x.1)))/\s.d.A=s.d.A/\(Z0 Y9 s.d.keep s.d.keep)/\s.ep=s.ep/\(Z0 Y1 s.L s.L)/\s.S=s.S/\(Z0 V9 s.fr s.fr)/\s.J=s.J/\True)/\p/\True)/\∀(x:Up (J0 s lsn)),let r:=(s.d.C++List.map (nS s) (List.range x.1));let q:=(x.1:Int);let v:=(s.S+q+1-1);bd (s.S+q+1<=lsn) (Ri (9+(s.S+q+1))/\Ri (9+(s.S+q+1)-1)/\Ri v/\W9 v s.L.length/\∃(X:Rec),(((EqR (s.L.getD v.toNat dz) X)/\True)/\a7s X)/\∃(f:(Dsk×Int×Bz)),((((Z0 Z5 s.d.E f.1.E)/\(Z0 Z1 r f.1.C)/\s.d.A=f.1.A/\(Z0 Y9 s.d.keep f.1.keep)/\True)/\9+(s.S+q+1)-1=f.2.1/\J4 X=f.2.2/\True)/\f.1.C.length<=1048576)/\Ri (s.S+q+1+1)/\∃(y:Up (J0 s lsn)),((lsn=lsn/\u/\u/\s.S+q+1+1=s.S+(y.1:Int)+1/\True)/\(1=1/\1=1/\(Z0 Z5 f.1.E s.d.E)/\(Z0 Z1 (f.1.C++[Pend.mk f.2.1 f.2.2]) (s.d.C++List.map (nS s) (List.range y.1)))/\f.1.A=s.d.A/\(Z0 Y9 f.1.keep s.d.keep)/\s.ep=s.ep/\(Z0 Y1 s.L s.L)/\s.S=s.S/\(Z0 V9 s.fr s.fr)/\s.J=s.J/\True)/\p/\True)/\Lt (J0 s lsn-y.1) (J0 s lsn-x.1)) (∃(X:Dsk),((((Z0 Z5 s.d.E X.E)/\(Z0 Z1 r X.C)/\s.d.A=X.A/\(Z0 Y9 s.d.keep X.keep)/\True)/\True)/\nN X/\aM X)/\br (U3 X).2 ((yS {s with d:=(U3 X).1,S:=lsn} z.1)/\(U3 X).2=z.2/\True) ((yS {s with d:=(U3 X).1} z.1)/\(U3 X).2=z.2/\True)))) ⟨λhc=>?_,λhc=>?_⟩
 ·rw[xE (G7 hc)];exact K8
 ·have hc:=r9 hc;refine⟨Z4 Z9,⟨⟨0,N4 _⟩,⟨rfl,X7,X7,X5,Z6⟩,⟨rfl,rfl,X7,⟨W7,λi _=>W7⟩,K8⟩,K8⟩,λx=>⟨λhx=>?_,λhx=>?_⟩⟩
  ·have hlt:x.1<J0 s lsn:=by have:=G7 hx;unfold J0;omega
   obtain⟨e,B,q⟩:=n x.1 hlt;rw[show(s.S+(x.1:Int)+1-1).toNat=s.S.toNat+x.1 by omega]
   refine⟨Z4 Z9,Z4 Z9,Z4 Z9,⟨Z9,Z9⟩,_,⟨X7,B⟩,(cT s x.1,(nS s x.1).at_,J4 (s.L.getD (s.S.toNat+x.1) dz)),⟨⟨K8,by show _=(nS s x.1).at_;rw[e];omega,rfl,Z6⟩,?_⟩,Z4 Z9,⟨x.1+1,hlt⟩,⟨⟨rfl,⟨rfl,rfl⟩,⟨rfl,rfl⟩,X5,Z6⟩,⟨rfl,rfl,⟨rfl,X6 _ _⟩,⟨congrArg List.length (uJ s x.1),λi _=>congrArg (λL=>Z1 L i) (uJ s x.1)⟩,K8⟩,K8⟩,V5.ext_lt hlt⟩
   show(s.d.C++List.map (nS s) (List.range _)).length<=1048576;simp only[F9,List.length_map,j_g];omega
  ·have hx:x.1=J0 s lsn:=by have:=x.2;have:=r9 hx;unfold J0 at*;omega
   rw[hx,xR hc];refine⟨cT s (J0 s lsn),⟨⟨K8,Z6⟩,W⟩,λY=>⟨⟨X7,X7,rfl,X7,rfl,X7,(if_pos Y).symm,K8⟩,K8⟩,λY=>⟨⟨X7,X7,rfl,X7,rfl,X7,(if_neg (by rw[Y];simp)).symm,K8⟩,K8⟩⟩
end
end Go.Proofs.YtpdnnhnfongoeaaGreat
