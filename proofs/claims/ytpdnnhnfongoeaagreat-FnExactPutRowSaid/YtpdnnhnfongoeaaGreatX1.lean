/- A part of the proof. -/
import Derived.Test.YtpdnnhnfongoeaaGreatE4
namespace Go.Proofs.YtpdnnhnfongoeaaGreat
set_option maxRecDepth 100000
open Go.SS Go.Proofs.Tryz
noncomputable section
theorem v7:C6 []:=λk ob h=>by simp[Y4] at h
theorem B0{o:Ob}{H:X8}(h:a18 o)(k:C6 H):C6 (some o::H):=λi ob hi=>by
 cases i with
 |zero=>
  simp only[Y4,List.getElem?_cons_zero,Option.bind_some,id,X0] at hi
  rw[←hi];exact h
 |succ i=>exact k i ob (by simpa[Y4] using hi)
theorem v6{row row':Nat->List T}{n:Nat}:Z8 (0+n) (X4 row 0 row') row':=λi _=>rfl
def D1(L:List Pend):Option Ob:=some (.arr true 0 2 L.length (Z1 L))
def z8(L:List Int):Option Ob:=some (.arr true 0 1 L.length (Y9 L))
def j5(L:List Rec):Option Ob:=some (.arr true 0 10 L.length (Y0 L))
theorem z5(L:List (Bz)):C6 [z9 L]:=B0 (λi _ t h=>by simp only[Z5,List.mem_singleton] at h;rw[h];rfl) v7
theorem nT(L:List Pend):C6 [D1 L]:=B0 (λi _ t h=>by
 simp only[Z1,Pend.ts,vM,j_i,or_false] at h;rcases h with rfl|rfl<;>rfl) v7
theorem kU(L:List Int):C6 [z8 L]:=B0 (λi _ t h=>by simp only[Y9,List.mem_singleton] at h;rw[h];rfl) v7
theorem qF(L:List Rec):C6 [j5 L]:=B0 (λi _ t h=>by
 simp only[Y0,Rec.ts,vM,j_i,or_false] at h;rcases h with rfl|rfl|rfl|rfl|rfl|rfl|rfl|rfl|rfl|rfl<;>rfl) v7
def c1A:Con:=.rmk ⟨List (Bz),λL=>[s9 L],λ_=>[],λL=>.osl 0 0 L.length,λL=>[z9 L],λL=>L.length<=1048576⟩
theorem c1R(L:List (Bz))(h:
  ∀(b:Bool),(b=true->L.length=0)->br b (((0=0/\0=L.length)/\True)/\(0=L.length/\Z8 0 (λ(x:Nat)=>[]) (Z5 L))/\True) ((Le 0 0/\U8 0 L.length 16)/\((0=0/\0+L.length=L.length)/\True)/\(0+L.length=L.length/\Z8 (0+L.length) (X4 (tk 1 []) 0 (Z5 L)) (Z5 L))/\True)):
  G1 prog 244 [s9 L] [] (.osl 0 0 L.length) [z9 L]:=
 C4 gN func244 Z3 [[.arr 1],[.nilS 0 [] 0 1,.arr 0]] h
theorem a4H:GK 244 c1A:=gk func244<|λ(L:List (Bz)) (hL:L.length<=1048576)=>
 ⟨c1R L (λb B=>⟨λh=>⟨⟨⟨rfl,(B h).symm⟩,Z6⟩,⟨(B h).symm,λi hi=>absurd hi (D0 _)⟩,Z6⟩,λ_=>⟨⟨U9 _,Q9⟩,⟨⟨rfl,Z9⟩,Z6⟩,⟨Z9,v6⟩,Z6⟩⟩),rfl,z5 L⟩
def b41:Con:=.rmk ⟨List Pend,λL=>[v4 L],λ_=>[],λL=>.osl 0 0 L.length,λL=>[D1 L],λL=>L.length<=1048576⟩
theorem b5C(L:List Pend)(h:
  ∀(b:Bool),(b=true->L.length=0)->br b (((0=0/\0=L.length)/\True)/\(0=L.length/\Z8 0 (λ(x:Nat)=>[]) (Z1 L))/\True) ((Le 0 0/\U8 0 L.length 24)/\((0=0/\0+L.length=L.length)/\True)/\(0+L.length=L.length/\Z8 (0+L.length) (X4 (tk 2 []) 0 (Z1 L)) (Z1 L))/\True)):
  G1 prog 245 [v4 L] [] (.osl 0 0 L.length) [D1 L]:=
 C4 gN func245 Z3 b6A h
theorem b13:GK 245 b41:=gk func245<|λ(L:List Pend) (hL:L.length<=1048576)=>
 ⟨b5C L (λb B=>⟨λh=>⟨⟨⟨rfl,(B h).symm⟩,Z6⟩,⟨(B h).symm,λi hi=>absurd hi (D0 _)⟩,Z6⟩,λ_=>⟨⟨U9 _,Q9⟩,⟨⟨rfl,Z9⟩,Z6⟩,⟨Z9,v6⟩,Z6⟩⟩),rfl,nT L⟩
def c1q:Con:=.rmk ⟨List Int,λL=>[sM L],λ_=>[],λL=>.osl 0 0 L.length,λL=>[z8 L],λL=>L.length<=1048576⟩
theorem c2I(L:List Int)(h:
  ∀(b:Bool),(b=true->L.length=0)->br b (((0=0/\0=L.length)/\True)/\(0=L.length/\Z8 0 (λ(x:Nat)=>[]) (Y9 L))/\True) ((Le 0 0/\U8 0 L.length 8)/\((0=0/\0+L.length=L.length)/\True)/\(0+L.length=L.length/\Z8 (0+L.length) (X4 (tk 1 []) 0 (Y9 L)) (Y9 L))/\True)):
  G1 prog 246 [sM L] [] (.osl 0 0 L.length) [z8 L]:=
 C4 gN func246 Z3 [[.arr 1],[.nilS 0 [] 0 1,.arr 0]] h
theorem a4h:GK 246 c1q:=gk func246<|λ(L:List Int) (hL:L.length<=1048576)=>
 ⟨c2I L (λb B=>⟨λh=>⟨⟨⟨rfl,(B h).symm⟩,Z6⟩,⟨(B h).symm,λi hi=>absurd hi (D0 _)⟩,Z6⟩,λ_=>⟨⟨U9 _,Q9⟩,⟨⟨rfl,Z9⟩,Z6⟩,⟨Z9,v6⟩,Z6⟩⟩),rfl,kU L⟩
def c0r:Con:=.rmk ⟨List Rec,λL=>[zD L],λ_=>[],λL=>.osl 0 0 L.length,λL=>[j5 L],λL=>L.length<=1048576⟩
theorem c2r(L:List Rec)(h:
  ∀(b:Bool),(b=true->L.length=0)->br b (((0=0/\0=L.length)/\True)/\(0=L.length/\Z8 0 (λ(x:Nat)=>[]) (Y0 L))/\True) ((Le 0 0/\U8 0 L.length 96)/\((0=0/\0+L.length=L.length)/\True)/\(0+L.length=L.length/\Z8 (0+L.length) (X4 (tk 10 []) 0 (Y0 L)) (Y0 L))/\True)):
  G1 prog 179 [zD L] [] (.osl 0 0 L.length) [j5 L]:=
 C4 gN func179 Z3 [[.arr 1],[.nilS 0 [] 0 10,.arr 0]] h
theorem b7M:GK 179 c0r:=gk func179<|λ(L:List Rec) (hL:L.length<=1048576)=>
 ⟨c2r L (λb B=>⟨λh=>⟨⟨⟨rfl,(B h).symm⟩,Z6⟩,⟨(B h).symm,λi hi=>absurd hi (D0 _)⟩,Z6⟩,λ_=>⟨⟨U9 _,Q9⟩,⟨⟨rfl,Z9⟩,Z6⟩,⟨Z9,v6⟩,Z6⟩⟩),rfl,qF L⟩
def Dsk.tm(d:Dsk)(b:Nat):List T:=[.osl b 0 d.E.length,.osl (b+1) 0 d.C.length,.bool d.A,.osl (b+2) 0 d.keep.length]
def Dsk.hp(d:Dsk):X8:=[z9 d.E,D1 d.C,z8 d.keep]
theorem i3{H K:X8}(h:C6 H)(k:C6 K):C6 (H++K):=λi ob hi=>by
 unfold Y4 at hi;rw[List.getElem?_append] at hi
 split at hi
 ·exact h i ob hi
 ·exact k _ ob hi
theorem qI(d:Dsk):C6 d.hp:=i3 (z5 _) (i3 (nT _) (kU _))
def c0W:Con:=.rmk ⟨Dsk,λd=>[.agg d.ts],λ_=>[],λd=>.agg (d.tm 0),λd=>d.hp,nM⟩
theorem b62:GK 145 c0W:=gk func145<|by
 rintro(d:Dsk) ⟨h1,h2,h3⟩;exact⟨C4 (gC a4H (gC b13 (gC a4h gN))) func145 Z3 [[.arr 2,.arr 3,.arr 4]] (α:=∃(x:(List (Bz))),let p:=x.length;(((Z0 Z5 d.E x)/\True)/\p<=1048576)/\∃(X:(List Pend)),(((Z0 Z1 d.C X)/\True)/\X.length<=1048576)/\∃(e:(List Int)),let q:=e.length;(((Z0 Y9 d.keep e)/\True)/\q<=1048576)/\(((0=0/\p=d.E.length)/\(0=0/\X.length=d.C.length)/\d.A=d.A/\(0=0/\q=d.keep.length)/\True)/\True)/\(p=d.E.length/\Z8 (p) (Z5 x) (Z5 d.E))/\(X.length=d.C.length/\Z8 (X.length) (Z1 X) (Z1 d.C))/\(q=d.keep.length/\Z8 (q) (Y9 e) (Y9 d.keep))/\True) ⟨d.E,⟨Y1,h1⟩,d.C,⟨Y1,h2⟩,d.keep,⟨Y1,h3⟩,Y1⟩,rfl,qI d⟩
def Pg.tm(p:Pg)(b:Nat):List T:=[Ji p.Q,.osl b 0 p.sl.length]
def c7j:Con:=.rmk ⟨Pg,λp=>[.agg p.ts],λ_=>[],λp=>.agg (p.tm 0),λp=>[z9 p.sl],λp=>p.sl.length<=1048576⟩
theorem c1b:GK 180 c7j:=gk func180<|by
 intro(p:Pg) (h1:p.sl.length<=1048576);exact⟨C4 (gC a4H gN) func180 Z3 [[.arr 2]] (α:=∃(x:(List (Bz))),let q:=x.length;(((Z0 Z5 p.sl x)/\True)/\q<=1048576)/\((p.Q=p.Q/\(0=0/\q=p.sl.length)/\True)/\True)/\(q=p.sl.length/\Z8 (q) (Z5 x) (Z5 p.sl))/\True) ⟨p.sl,⟨Y1,h1⟩,Y1⟩,rfl,z5 _⟩
def Y5(L:List Frm)(i:Nat):List T:=[Ji (L.getD i dz).no,Ji (L.getD i dz).pg.Q,.own 0 1 (L.getD i dz).pg.sl.length (Z5 (L.getD i dz).pg.sl),.bool (L.getD i dz).D,Ji (L.getD i dz).first]
def wZ(v:Nat)(L:List Frm)(n:Nat):Option Ob:=some (.fam v 0 5 n (Y5 L))
def Sto.tm(s:Sto)(b:Nat):List T:=[.osl b 0 s.d.E.length,.osl (b+1) 0 s.d.C.length,.bool s.d.A,.osl (b+2) 0 s.d.keep.length,Ji s.ep,.osl (b+3) 0 s.L.length,Ji s.S,.osl (b+4) 0 s.fr.length,Ji s.J]
def Sto.hp(s:Sto)(v:Nat):X8:=[z9 s.d.E,D1 s.d.C,z8 s.d.keep,j5 s.L,wZ v s.fr s.fr.length]
def c9S:List T:=[.v (.slice none 0 0),.v (.slice none 0 0),.bool false,.v (.slice none 0 0),Ji 0,.v (.slice none 0 0),Ji 0,.v (.slice none 0 0),Ji 0]
def b58:Option Ob:=some (.arr true 1000000 9 1 λ_=>c9S)
def pK(l:List T):Option Ob:=some (.arr false 1000000 9 1 λ_=>l)
abbrev EqF(a b:Sto):Prop:=Z0 Z5 a.d.E b.d.E/\Z0 Z1 a.d.C b.d.C/\a.d.A=b.d.A/\Z0 Y9 a.d.keep b.d.keep/\a.ep=b.ep/\Z0 Y0 a.L b.L/\a.S=b.S/\(a.fr.length=b.fr.length/\Z8 a.fr.length (a1D (Y5 a.fr)) (V9 b.fr))/\a.J=b.J/\True
abbrev EqC(a b:Sto):Prop:=((0:Nat)=0/\a.d.E.length=b.d.E.length)/\((0:Nat)=0/\a.d.C.length=b.d.C.length)/\a.d.A=b.d.A/\((0:Nat)=0/\a.d.keep.length=b.d.keep.length)/\a.ep=b.ep/\((0:Nat)=0/\a.L.length=b.L.length)/\a.S=b.S/\((0:Nat)=0/\a.fr.length=b.fr.length)/\a.J=b.J/\True
abbrev EqH(v u:Nat)(a b:Sto):Prop:=Z0 Z5 a.d.E b.d.E/\Z0 Z1 a.d.C b.d.C/\Z0 Y9 a.d.keep b.d.keep/\Z0 Y0 a.L b.L/\(v=u/\a.fr.length=b.fr.length/\V2 a.fr.length (Y5 a.fr) (Y5 b.fr))/\True
abbrev nN(a b:Sto):Prop:=(1:Nat)=1/\(1:Nat)=1/\EqC a b
abbrev LnS(v u:Nat)(a b:Sto):Prop:=nN a b/\EqH v u a b
abbrev LeS(a:Sto):Prop:=Le (0+a.d.E.length) a.d.E.length/\Le (0+a.d.C.length) a.d.C.length/\Le (0+a.d.keep.length) a.d.keep.length/\Le (0+a.L.length) a.L.length/\Le (0+a.fr.length) a.fr.length
abbrev EqR(a b:Rec):Prop:=a.e=b.e/\a.l=b.l/\a.t=b.t/\a.k=b.k/\a.p=b.p/\a.n=b.n/\a.g=b.g/\a.s=b.s/\a.b=b.b/\a.a=b.a/\True
theorem mT{L:List Frm}(n:Nat):V2 n (Y5 L) (Y5 L):=λi _=>by
 refine⟨?_,?_,Y1,?_,?_,Z6⟩<;>rfl
theorem H9{q r:Sort _}{v:q}{a:r}{n:Nat}{L:List Frm}:v=v/\a=a/\V2 n (Y5 L) (Y5 L):=⟨rfl,rfl,mT _⟩
theorem Z7{p:Prop}(h:p:=by repeat' first|exact rfl|exact mT _|exact trivial|refine And.intro ?_ ?_|exact λ_ _=>rfl|exact U9 _|exact N7 _|exact λi hi=>absurd hi (D0 i)|(unfold Le;omega)):p:=h
theorem rW{i n:Nat}(h:i<n):Nat.blt i n=true:=Nat.ble_eq_true_of_le h
theorem mG{i n:Nat}(h:¬i<n):Nat.blt i n=false:=by
 cases B:Nat.blt i n with
 |false=>rfl
 |true=>exact absurd (yG B) h
theorem a9H{L:List Frm}{i:Nat}:V2 (i+1) (X4 (Y5 L) i λ_=>Y5 L i) (Y5 L):=λj J=>by
 have:X4 (Y5 L) i (λ_=>Y5 L i) j=Y5 L j:=by
  unfold X4;by_cases h:j<i
  ·rw[rW h]
  ·rw[mG h,show i=j by omega]
 rw[this];exact mT (j+1) j (Nat.lt_succ_self j)
theorem a0k(v:Nat)(L:List Frm)(n:Nat):C6 [wZ v L n]:=B0 (λi _ t h=>by
 simp only[Y5,vM,j_i,or_false] at h;rcases h with rfl|rfl|rfl|rfl|rfl
 ·rfl
 ·rfl
 ·intro j _ t h;simp only[Z5,List.mem_singleton] at h;rw[h];rfl
 ·rfl
 ·rfl) v7
theorem rF(s:Sto)(v:Nat):C6 (s.hp v):=i3 (H:=s.d.hp) (qI _) (i3 (qF _) (a0k _ _ _))
theorem kX:∀l:List T,b59 l l
 | []=>trivial
 |a::r=>⟨by cases a<;>first|rfl|exact⟨rfl,rfl,X6 _ _⟩,kX r⟩
theorem tV{n:Nat}{f g:Nat->List T}(h:∀i,i<n->f i=g i):V2 n f g:=λi hi=>by rw[h i hi];exact kX _
def c1Y:Con:=.rmk ⟨Sto,λs=>[.agg s.ts],λ_=>[],λs=>.agg (s.tm 0),λs=>s.hp 0,iC⟩
def c3a(s:Sto):Nat->Ann
 |0=>.one (Up s.fr.length) (λx=>⟨[(1,.ref 0 0 0),(2,.ref 1 0 0),(17,uB s.fr),(18,Ji s.fr.length),(19,Ji x.1)],[pK [.osl 2 0 s.d.E.length,.osl 3 0 s.d.C.length,.bool s.d.A,.osl 4 0 s.d.keep.length,Ji s.ep,.osl 5 0 s.L.length,Ji s.S,.osl 6 0 x.1,Ji s.J],b58,z9 s.d.E,D1 s.d.C,z8 s.d.keep,j5 s.L,wZ 0 s.fr x.1]⟩) (λx=>s.fr.length-x.1) [.nilC 0 7 0 5,.fam 6,.box 0,.box 1,.arr 2,.arr 3,.arr 4,.arr 5,.arr 6] [.box 0,.box 1,.arr 2,.arr 3,.arr 4,.arr 5,.at_ 31] (λ_=>Z3)
 |_=>.none
theorem b42:GK 92 c1Y:=gk func92<|by
 rintro(s:Sto) ⟨h1,h2,h3,h4⟩;refine⟨C4 (gC b62 (gC b7M (gC c1b gN))) func92 (c3a s) [c4o] (α:=let c:=(Z0 V9 s.fr s.fr);let b:=(Z0 Z1 s.d.C s.d.C);let a:=(Z0 Z5 s.d.E s.d.E);let n:=(Z0 Y9 s.d.keep s.d.keep);let m:=(0=0/\0=0);let k:=(0=0/\s.L.length=s.L.length);let j:=(Y5 s.fr);let w:=(0=0/\s.d.C.length=s.d.C.length);let v:=(0=0/\s.d.E.length=s.d.E.length);let u:=(0=0/\s.d.keep.length=s.d.keep.length);let r:=(s.fr.length:Int);let p:=(oo (Value.slice none 0 0=Value.slice none 0 0/\Value.slice none 0 0=Value.slice none 0 0/\false=false/\Value.slice none 0 0=Value.slice none 0 0/\(0:Int)=0/\Value.slice none 0 0=Value.slice none 0 0/\(0:Int)=0/\Value.slice none 0 0=Value.slice none 0 0/\(0:Int)=0/\True));∃(x:Dsk),(((zI s.d x)/\True)/\nM x)/\∃(e:(List Rec)),let g:=e.length;(((Z0 Y0 s.L e)/\True)/\g<=1048576)/\(∃(X:Up s.fr.length),(m/\m/\c/\r=r/\0=(X.val:Int)/\True)/\(oo ((0=0/\x.E.length=s.d.E.length)/\(0=0/\x.C.length=s.d.C.length)/\x.A=s.d.A/\(0=0/\x.keep.length=s.d.keep.length)/\s.ep=s.ep/\(0=0/\g=s.L.length)/\s.S=s.S/\(0=0/\0=X.val)/\s.J=s.J/\True))/\p/\(Z0 Z5 x.E s.d.E)/\(Z0 Z1 x.C s.d.C)/\(Z0 Y9 x.keep s.d.keep)/\(g=s.L.length/\Z8 (g) (Y0 e) (Y0 s.L))/\(0=0/\0=X.val/\V2 0 (λ(x:Nat)=>[]) j)/\True)/\∀(x:Up s.fr.length),let f:=x.1;let z:=(f:Int);let q:=(s.fr.getD z.toNat dz);bd (z<r) (W9 z s.fr.length/\∃(X:Pg),(((q.pg.Q=X.Q/\(Z0 Z5 q.pg.sl X.sl)/\True)/\True)/\X.sl.length<=1048576)/\(Le X.sl.length X.sl.length/\Le x.1 f/\U8 x.1 1 56)/\Ri (z+1)/\∃(y:Up s.fr.length),((m/\m/\c/\r=r/\z+1=(y.1:Int)/\True)/\(oo (v/\w/\s.d.A=s.d.A/\u/\s.ep=s.ep/\k/\s.S=s.S/\(0=0/\f+1=y.1)/\s.J=s.J/\True))/\p/\a/\b/\n/\(Z0 Y0 s.L s.L)/\(0=0/\f+1=y.1/\V2 (f+1) (X4 j x.1 λ(x_3:Nat)=>[Ji q.no,Ji X.Q,T.own 0 1 X.sl.length (Z5 X.sl),T.bool q.D,Ji q.first]) j)/\True)/\Lt (s.fr.length-y.1) (s.fr.length-f)) (((v/\w/\s.d.A=s.d.A/\u/\s.ep=s.ep/\k/\s.S=s.S/\(0=0/\f=s.fr.length)/\s.J=s.J/\True)/\True)/\a/\b/\n/\(Z0 Y0 s.L s.L)/\(0=0/\f=s.fr.length/\V2 x.1 j j)/\True)) ⟨s.d,⟨Y1,h1⟩,s.L,⟨Y1,h2⟩,⟨⟨0,N7 _⟩,Y1,Y1,Y1,Y1,Y1,Y1,Y1,⟨rfl,rfl,λi hi=>absurd hi (D0 _)⟩,Z6⟩,λx=>⟨λhc=>?_,λhc=>?_⟩⟩,rfl,?_⟩
 ·have h:=Y2 hc;rw[D8];exact⟨Y6 h,(s.fr.getD x.1 dz).pg,⟨Y1,h4 _ h⟩,⟨U9 _,U9 _,Q9⟩,Z4 Z9,⟨x.1+1,h⟩,⟨⟨Y1,Y1,Y1,rfl,X5,Z6⟩,Y1,Y1,Y1,Y1,Y1,Y1,⟨rfl,rfl,a9H⟩,Z6⟩,V5.ext_lt h⟩
 ·have hx:x.1=s.fr.length:=by have:=x.2;have:=X9 hc;omega
  rw[hx];exact⟨Y1,Y1,Y1,Y1,Y1,H9,Z6⟩
 ·exact rF s 0
def Sto.tn(s:Sto)(a b c d e:Nat):List T:=[.osl a 0 s.d.E.length,.osl b 0 s.d.C.length,.bool s.d.A,.osl c 0 s.d.keep.length,Ji s.ep,.osl d 0 s.L.length,Ji s.S,.osl e 0 s.fr.length,Ji s.J]
def Sto.bx(s:Sto)(v:Nat):X8:=[pK (s.tn 1 2 3 4 5),z9 s.d.E,D1 s.d.C,z8 s.d.keep,j5 s.L,wZ v s.fr s.fr.length]
def Sto.bxL(s:Sto)(v:Nat):X8:=[pK (s.tn 1 2 3 6 5),z9 s.d.E,D1 s.d.C,z8 s.d.keep,none,wZ v s.fr s.fr.length,j5 s.L]
def P8(s:Sto)(r:Rec):Rec:=⟨s.ep,(s.L.length:Int)+1,r.t,r.k,r.p,r.n,r.g,r.s,r.b,r.a⟩
def Q4(s:Sto)(r:Rec):Sto:=if O8 (P8 s r)=true then{s with L:=s.L++[P8 s r]} else s
def SmR(r:Rec):Prop:=r.b.length<=1048576/\r.a.length<=1048576
def a5i:Rle:=⟨Sto×Rec×Nat,λx=>[.ref 0 0 0,.agg x.2.1.ts],λx=>x.1.bx x.2.2,λx=>.bool (O8 (P8 x.1 x.2.1)),λx=>(Q4 x.1 x.2.1).bxL x.2.2,λx=>x.1.L.length<=60/\SmR x.2.1⟩
def b7Z:Con:=.reff a5i
theorem hJ(L:List Rec)(r:Rec):Z8 (L.length+1) (X4 (Y0 L) L.length λk=>List.take 10 (List.drop (k*10) r.ts)) (Y0 (L++[r])):=by
 intro i hi;unfold X4 Y0;by_cases h:i<L.length
 ·rw[rW h,P3,P3,rK h]
 ·have:i=L.length:=by omega
  subst this;rw[mG h];have:(L++[r]).getD L.length dz=r:=by rw[P3,pZ (U9 _)];simp
  rw[this];simp[Rec.ts]
theorem kF:GK 208 b7Z:=gk func208<|by
 rintro⟨s,r,v⟩ ⟨f,j,i⟩;dsimp only at f j i;refine C4 (gC tK gN) func208 Z3 [c4u,[.box 0,.arr 1,.arr 2,.arr 3,.arr 4,.arr 5,.arr 4]] (α:=let m:=(Q4 s r).L.length;let j:=(Q4 s r).fr.length;let w:=(Z0 Z1 s.d.C (Q4 s r).d.C);let y:=(Z0 Z5 s.d.E (Q4 s r).d.E);let u:=(Z0 Y9 s.d.keep (Q4 s r).d.keep);let z:=((s.L.length:Int)+1);let q:=(v=v/\s.fr.length=j/\V2 s.fr.length (Y5 s.fr) (Y5 (Q4 s r).fr));Ri z/\b3J r.a/\br (!O8 (Rec.mk s.ep z r.t r.k r.p r.n r.g r.s r.b r.a)) ((false=O8 (P8 s r)/\True)/\nN s (Q4 s r)/\y/\w/\u/\True/\q/\(Z0 Y0 s.L (Q4 s r).L)/\True) ((Le 1 1/\Le s.L.length s.L.length/\U8 s.L.length 1 96)/\(true=O8 (P8 s r)/\True)/\(oo ((0=0/\s.d.E.length=(Q4 s r).d.E.length)/\(0=0/\s.d.C.length=(Q4 s r).d.C.length)/\s.d.A=(Q4 s r).d.A/\(0=0/\s.d.keep.length=(Q4 s r).d.keep.length)/\s.ep=(Q4 s r).ep/\(0=0/\s.L.length+1=m)/\s.S=(Q4 s r).S/\(0=0/\s.fr.length=j)/\s.J=(Q4 s r).J/\True))/\y/\w/\u/\True/\q/\(s.L.length+1=m/\Z8 (s.L.length+1) (X4 (Y0 s.L) s.L.length (tk 10 [Ji s.ep,Ji z,Ji r.t,Ji r.k,Ji r.p,Ji r.n,Ji r.g,Ji r.s,T.str r.b,T.str r.a])) (Y0 (Q4 s r).L))/\True)) ⟨Z4 Z9,by unfold b3J;omega,λh=>?_,λh=>?_⟩
 ·have hr:O8 (P8 s r)=false:=by simpa[P8] using h
  have e:Q4 s r=s:=by unfold Q4;rw[if_neg (by rw[hr];simp)]
  rw[e,hr];exact⟨Y1,Y1,Y1,Y1,Y1,Z6,H9,Y1,Z6⟩
 ·have hr:O8 (P8 s r)=true:=by simpa[P8] using h
  have e:Q4 s r={s with L:=s.L++[P8 s r]}:=by unfold Q4;rw[if_pos hr]
  rw[e,hr];have l:s.L.length+1=(s.L++[P8 s r]).length:=W7
  exact⟨⟨U9 _,U9 _,Q9⟩,Y1,⟨rfl,rfl,Y1,Y1,rfl,Y1,rfl,⟨rfl,l⟩,Y1⟩,Y1,Y1,Y1,Z6,H9,⟨l,hJ s.L (P8 s r)⟩,Z6⟩
def c9F:Sto:=⟨⟨[],[],false,[]⟩,0,[],0,[],0⟩
theorem tZ(n:Nat):Le (0+n) n:=Nat.le_of_eq (D2 n)
theorem P0{row row':Nat->List T}:Z8 0 row row':=λi hi=>absurd hi (D0 _)
def b7T:Con:=.rmk ⟨Dsk,λd=>[.agg d.ts],λ_=>[],λd=>.agg (d.tm 0),λd=>d.hp,nM⟩
theorem lN:GK 170 b7T:=gk func170<|by
 rintro(d:Dsk) ⟨h1,h2,h3⟩;exact⟨C4 gN func170 Z3 [[.arr 3,.arr 5,.arr 7]] (α:=(Le 0 0/\U8 0 d.E.length 16)/\(Le 0 0/\U8 0 d.C.length 24)/\(Le 0 0/\U8 0 d.keep.length 8)/\(((0=0/\0+d.E.length=d.E.length)/\(0=0/\0+d.C.length=d.C.length)/\d.A=d.A/\(0=0/\0+d.keep.length=d.keep.length)/\True)/\True)/\(0+d.E.length=d.E.length/\Z8 (0+d.E.length) (X4 (tk 1 []) 0 (Z5 d.E)) (Z5 d.E))/\(0+d.C.length=d.C.length/\Z8 (0+d.C.length) (X4 (tk 2 []) 0 (Z1 d.C)) (Z1 d.C))/\(0+d.keep.length=d.keep.length/\Z8 (0+d.keep.length) (X4 (tk 1 []) 0 (Y9 d.keep)) (Y9 d.keep))/\True) ⟨⟨U9 _,Q9⟩,⟨U9 _,Q9⟩,⟨U9 _,Q9⟩,⟨⟨⟨rfl,Z9⟩,⟨rfl,Z9⟩,rfl,⟨rfl,Z9⟩,Z6⟩,Z6⟩,⟨Z9,v6⟩,⟨Z9,v6⟩,⟨Z9,v6⟩,Z6⟩,rfl,qI d⟩
def b5K:Con:=.rmk ⟨Pg,λp=>[.agg p.ts],λ_=>[],λp=>.agg (p.tm 0),λp=>[z9 p.sl],λp=>p.sl.length<=1048576⟩
theorem a0v:GK 171 b5K:=gk func171<|by
 intro(p:Pg) (h1:p.sl.length<=1048576);exact⟨C4 gN func171 Z3 [[.arr 3]] (α:=(Le 0 0/\U8 0 p.sl.length 16)/\((p.Q=p.Q/\(0=0/\0+p.sl.length=p.sl.length)/\True)/\True)/\(0+p.sl.length=p.sl.length/\Z8 (0+p.sl.length) (X4 (tk 1 []) 0 (Z5 p.sl)) (Z5 p.sl))/\True) ⟨⟨U9 _,Q9⟩,⟨⟨rfl,⟨rfl,Z9⟩,Z6⟩,Z6⟩,⟨Z9,v6⟩,Z6⟩,rfl,z5 _⟩
def b9D:Con:=.rmk ⟨Sto,λs=>[.agg s.ts],λ_=>[],λs=>.agg (s.tm 0),λs=>s.hp 0,iC⟩
def b75(s:Sto):Nat->Ann
 |0=>.one (Up s.fr.length) (λx=>⟨[(1,.ref 0 0 0),(2,.ref 1 0 0),(3,.osl 6 0 x.1),(4,Ji x.1)],[pK [.osl 2 0 s.d.E.length,.osl 3 0 s.d.C.length,.bool s.d.A,.osl 4 0 s.d.keep.length,Ji s.ep,.osl 5 0 s.L.length,Ji s.S,uB s.fr,Ji s.J],b58,z9 s.d.E,D1 s.d.C,z8 s.d.keep,j5 s.L,wZ 0 s.fr x.1]⟩) (λx=>s.fr.length-x.1) [.fam 7,.box 0,.box 1,.arr 2,.arr 3,.arr 4,.arr 6,.arr 7] [.box 0,.box 1,.arr 2,.arr 3,.arr 4,.arr 5,.at_ 3] (λ_=>Z3)
 |_=>.none
theorem b2y:GK 83 b9D:=gk func83<|by
 rintro(s:Sto) ⟨h1,h2,h3,h4⟩;refine⟨C4 (gC lN (gC a0v gN)) func83 (b75 s) [c4o] (α:=let a:=(Z0 V9 s.fr s.fr);let g:=(Z0 Z1 s.d.C s.d.C);let f:=(Z0 Z5 s.d.E s.d.E);let m:=(Z0 Y9 s.d.keep s.d.keep);let k:=(0=0/\0=0);let j:=(0=0/\s.L.length=s.L.length);let w:=(Y5 s.fr);let v:=(0=0/\s.d.C.length=s.d.C.length);let u:=(0=0/\s.d.E.length=s.d.E.length);let z:=(0=0/\s.d.keep.length=s.d.keep.length);let p:=(oo (Value.slice none 0 0=Value.slice none 0 0/\Value.slice none 0 0=Value.slice none 0 0/\false=false/\Value.slice none 0 0=Value.slice none 0 0/\(0:Int)=0/\Value.slice none 0 0=Value.slice none 0 0/\(0:Int)=0/\Value.slice none 0 0=Value.slice none 0 0/\(0:Int)=0/\True));∃(x:Dsk),(((zI s.d x)/\True)/\nM x)/\(Le 0 0/\U8 0 s.L.length 96)/\(∃(X:Up s.fr.length),(k/\k/\(0=0/\0=X.val)/\0=(X.val:Int)/\True)/\(oo ((0=0/\x.E.length=s.d.E.length)/\(0=0/\x.C.length=s.d.C.length)/\x.A=s.d.A/\(0=0/\x.keep.length=s.d.keep.length)/\s.ep=s.ep/\(0=0/\0+s.L.length=s.L.length)/\s.S=s.S/\a/\s.J=s.J/\True))/\p/\(Z0 Z5 x.E s.d.E)/\(Z0 Z1 x.C s.d.C)/\(Z0 Y9 x.keep s.d.keep)/\(0+s.L.length=s.L.length/\Z8 (0+s.L.length) (X4 (tk 10 []) 0 (Y0 s.L)) (Y0 s.L))/\(0=0/\0=X.val/\V2 0 (tk 5 []) w)/\True)/\∀(x:Up s.fr.length),let n:=x.1;let r:=(n:Int);let q:=(s.fr.getD r.toNat dz);bd (r<(s.fr.length:Int)) (W9 r s.fr.length/\∃(X:Pg),(((q.pg.Q=X.Q/\(Z0 Z5 q.pg.sl X.sl)/\True)/\True)/\X.sl.length<=1048576)/\(Le X.sl.length X.sl.length/\Le x.1 n/\U8 x.1 1 56)/\Ri (r+1)/\∃(y:Up s.fr.length),((k/\k/\(0=0/\n+1=y.1)/\r+1=(y.1:Int)/\True)/\(oo (u/\v/\s.d.A=s.d.A/\z/\s.ep=s.ep/\j/\s.S=s.S/\a/\s.J=s.J/\True))/\p/\f/\g/\m/\(Z0 Y0 s.L s.L)/\(0=0/\n+1=y.1/\V2 (n+1) (X4 w x.1 λ(x_2:Nat)=>[Ji q.no,Ji X.Q,T.own 0 1 X.sl.length (Z5 X.sl),T.bool q.D,Ji q.first]) w)/\True)/\Lt (s.fr.length-y.1) (s.fr.length-n)) (((u/\v/\s.d.A=s.d.A/\z/\s.ep=s.ep/\j/\s.S=s.S/\(0=0/\n=s.fr.length)/\s.J=s.J/\True)/\True)/\f/\g/\m/\(Z0 Y0 s.L s.L)/\(0=0/\n=s.fr.length/\V2 x.1 w w)/\True)) ⟨s.d,⟨Y1,h1⟩,⟨U9 _,Q9⟩,⟨⟨0,N7 _⟩,Y1,⟨rfl,rfl,Y1,Y1,rfl,Y1,rfl,⟨rfl,Z9⟩,Y1⟩,Y1,Y1,Y1,Y1,⟨Z9,v6⟩,⟨rfl,rfl,λi hi=>absurd hi (D0 _)⟩,Z6⟩,λx=>⟨λhc=>?_,λhc=>?_⟩⟩,rfl,rF s 0⟩
 ·have h:=Y2 hc;rw[D8];exact⟨Y6 h,(s.fr.getD x.1 dz).pg,⟨Y1,h4 _ h⟩,⟨U9 _,U9 _,Q9⟩,Z4 Z9,⟨x.1+1,h⟩,⟨⟨Y1,Y1,Y1,X5,Z6⟩,Y1,Y1,Y1,Y1,Y1,Y1,⟨rfl,rfl,a9H⟩,Z6⟩,V5.ext_lt h⟩
 ·have hx:x.1=s.fr.length:=by have:=x.2;have:=X9 hc;omega
  rw[hx];exact⟨Y1,Y1,Y1,Y1,Y1,H9,Z6⟩
def b8t:Con:=.rmk ⟨List (Bz),λL=>[s9 L],λ_=>[],λL=>.osl 0 0 L.length,λL=>[z9 L],λL=>L.length<=1048576⟩
theorem a0T:GK 172 b8t:=gk func172<|by
 intro(L:List (Bz)) (hL:L.length<=1048576);refine⟨C4 gN func172 (b6K L) pY (α:=let z:=(0=0/\L.length=L.length);let p:=(L.length:Int);(Nn p/\LeI p p/\yN 16 p.toNat 140737488355328/\Lt p.toNat 9223372036854775808)/\(∃(x:Up L.length),((Z0 Z5 L L)/\(0=0/\p.toNat=L.length)/\0=(x.1:Int)/\True)/\(p.toNat=L.length/\Z8 p.toNat (λ(x:Nat)=>[T.str []]) (xW (Z5 L) [T.str []] x.1))/\True)/\∀(x:Up L.length),let r:=(xW (Z5 L) [T.str []] x.1);let q:=(x.1:Int);bd (q<p) (W9 q L.length/\W9 q L.length/\Lt (0+q.toNat) L.length/\Ri (q+1)/\∃(y:Up L.length),(((Z0 Z5 L L)/\z/\q+1=(y.1:Int)/\True)/\(L.length=L.length/\Z8 L.length (setRow r (0+q.toNat) 0 [T.str (L.getD q.toNat [])]) (xW (Z5 L) [T.str []] y.1))/\True)/\Lt (L.length-y.1) (L.length-x.1)) ((z/\True)/\(L.length=L.length/\Z8 L.length r (Z5 L))/\True)) ⟨⟨m0,sG,sW,Q1⟩,⟨⟨0,N7 _⟩,⟨⟨S6,X6 _ _⟩,⟨S6,Z9⟩,Y1⟩,⟨Z9,uS⟩,Z6⟩,λx=>⟨λhc=>?_,λhc=>?_⟩⟩,rfl,z5 L⟩
 ·have hlt:=Y2 hc;refine⟨Y6 hlt,Y6 hlt,Q1,W2 hlt Z9,⟨x.1+1,hlt⟩,⟨⟨⟨S6,X6 _ _⟩,⟨S6,S6⟩,L9,Z6⟩,⟨S6,λj hj=>?_⟩,Z6⟩,V5.ext_lt hlt⟩
  exact wV (m:=1) (λ_=>rfl) rfl x.1 rfl j
 ·have hx:x.1=L.length:=by have:=x.2;have:=X9 hc;omega
  rw[hx];exact⟨Y1,⟨rfl,λi hi=>uD (n:=L.length) i Z9⟩,Z6⟩
def b7O:Con:=.rmk ⟨List Int,λL=>[sM L],λ_=>[],λL=>.osl 0 0 L.length,λL=>[z8 L],λL=>L.length<=1048576⟩
theorem b1O:GK 174 b7O:=gk func174<|by
 intro(L:List Int) (hL:L.length<=1048576);refine⟨C4 gN func174 (b7E L) pY (α:=let z:=(0=0/\L.length=L.length);let p:=(L.length:Int);(Nn p/\LeI p p/\yN 8 p.toNat 140737488355328/\Lt p.toNat 9223372036854775808)/\(∃(x:Up L.length),((Z0 Y9 L L)/\(0=0/\p.toNat=L.length)/\0=(x.1:Int)/\True)/\(p.toNat=L.length/\Z8 p.toNat (λ(x:Nat)=>[Ji 0]) (xW (Y9 L) [Ji 0] x.1))/\True)/\∀(x:Up L.length),let r:=(xW (Y9 L) [Ji 0] x.1);let q:=(x.1:Int);bd (q<p) (W9 q L.length/\W9 q L.length/\Lt (0+q.toNat) L.length/\Ri (q+1)/\∃(y:Up L.length),(((Z0 Y9 L L)/\z/\q+1=(y.1:Int)/\True)/\(L.length=L.length/\Z8 L.length (setRow r (0+q.toNat) 0 [Ji (L.getD q.toNat (0:Int))]) (xW (Y9 L) [Ji 0] y.1))/\True)/\Lt (L.length-y.1) (L.length-x.1)) ((z/\True)/\(L.length=L.length/\Z8 L.length r (Y9 L))/\True)) ⟨⟨m0,sG,sW,Q1⟩,⟨⟨0,N7 _⟩,⟨⟨S6,X6 _ _⟩,⟨S6,Z9⟩,Y1⟩,⟨Z9,uS⟩,Z6⟩,λx=>⟨λhc=>?_,λhc=>?_⟩⟩,rfl,kU L⟩
 ·have hlt:=Y2 hc;refine⟨Y6 hlt,Y6 hlt,Q1,W2 hlt Z9,⟨x.1+1,hlt⟩,⟨⟨⟨S6,X6 _ _⟩,⟨S6,S6⟩,L9,Z6⟩,⟨S6,λj hj=>?_⟩,Z6⟩,V5.ext_lt hlt⟩
  exact wV (m:=1) (λ_=>rfl) rfl x.1 rfl j
 ·have hx:x.1=L.length:=by have:=x.2;have:=X9 hc;omega
  rw[hx];exact⟨Y1,⟨rfl,λi hi=>uD (n:=L.length) i Z9⟩,Z6⟩
def b4m:Con:=.rmk ⟨List Pend,λL=>[v4 L],λ_=>[],λL=>.osl 0 0 L.length,λL=>[D1 L],λL=>L.length<=1048576⟩
theorem a7o:GK 173 b4m:=gk func173<|by
 intro(L:List Pend) (hL:L.length<=1048576);refine⟨C4 (gC b2H gN) func173 (b2g L) pY (α:=let z:=(0=0/\L.length=L.length);let p:=(L.length:Int);(Nn p/\LeI p p/\yN 24 p.toNat 140737488355328/\Lt p.toNat 9223372036854775808)/\(∃(x:Up L.length),((Z0 Z1 L L)/\(0=0/\p.toNat=L.length)/\0=(x.1:Int)/\True)/\(p.toNat=L.length/\Z8 p.toNat (λ(x:Nat)=>[Ji 0,T.str []]) (xW (Z1 L) [Ji 0,T.str []] x.1))/\True)/\∀(x:Up L.length),let r:=(xW (Z1 L) [Ji 0,T.str []] x.1);let q:=(x.1:Int);let u:=(L.getD q.toNat dz);bd (q<p) (W9 q L.length/\∃(X:a3i.ι),(((u.at_=X.at_/\u.d=X.d/\True)/\True)/\SmP X)/\W9 q L.length/\Lt (0+q.toNat) L.length/\Ri (q+1)/\∃(y:Up L.length),(((Z0 Z1 L L)/\z/\q+1=(y.1:Int)/\True)/\(L.length=L.length/\Z8 L.length (setRow r (0+q.toNat) 0 [Ji X.at_,T.str X.d]) (xW (Z1 L) [Ji 0,T.str []] y.1))/\True)/\Lt (L.length-y.1) (L.length-x.1)) ((z/\True)/\(L.length=L.length/\Z8 L.length r (Z1 L))/\True)) ⟨⟨m0,sG,sW,Q1⟩,⟨⟨0,N7 _⟩,⟨⟨S6,X6 _ _⟩,⟨S6,Z9⟩,Y1⟩,⟨Z9,uS⟩,Z6⟩,λx=>⟨λhc=>?_,λhc=>?_⟩⟩,rfl,nT L⟩
 ·have hlt:=Y2 hc;refine⟨Y6 hlt,L.getD x.1 dz,Y1,Y6 hlt,Q1,W2 hlt Z9,⟨x.1+1,hlt⟩,⟨⟨⟨S6,X6 _ _⟩,⟨S6,S6⟩,L9,Z6⟩,⟨S6,λj hj=>?_⟩,Z6⟩,V5.ext_lt hlt⟩
  exact wV (m:=2) (λ_=>rfl) rfl x.1 rfl j
 ·have hx:x.1=L.length:=by have:=x.2;have:=X9 hc;omega
  rw[hx];exact⟨Y1,⟨rfl,λi hi=>uD (n:=L.length) i Z9⟩,Z6⟩
def b5E:Con:=.rmk ⟨List Rec,λL=>[zD L],λ_=>[],λL=>.osl 0 0 L.length,λL=>[j5 L],λL=>L.length<=1048576⟩
theorem b4f:GK 86 b5E:=gk func86<|by
 intro(L:List Rec) (hL:L.length<=1048576);refine⟨C4 (gC b5W gN) func86 (b51 L) pY (α:=let m:=(0=0/\L.length=L.length);let v:=(L.length:Int);(Nn v/\LeI v v/\yN 96 v.toNat 140737488355328/\Lt v.toNat 9223372036854775808)/\(∃(x:Up L.length),((Z0 Y0 L L)/\(0=0/\v.toNat=L.length)/\0=(x.1:Int)/\True)/\(v.toNat=L.length/\Z8 v.toNat (λ(x:Nat)=>[Ji 0,Ji 0,Ji 0,Ji 0,Ji 0,Ji 0,Ji 0,Ji 0,T.str [],T.str []]) λ(j:Nat)=>let r:=(G4 dz M5 L x.1 j);[Ji r.e,Ji r.l,Ji r.t,Ji r.k,Ji r.p,Ji r.n,Ji r.g,Ji r.s,T.str r.b,T.str r.a])/\True)/\∀(x:Up L.length),let w:=(x.1:Int);let q:=(λ(j:Nat)=>let z:=(G4 dz M5 L x.1 j);[Ji z.e,Ji z.l,Ji z.t,Ji z.k,Ji z.p,Ji z.n,Ji z.g,Ji z.s,T.str z.b,T.str z.a]);bd (w<v) (W9 w L.length/\∃(X:a95.ι),(((EqR (L.getD w.toNat dz) X)/\True)/\True)/\W9 w L.length/\Lt (0+w.toNat) L.length/\Ri (w+1)/\∃(y:Up L.length),(((Z0 Y0 L L)/\m/\w+1=(y.1:Int)/\True)/\(L.length=L.length/\Z8 L.length (setRow q (0+w.toNat) 0 [Ji X.e,Ji X.l,Ji X.t,Ji X.k,Ji X.p,Ji X.n,Ji X.g,Ji X.s,T.str X.b,T.str X.a]) λ(j:Nat)=>let u:=(G4 dz M5 L y.1 j);[Ji u.e,Ji u.l,Ji u.t,Ji u.k,Ji u.p,Ji u.n,Ji u.g,Ji u.s,T.str u.b,T.str u.a])/\True)/\Lt (L.length-y.1) (L.length-x.1)) ((m/\True)/\(L.length=L.length/\Z8 L.length q (Y0 L))/\True)) ⟨⟨m0,sG,sW,Q1⟩,⟨⟨0,N7 _⟩,⟨⟨S6,X6 _ _⟩,⟨S6,Z9⟩,Y1⟩,⟨Z9,λj hj=>rfl⟩,Z6⟩,λx=>⟨λhc=>?_,λhc=>?_⟩⟩,rfl,qF L⟩
 ·have hlt:=Y2 hc;refine⟨Y6 hlt,L.getD x.1 dz,Y1,Y6 hlt,Q1,W2 hlt Z9,⟨x.1+1,hlt⟩,⟨⟨⟨S6,X6 _ _⟩,⟨S6,S6⟩,L9,Z6⟩,⟨S6,λj hj=>?_⟩,Z6⟩,V5.ext_lt hlt⟩
  exact c2O Rec.ts 10 (λ_=>rfl) dz M5 L x.1 j
 ·have hx:x.1=L.length:=by have:=x.2;have:=X9 hc;omega
  refine⟨Y1,⟨rfl,λj hj=>?_⟩,Z6⟩
  have:G4 dz M5 L x.1 j=L.getD j dz:=by unfold G4;rw[if_pos Z9]
  exact congrArg Rec.ts this
def c1X:Con:=.rmk ⟨Dsk,λd=>[.agg d.ts],λ_=>[],λd=>.agg (d.tm 0),λd=>d.hp,nM⟩
theorem b7n:GK 85 c1X:=gk func85<|by
 rintro(d:Dsk) ⟨h1,h2,h3⟩;exact⟨C4 (gC a0T (gC a7o (gC b1O gN))) func85 Z3 [[.arr 3,.arr 4,.arr 5]] (α:=∃(x:(List (Bz))),let p:=x.length;(((Z0 Z5 d.E x)/\True)/\p<=1048576)/\∃(X:(List Pend)),(((Z0 Z1 d.C X)/\True)/\X.length<=1048576)/\∃(e:(List Int)),let q:=e.length;(((Z0 Y9 d.keep e)/\True)/\q<=1048576)/\(((0=0/\p=d.E.length)/\(0=0/\X.length=d.C.length)/\d.A=d.A/\(0=0/\q=d.keep.length)/\True)/\True)/\(p=d.E.length/\Z8 (p) (Z5 x) (Z5 d.E))/\(X.length=d.C.length/\Z8 (X.length) (Z1 X) (Z1 d.C))/\(q=d.keep.length/\Z8 (q) (Y9 e) (Y9 d.keep))/\True) ⟨d.E,⟨Y1,h1⟩,d.C,⟨Y1,h2⟩,d.keep,⟨Y1,h3⟩,Y1⟩,rfl,qI d⟩
def c61:Con:=.rmk ⟨Pg,λp=>[.agg p.ts],λ_=>[],λp=>.agg (p.tm 0),λp=>[z9 p.sl],SmG⟩
theorem c0K:GK 267 c61:=gk func267<|by
 intro(p:Pg) h1;exact⟨C4 (gC a0T gN) func267 Z3 [[.arr 3]] (α:=∃(x:(List (Bz))),let q:=x.length;(((Z0 Z5 p.sl x)/\True)/\q<=1048576)/\((p.Q=p.Q/\(0=0/\q=p.sl.length)/\True)/\True)/\(q=p.sl.length/\Z8 (q) (Z5 x) (Z5 p.sl))/\True) ⟨p.sl,⟨Y1,h1⟩,Y1⟩,rfl,z5 p.sl⟩
def Frm.tm(f:Frm)(b:Nat):List T:=[Ji f.no,Ji f.pg.Q,.osl b 0 f.pg.sl.length,.bool f.D,Ji f.first]
def c1k:Con:=.rmk ⟨Frm,λf=>[.agg f.ts],λ_=>[],λf=>.agg (f.tm 0),λf=>[z9 f.pg.sl],SmF⟩
theorem c0i:GK 176 c1k:=gk func176<|by
 intro(f:Frm) h1;exact⟨C4 (gC c0K gN) func176 Z3 [[.arr 3]] (α:=∃(x:Pg),(((f.pg.Q=x.Q/\(Z0 Z5 f.pg.sl x.sl)/\True)/\True)/\SmG x)/\((f.no=f.no/\x.Q=f.pg.Q/\(0=0/\x.sl.length=f.pg.sl.length)/\f.D=f.D/\f.first=f.first/\True)/\True)/\(Z0 Z5 x.sl f.pg.sl)/\True) ⟨f.pg,⟨Y1,h1⟩,Y1⟩,rfl,z5 f.pg.sl⟩
def c9O:List T:=[Ji 0,Ji 0,.v (.slice none 0 0),.bool false,Ji 0]
def b9T:Con:=.rmk ⟨List Frm,λL=>[uB L],λ_=>[],λL=>.osl 0 0 L.length,λL=>[wZ L.length L L.length],λL=>L.length<=1048576/\∀i,i<L.length->SmF (L.getD i dz)⟩
def b6b(L:List Frm):Nat->Ann
 |0=>.one (Up L.length) (λx=>⟨[(0,uB L),(3,.osl 0 0 L.length),(4,Ji x.1)],[some (.fam x.1 0 5 L.length (xW (Y5 L) c9O x.1))]⟩) (λx=>L.length-x.1) [.fam 0,.arr 0] [.arr 0] (λ_=>Z3)
 |_=>.none
theorem b3d:GK 87 b9T:=gk func87<|by
 rintro(L:List Frm) ⟨hL,hb⟩;refine⟨C4 (gC c0i gN) func87 (b6b L) pY (α:=let w:=(0=0/\L.length=L.length);let u:=(Value.slice none 0 0);let q:=(L.length:Int);(Nn q/\LeI q q/\yN 56 q.toNat 140737488355328/\Lt q.toNat 9223372036854775808)/\(∃(x:Up L.length),((Z0 V9 L L)/\(0=0/\q.toNat=L.length)/\0=(x.1:Int)/\True)/\(0=x.1/\q.toNat=L.length/\V2 q.toNat (λ(x:Nat)=>[Ji 0,Ji 0,T.v u,T.bool false,Ji 0]) (xW (Y5 L) [Ji 0,Ji 0,T.v u,T.bool false,Ji 0] x.1))/\True)/\∀(x:Up L.length),let z:=(x.1:Int);let r:=(xW (Y5 L) [Ji 0,Ji 0,T.v u,T.bool false,Ji 0] x.1);let p:=(L.getD z.toNat dz);bd (z<q) (W9 z L.length/\∃(X:Frm),(((p.no=X.no/\p.pg.Q=X.pg.Q/\(Z0 Z5 p.pg.sl X.pg.sl)/\p.D=X.D/\p.first=X.first/\True)/\True)/\SmF X)/\W9 z L.length/\(0+z.toNat<L.length/\Le X.pg.sl.length X.pg.sl.length)/\Ri (z+1)/\∃(y:Up L.length),(((Z0 V9 L L)/\w/\z+1=(y.1:Int)/\True)/\(x.1+1=y.1/\L.length=L.length/\V2 L.length (setRow r (0+z.toNat) 0 [Ji X.no,Ji X.pg.Q,T.own 0 1 X.pg.sl.length (Z5 X.pg.sl),T.bool X.D,Ji X.first]) (xW (Y5 L) [Ji 0,Ji 0,T.v u,T.bool false,Ji 0] y.1))/\True)/\Lt (L.length-y.1) (L.length-x.1)) ((w/\True)/\(x.1=L.length/\L.length=L.length/\V2 L.length r (Y5 L))/\True)) ⟨⟨m0,sG,sW,Q1⟩,⟨⟨0,N7 _⟩,⟨Y1,⟨rfl,Z9⟩,Y1⟩,⟨rfl,Z9,tV λi _=>rfl⟩,Z6⟩,λx=>⟨λhc=>?_,λhc=>?_⟩⟩,rfl,a0k _ _ _⟩
 ·have h:=Y2 hc;exact⟨Y6 h,L.getD x.1 dz,⟨Y1,hb _ h⟩,Y6 h,⟨Z9,U9 _⟩,W2 h Z9,⟨x.1+1,h⟩,⟨⟨Y1,Y1,X5,Z6⟩,⟨rfl,rfl,tV λj _=>wV (m:=5) (λ_=>rfl) rfl x.1 rfl j⟩,Z6⟩,V5.ext_lt h⟩
 ·have hx:x.1=L.length:=by have:=x.2;have:=X9 hc;omega
  rw[hx];exact⟨Y1,⟨rfl,rfl,tV λi hi=>uD (n:=L.length) i hi⟩,Z6⟩
def c4c:Con:=.rmk ⟨Sto,λs=>[.agg s.ts],λ_=>[],λs=>.agg (s.tm 0),λs=>s.hp s.fr.length,iC⟩
theorem b94:GK 36 c4c:=gk func36<|by
 rintro(s:Sto) ⟨h1,h2,h3,h4⟩;exact⟨C4 (gC b7n (gC b4f (gC b3d gN))) func36 Z3 [[.arr 3,.arr 4,.arr 5,.arr 6,.arr 7]] (α:=∃(x:Dsk),(((zI s.d x)/\True)/\nM x)/\∃(e:(List Rec)),(((Z0 Y0 s.L e)/\True)/\e.length<=1048576)/\∃(X:(List Frm)),(((Z0 V9 s.fr X)/\True)/\X.length<=1048576/\∀(i:Nat),i<X.length->SmF (List.getD X i dz))/\((EqC {s with d:=x,L:=e,fr:=X} s)/\True)/\(Z0 Z5 x.E s.d.E)/\(Z0 Z1 x.C s.d.C)/\(Z0 Y9 x.keep s.d.keep)/\(e.length=s.L.length/\Z8 (e.length) (Y0 e) (Y0 s.L))/\(X.length=s.fr.length/\X.length=s.fr.length/\V2 (X.length) (Y5 X) (Y5 s.fr))/\True) ⟨s.d,⟨Y1,h1⟩,s.L,⟨Y1,h2⟩,s.fr,⟨Y1,h3,h4⟩,Y1,Y1,Y1,Y1,Y1,H9,Z6⟩,rfl,rF s _⟩
def dig(k:Nat):UInt8:=R0 (IntKind.u8.wrap (48+(k:Int).tmod 10))
def dgs(k:Nat)(acc:Bz):Bz:=if h:k=0 then acc else dgs (k/10) (dig k::acc)
termination_by k
decreasing_by omega
theorem c0x{k:Nat}(acc:Bz)(h:k≠0):dgs k acc=dgs (k/10) (dig k::acc):=by
 rw[dgs];simp[h]
theorem b8r(acc:Bz):dgs 0 acc=acc:=by
 rw[dgs];simp
def bM(k:Nat):Bz:=R0 109::dgs k []
def KB(n:Nat):Prop:=1<=n/\n<=10000000000000
def a6H:Con:=.rel ⟨Nat,λk=>[Ji k],λk=>.str (bM k),KB⟩
def c3t(k:Nat):Type:={p:Nat×Bz//dgs p.1 p.2=dgs k []/\p.2.length+p.1<=k}
def a7x(k:Nat):Nat->Ann
 |0=>.one (c3t k) (λx=>⟨[(0,Ji x.1.1),(3,.str x.1.2)],[]⟩) (λx=>x.1.1) [] [] (λ_=>Z3)
 |_=>.none
theorem m9:GK 63 a6H:=gk func63<|by
 rintro(k:Nat) ⟨h1,h2⟩;have z:Nz 10:=by unfold Nz;omega
 refine U5 gN func63 (a7x k) (α:=bd ((k:Int)<=0) ([(109:UInt8),(48:UInt8)]=bM k) ((∃(x:c3t k),((k:Int)=(x.1.1:Int)/\[]=x.1.2/\True)/\True)/\∀(x:c3t k),let r:=(1+x.1.2.length);let q:=(x.1.1:Int);let p:=(48+q.tmod (10:Int));bd (q>0) (Nz (10:Int)/\Ri p/\R1 IntKind.u8 (IntKind.u8.wrap p)/\Le 1 1/\Lt r 9223372036854775808/\(Nz (10:Int)/\Ri (q.tdiv (10:Int)))/\∃(y:c3t k),((q.tdiv (10:Int)=(y.1.1:Int)/\List.take 1 (List.drop 0 (List.map R0 [IntKind.u8.wrap p]))++x.1.2=y.1.2/\True)/\True)/\Lt y.1.1 x.1.1) (Lt r 9223372036854775808/\[(109:UInt8)]++x.1.2=bM k))) ⟨λh=>absurd (G5 h) Z9,λ_=>⟨⟨⟨(k,[]),rfl,W7⟩,Y1⟩,λx=>?_⟩⟩
 obtain⟨⟨q,acc⟩,hd,l⟩:=x;dsimp only at hd l ⊢;have d:(q:Int).tmod 10=((q % 10:Nat):Int):=by rw[Int.tmod_eq_emod_of_nonneg Z9];omega
 have t:(q:Int).tdiv 10=((q/10:Nat):Int):=by rw[Int.tdiv_eq_ediv_of_nonneg Z9];omega
 refine⟨λhc=>?_,λhc=>?_⟩
 ·have hq:0<q:=by have:=G5 hc;omega
  refine⟨z,Z4 (by rw[d];omega),O6 _,U9 _,Q1,⟨z,Z4 (by rw[t];omega)⟩,⟨(q/10,dig q::acc),by rw[←hd];exact(c0x acc Z9).symm,by simp only[List.length_cons];omega⟩,⟨⟨t,rfl,Z6⟩,Z6⟩,show q/10<q by omega⟩
 ·have hq:q=0:=by have:=r8 hc;omega
  subst hq;rw[b8r] at hd;refine⟨Q1,?_⟩
  rw[hd];rfl
def i7(new old:Nat->List T)(x j:Nat):List T:=if j<x then new j else old j
theorem wW{new old:Nat->List T}{n:Nat}:Z8 n old (i7 new old 0):=λi _=>by unfold i7;rw[if_neg (D0 _)]
theorem uC{new old:Nat->List T}{n:Nat}:Z8 n (i7 new old n) new:=λi hi=>by unfold i7;rw[if_pos hi]
theorem a5n{new old:Nat->List T}{x:Nat}{f:Nat->List T}(h1:∀j,j≠x->f j=i7 new old x j)(d:f x=new x)(j:Nat):f j=i7 new old (x+1) j:=by
 by_cases hj:j=x
 ·rw[hj,d];unfold i7;rw[if_pos (Nat.lt_succ_self _)]
 ·rw[h1 j hj];unfold i7;by_cases h:j<x
  ·rw[if_pos h,if_pos Z9]
  ·rw[if_neg h,if_neg Z9]
theorem b3F{a b:Nat}(h:a≠b):Nat.beq a b=false:=by
 cases B:Nat.beq a b with
 |false=>rfl
 |true=>exact absurd (F3 B) h
theorem iU{a b:Nat}(h:a=b):Nat.beq a b=true:=by subst h;exact Nat.beq_refl a
theorem a9u{new old:Nat->List T}{cs:List T}{m:Nat}(n:∀j,(new j).length=m)(o:∀j,(old j).length=m)(x:Nat)(h:cs=new x)(j:Nat):setRow (i7 new old x) (0+(x:Int).toNat) 0 cs j=i7 new old (x+1) j:=by
 have l:∀j,(i7 new old x j).length=m:=λj=>by unfold i7;split<;>simp only[n,o]
 refine a5n (f:=setRow (i7 new old x) (0+(x:Int).toNat) 0 cs) (λi hi=>?_) ?_ j
 ·rw[E4 (by rw[l,h,n]),show Nat.beq i (0+(x:Int).toNat)=false from b3F Z9]
 ·rw[E4 (by rw[l,h,n]),show Nat.beq x (0+(x:Int).toNat)=true from iU Z9,h]
def yQ(n k:Nat):List (Bz):=(List.range n).map λi=>bM (k+i)
def vG(n k:Nat):List Pend:=(List.range n).map λi=>⟨((k+2*i:Nat):Int),bM (k+2*i+1)⟩
def vD(n k:Nat):List Int:=(List.range n).map λi=>((k+i:Nat):Int)
def c7f(k:Nat):Rec:=⟨(k:Int),(k:Int)+1,(k:Int)+1+1,(k:Int)+1+1+1,(k:Int)+1+1+1+1,(k:Int)+1+1+1+1+1,(k:Int)+1+1+1+1+1+1,(k:Int)+1+1+1+1+1+1+1,bM (k+8),bM (k+9)⟩
def g7(n k:Nat):List Rec:=(List.range n).map λi=>c7f (k+10*i)
theorem j3{α:Type}(f:Nat->α){n i:Nat}(h:i<n)(d:α):((List.range n).map f).getD i d=f i:=by
 rw[P3,oD,List.getElem?_range h]
 rfl
theorem O2{α:Type}(f:Nat->α)(n:Nat):((List.range n).map f).length=n:=W7
def nQ(n k m:Nat):Prop:=n<=1048576/\1<=k/\k+m*n<=10000000000000
def a56:Con:=.reff ⟨List (Bz)×Nat,λx=>[.osl 0 0 x.1.length,Ji x.2],λx=>[z9 x.1],λx=>Ji (x.2+x.1.length:Nat),λx=>[z9 (yQ x.1.length x.2)],λx=>nQ x.1.length x.2 1⟩
def a7K(L:List (Bz))(k:Nat):Nat->Ann
 |0=>.one (Up L.length) (λx=>⟨[(0,.osl 0 0 L.length),(1,Ji (k+x.1:Nat)),(5,Ji x.1)],[some (.arr true 0 1 L.length (i7 (Z5 (yQ L.length k)) (Z5 L) x.1))]⟩) (λx=>L.length-x.1) [.arr 0] [.arr 0] (λ_=>Z3)
 |_=>.none
theorem jI:GK 196 a56:=gk func196<|by
 rintro⟨L,k⟩ ⟨d,h,e⟩;dsimp only at d h e;refine C4 (gC m9 gN) func196 (a7K L k) pY (α:=let z:=(0=0/\L.length=L.length);let p:=(Z5 (yQ L.length k));(∃(x:Up L.length),(z/\(k:Int)=(↑(k+x.1):Int)/\0=(x.1:Int)/\True)/\(L.length=L.length/\Z8 L.length (Z5 L) (i7 p (Z5 L) x.1))/\True)/\∀(x:Up L.length),let u:=(i7 p (Z5 L) x.1);let r:=(x.1:Int);let q:=(↑(k+x.1):Int);bd (r<(L.length:Int)) (∃(X:Nat),((q=(X:Int)/\True)/\KB X)/\W9 r L.length/\Lt (0+r.toNat) L.length/\Ri (q+1)/\Ri (r+1)/\∃(y:Up L.length),((z/\q+1=(↑(k+y.1):Int)/\r+1=(y.1:Int)/\True)/\(L.length=L.length/\Z8 L.length (setRow u (0+r.toNat) 0 [T.str (bM X)]) (i7 p (Z5 L) y.1))/\True)/\Lt (L.length-y.1) (L.length-x.1)) ((q=(↑(k+L.length):Int)/\True)/\(L.length=(yQ L.length k).length/\Z8 L.length u p)/\True)) ⟨⟨⟨0,N7 _⟩,Y1,⟨rfl,wW⟩,Z6⟩,λx=>⟨λhc=>?_,λhc=>?_⟩⟩
 ·have hlt:=Y2 hc;refine⟨k+x.1,⟨Y1,Z9,Z9⟩,Y6 hlt,Q1,Z4 Z9,Z4 Z9,⟨x.1+1,hlt⟩,⟨⟨Y1,X5,X5,Z6⟩,⟨rfl,λj _=>?_⟩,Z6⟩,V5.ext_lt hlt⟩
  exact a9u (m:=1) (λ_=>rfl) (λ_=>rfl) x.1 (show[T.str (bM (k+x.1))]=Z5 (yQ L.length k) x.1 by unfold Z5 yQ;rw[j3 _ hlt]) j
 ·have hx:x.1=L.length:=by have:=x.2;have:=X9 hc;omega
  rw[hx];exact⟨Y1,⟨(O2 _ _).symm,uC⟩,Z6⟩
def a7A:Con:=.rel ⟨Nat×Nat,λx=>[s9 (yQ x.1 x.2),Ji x.2],λx=>Ji (x.2+x.1:Nat),λx=>nQ x.1 x.2 1⟩
def a7y(n k:Nat):Nat->Ann
 |0=>.one (Up n) (λx=>⟨[(0,s9 (yQ n k)),(1,Ji (k+x.1:Nat)),(5,Ji x.1)],[]⟩) (λx=>n-x.1) [] [] (λ_=>Z3)
 |_=>.none
theorem jU:GK 199 a7A:=gk func199<|by
 rintro⟨n,k⟩ ⟨g,d,f⟩;dsimp only at g d f;have N:(yQ n k).length=n:=O2 _ _;refine U5 (gC m9 gN) func199 (a7y n k) (α:=let r:=(Z0 Z5 (yQ n k) (yQ n k));(∃(x:Up n),(r/\(k:Int)=(↑(k+x.1):Int)/\0=(x.1:Int)/\True)/\True)/\∀(x:Up n),let q:=(x.1:Int);let p:=(↑(k+x.1):Int);bd (q<(↑(yQ n k).length:Int)) (W9 q (yQ n k).length/\∃(X:Nat),((p=(X:Int)/\True)/\KB X)/\br (!(yQ n k).getD q.toNat []==bM X) ((-1:Int)=(↑(k+n):Int)) (Ri (p+1)/\Ri (q+1)/\∃(y:Up n),((r/\p+1=(↑(k+y.1):Int)/\q+1=(y.1:Int)/\True)/\True)/\Lt (n-y.1) (n-x.1))) (p=(↑(k+n):Int))) ⟨⟨⟨0,N7 _⟩,Y1⟩,λx=>⟨λhc=>?_,λhc=>?_⟩⟩
 ·have hlt:=Y2 hc;have hlt':x.1<n:=by omega
  have e:(yQ n k).getD (x.1:Int).toNat []=bM (k+x.1):=by rw[D8];exact j3 _ hlt' _
  exact⟨Y6 hlt,k+x.1,⟨Y1,Z9,Z9⟩,λh=>by rw[e] at h;simp at h,λ_=>⟨Z4 Z9,Z4 Z9,⟨x.1+1,hlt'⟩,⟨⟨Y1,X5,X5,Z6⟩,Z6⟩,V5.ext_lt hlt'⟩⟩
 ·have hx:x.1=n:=by have:=x.2;have:=X9 hc;omega
  rw[hx]
def jQ(row:Nat->List T)(i:Nat):List (Nat×T)->Nat->List T
 | []=>row
 |(j,t)::r=>jQ (setRow row i j [t]) i r
theorem L4{row:Nat->List T}{i j k:Nat}{cs:List T}(h:j+cs.length<=(row k).length)(d:k≠i):setRow row i j cs k=row k:=by
 rw[g8 h,b3F d]
theorem pC{row:Nat->List T}{i j:Nat}{t:T}(h:j<(row i).length):setRow row i j [t] i=(row i).set j t:=by
 rw[g8 C5,iU rfl]
 rw[List.set_eq_take_append_cons_drop,if_pos h];simp
theorem dG{i k:Nat}(e:k≠i):∀{l:List (Nat×T)} {row:Nat->List T},(∀p ∈ l,p.1<(row k).length)->jQ row i l k=row k
 | [],row,_=>rfl
 |(j,t)::r,row,h=>by
  have d:setRow row i j [t] k=row k:=L4 (by have:=h (j,t) W7;simp only[List.length_singleton];omega) e
  show jQ (setRow row i j [t]) i r k=row k;rw[dG e (λp hp=>by rw[d];exact h p (by simp[hp])),d]
theorem cV{i:Nat}:∀{l:List (Nat×T)} {row:Nat->List T},(∀p ∈ l,p.1<(row i).length)->jQ row i l i=l.foldl (λc p=>c.set p.1 p.2) (row i)
 | [],row,_=>rfl
 |(j,t)::r,row,h=>by
  have d:setRow row i j [t] i=(row i).set j t:=pC (h (j,t) W7)
  show jQ (setRow row i j [t]) i r i=r.foldl (λc p=>c.set p.1 p.2) ((row i).set j t)
  rw[cV (λp hp=>by rw[d,zV];exact h p (by simp[hp])),d]
theorem uX{new old:Nat->List T}{m:Nat}(n:∀j,(new j).length=m)(o:∀j,(old j).length=m)(x:Nat)(l:List (Nat×T))(L:∀p ∈ l,p.1<m)(C:l.foldl (λc p=>c.set p.1 p.2) (old x)=new x)(j:Nat):jQ (i7 new old x) (0+(x:Int).toNat) l j=i7 new old (x+1) j:=by
 have h:∀j,(i7 new old x j).length=m:=λj=>by unfold i7;split<;>simp only[n,o]
 have X:0+(x:Int).toNat=x:=Z9
 rw[X];refine a5n (f:=jQ (i7 new old x) x l) (λi hi=>?_) ?_ j
 ·exact dG hi λp hp=>by rw[h];exact L p hp
 ·rw[cV λp hp=>by rw[h];exact L p hp,show i7 new old x x=old x by unfold i7;rw[if_neg (Nat.lt_irrefl x)],C]
def a6p:Con:=.reff ⟨List Int×Nat,λx=>[.osl 0 0 x.1.length,Ji x.2],λx=>[z8 x.1],λx=>Ji (x.2+x.1.length:Nat),λx=>[z8 (vD x.1.length x.2)],λx=>nQ x.1.length x.2 1⟩
def a8z(L:List Int)(k:Nat):Nat->Ann
 |0=>.one (Up L.length) (λx=>⟨[(0,.osl 0 0 L.length),(1,Ji (k+x.1:Nat)),(5,Ji x.1)],[some (.arr true 0 1 L.length (i7 (Y9 (vD L.length k)) (Y9 L) x.1))]⟩) (λx=>L.length-x.1) [.arr 0] [.arr 0] (λ_=>Z3)
 |_=>.none
theorem a3B:GK 198 a6p:=gk func198<|by
 rintro⟨L,k⟩ ⟨d,h,e⟩;dsimp only at d h e;refine C4 gN func198 (a8z L k) pY (α:=let z:=(0=0/\L.length=L.length);let p:=(Y9 (vD L.length k));(∃(x:Up L.length),(z/\(k:Int)=(↑(k+x.1):Int)/\0=(x.1:Int)/\True)/\(L.length=L.length/\Z8 L.length (Y9 L) (i7 p (Y9 L) x.1))/\True)/\∀(x:Up L.length),let u:=(i7 p (Y9 L) x.1);let r:=(x.1:Int);let q:=(↑(k+x.1):Int);bd (r<(L.length:Int)) (W9 r L.length/\Lt (0+r.toNat) L.length/\Ri (q+1)/\Ri (r+1)/\∃(y:Up L.length),((z/\q+1=(↑(k+y.1):Int)/\r+1=(y.1:Int)/\True)/\(L.length=L.length/\Z8 L.length (setRow u (0+r.toNat) 0 [Ji q]) (i7 p (Y9 L) y.1))/\True)/\Lt (L.length-y.1) (L.length-x.1)) ((q=(↑(k+L.length):Int)/\True)/\(L.length=(vD L.length k).length/\Z8 L.length u p)/\True)) ⟨⟨⟨0,N7 _⟩,Y1,⟨rfl,wW⟩,Z6⟩,λx=>⟨λhc=>?_,λhc=>?_⟩⟩
 ·have hlt:=Y2 hc;refine⟨Y6 hlt,Q1,Z4 Z9,Z4 Z9,⟨x.1+1,hlt⟩,⟨⟨Y1,X5,X5,Z6⟩,⟨rfl,λj _=>?_⟩,Z6⟩,V5.ext_lt hlt⟩
  exact a9u (m:=1) (λ_=>rfl) (λ_=>rfl) x.1 (show[Ji ((k+x.1:Nat):Int)]=Y9 (vD L.length k) x.1 by unfold Y9 vD;rw[j3 _ hlt]) j
 ·have hx:x.1=L.length:=by have:=x.2;have:=X9 hc;omega
  rw[hx];exact⟨Y1,⟨(O2 _ _).symm,uC⟩,Z6⟩
def a8E:Con:=.rel ⟨Nat×Nat,λx=>[sM (vD x.1 x.2),Ji x.2],λx=>Ji (x.2+x.1:Nat),λx=>nQ x.1 x.2 1⟩
def a8W(n k:Nat):Nat->Ann
 |0=>.one (Up n) (λx=>⟨[(0,sM (vD n k)),(1,Ji (k+x.1:Nat)),(5,Ji x.1)],[]⟩) (λx=>n-x.1) [] [] (λ_=>Z3)
 |_=>.none
theorem a27:GK 201 a8E:=gk func201<|by
 rintro⟨n,k⟩ ⟨f,d,g⟩;dsimp only at f d g;have N:(vD n k).length=n:=O2 _ _;refine U5 gN func201 (a8W n k) (α:=let r:=(Z0 Y9 (vD n k) (vD n k));(∃(x:Up n),(r/\(k:Int)=(↑(k+x.1):Int)/\0=(x.1:Int)/\True)/\True)/\∀(x:Up n),let q:=(x.1:Int);let p:=(↑(k+x.1):Int);bd (q<(↑(vD n k).length:Int)) (W9 q (vD n k).length/\br ((vD n k).getD q.toNat (0:Int) !=p) ((-1:Int)=(↑(k+n):Int)) (Ri (p+1)/\Ri (q+1)/\∃(y:Up n),((r/\p+1=(↑(k+y.1):Int)/\q+1=(y.1:Int)/\True)/\True)/\Lt (n-y.1) (n-x.1))) (p=(↑(k+n):Int))) ⟨⟨⟨0,N7 _⟩,Y1⟩,λx=>⟨λhc=>?_,λhc=>?_⟩⟩
 ·have hlt:=Y2 hc;have hlt':x.1<n:=by omega
  have e:(vD n k).getD (x.1:Int).toNat 0=((k+x.1:Nat):Int):=by rw[D8];exact j3 _ hlt' _
  exact⟨Y6 hlt,λh=>by rw[e] at h;simp at h,λ_=>⟨Z4 Z9,Z4 Z9,⟨x.1+1,hlt'⟩,⟨⟨Y1,X5,X5,Z6⟩,Z6⟩,V5.ext_lt hlt'⟩⟩
 ·have hx:x.1=n:=by have:=x.2;have:=X9 hc;omega
  rw[hx]
def a3g:Con:=.reff ⟨List Pend×Nat,λx=>[.osl 0 0 x.1.length,Ji x.2],λx=>[D1 x.1],λx=>Ji (x.2+2*x.1.length:Nat),λx=>[D1 (vG x.1.length x.2)],λx=>nQ x.1.length x.2 2⟩
def a5L(L:List Pend)(k:Nat):Nat->Ann
 |0=>.one (Up L.length) (λx=>⟨[(0,.osl 0 0 L.length),(1,Ji (k+2*x.1:Nat)),(5,Ji x.1)],[some (.arr true 0 2 L.length (i7 (Z1 (vG L.length k)) (Z1 L) x.1))]⟩) (λx=>L.length-x.1) [.arr 0] [.arr 0] (λ_=>Z3)
 |_=>.none
theorem a2Q:GK 197 a3g:=gk func197<|by
 rintro⟨L,k⟩ ⟨d,h,e⟩;dsimp only at d h e;refine C4 (gC m9 gN) func197 (a5L L k) pY (α:=let u:=(0=0/\L.length=L.length);let q:=(Z1 (vG L.length k));(∃(x:Up L.length),(u/\(k:Int)=(↑(k+2*x.1):Int)/\0=(x.1:Int)/\True)/\(L.length=L.length/\Z8 L.length (Z1 L) (i7 q (Z1 L) x.1))/\True)/\∀(x:Up L.length),let v:=(i7 q (Z1 L) x.1);let r:=(x.1:Int);let z:=(0+r.toNat);let p:=(↑(k+2*x.1):Int);bd (r<(L.length:Int)) (W9 r L.length/\Lt z L.length/\Ri (p+1)/\∃(X:Nat),((p+1=(X:Int)/\True)/\KB X)/\W9 r L.length/\Lt z L.length/\Ri (p+1+1)/\Ri (r+1)/\∃(y:Up L.length),((u/\p+1+1=(↑(k+2*y.1):Int)/\r+1=(y.1:Int)/\True)/\(L.length=L.length/\Z8 L.length (setRow (setRow v z 0 [Ji p]) z 1 [T.str (bM X)]) (i7 q (Z1 L) y.1))/\True)/\Lt (L.length-y.1) (L.length-x.1)) ((p=(↑(k+2*L.length):Int)/\True)/\(L.length=(vG L.length k).length/\Z8 L.length v q)/\True)) ⟨⟨⟨0,N7 _⟩,Y1,⟨rfl,wW⟩,Z6⟩,λx=>⟨λhc=>?_,λhc=>?_⟩⟩
 ·have hlt:=Y2 hc;have ib:=Y6 hlt;have lt:Lt (0+(x.1:Int).toNat) L.length:=by unfold Lt;omega
  refine⟨ib,lt,Z4 Z9,k+2*x.1+1,⟨⟨Z9,Z6⟩,Z9,Z9⟩,ib,lt,Z4 Z9,Z4 Z9,⟨x.1+1,hlt⟩,⟨⟨Y1,X5,X5,Z6⟩,⟨rfl,λj _=>?_⟩,Z6⟩,V5.ext_lt hlt⟩
  exact uX (m:=2) (λ_=>rfl) (λ_=>rfl) x.1 [(0,Ji (k+2*x.1:Nat)),(1,.str (bM (k+2*x.1+1)))] W7 (by unfold Z1 vG;rw[j3 _ hlt];rfl) j
 ·have hx:x.1=L.length:=by have:=x.2;have:=X9 hc;omega
  rw[hx];exact⟨Y1,⟨(O2 _ _).symm,uC⟩,Z6⟩
def a5x:Con:=.rel ⟨Nat×Nat,λx=>[v4 (vG x.1 x.2),Ji x.2],λx=>Ji (x.2+2*x.1:Nat),λx=>nQ x.1 x.2 2⟩
def a4u(n k:Nat):Nat->Ann
 |0=>.one (Up n) (λx=>⟨[(0,v4 (vG n k)),(1,Ji (k+2*x.1:Nat)),(5,Ji x.1)],[]⟩) (λx=>n-x.1) [] [] (λ_=>Z3)
 |_=>.none
theorem a1I:GK 200 a5x:=gk func200<|by
 rintro⟨n,k⟩ ⟨j,f,g⟩;dsimp only at j f g;have N:(vG n k).length=n:=O2 _ _;refine U5 (gC m9 gN) func200 (a4u n k) (α:=let v:=(Z0 Z1 (vG n k) (vG n k));let z:=(vG n k).length;let r:=(↑(k+2*n):Int);(∃(x:Up n),(v/\(k:Int)=(↑(k+2*x.1):Int)/\0=(x.1:Int)/\True)/\True)/\∀(x:Up n),let q:=(x.1:Int);let u:=((vG n k).getD q.toNat dz);let p:=(↑(k+2*x.1):Int);bd (q<(↑z:Int)) (W9 q z/\br (u.at_ !=p) ((-1:Int)=r) (Ri (p+1)/\W9 q z/\∃(X:Nat),((p+1=(X:Int)/\True)/\KB X)/\br (! u.d==bM X) ((-1:Int)=r) (Ri (p+1+1)/\Ri (q+1)/\∃(y:Up n),((v/\p+1+1=(↑(k+2*y.1):Int)/\q+1=(y.1:Int)/\True)/\True)/\Lt (n-y.1) (n-x.1)))) (p=r)) ⟨⟨⟨0,N7 _⟩,Y1⟩,λx=>⟨λhc=>?_,λhc=>?_⟩⟩
 ·have hlt:=Y2 hc;have hlt':x.1<n:=by omega
  have e:(vG n k).getD (x.1:Int).toNat dz=⟨((k+2*x.1:Nat):Int),bM (k+2*x.1+1)⟩:=by rw[D8];exact j3 _ hlt' _
  rw[e];have i:=Y6 hlt;exact⟨i,λh=>L3,λ_=>⟨Z4 Z9,i,k+2*x.1+1,⟨⟨Z9,Z6⟩,Z9,Z9⟩,λh=>L3,λ_=>⟨Z4 Z9,Z4 Z9,⟨x.1+1,hlt'⟩,⟨⟨Y1,X5,X5,Z6⟩,Z6⟩,V5.ext_lt hlt'⟩⟩⟩
 ·have hx:x.1=n:=by have:=x.2;have:=X9 hc;omega
  rw[hx]
def a7I:Con:=.reff ⟨List Rec×Nat,λx=>[.osl 0 0 x.1.length,Ji x.2],λx=>[j5 x.1],λx=>Ji (x.2+10*x.1.length:Nat),λx=>[j5 (g7 x.1.length x.2)],λx=>nQ x.1.length x.2 10⟩
def a7l(L:List Rec)(k:Nat):Nat->Ann
 |0=>.one (Up L.length) (λx=>⟨[(0,.osl 0 0 L.length),(1,Ji (k+10*x.1:Nat)),(5,Ji x.1)],[some (.arr true 0 10 L.length (i7 (Y0 (g7 L.length k)) (Y0 L) x.1))]⟩) (λx=>L.length-x.1) [.arr 0] [.arr 0] (λ_=>Z3)
 |_=>.none
theorem a5G:GK 107 a7I:=gk func107<|by
 rintro⟨L,k⟩ ⟨f,h,e⟩;dsimp only at f h e;refine C4 (gC m9 gN) func107 (a7l L k) pY (α:=let u:=(0=0/\L.length=L.length);let z:=(Y0 (g7 L.length k));(∃(x:Up L.length),(u/\(k:Int)=(↑(k+10*x.1):Int)/\0=(x.1:Int)/\True)/\(L.length=L.length/\Z8 L.length (Y0 L) (i7 z (Y0 L) x.1))/\True)/\∀(x:Up L.length),let v:=(i7 z (Y0 L) x.1);let r:=(x.1:Int);let q:=(0+r.toNat);let p:=(↑(k+10*x.1):Int);let w:=(p+1+1+1+1+1+1+1);bd (r<(L.length:Int)) (W9 r L.length/\Lt q L.length/\Ri (p+1)/\W9 r L.length/\Lt q L.length/\Ri (p+1+1)/\W9 r L.length/\Lt q L.length/\Ri (p+1+1+1)/\W9 r L.length/\Lt q L.length/\Ri (p+1+1+1+1)/\W9 r L.length/\Lt q L.length/\Ri (p+1+1+1+1+1)/\W9 r L.length/\Lt q L.length/\Ri (p+1+1+1+1+1+1)/\W9 r L.length/\Lt q L.length/\Ri w/\W9 r L.length/\Lt q L.length/\Ri (p+1+1+1+1+1+1+1+1)/\∃(X:Nat),((p+1+1+1+1+1+1+1+1=(X:Int)/\True)/\KB X)/\W9 r L.length/\Lt q L.length/\Ri (p+1+1+1+1+1+1+1+1+1)/\∃(d:Nat),((p+1+1+1+1+1+1+1+1+1=(d:Int)/\True)/\KB d)/\W9 r L.length/\Lt q L.length/\Ri (p+1+1+1+1+1+1+1+1+1+1)/\Ri (r+1)/\∃(y:Up L.length),((u/\p+1+1+1+1+1+1+1+1+1+1=(↑(k+10*y.1):Int)/\r+1=(y.1:Int)/\True)/\(L.length=L.length/\Z8 L.length (setRow (setRow (setRow (setRow (setRow (setRow (setRow (setRow (setRow (setRow v q 0 [Ji p]) q 1 [Ji (p+1)]) q 2 [Ji (p+1+1)]) q 3 [Ji (p+1+1+1)]) q 4 [Ji (p+1+1+1+1)]) q 5 [Ji (p+1+1+1+1+1)]) q 6 [Ji (p+1+1+1+1+1+1)]) q 7 [Ji w]) q 8 [T.str (bM X)]) q 9 [T.str (bM d)]) (i7 z (Y0 L) y.1))/\True)/\Lt (L.length-y.1) (L.length-x.1)) ((p=(↑(k+10*L.length):Int)/\True)/\(L.length=(g7 L.length k).length/\Z8 L.length v z)/\True)) ⟨⟨⟨0,N7 _⟩,Y1,⟨rfl,wW⟩,Z6⟩,λx=>⟨λhc=>?_,λhc=>?_⟩⟩
 ·have hlt:=Y2 hc;have ib:=Y6 hlt;have lt:Lt (0+(x.1:Int).toNat) L.length:=by unfold Lt;omega
  refine⟨ib,lt,Z4 Z9,ib,lt,Z4 Z9,ib,lt,Z4 Z9,ib,lt,Z4 Z9,ib,lt,Z4 Z9,ib,lt,Z4 Z9,ib,lt,Z4 Z9,ib,lt,Z4 Z9,k+10*x.1+8,⟨⟨Z9,Z6⟩,Z9,Z9⟩,ib,lt,Z4 Z9,k+10*x.1+9,⟨⟨Z9,Z6⟩,Z9,Z9⟩,ib,lt,Z4 Z9,Z4 Z9,⟨x.1+1,hlt⟩,⟨⟨Y1,X5,X5,Z6⟩,⟨rfl,λj _=>?_⟩,Z6⟩,V5.ext_lt hlt⟩
  exact uX (m:=10) (λ_=>rfl) (λ_=>rfl) x.1 [(0,Ji (((k+10*x.1:Nat):Int))),(1,Ji (((k+10*x.1:Nat):Int)+1)),(2,Ji (((k+10*x.1:Nat):Int)+1+1)),(3,Ji (((k+10*x.1:Nat):Int)+1+1+1)),(4,Ji (((k+10*x.1:Nat):Int)+1+1+1+1)),(5,Ji (((k+10*x.1:Nat):Int)+1+1+1+1+1)),(6,Ji (((k+10*x.1:Nat):Int)+1+1+1+1+1+1)),(7,Ji (((k+10*x.1:Nat):Int)+1+1+1+1+1+1+1)),(8,.str (bM (k+10*x.1+8))),(9,.str (bM (k+10*x.1+9)))] W7 (by unfold Y0 g7;rw[j3 _ hlt];rfl) j
 ·have hx:x.1=L.length:=by have:=x.2;have:=X9 hc;omega
  rw[hx];exact⟨Y1,⟨(O2 _ _).symm,uC⟩,Z6⟩
def a6z:Con:=.rel ⟨Nat×Nat,λx=>[zD (g7 x.1 x.2),Ji x.2],λx=>Ji (x.2+10*x.1:Nat),λx=>nQ x.1 x.2 10⟩
def a8N(n k:Nat):Nat->Ann
 |0=>.one (Up n) (λx=>⟨[(0,zD (g7 n k)),(1,Ji (k+10*x.1:Nat)),(5,Ji x.1)],[]⟩) (λx=>n-x.1) [] [] (λ_=>Z3)
 |_=>.none
theorem a4x:GK 112 a6z:=gk func112<|by
 rintro⟨n,k⟩ ⟨o,f,j⟩;dsimp only at o f j;have N:(g7 n k).length=n:=O2 _ _;refine U5 (gC m9 gN) func112 (a8N n k) (α:=let j:=(↑(k+10*n):Int);let w:=(Z0 Y0 (g7 n k) (g7 n k));let u:=(g7 n k).length;let z:=((-1:Int)=j);(∃(x:Up n),(w/\(k:Int)=(↑(k+10*x.1):Int)/\0=(x.1:Int)/\True)/\True)/\∀(x:Up n),let v:=(x.1:Int);let r:=((g7 n k).getD v.toNat dz);let q:=(↑(k+10*x.1):Int);bd (v<(↑u:Int)) (W9 v u/\br (r.e !=q) z (Ri (q+1)/\W9 v u/\br (r.l !=q+1) z (Ri (q+1+1)/\W9 v u/\br (r.t !=q+1+1) z (Ri (q+1+1+1)/\W9 v u/\br (r.k !=q+1+1+1) z (Ri (q+1+1+1+1)/\W9 v u/\br (r.p !=q+1+1+1+1) z (Ri (q+1+1+1+1+1)/\W9 v u/\br (r.n !=q+1+1+1+1+1) z (Ri (q+1+1+1+1+1+1)/\W9 v u/\br (r.g !=q+1+1+1+1+1+1) z (Ri (q+1+1+1+1+1+1+1)/\W9 v u/\br (r.s !=q+1+1+1+1+1+1+1) z (Ri (q+1+1+1+1+1+1+1+1)/\W9 v u/\∃(X:Nat),((q+1+1+1+1+1+1+1+1=(X:Int)/\True)/\KB X)/\br (! r.b==bM X) z (Ri (q+1+1+1+1+1+1+1+1+1)/\W9 v u/\∃(d:Nat),((q+1+1+1+1+1+1+1+1+1=(d:Int)/\True)/\KB d)/\br (! r.a==bM d) z (Ri (q+1+1+1+1+1+1+1+1+1+1)/\Ri (v+1)/\∃(y:Up n),((w/\q+1+1+1+1+1+1+1+1+1+1=(↑(k+10*y.1):Int)/\v+1=(y.1:Int)/\True)/\True)/\Lt (n-y.1) (n-x.1)))))))))))) (q=j)) ⟨⟨⟨0,N7 _⟩,Y1⟩,λx=>⟨λhc=>?_,λhc=>?_⟩⟩
 ·have hlt:=Y2 hc;have hlt':x.1<n:=by omega
  have e:(g7 n k).getD (x.1:Int).toNat dz=c7f (k+10*x.1):=by rw[D8];exact j3 _ hlt' _
  rw[e];have i:=Y6 hlt;unfold c7f;exact⟨i,λh=>L3,λ_=>⟨Z4 Z9,i,λh=>L3,λ_=>⟨Z4 Z9,i,λh=>L3,λ_=>⟨Z4 Z9,i,λh=>L3,λ_=>⟨Z4 Z9,i,λh=>L3,λ_=>⟨Z4 Z9,i,λh=>L3,λ_=>⟨Z4 Z9,i,λh=>L3,λ_=>⟨Z4 Z9,i,λh=>L3,λ_=>⟨Z4 Z9,i,k+10*x.1+8,⟨⟨Z9,Z6⟩,Z9,Z9⟩,λh=>L3,λ_=>⟨Z4 Z9,i,k+10*x.1+9,⟨⟨Z9,Z6⟩,Z9,Z9⟩,λh=>L3,λ_=>⟨Z4 Z9,Z4 Z9,⟨x.1+1,hlt'⟩,⟨⟨Y1,X5,X5,Z6⟩,Z6⟩,V5.ext_lt hlt'⟩⟩⟩⟩⟩⟩⟩⟩⟩⟩⟩
 ·have hx:x.1=n:=by have:=x.2;have:=X9 hc;omega
  rw[hx]
def L6(l:Nat->Nat)(k:Nat):Nat->Nat
 |0=>k
 |i+1=>L6 l k i+(l i+4)
theorem hM(l:Nat->Nat)(k:Nat):∀{n:Nat},(∀i,i<n->l i<=1048576)->L6 l k n<=k+n*1048580
 |0,_=>by show k<=_;omega
 |n+1,h=>by
  have d:=hM l k (n:=n) λi hi=>h i Z9
  have e:=h n (Nat.lt_succ_self n);show L6 l k n+(l n+4)<=_;omega
theorem xZ(ln:Nat->Nat)(k:Nat){i:Nat}:∀{j:Nat},i<=j->L6 ln k i<=L6 ln k j
 |0,h=>by(obtain rfl:i=0:=by omega);exact U9 _
 |j+1,h=>by
  by_cases J:i=j+1
  ·rw[J];exact U9 _
  ·have:=xZ ln k (i:=i) (j:=j) Z9
   show L6 ln k i<=L6 ln k j+(ln j+4);omega
def a70(q n:Nat):Frm:=⟨(q:Int),⟨(q:Int)+1,yQ n (q+2)⟩,((q+2+n:Nat):Int).tmod 3==0,((q+2+n:Nat):Int)+1⟩
def vN(n:Nat)(l:Nat->Nat)(k:Nat):List Frm:=(List.range n).map λi=>a70 (L6 l k i) (l i)
def N3(L:List Frm)(i:Nat):Nat:=(L.getD i dz).pg.sl.length
def vW(L:List Frm)(k x j:Nat):Frm:=if j<x then a70 (L6 (N3 L) k j) (N3 L j) else L.getD j dz
def fcs(f:Frm):List T:=[Ji f.no,Ji f.pg.Q,.own 0 1 f.pg.sl.length (Z5 f.pg.sl),.bool f.D,Ji f.first]
def KBf(n:Nat)(l:Nat->Nat)(k:Nat):Prop:=n<=1048576/\1<=k/\L6 l k n<=10000000000000/\∀i,i<n->l i<=1048576
def a6e:Con:=.reff ⟨List Frm×Nat×Nat,λx=>[.osl 0 0 x.1.length,Ji x.2.1],λx=>[wZ x.2.2 x.1 x.1.length],λx=>Ji (L6 (N3 x.1) x.2.1 x.1.length),λx=>[wZ x.2.2 (vN x.1.length (N3 x.1) x.2.1) x.1.length],λx=>KBf x.1.length (N3 x.1) x.2.1⟩
def a9l(L:List Frm)(k v:Nat):Nat->Ann
 |0=>.one (Up L.length) (λx=>⟨[(0,.osl 0 0 L.length),(1,Ji (L6 (N3 L) k x.1)),(5,Ji x.1)],[some (.fam v 0 5 L.length λj=>fcs (vW L k x.1 j))]⟩) (λx=>L.length-x.1) [.arr 0] [.arr 0] (λ_=>Z3)
 |_=>.none
theorem c36{L:List Frm}{k x:Nat}(j:Nat):jQ (λj=>fcs (vW L k x j)) x [(0,Ji (L6 (N3 L) k x)),(1,Ji ((L6 (N3 L) k x:Int)+1)),(2,.own 0 1 (yQ (L.getD x dz).pg.sl.length (L6 (N3 L) k x+2)).length (Z5 (yQ (L.getD x dz).pg.sl.length (L6 (N3 L) k x+2)))),(3,.bool (((L6 (N3 L) k x+2+(L.getD x dz).pg.sl.length:Nat):Int).tmod 3==0)),(4,Ji (((L6 (N3 L) k x+2+(L.getD x dz).pg.sl.length:Nat):Int)+1))] j=fcs (vW L k (x+1) j):=by
 by_cases hj:j=x
 ·subst hj;rw[cV (by simp[fcs]),show vW L k (j+1) j=a70 (L6 (N3 L) k j) (N3 L j) by unfold vW;rw[if_pos (Nat.lt_succ_self _)]]
  rfl
 ·rw[dG hj (by simp[fcs])]
  have:vW L k x j=vW L k (x+1) j:=by
   unfold vW;by_cases h:j<x
   ·rw[if_pos h,if_pos Z9]
   ·rw[if_neg h,if_neg Z9]
  rw[this]
theorem a5b:GK 108 a6e:=gk func108<|by
 rintro⟨L,k,v⟩ ⟨g,d,e,h4⟩;dsimp only at g d e h4;refine C4 (gC jI gN) func108 (a9l L k v) pY (α:=let a:=(0=0/\L.length=L.length);(∃(x:Up L.length),(a/\(k:Int)=(↑(L6 (N3 L) k x.1):Int)/\0=(x.1:Int)/\True)/\(v=v/\L.length=L.length/\V2 L.length (Y5 L) λ(j:Nat)=>let m:=(vW L k x.1 j);[Ji m.no,Ji m.pg.Q,T.own 0 1 m.pg.sl.length (Z5 m.pg.sl),T.bool m.D,Ji m.first])/\True)/\∀(x:Up L.length),let w:=(x.1:Int);let r:=(↑(L6 (N3 L) k x.1):Int);let q:=(λ(j:Nat)=>let n:=(vW L k x.1 j);[Ji n.no,Ji n.pg.Q,T.own 0 1 n.pg.sl.length (Z5 n.pg.sl),T.bool n.D,Ji n.first]);let p:=(0+w.toNat);let z:=(vW L k x.1 p);bd (w<(L.length:Int)) (W9 w L.length/\kV p L.length [Ji z.no]/\Ri (r+1)/\W9 w L.length/\kV p L.length [Ji z.pg.Q]/\Ri (r+1+1)/\W9 w L.length/\Lt p L.length/\∃(X:(List (Bz)×Nat)),let g:=(yQ X.1.length X.2);let u:=(↑(X.2+X.1.length):Int);((((0=0/\z.pg.sl.length=X.1.length)/\r+1+1=(X.2:Int)/\True)/\((Z0 Z5 z.pg.sl X.1)/\True)/\nQ X.1.length X.2 1)/\c9x v v p L.length z.pg.sl.length z.pg.sl.length g.length (Z5 g))/\Nz (3:Int)/\W9 w L.length/\kV p L.length [T.bool z.D]/\Ri (u+1)/\W9 w L.length/\kV p L.length [Ji z.first]/\Ri (u+1+1)/\Ri (w+1)/\∃(y:Up L.length),((a/\u+1+1=(↑(L6 (N3 L) k y.1):Int)/\w+1=(y.1:Int)/\True)/\(v=v/\L.length=L.length/\V2 L.length (setRow (setRow (setRow (setRow (setRow q p 0 [Ji r]) p 1 [Ji (r+1)]) p 2 [T.own 0 1 g.length (Z5 g)]) p 3 [T.bool (u.tmod (3:Int)==0)]) p 4 [Ji (u+1)]) λ(j:Nat)=>let f:=(vW L k y.1 j);[Ji f.no,Ji f.pg.Q,T.own 0 1 f.pg.sl.length (Z5 f.pg.sl),T.bool f.D,Ji f.first])/\True)/\Lt (L.length-y.1) (L.length-x.1)) ((r=(↑(L6 (N3 L) k L.length):Int)/\True)/\(v=v/\L.length=L.length/\V2 L.length q (Y5 (vN L.length (N3 L) k)))/\True)) ⟨⟨⟨0,N7 _⟩,Y1,⟨rfl,rfl,tV λi _=>rfl⟩,Z6⟩,λx=>⟨λhc=>?_,λhc=>?_⟩⟩
 ·have hlt:=Y2 hc;have ib:=Y6 hlt;have hm:=xZ (N3 L) k (i:=x.1+1) (j:=L.length) hlt;have hk:=xZ (N3 L) k (i:=0) (j:=x.1) (N7 _);have hp:L6 (N3 L) k (x.1+1)=L6 (N3 L) k x.1+((L.getD x.1 dz).pg.sl.length+4):=rfl;have h0:L6 (N3 L) k 0=k:=rfl;have hx4:(L.getD x.1 dz).pg.sl.length<=1048576:=h4 _ hlt;have eu:vW L k x.1 x.1=L.getD x.1 dz:=by unfold vW;rw[if_neg (Nat.lt_irrefl _)]
  rw[D8,D2,eu];refine⟨ib,⟨hlt,rfl⟩,Z4 Z9,ib,⟨hlt,rfl⟩,Z4 Z9,ib,hlt,((L.getD x.1 dz).pg.sl,L6 (N3 L) k x.1+2),⟨⟨⟨Y1,X5,Z6⟩,Y1,hx4,X5,X5⟩,rfl,hlt,U9 _,O2 _ _,λr _ t h=>?_⟩,b0D,ib,⟨hlt,rfl⟩,Z4 X5,ib,⟨hlt,rfl⟩,Z4 X5,Z4 Z9,⟨x.1+1,hlt⟩,⟨⟨Y1,X5,X5,Z6⟩,⟨rfl,rfl,tV λj _=>?_⟩,Z6⟩,V5.ext_lt hlt⟩
  ·simp only[Z5,List.mem_singleton] at h;rw[h];rfl
  ·exact c36 j
 ·have hx:x.1=L.length:=by have:=x.2;have:=X9 hc;omega
  rw[hx];refine⟨Y1,⟨rfl,rfl,tV λi hi=>?_⟩,Z6⟩
  have f:vW L k L.length i=a70 (L6 (N3 L) k i) (N3 L i):=by unfold vW;rw[if_pos hi]
  have l:(vN L.length (N3 L) k).getD i dz=a70 (L6 (N3 L) k i) (N3 L i):=j3 _ hi _;rw[f];unfold Y5;rw[l]
def a58:Con:=.rel ⟨Nat×(Nat->Nat)×Nat,λx=>[uB (vN x.1 x.2.1 x.2.2),Ji x.2.2],λx=>Ji (L6 x.2.1 x.2.2 x.1),λx=>KBf x.1 x.2.1 x.2.2⟩
def a8D(n:Nat)(l:Nat->Nat)(k:Nat):Nat->Ann
 |0=>.one (Up n) (λx=>⟨[(0,uB (vN n l k)),(1,Ji (L6 l k x.1)),(5,Ji x.1)],[]⟩) (λx=>n-x.1) [] [] (λ_=>Z3)
 |_=>.none
theorem a3j:GK 113 a58:=gk func113<|by
 rintro⟨n,l,k⟩ ⟨q,g,o,f⟩;dsimp only at q g o f;have N:(vN n l k).length=n:=O2 _ _;refine U5 (gC jU gN) func113 (a8D n l k) (α:=let j:=(↑(L6 l k n):Int);let z:=(vN n l k);let w:=z.length;let q:=((-1:Int)=j);(∃(x:Up n),((Z0 V9 z z)/\(k:Int)=(↑(L6 l k x.1):Int)/\0=(x.1:Int)/\True)/\True)/\∀(x:Up n),let v:=(x.1:Int);let r:=(↑(L6 l k x.1):Int);let p:=(z.getD v.toNat dz);bd (v<(↑w:Int)) (W9 v w/\br (p.no !=r) q (Ri (r+1)/\W9 v w/\br (p.pg.Q !=r+1) q (Ri (r+1+1)/\W9 v w/\∃(X:(Nat×Nat)),let u:=(↑(X.2+X.1):Int);(((Z0 Z5 p.pg.sl (yQ X.1 X.2))/\r+1+1=(X.2:Int)/\True)/\nQ X.1 X.2 1)/\bd (u<0) q (W9 v w/\Nz (3:Int)/\br (! p.D==(u.tmod (3:Int)==0)) q (Ri (u+1)/\W9 v w/\br (p.first !=u+1) q (Ri (u+1+1)/\Ri (v+1)/\∃(y:Up n),(((Z0 V9 z z)/\u+1+1=(↑(L6 l k y.1):Int)/\v+1=(y.1:Int)/\True)/\True)/\Lt (n-y.1) (n-x.1))))))) (r=j)) ⟨⟨⟨0,N7 _⟩,Y1⟩,λx=>⟨λhc=>?_,λhc=>?_⟩⟩
 ·have hlt:=Y2 hc;have hlt':x.1<n:=by omega
  have I:=Y6 hlt;have e:(vN n l k).getD (x.1:Int).toNat dz=a70 (L6 l k x.1) (l x.1):=by rw[D8];exact j3 _ hlt' _
  rw[e];have M:=xZ l k (i:=x.1+1) (j:=n) hlt';have t:=xZ l k (i:=0) (j:=x.1) (N7 _);have hp:L6 l k (x.1+1)=L6 l k x.1+(l x.1+4):=rfl;have r:L6 l k 0=k:=rfl;have d:=f _ hlt';unfold a70;exact⟨I,λh=>L3,λ_=>⟨Z4 Z9,I,λh=>L3,λ_=>⟨Z4 Z9,I,(l x.1,L6 l k x.1+2),⟨⟨Y1,X5,Z6⟩,d,X5,X5⟩,λh=>by(have:=G5 h;dsimp only at this;omega),λ_=>⟨I,b0D,λh=>L3,λ_=>⟨Z4 X5,I,λh=>L3,λ_=>⟨Z4 X5,Z4 Z9,⟨x.1+1,hlt'⟩,⟨⟨Y1,X5,X5,Z6⟩,Z6⟩,V5.ext_lt hlt'⟩⟩⟩⟩⟩⟩
 ·have hx:x.1=n:=by have:=x.2;have:=X9 hc;omega
  rw[hx]
def mkD(d:Dsk)(k:Nat):Dsk:={d with E:=yQ d.E.length k,C:=vG d.C.length (k+d.E.length),keep:=vD d.keep.length (k+d.E.length+2*d.C.length)}
def O3(d:Dsk)(k:Nat):Nat:=k+d.E.length+2*d.C.length+d.keep.length
def KBd(d:Dsk)(k:Nat):Prop:=nM d/\1<=k/\k<=100000000
def b3y:Con:=.reff ⟨Dsk×Nat,λx=>[.agg (x.1.tm 0),Ji x.2],λx=>x.1.hp,λx=>Ji (O3 x.1 x.2),λx=>(mkD x.1 x.2).hp,λx=>KBd x.1 x.2⟩
theorem a62:GK 106 b3y:=gk func106<|by
 rintro⟨d,k⟩ ⟨⟨g,h,i⟩,f,j⟩;dsimp only at g h i f j;exact C4 (gC jI (gC a2Q (gC a3B gN))) func106 Z3 [[.arr 0,.arr 1,.arr 2]] (α:=∃(x:(List (Bz)×Nat)),(((0=0/\d.E.length=x.1.length)/\(k:Int)=(x.2:Int)/\True)/\((Z0 Z5 d.E x.1)/\True)/\nQ x.1.length x.2 1)/\∃(e:(List Pend×Nat)),(((0=0/\d.C.length=e.1.length)/\(↑(x.2+x.1.length):Int)=(e.2:Int)/\True)/\((Z0 Z1 d.C e.1)/\True)/\nQ e.1.length e.2 2)/\∃(X:(List Int×Nat)),(((0=0/\d.keep.length=X.1.length)/\(↑(e.2+2*e.1.length):Int)=(X.2:Int)/\True)/\((Z0 Y9 d.keep X.1)/\True)/\nQ X.1.length X.2 1)/\((↑(X.2+X.1.length):Int)=(↑(O3 d k):Int)/\True)/\(Z0 Z5 (yQ x.1.length x.2) (yQ d.E.length k))/\(Z0 Z1 (vG e.1.length e.2) (vG d.C.length (k+d.E.length)))/\(Z0 Y9 (vD X.1.length X.2) (vD d.keep.length (k+d.E.length+2*d.C.length)))/\True) ⟨(d.E,k),⟨Y1,Y1,g,f,X5⟩,(d.C,k+d.E.length),⟨Y1,Y1,h,X5,X5⟩,(d.keep,k+d.E.length+2*d.C.length),⟨Y1,Y1,i,X5,X5⟩,Y1⟩
def b3R:Con:=.rel ⟨Dsk×Nat,λx=>[.agg (mkD x.1 x.2).ts,Ji x.2],λx=>Ji (O3 x.1 x.2),λx=>KBd x.1 x.2⟩
theorem a6c:GK 111 b3R:=gk func111<|by
 rintro⟨d,k⟩ ⟨⟨i,e,j⟩,f,l⟩;dsimp only at i e j f l;have g:∀n:Nat,decide ((n:Int)<0)=true->∀{p:Prop},p:=λn h=>absurd (G5 h) Z9
 exact U5 (gC jU (gC a1I (gC a27 gN))) func111 Z3 (α:=let u:=(↑(O3 d k):Int);let p:=((-1:Int)=u);∃(x:(Nat×Nat)),let r:=(↑(x.2+x.1):Int);(((Z0 Z5 (yQ d.E.length k) (yQ x.1 x.2))/\(k:Int)=(x.2:Int)/\True)/\nQ x.1 x.2 1)/\bd (r<0) p (∃(X:(Nat×Nat)),let q:=(↑(X.2+2*X.1):Int);(((Z0 Z1 (vG d.C.length (k+d.E.length)) (vG X.1 X.2))/\r=(X.2:Int)/\True)/\nQ X.1 X.2 2)/\bd (q<0) p (∃(x:(Nat×Nat)),let z:=(↑(x.2+x.1):Int);(((Z0 Y9 (vD d.keep.length (k+d.E.length+2*d.C.length)) (vD x.1 x.2))/\q=(x.2:Int)/\True)/\nQ x.1 x.2 1)/\bd (z<0) p (z=u)))) ⟨(d.E.length,k),⟨Y1,i,f,X5⟩,λh=>g _ h,λ_=>⟨(d.C.length,k+d.E.length),⟨Y1,e,X5,X5⟩,λh=>g _ h,λ_=>⟨(d.keep.length,k+d.E.length+2*d.C.length),⟨Y1,j,X5,X5⟩,λh=>g _ h,λ_=>rfl⟩⟩⟩
def c6d(s:Sto)(k:Nat):Sto:={s with d:=mkD s.d k,L:=g7 s.L.length (O3 s.d k),fr:=vN s.fr.length (N3 s.fr) (O3 s.d k+10*s.L.length)}
def K6(s:Sto)(k:Nat):Nat:=L6 (N3 s.fr) (O3 s.d k+10*s.L.length) s.fr.length
def KBs(s:Sto)(k:Nat):Prop:=iC s/\1<=k/\k<=100000000
def b16:Con:=.reff ⟨Sto×Nat×Nat,λx=>[.agg (x.1.tm 0),Ji x.2.1],λx=>x.1.hp x.2.2,λx=>Ji (K6 x.1 x.2.1),λx=>(c6d x.1 x.2.1).hp x.2.2,λx=>KBs x.1 x.2.1⟩
theorem a8u:GK 48 b16:=gk func48<|by
 rintro⟨s,k,v⟩ ⟨⟨g,j,l,f⟩,o,q⟩;dsimp only at g j l f o q;have hd:O3 s.d k<=110000000:=by unfold O3;obtain⟨A,r,t⟩:=g;omega
 have h:1<=O3 s.d k:=by unfold O3;omega
 have hp:=hM (N3 s.fr) (O3 s.d k+10*s.L.length) (n:=s.fr.length) f;have i:L6 (N3 s.fr) (O3 s.d k+10*s.L.length) s.fr.length<=10000000000000:=Z9
 exact C4 (gC a62 (gC a5G (gC a5b gN))) func48 Z3 [[.arr 0,.arr 1,.arr 2,.arr 3,.arr 4]] (α:=let p:=(vN s.fr.length (N3 s.fr) (O3 s.d k+10*s.L.length));∃(x:(Dsk×Nat)),let q:=x.1.E.length;((((0=0/\s.d.E.length=q)/\(0=0/\s.d.C.length=x.1.C.length)/\s.d.A=x.1.A/\(0=0/\s.d.keep.length=x.1.keep.length)/\True)/\(k:Int)=(x.2:Int)/\True)/\((Z0 Z5 s.d.E x.1.E)/\(Z0 Z1 s.d.C x.1.C)/\(Z0 Y9 s.d.keep x.1.keep)/\True)/\KBd x.1 x.2)/\∃(e:(List Rec×Nat)),(((0=0/\s.L.length=e.1.length)/\(↑(O3 x.1 x.2):Int)=(e.2:Int)/\True)/\((Z0 Y0 s.L e.1)/\True)/\nQ e.1.length e.2 10)/\∃(X:(List Frm×Nat×Nat)),(((0=0/\s.fr.length=X.1.length)/\(↑(e.2+10*e.1.length):Int)=(X.2.1:Int)/\True)/\((v=X.2.2/\s.fr.length=X.1.length/\V2 s.fr.length (Y5 s.fr) (Y5 X.1))/\True)/\KBf X.1.length (N3 X.1) X.2.1)/\((↑(L6 (N3 X.1) X.2.1 X.1.length):Int)=(↑(K6 s k):Int)/\True)/\(Z0 Z5 (yQ x.1.E.length x.2) (yQ s.d.E.length k))/\(Z0 Z1 (vG x.1.C.length (x.2+q)) (vG s.d.C.length (k+s.d.E.length)))/\(Z0 Y9 (vD x.1.keep.length (x.2+q+2*x.1.C.length)) (vD s.d.keep.length (k+s.d.E.length+2*s.d.C.length)))/\(Z0 Y0 (g7 e.1.length e.2) (g7 s.L.length (O3 s.d k)))/\(X.2.2=v/\X.1.length=p.length/\V2 X.1.length (Y5 (vN X.1.length (N3 X.1) X.2.1)) (Y5 p))/\True) ⟨(s.d,k),⟨Y1,Y1,g,o,q⟩,(s.L,O3 s.d k),⟨Y1,Y1,j,h,X5⟩,(s.fr,O3 s.d k+10*s.L.length,v),⟨Y1,⟨H9,Z6⟩,l,X5,i,f⟩,Y1,Y1,Y1,Y1,Y1,⟨rfl,(O2 _ _).symm,mT _⟩,Z6⟩
def b1C:Con:=.rel ⟨Sto×Nat,λx=>[.agg (c6d x.1 x.2).ts,Ji x.2],λx=>Ji (K6 x.1 x.2),λx=>KBs x.1 x.2⟩
theorem a6i:GK 51 b1C:=gk func51<|by
 rintro⟨s,k⟩ ⟨⟨g,j,l,f⟩,o,q⟩;dsimp only at g j l f o q;have hd:O3 s.d k<=110000000:=by unfold O3;obtain⟨A,r,t⟩:=g;omega
 have e:1<=O3 s.d k:=by unfold O3;omega
 have hp:=hM (N3 s.fr) (O3 s.d k+10*s.L.length) (n:=s.fr.length) f;have i:L6 (N3 s.fr) (O3 s.d k+10*s.L.length) s.fr.length<=10000000000000:=Z9
 have N:∀n:Nat,decide ((n:Int)<0)=true->∀{p:Prop},p:=λn h=>absurd (G5 h) Z9
 exact U5 (gC a6c (gC a4x (gC a3j gN))) func51 Z3 (α:=let u:=(↑(K6 s k):Int);let p:=((-1:Int)=u);∃(x:(Dsk×Nat)),let r:=(↑(O3 x.1 x.2):Int);((((Z0 Z5 (yQ s.d.E.length k) (yQ x.1.E.length x.2))/\(Z0 Z1 (vG s.d.C.length (k+s.d.E.length)) (vG x.1.C.length (x.2+x.1.E.length)))/\s.d.A=x.1.A/\(Z0 Y9 (vD s.d.keep.length (k+s.d.E.length+2*s.d.C.length)) (vD x.1.keep.length (x.2+x.1.E.length+2*x.1.C.length)))/\True)/\(k:Int)=(x.2:Int)/\True)/\KBd x.1 x.2)/\bd (r<0) p (∃(X:(Nat×Nat)),let z:=(↑(X.2+10*X.1):Int);(((Z0 Y0 (g7 s.L.length (O3 s.d k)) (g7 X.1 X.2))/\r=(X.2:Int)/\True)/\nQ X.1 X.2 10)/\bd (z<0) p (∃(x:(Nat×(Nat->Nat)×Nat)),let q:=(↑(L6 x.2.1 x.2.2 x.1):Int);(((Z0 V9 (vN s.fr.length (N3 s.fr) (O3 s.d k+10*s.L.length)) (vN x.1 x.2.1 x.2.2))/\z=(x.2.2:Int)/\True)/\KBf x.1 x.2.1 x.2.2)/\bd (q<0) p (q=u)))) ⟨(s.d,k),⟨Y1,g,o,q⟩,λh=>N _ h,λ_=>⟨(s.L.length,O3 s.d k),⟨Y1,j,e,X5⟩,λh=>N _ h,λ_=>⟨(s.fr.length,N3 s.fr,O3 s.d k+10*s.L.length),⟨Y1,l,X5,i,f⟩,λh=>N _ h,λ_=>rfl⟩⟩⟩
def c7a(l:Bz)(L:List (Bz)):Nat->Ann
 |0=>.one (Up L.length) (λx=>⟨[(0,.osl 2 0 (l++V7 L x.1).length),(13,.osl 1 0 L.length),(14,Ji L.length),(15,Ji x.1)],[none,z9 L,some (.bys 5 (l++V7 L x.1))]⟩) (λx=>L.length-x.1) [.arr 0,.arr 1,.arr 3] [.arr 0,.arr 1,.at_ 0] (λ_=>Z3)
 |_=>.none
def a3G:Con:=.reff ⟨Bz×List (Bz),λx=>[.osl 0 0 x.1.length,.osl 1 0 x.2.length],λx=>[some (.bys 5 x.1),z9 x.2],λx=>.osl 2 0 (x.1++S4 x.2).length,λx=>[none,z9 x.2,some (.bys 5 (x.1++S4 x.2))],λx=>x.1.length<=1000/\k8 x.2⟩
theorem a2j:GK 332 a3G:=gk func332<|by
 rintro⟨l,L⟩ ⟨g,h,h3⟩;dsimp only at g h h3;have f:List.take l.length l++List.take 1 (List.drop 0 (List.map R0 [IntKind.u8.wrap (L.length:Int)]))=l++V7 L 0:=by rw[j_l];rfl
 refine C4 gN func332 (c7a l L) [[.arr 0,.arr 1,.arr 2]] (α:=let w:=(Z0 Z5 L L);let v:=(0=0/\L.length=L.length);let z:=(L.length:Int);R1 IntKind.u8 (IntKind.u8.wrap z)/\(Le 1 1/\Le l.length l.length/\U8 l.length 1 1)/\(∃(x:Up L.length),((0=0/\l.length+1=(l++V7 L x.1).length)/\v/\z=z/\0=(x.1:Int)/\True)/\True/\w/\List.take l.length l++List.take 1 (List.drop 0 (List.map R0 [IntKind.u8.wrap z]))=l++V7 L x.1/\True)/\∀(x:Up L.length),let u:=(x.1:Int);let j:=(0+u.toNat);let q:=(L.getD j []).length;let p:=(l++V7 L x.1).length;let r:=(List.take p (l++V7 L x.1)++List.take 1 (List.drop 0 (List.map R0 [IntKind.u8.wrap (↑q:Int)])));bd (u<z) (W9 u L.length/\Lt j L.length/\R1 IntKind.u8 (IntKind.u8.wrap (↑q:Int))/\(Le 1 1/\Le p p/\U8 p 1 1)/\(Le (p+1) r.length/\U8 (p+1) q 1)/\Ri (u+1)/\∃(y:Up L.length),(((0=0/\p+1+q=(l++V7 L y.1).length)/\v/\z=z/\u+1=(y.1:Int)/\True)/\True/\w/\List.take (p+1) r++L.getD j []=l++V7 L y.1/\True)/\Lt (L.length-y.1) (L.length-x.1)) (((0=0/\p=(l++S4 L).length)/\True)/\True/\w/\l++V7 L x.1=l++S4 L/\True)) ⟨O6 _,⟨U9 _,U9 _,Q9⟩,⟨⟨0,N7 _⟩,⟨⟨rfl,by simp[V7]⟩,⟨rfl,rfl⟩,rfl,rfl,Z6⟩,Z6,⟨rfl,X6 _ _⟩,f,Z6⟩,λx=>⟨λhc=>?_,λhc=>?_⟩⟩
 ·have hlt:=Y2 hc;have f1:=vX L h3 x.1 Z9
  have F:=h3 x.1 hlt;rw[D8,D2];have i:(l++V7 L x.1).length<=1100000:=by rw[F7];omega
  have e:List.take (l++V7 L x.1).length (l++V7 L x.1)++List.take 1 (List.drop 0 (List.map R0 [IntKind.u8.wrap ((L.getD x.1 []).length:Int)]))=l++V7 L x.1++[yI (L.getD x.1 []).length]:=by
   rw[j_l];rfl
  rw[e];have d:(l++V7 L x.1++[yI (L.getD x.1 []).length]).length=(l++V7 L x.1).length+1:=by rw[F7];rfl
  refine⟨Y6 hlt,Q1,O6 _,⟨U9 _,U9 _,Q9⟩,⟨by rw[d];exact U9 _,Q9⟩,Z4 Z9,⟨x.1+1,hlt⟩,⟨⟨⟨rfl,?_⟩,Y1,rfl,X5,Z6⟩,Z6,Y1,?_,Z6⟩,V5.ext_lt hlt⟩
  ·simp only[V7,F7,List.length_cons,List.length_nil];omega
  ·rw[←d,j_l];simp only[V7,List.append_assoc]
 ·have hx:x.1=L.length:=by have:=x.2;have:=X9 hc;omega
  rw[hx];exact Y1
def c6e:Con:=.rel ⟨Nat,λn=>[Ji n],λn=>.bys (z6 n),λn=>n<4294967296⟩
theorem a2T:GK 279 c6e:=gk func279<|by
 intro(n:Nat) hn;have h:Nn 8:=by unfold Nn;omega
 exact U5 gN func279 Z3 (α:=let p:=(n:Int).fdiv;let q:=(p (16777216:Int));Nn (24:Int)/\Nn (16:Int)/\Nn (8:Int)/\(R1 IntKind.u8 (IntKind.u8.wrap q)/\R1 IntKind.u8 (IntKind.u8.wrap (p (65536:Int)))/\R1 IntKind.u8 (IntKind.u8.wrap (p (256:Int)))/\R1 IntKind.u8 (IntKind.u8.wrap (n:Int)))/\Le 4 4/\List.take 4 (List.drop 0 (List.map R0 [IntKind.u8.wrap q,IntKind.u8.wrap (p (65536:Int)),IntKind.u8.wrap (p (256:Int)),IntKind.u8.wrap (n:Int)]))=z6 n) ⟨m0,m0,h,⟨O6 _,O6 _,O6 _,O6 _⟩,U9 _,by unfold z6;rw[show(n:Int).fdiv 1=n by rw[Int.fdiv_one]];rfl⟩
def b46:Con:=.eff vU
theorem b33:GK 247 b46:=gk func247<|by
 intro args H res H' p h hp;unfold vU at h;split at h
 case h_2=>cases h
 rename_i k off n ty l;split at h
 ·skip
  simp only[X0,U4] at h;obtain⟨rfl,rfl,rfl⟩:=h;obtain⟨rfl,hl⟩:xB n l:=hp;have e4:(z6 (zN l)).length=4:=rfl;have hc:=a1X l;refine vcE (gC oR (gC a2T gN)) func247 Z3 (bs:=[false]) (α:=∃(x:(tX IntKind.u32).ι),(Le (0+l.length) l.length/\(List.take l.length (List.drop 0 l)=x/\True)/\u9 x)/\∃(x_1:Nat),let p:=(List.take l.length l++z6 x_1);((IntKind.i64.wrap (↑(zN x):Int)=(x_1:Int)/\True)/\x_1<4294967296)/\(Le l.length l.length/\U8 l.length 4 1)/\Le (0+(l.length+4)) p.length/\List.take (l.length+4) (List.drop 0 p)=l++z6 (zN l)/\True/\True) ⟨l,⟨J9,⟨cI,Z6⟩,a0X⟩,zN l,⟨⟨?_,Z6⟩,hc⟩,⟨U9 _,Q9⟩,?_,?_,Y1⟩
  ·rw[IntKind.wrap_i64];omega
  ·unfold Le;rw[j_l,F7,e4,D2];exact U9 _
  ·rw[j_l,List.drop_zero];exact List.take_of_length_le (by rw[F7,e4];exact U9 _)
 ·cases h
def b4O(r:Rec):Bz:=[R0 108,yI r.e,yI r.l,yI r.t,yI r.k,yI r.p,yI r.n,yI r.g,yI r.s]++S4 [r.b,r.a]
def J3(r:Rec):Bz:=b4O r++z6 (zN (b4O r))
def a7t(r:Rec):Prop:=r.b.length<=1000/\r.a.length<=1000
theorem pG(a b:Bz):Z8 2 (λk=>List.take 1 (List.drop (k*1) [T.str a,T.str b])) (Z5 [a,b]):=λi hi=>by
 match i,hi with
 |0,_=>rfl
 |1,_=>rfl
theorem fs2{a b:Bz}(h:a.length<=1000)(d:b.length<=1000):k8 [a,b]:=⟨W7,λi hi=>by
 match i,hi with
 |0,_=>exact h
 |1,_=>exact d⟩
theorem b8g{r:Rec}(f:k8 [r.b,r.a]):(b4O r).length<=1000000:=by
 have h:=vX [r.b,r.a] f.2 2 (U9 _);have h:(S4 [r.b,r.a]).length<=2003:=h;unfold b4O;rw[F7];simp only[List.length_cons,List.length_nil];omega
def bW:Con:=.rel ⟨Rec,λr=>[.agg r.ts],λr=>.bys (J3 r),a7t⟩
theorem cZ:GK 253 bW:=gk func253<|by
 rintro(r:Rec) ⟨h1,h2⟩;have f:=fs2 h1 h2;exact U5 (gC a2j (gC b33 gN)) func253 (b9e 9) (α:=let pr:=(1+1+1+1);let pg:=(List.map R0 [(108:Int)]);let pf:=(1+1+1+1+1);let pd:=(1+1+1+1+1+1+1+1);let pa:=(1+1+1+1+1+1+1);let i:=(1+1+1+1+1+1);let d:=(List.drop 0 (List.map R0 [IntKind.u8.wrap r.g]));let c:=(List.drop 0 (List.map R0 [IntKind.u8.wrap r.p]));let f:=(List.drop 0 (List.map R0 [IntKind.u8.wrap r.t]));let m:=(List.drop 0 (List.map R0 [IntKind.u8.wrap r.e]));let j:=(List.drop 0 (List.map R0 [IntKind.u8.wrap r.n]));let w:=(List.drop 0 (List.map R0 [IntKind.u8.wrap r.k]));let y:=(List.drop 0 (List.map R0 [IntKind.u8.wrap r.l]));let v:=(List.take 1 pg++List.take 1 m);let pc:=(List.take (1+1) v++List.take 1 y);let u:=(tk 1 [T.str r.b,T.str r.a]);let q:=(List.take (1+1+1) pc++List.take 1 f);let pb:=(List.take pr q++List.take 1 w);let z:=(List.take pf pb++List.take 1 c);let pe:=(List.take i z++List.take 1 j);R1 IntKind.u8 (108:Int)/\br true (W9 (0:Int) 8/\R1 IntKind.u8 (IntKind.u8.wrap r.e)/\(Le 1 1/\Le 1 1/\U8 1 1 1)/\Ri (1:Int)/\br true (W9 (1:Int) 8/\R1 IntKind.u8 (IntKind.u8.wrap r.l)/\(Le 1 1/\Le (1+1) 2/\U8 (1+1) 1 1)/\Ri (2:Int)/\br true (W9 (2:Int) 8/\R1 IntKind.u8 (IntKind.u8.wrap r.t)/\(Le 1 1/\Le (1+1+1) 3/\U8 (1+1+1) 1 1)/\Ri (3:Int)/\br true (W9 (3:Int) 8/\R1 IntKind.u8 (IntKind.u8.wrap r.k)/\(Le 1 1/\Le pr 4/\U8 pr 1 1)/\Ri (4:Int)/\br true (W9 (4:Int) 8/\R1 IntKind.u8 (IntKind.u8.wrap r.p)/\(Le 1 1/\Le pf 5/\U8 pf 1 1)/\Ri (5:Int)/\br true (W9 (5:Int) 8/\R1 IntKind.u8 (IntKind.u8.wrap r.n)/\(Le 1 1/\Le i 6/\U8 i 1 1)/\Ri (6:Int)/\br true (W9 (6:Int) 8/\R1 IntKind.u8 (IntKind.u8.wrap r.g)/\(Le 1 1/\Le pa 7/\U8 pa 1 1)/\Ri (7:Int)/\br true (W9 (7:Int) 8/\R1 IntKind.u8 (IntKind.u8.wrap r.s)/\(Le 1 1/\Le pd 8/\U8 pd 1 1)/\Ri (8:Int)/\br false False (∃(x:(Bz×List (Bz))),let ph:=(x.1++S4 x.2);(((0=0/\1+1+1+1+1+1+1+1+1=x.1.length)/\(0=0/\2=x.2.length)/\True)/\(List.take pd (List.take pa pe++List.take 1 d)++List.take 1 (List.drop 0 (List.map R0 [IntKind.u8.wrap r.s]))=x.1/\(2=x.2.length/\Z8 2 u (Z5 x.2))/\True)/\x.1.length<=1000/\k8 x.2)/\xB ph.length ph/\x.1++S4 x.2++z6 (zN ph)=J3 r)) (∃(x:(Bz×List (Bz))),let pi:=(x.1++S4 x.2);(((0=0/\1+1+1+1+1+1+1+1=x.1.length)/\(0=0/\2=x.2.length)/\True)/\(List.take pa pe++List.take 1 d=x.1/\(2=x.2.length/\Z8 2 u (Z5 x.2))/\True)/\x.1.length<=1000/\k8 x.2)/\xB pi.length pi/\x.1++S4 x.2++z6 (zN pi)=J3 r)) (∃(x:(Bz×List (Bz))),let pj:=(x.1++S4 x.2);(((0=0/\1+1+1+1+1+1+1=x.1.length)/\(0=0/\2=x.2.length)/\True)/\(List.take i z++List.take 1 j=x.1/\(2=x.2.length/\Z8 2 u (Z5 x.2))/\True)/\x.1.length<=1000/\k8 x.2)/\xB pj.length pj/\x.1++S4 x.2++z6 (zN pj)=J3 r)) (∃(x:(Bz×List (Bz))),let pk:=(x.1++S4 x.2);(((0=0/\1+1+1+1+1+1=x.1.length)/\(0=0/\2=x.2.length)/\True)/\(List.take pf pb++List.take 1 c=x.1/\(2=x.2.length/\Z8 2 u (Z5 x.2))/\True)/\x.1.length<=1000/\k8 x.2)/\xB pk.length pk/\x.1++S4 x.2++z6 (zN pk)=J3 r)) (∃(x:(Bz×List (Bz))),let pm:=(x.1++S4 x.2);(((0=0/\1+1+1+1+1=x.1.length)/\(0=0/\2=x.2.length)/\True)/\(List.take pr q++List.take 1 w=x.1/\(2=x.2.length/\Z8 2 u (Z5 x.2))/\True)/\x.1.length<=1000/\k8 x.2)/\xB pm.length pm/\x.1++S4 x.2++z6 (zN pm)=J3 r)) (∃(x:(Bz×List (Bz))),let pn:=(x.1++S4 x.2);(((0=0/\1+1+1+1=x.1.length)/\(0=0/\2=x.2.length)/\True)/\(List.take (1+1+1) pc++List.take 1 f=x.1/\(2=x.2.length/\Z8 2 u (Z5 x.2))/\True)/\x.1.length<=1000/\k8 x.2)/\xB pn.length pn/\x.1++S4 x.2++z6 (zN pn)=J3 r)) (∃(x:(Bz×List (Bz))),let po:=(x.1++S4 x.2);(((0=0/\1+1+1=x.1.length)/\(0=0/\2=x.2.length)/\True)/\(List.take (1+1) v++List.take 1 y=x.1/\(2=x.2.length/\Z8 2 u (Z5 x.2))/\True)/\x.1.length<=1000/\k8 x.2)/\xB po.length po/\x.1++S4 x.2++z6 (zN po)=J3 r)) (∃(x:(Bz×List (Bz))),let pp:=(x.1++S4 x.2);(((0=0/\1+1=x.1.length)/\(0=0/\2=x.2.length)/\True)/\(List.take 1 pg++List.take 1 m=x.1/\(2=x.2.length/\Z8 2 u (Z5 x.2))/\True)/\x.1.length<=1000/\k8 x.2)/\xB pp.length pp/\x.1++S4 x.2++z6 (zN pp)=J3 r)) (∃(x:(Bz×List (Bz))),let pq:=(x.1++S4 x.2);(((0=0/\1=x.1.length)/\(0=0/\2=x.2.length)/\True)/\(List.map R0 [(108:Int)]=x.1/\(2=x.2.length/\Z8 2 u (Z5 x.2))/\True)/\x.1.length<=1000/\k8 x.2)/\xB pq.length pq/\x.1++S4 x.2++z6 (zN pq)=J3 r)) ⟨(pH _).2 Z9,λ_=>⟨jF,O6 _,⟨U9 _,U9 _,Q9⟩,Z4 Z9,λ_=>⟨jF,O6 _,⟨U9 _,U9 _,Q9⟩,Z4 Z9,λ_=>⟨jF,O6 _,⟨U9 _,U9 _,Q9⟩,Z4 Z9,λ_=>⟨jF,O6 _,⟨U9 _,U9 _,Q9⟩,Z4 Z9,λ_=>⟨jF,O6 _,⟨U9 _,U9 _,Q9⟩,Z4 Z9,λ_=>⟨jF,O6 _,⟨U9 _,U9 _,Q9⟩,Z4 Z9,λ_=>⟨jF,O6 _,⟨U9 _,U9 _,Q9⟩,Z4 Z9,λ_=>⟨jF,O6 _,⟨U9 _,U9 _,Q9⟩,Z4 Z9,(λh=>F1),λ_=>⟨([R0 108,yI r.e,yI r.l,yI r.t,yI r.k,yI r.p,yI r.n,yI r.g,yI r.s],[r.b,r.a]),⟨Y1,⟨rfl,⟨rfl,pG _ _⟩,Z6⟩,W7,f⟩,⟨rfl,b8g f⟩,rfl⟩⟩,λh=>F1⟩,λh=>F1⟩,λh=>F1⟩,λh=>F1⟩,λh=>F1⟩,λh=>F1⟩,λh=>F1⟩,λh=>F1⟩
def a1V:Con:=.rfz vV
theorem bF:GK 303 a1V:=gk func303<|l01Fields_ok.1
def a7F:Con:=.rel ⟨Rec,λr=>[.agg r.ts],λr=>.bys (J3 r),a7t⟩
theorem a5f:GK 225 a7F:=gk func225<|by
 rintro(r:Rec) ⟨h1,h2⟩;have f:=fs2 h1 h2;have h:=vX [r.b,r.a] f.2 2 (U9 _);have h:(S4 [r.b,r.a]).length<=2003:=h;refine U5 (gC bF (gC mH gN)) func225 Z3 (α:=let q:=(List.map R0 [(108:Int),IntKind.u8.wrap r.e,IntKind.u8.wrap r.l,IntKind.u8.wrap r.t,IntKind.u8.wrap r.k,IntKind.u8.wrap r.p,IntKind.u8.wrap r.n,IntKind.u8.wrap r.g,IntKind.u8.wrap r.s]);(R1 IntKind.u8 (108:Int)/\R1 IntKind.u8 (IntKind.u8.wrap r.e)/\R1 IntKind.u8 (IntKind.u8.wrap r.l)/\R1 IntKind.u8 (IntKind.u8.wrap r.t)/\R1 IntKind.u8 (IntKind.u8.wrap r.k)/\R1 IntKind.u8 (IntKind.u8.wrap r.p)/\R1 IntKind.u8 (IntKind.u8.wrap r.n)/\R1 IntKind.u8 (IntKind.u8.wrap r.g)/\R1 IntKind.u8 (IntKind.u8.wrap r.s))/\∃(x:vV.ι),let z:=(List.take 9 q++S4 x);(Le 2 2/\((2=x.length/\Z8 2 (tk 1 [T.str r.b,T.str r.a]) (Z5 x))/\True)/\k8 x)/\(Le 9 9/\U8 9 (S4 x).length 1)/\xB (9+(S4 x).length) z/\List.take 9 q++S4 x++z6 (zN z)=J3 r) ⟨⟨(pH _).2 Z9,O6 _,O6 _,O6 _,O6 _,O6 _,O6 _,O6 _,O6 _⟩,[r.b,r.a],⟨U9 _,⟨⟨rfl,pG _ _⟩,Z6⟩,f⟩,⟨U9 _,Q9⟩,?_,?_⟩
 ·exact⟨by rw[F7];rfl,b8g f⟩
 ·rfl
def zP(sec:List (Bz))(C:List Pend)(Q:Nat->Bool):Nat->List (Bz)
 |0=>sec
 |i+1=>if Q i=true then(zP sec C Q i).set (C.getD i dz).at_.toNat (C.getD i dz).d else zP sec C Q i
theorem A6(sec:List (Bz))(C:List Pend)(Q:Nat->Bool):∀i,(zP sec C Q i).length=sec.length
 |0=>rfl
 |i+1=>by
  unfold zP;split
  ·rw[zV,A6 sec C Q i]
  ·exact A6 sec C Q i
theorem c4D{sec:List (Bz)}{C:List Pend}{Q:Nat->Bool}{i:Nat}(h:Q i=true):zP sec C Q (i+1)=(zP sec C Q i).set (C.getD i dz).at_.toNat (C.getD i dz).d:=by
 conv=>lhs;unfold zP
 rw[if_pos h]
theorem c4P{sec:List (Bz)}{C:List Pend}{Q:Nat->Bool}{i:Nat}(h:Q i=false):zP sec C Q (i+1)=zP sec C Q i:=by
 conv=>lhs;unfold zP
 rw[if_neg cY]
def kp(K:List Int)(i:Nat):Bool:=decide (i<K.length)&&(K.getD i 0 !=0)
def wrD(d:Dsk)(at_:Int)(t:Bz):Dsk:=⟨d.E,d.C++[⟨at_,t⟩],d.A,d.keep⟩
def Sto.sd(s:Sto)(d:Dsk):Sto:=⟨d,s.ep,s.L,s.S,s.fr,s.J⟩
def crD(d:Dsk)(K:List Int):Dsk:=⟨zP d.E d.C (kp K) d.C.length,[],false,[]⟩
def U3(d:Dsk):Dsk×Bool:=if d.A=true then(crD d d.keep,false) else(⟨zP d.E d.C (λ_=>true) d.C.length,[],d.A,d.keep⟩,true)
def aL(d:Dsk):Prop:=∀i,i<d.C.length->0<=(d.C.getD i dz).at_/\(d.C.getD i dz).at_<d.E.length
theorem a32(L:List Pend)(p:Pend):Z8 (L.length+1) (X4 (Z1 L) L.length λk=>List.take 2 (List.drop (k*2) p.ts)) (Z1 (L++[p])):=by
 intro i hi;unfold X4 Z1;by_cases h:i<L.length
 ·rw[rW h,P3,P3,rK h]
 ·have:i=L.length:=by omega
  subst this;rw[mG h];have:(L++[p]).getD L.length dz=p:=by rw[P3,pZ (U9 _)];simp
  rw[this];simp[Pend.ts]
theorem a1m{L:List (Bz)}{n:Nat}{t:Bz}(j:Nat)(J:j<L.length):setRow (Z5 L) n 0 [.str t] j=Z5 (L.set n t) j:=by
 by_cases h:j=n
 ·subst h;rw[pC (by simp[Z5])]
  simp[Z5,j_j J]
 ·rw[L4 (by simp[Z5]) h]
  simp[Z5,j_k (Ne.symm h)]
theorem hV{sec:List (Bz)}{C:List Pend}{Q:Nat->Bool}{i:Nat}(h:Q i=true):Z8 sec.length (setRow (Z5 (zP sec C Q i)) (0+(C.getD i dz).at_.toNat) 0 [.str (C.getD i dz).d]) (Z5 (zP sec C Q (i+1))):=λj J=>by
 rw[c4D h,D2];exact a1m j (by rw[A6];exact J)
def Sto.bxC(s:Sto)(v:Nat):X8:=[pK (s.tn 1 6 3 4 5),z9 s.d.E,none,z8 s.d.keep,j5 s.L,wZ v s.fr s.fr.length,D1 s.d.C]
def c1p:Con:=.reff ⟨Sto×Int×Bz×Nat,λx=>[.ref 0 0 0,Ji x.2.1,.str x.2.2.1],λx=>x.1.bx x.2.2.2,λ_=>.tup [],λx=>(x.1.sd (wrD x.1.d x.2.1 x.2.2.1)).bxC x.2.2.2,λx=>x.1.d.C.length<=1048576⟩
theorem a46:GK 146 c1p:=gk func146<|by
 rintro⟨s,at_,t,v⟩ (h:s.d.C.length<=1048576);have l:s.d.C.length+1=(s.d.C++[(⟨at_,t⟩:Pend)]).length:=W7
 exact C4 gN func146 Z3 [[.box 0,.arr 1,.arr 2,.arr 3,.arr 4,.arr 5,.arr 7]] (α:=let p:=(s.d.C++[Pend.mk at_ t]);(Le 1 1/\Le s.d.C.length s.d.C.length/\U8 s.d.C.length 1 24)/\(True/\True)/\(oo ((0=0/\s.d.E.length=s.d.E.length)/\(0=0/\s.d.C.length+1=p.length)/\s.d.A=s.d.A/\(0=0/\s.d.keep.length=s.d.keep.length)/\s.ep=s.ep/\(0=0/\s.L.length=s.L.length)/\s.S=s.S/\(0=0/\s.fr.length=s.fr.length)/\s.J=s.J/\True))/\(Z0 Z5 s.d.E s.d.E)/\True/\(Z0 Y9 s.d.keep s.d.keep)/\(Z0 Y0 s.L s.L)/\(v=v/\s.fr.length=s.fr.length/\V2 s.fr.length (Y5 s.fr) (Y5 s.fr))/\(s.d.C.length+1=p.length/\Z8 (s.d.C.length+1) (X4 (Z1 s.d.C) s.d.C.length (tk 2 [Ji at_,T.str t])) (Z1 p))/\True) ⟨⟨U9 _,U9 _,Q9⟩,Y1,⟨rfl,rfl,Y1,⟨rfl,l⟩,Y1⟩,Y1,Z6,Y1,Y1,H9,⟨l,a32 s.d.C ⟨at_,t⟩⟩,Z6⟩
def Sto.bxX(s:Sto)(v:Nat)(K:List Int):X8:=[pK (s.tn 1 7 8 4 5),z9 s.d.E,none,none,j5 s.L,wZ v s.fr s.fr.length,z8 K,D1 s.d.C,z8 s.d.keep]
def c0Q:Con:=.reff ⟨Sto×List Int×Nat,λx=>[.ref 0 0 0,.osl 6 0 x.2.1.length],λx=>x.1.bx x.2.2++[z8 x.2.1],λ_=>.tup [],λx=>(x.1.sd (crD x.1.d x.2.1)).bxX x.2.2 x.2.1,λx=>nM x.1.d/\aL x.1.d/\x.2.1.length<=1048576⟩
def c1N(s:Sto)(K:List Int)(v:Nat):Nat->Ann
 |0=>.one (Up s.d.C.length) (λx=>⟨[(0,.ref 0 0 0),(1,.osl 6 0 K.length),(9,.osl 2 0 s.d.C.length),(10,Ji s.d.C.length),(11,Ji x.1)],[pK (s.tn 1 2 3 4 5),some (.arr true 0 1 s.d.E.length (Z5 (zP s.d.E s.d.C (kp K) x.1))),D1 s.d.C,z8 s.d.keep,j5 s.L,wZ v s.fr s.fr.length,z8 K]⟩) (λx=>s.d.C.length-x.1) c4N c4N (λ_=>Z3)
 |_=>.none
theorem b5q:GK 248 c0Q:=gk func248<|by
 rintro⟨s,K,v⟩ ⟨⟨o,g,i⟩,f,q⟩;dsimp only at o g i f q;refine C4 gN func248 (c1N s K v) [[.nilC 0 1 0 2,.nilC 0 3 0 1,.box 0,.arr 1,.arr 2,.arr 3,.arr 4,.arr 5,.arr 6,.arr 7,.arr 8]] (α:=let b:=(Z0 Y9 K K);let g:=(0=0/\0=0);let f:=(Z0 Z1 s.d.C s.d.C);let n:=(Z0 Y0 s.L s.L);let m:=(0=0/\K.length=K.length);let k:=(Z0 Y9 s.d.keep s.d.keep);let j:=(0=0/\s.d.C.length=s.d.C.length);let u:=(zP s.d.E s.d.C (kp K) s.d.C.length);let r:=(s.d.C.length:Int);let p:=(v=v/\s.fr.length=s.fr.length/\V2 s.fr.length (Y5 s.fr) (Y5 s.fr));(∃(x:Up s.d.C.length),(g/\m/\j/\r=r/\0=(x.1:Int)/\True)/\nN s s/\(s.d.E.length=s.d.E.length/\Z8 s.d.E.length (Z5 s.d.E) (Z5 (zP s.d.E s.d.C (kp K) x.1)))/\f/\k/\n/\p/\b/\True)/\∀(x:Up s.d.C.length),let i:=(s.d.C.length-x.1);let w:=(Z5 (zP s.d.E s.d.C (kp K) x.1));let q:=(x.1:Int);let c:=(0+q.toNat);let a:=(q<(K.length:Int));let z:=(s.d.C.getD c dz);bd (q<r) (W9 q s.d.C.length/\Lt c s.d.C.length/\(decide a=true->W9 q K.length)/\(decide a=true->Lt c K.length)/\br (decide a&&K.getD c (0:Int) !=0) (W9 z.at_ s.d.E.length/\Lt (0+z.at_.toNat) s.d.E.length/\Ri (q+1)/\∃(y:Up s.d.C.length),((g/\m/\j/\r=r/\q+1=(y.1:Int)/\True)/\nN s s/\(s.d.E.length=s.d.E.length/\Z8 s.d.E.length (setRow w (0+z.at_.toNat) 0 [T.str z.d]) (Z5 (zP s.d.E s.d.C (kp K) y.1)))/\f/\k/\n/\p/\b/\True)/\Lt (s.d.C.length-y.1) i) (Ri (q+1)/\∃(y:Up s.d.C.length),((g/\m/\j/\r=r/\q+1=(y.1:Int)/\True)/\nN s s/\(s.d.E.length=s.d.E.length/\Z8 s.d.E.length w (Z5 (zP s.d.E s.d.C (kp K) y.1)))/\f/\k/\n/\p/\b/\True)/\Lt (s.d.C.length-y.1) i)) ((True/\True)/\(oo ((0=0/\s.d.E.length=u.length)/\g/\false=false/\g/\s.ep=s.ep/\(0=0/\s.L.length=s.L.length)/\s.S=s.S/\(0=0/\s.fr.length=s.fr.length)/\s.J=s.J/\True))/\(s.d.E.length=u.length/\Z8 s.d.E.length w (Z5 u))/\True/\True/\n/\p/\b/\(0=0/\Z8 0 (λ(x:Nat)=>[]) (Z1 []))/\(0=0/\Z8 0 (λ(x:Nat)=>[]) (Y9 []))/\True)) ⟨⟨⟨0,N7 _⟩,Y1,Y1,Y1,Y1,Y1,Y1,H9,Y1,Z6⟩,λx=>⟨λhc=>?_,λhc=>?_⟩⟩
 ·have t:=Y2 hc;have n:(decide ((x.1:Int)<(K.length:Int))&&K.getD x.1 0 !=0)=kp K x.1:=by
   unfold kp;rw[show decide ((x.1:Int)<(K.length:Int))=decide (x.1<K.length) from decide_eq_decide.2 Z9]
  rw[D8,show 0+x.1=x.1 by omega,n]
  have A:=f x.1 t;refine⟨Y6 t,t,λh=>Y6 (Y2 h),λh=>Y2 h,λe=>?_,λe=>?_⟩
  ·exact⟨A,Q1,Z4 Z9,⟨x.1+1,t⟩,⟨⟨Y1,Y1,Y1,rfl,X5,Z6⟩,Y1,⟨rfl,hV e⟩,Y1,Y1,Y1,H9,Y1,Z6⟩,V5.ext_lt t⟩
  ·exact⟨Z4 Z9,⟨x.1+1,t⟩,⟨⟨Y1,Y1,Y1,rfl,X5,Z6⟩,Y1,⟨rfl,λj _=>by dsimp only;rw[c4P e]⟩,⟨rfl,X6 _ _⟩,⟨rfl,X6 _ _⟩,⟨rfl,X6 _ _⟩,⟨rfl,rfl,mT _⟩,⟨rfl,X6 _ _⟩,Z6⟩,V5.ext_lt t⟩
 ·have hx:x.1=s.d.C.length:=by have:=x.2;have:=X9 hc;omega
  rw[hx];have l:=(A6 s.d.E s.d.C (kp K) s.d.C.length).symm;exact⟨Y1,⟨rfl,rfl,⟨rfl,l⟩,Y1⟩,⟨l,X6 _ _⟩,Z6,Z6,Y1,H9,Y1,⟨rfl,P0⟩,⟨rfl,P0⟩,Z6⟩
def Sto.bxY(s:Sto)(v:Nat):X8:=[pK (s.tn 1 6 7 4 5),z9 s.d.E,none,none,j5 s.L,wZ v s.fr s.fr.length,D1 s.d.C,z8 s.d.keep]
def c7b:Con:=.reff ⟨Sto×Nat,λx=>[.ref 0 0 0],λx=>x.1.bx x.2,λx=>.bool (U3 x.1.d).2,λx=>(x.1.sd ((U3 x.1.d).1)).bxY x.2,λx=>nM x.1.d/\aL x.1.d⟩
def c56(s:Sto)(v:Nat):Nat->Ann
 |0=>.one (Up s.d.C.length) (λx=>⟨[(0,.ref 0 0 0),(19,.osl 2 0 s.d.C.length),(20,Ji s.d.C.length),(21,Ji x.1)],[pK (s.tn 1 2 3 4 5),some (.arr true 0 1 s.d.E.length (Z5 (zP s.d.E s.d.C (λ_=>true) x.1))),D1 s.d.C,z8 s.d.keep,j5 s.L,wZ v s.fr s.fr.length]⟩) (λx=>s.d.C.length-x.1) c5h c5h (λ_=>Z3)
 |_=>.none
theorem a9V:GK 148 c7b:=gk func148<|by
 rintro⟨s,v⟩ ⟨⟨i,g,h⟩,f⟩;dsimp only at i g h f;refine C4 (gC a4h (gC b5q gN)) func148 (c56 s v) [c42,[.nilC 0 1 0 2,.box 0,.arr 1,.arr 2,.arr 3,.arr 4,.arr 5,.arr 6,.arr 3]] (α:=let l:=(Z1 (U3 s.d).1.C);let i:=(0=0/\0=0);let c:=(Z0 Z1 s.d.C s.d.C);let a:=(Y5 s.fr);let g:=(Z0 Y9 s.d.keep s.d.keep);let f:=(Z0 Y0 s.L s.L);let n:=(0=0/\s.d.C.length=s.d.C.length);let m:=(U3 s.d).1.E.length;let k:=(U3 s.d).1.keep.length;let z:=(U3 s.d).1.C.length;let r:=(s.d.C.length:Int);let p:=(v=v/\s.fr.length=s.fr.length/\V2 s.fr.length a a);br s.d.A (∃(x:(List Int)),let b:=x.length;(Le (0+s.d.keep.length) s.d.keep.length/\((Z0 Y9 s.d.keep x)/\True)/\b<=1048576)/\∃(X:(Sto×List Int×Nat)),let w:=(zP X.1.d.E X.1.d.C (kp X.2.1) X.1.d.C.length);((i/\(0=0/\b=X.2.1.length)/\True)/\(nN s X.1/\(Z0 Z5 s.d.E X.1.d.E)/\(Z0 Z1 s.d.C X.1.d.C)/\(Z0 Y9 s.d.keep X.1.d.keep)/\(Z0 Y0 s.L X.1.L)/\(v=X.2.2/\s.fr.length=X.1.fr.length/\V2 s.fr.length a (Y5 X.1.fr))/\(b=X.2.1.length/\Z8 (b) (Y9 x) (Y9 X.2.1))/\True)/\nM X.1.d/\aL X.1.d/\X.2.1.length<=1048576)/\(false=(U3 s.d).2/\True)/\(oo ((0=0/\w.length=m)/\(0=0/\0=z)/\false=(U3 s.d).1.A/\(0=0/\0=k)/\X.1.ep=s.ep/\(0=0/\X.1.L.length=s.L.length)/\X.1.S=s.S/\(0=0/\X.1.fr.length=s.fr.length)/\X.1.J=s.J/\True))/\(Z0 Z5 w (U3 s.d).1.E)/\True/\True/\(Z0 Y0 X.1.L s.L)/\(X.2.2=v/\X.1.fr.length=s.fr.length/\V2 X.1.fr.length (Y5 X.1.fr) a)/\(0=z/\Z8 0 (Z1 []) l)/\(0=k/\Z8 0 (Y9 []) (Y9 (U3 s.d).1.keep))/\True) ((∃(x:Up s.d.C.length),(i/\n/\r=r/\0=(x.1:Int)/\True)/\nN s s/\(s.d.E.length=s.d.E.length/\Z8 s.d.E.length (Z5 s.d.E) (Z5 (zP s.d.E s.d.C (λ(x:Nat)=>true) x.1)))/\c/\g/\f/\p/\True)/\∀(x:Up s.d.C.length),let t:=(λ(x:Nat)=>true);let j:=(Z5 (zP s.d.E s.d.C t x.1));let u:=(x.1:Int);let q:=(s.d.C.getD (0+u.toNat) dz);bd (u<r) (W9 u s.d.C.length/\Lt (0+u.toNat) s.d.C.length/\W9 q.at_ s.d.E.length/\Lt (0+q.at_.toNat) s.d.E.length/\Ri (u+1)/\∃(y:Up s.d.C.length),((i/\n/\r=r/\u+1=(y.1:Int)/\True)/\nN s s/\(s.d.E.length=s.d.E.length/\Z8 s.d.E.length (setRow j (0+q.at_.toNat) 0 [T.str q.d]) (Z5 (zP s.d.E s.d.C t y.1)))/\c/\g/\f/\p/\True)/\Lt (s.d.C.length-y.1) (s.d.C.length-x.1)) ((true=(U3 s.d).2/\True)/\(oo ((0=0/\s.d.E.length=m)/\(0=0/\0=z)/\s.d.A=(U3 s.d).1.A/\(0=0/\s.d.keep.length=k)/\s.ep=s.ep/\(0=0/\s.L.length=s.L.length)/\s.S=s.S/\(0=0/\s.fr.length=s.fr.length)/\s.J=s.J/\True))/\(s.d.E.length=m/\Z8 s.d.E.length j (Z5 (U3 s.d).1.E))/\True/\True/\f/\p/\(0=z/\Z8 0 (λ(x:Nat)=>[]) l)/\(Z0 Y9 s.d.keep (U3 s.d).1.keep)/\True))) ⟨λha=>?_,λha=>?_⟩
 ·have e:U3 s.d=(crD s.d s.d.keep,false):=by unfold U3;rw[if_pos ha]
  rw[e];exact⟨s.d.keep,⟨tZ _,Y1,h⟩,(s,s.d.keep,v),⟨Y1,⟨Y1,Y1,Y1,Y1,Y1,H9,Y1,Z6⟩,⟨i,g,h⟩,f,h⟩,Y1,Y1,Y1,Z6,Z6,Y1,H9,⟨rfl,P0⟩,⟨rfl,P0⟩,Z6⟩
 ·have e:U3 s.d=(⟨zP s.d.E s.d.C (λ_=>true) s.d.C.length,[],s.d.A,s.d.keep⟩,true):=by unfold U3;rw[if_neg (by rw[ha];simp)]
  rw[e];refine⟨⟨⟨0,N7 _⟩,Y1,Y1,Y1,Y1,Y1,Y1,H9,Z6⟩,λx=>⟨λhc=>?_,λhc=>?_⟩⟩
  ·have hlt:=Y2 hc;rw[D8,show 0+x.1=x.1 by omega]
   have ha:=f x.1 hlt;exact⟨Y6 hlt,hlt,ha,Q1,Z4 Z9,⟨x.1+1,hlt⟩,⟨⟨Y1,Y1,rfl,X5,Z6⟩,Y1,⟨rfl,hV (Q:=λ_=>true) rfl⟩,Y1,Y1,Y1,H9,Z6⟩,V5.ext_lt hlt⟩
  ·have hx:x.1=s.d.C.length:=by have:=x.2;have:=X9 hc;omega
   rw[hx];have l:=(A6 s.d.E s.d.C (λ_=>true) s.d.C.length).symm
   exact⟨Y1,⟨rfl,rfl,⟨rfl,l⟩,Y1⟩,⟨l,X6 _ _⟩,Z6,Z6,Y1,H9,⟨rfl,P0⟩,Y1⟩
theorem c5f{hi lsn:Int}{s:RdSt}:∀n,(RdSt.go hi lsn s n).ok=true->s.ok=true
 |0,h=>h
 |n+1,h=>by
  refine c5f (hi:=hi) (lsn:=lsn) n ?_
  simp only[RdSt.go,RdSt.step,J4] at h;exact h.1.1
theorem b9h{hi lsn:Int}{s:RdSt}:∀n,s.l.length<=(RdSt.go hi lsn s n).l.length+2*n
 |0=>by simp[RdSt.go]
 |n+1=>by
  have:=b9h (hi:=hi) (lsn:=lsn) (s:=s) n;simp only[RdSt.go,RdSt.step,List.length_drop];omega
theorem b8J{most lo hi lsn:Int}{l:Bz}{fl:Bool}(h:(N4 most lo hi lsn l fl).ok=true):(l.length:Int)<=(N4 most lo hi lsn l fl).l.length+2*most+1:=by
 have h1:=c5f _ h;have h2:=b9h (hi:=hi) (lsn:=lsn) (s:=uJ most lo l fl) (numR l).toNat;have h3:numR l<=most:=G5 h1;have h4:=(r5 l).1;have h5:(uJ most lo l fl).l.length=l.length-1:=by simp[uJ]
 have h6:(N4 most lo hi lsn l fl).l.length=(RdSt.go hi lsn (uJ most lo l fl) (numR l).toNat).l.length:=rfl;omega
theorem a1p{a:Bz}{lsn:Int}(h:a4N a lsn=true):a.length<=38:=by
 unfold a4N at h;simp only[J4] at h;have f:=b8J h.1.1.1;have d:=b8J h.1.2.1;have e:=List.isEmpty_iff.1 h.2.2;rw[e] at d;simp at d;omega
theorem b92{r:Rec}(h:O8 r=true):a7t r:=by
 have h:=(Q3 r).1 h;unfold zF at h;obtain⟨_,_,_,_,_,_,_,_,_,_,_,_,_,_,B,f,e⟩:=h;refine⟨Z9,?_⟩
 by_cases d:r.k=6
 ·have:=a1p (f d).2.2.2.2.2.2;omega
 ·have:=(e d).2.2.1;omega
def nR(s:Sto)(i:Nat):Pend:=⟨9+(s.L.getD (s.S.toNat+i) dz).l-1,J3 (s.L.getD (s.S.toNat+i) dz)⟩
def cT(s:Sto)(n:Nat):Dsk:=⟨s.d.E,s.d.C++(List.range n).map (nR s),s.d.A,s.d.keep⟩
def I9(s:Sto)(lsn:Int):Nat:=lsn.toNat-s.S.toNat
def V8(s:Sto)(lsn:Int):Sto×Bool:=if lsn<=s.S then(s,true) else
 (⟨(U3 (cT s (I9 s lsn))).1,s.ep,s.L,if(U3 (cT s (I9 s lsn))).2=true then lsn else s.S,s.fr,s.J⟩,(U3 (cT s (I9 s lsn))).2)
def mC(s:Sto)(lsn:Int):Prop:=nM s.d/\s.d.C.length<=1000/\aL s.d/\s.d.E.length=69/\0<=s.S/\s.S<=s.L.length/\s.L.length<=60/\lsn<=s.L.length/\∀i,i<s.L.length->(s.L.getD i dz).l=(i:Int)+1/\a7t (s.L.getD i dz)
def c02:Con:=.reff ⟨Sto×Int×Nat,λx=>[.ref 0 0 0,Ji x.2.1],λx=>x.1.bx x.2.2,λx=>.bool (V8 x.1 x.2.1).2,λx=>(V8 x.1 x.2.1).1.bxY x.2.2,λx=>mC x.1 x.2.1⟩
def c3b(s:Sto)(lsn:Int)(v:Nat):Nat->Ann
 |0=>.one (Up (I9 s lsn)) (λx=>⟨[(0,.ref 0 0 0),(1,Ji lsn),(22,.osl 4 s.S.toNat (I9 s lsn)),(23,Ji (I9 s lsn)),(24,Ji x.1)],(s.sd (cT s x.1)).bxC v⟩) (λx=>I9 s lsn-x.1) [.box 0,.arr 1,.arr 2,.arr 3,.arr 4,.arr 5,.arr 2] c4u (λ_=>Z3)
 |_=>.none
theorem xD{s:Sto}{lsn:Int}(h:lsn<=s.S):V8 s lsn=(s,true):=if_pos h
theorem xQ{s:Sto}{lsn:Int}(h:¬lsn<=s.S):V8 s lsn=(⟨(U3 (cT s (I9 s lsn))).1,s.ep,s.L,if(U3 (cT s (I9 s lsn))).2=true then lsn else s.S,s.fr,s.J⟩,(U3 (cT s (I9 s lsn))).2):=if_neg h
theorem fY{s:Sto}{lsn:Int}{i:Nat}(h:mC s lsn)(hi:i<I9 s lsn):(nR s i).at_=9+s.S+i/\a7t (s.L.getD (s.S.toNat+i) dz)/\s.S+i<lsn:=by
 obtain⟨_,_,_,_,g,e,_,f,d⟩:=h;unfold I9 at hi;obtain⟨a,b⟩:=d (s.S.toNat+i) Z9
 refine⟨?_,b,Z9⟩
 unfold nR;dsimp only;rw[a];omega
theorem uI(s:Sto)(n:Nat):s.d.C++List.map (nR s) (List.range n)++[nR s n]=s.d.C++List.map (nR s) (List.range (n+1)):=by
 rw[List.range_succ,List.map_append,List.append_assoc];rfl
theorem a1k{s:Sto}{lsn:Int}(h:mC s lsn):nM (cT s (I9 s lsn))/\aL (cT s (I9 s lsn)):=by
 have n:=λi=>fY (i:=i) h
 obtain⟨⟨A,t,g⟩,l,f,h4,v,o,u,j,r⟩:=h;have N:I9 s lsn<=60:=by unfold I9;omega
 refine⟨⟨A,?_,g⟩,λi hi=>?_⟩
 ·show(s.d.C++List.map (nR s) (List.range _)).length<=1048576;simp only[F7,List.length_map,j_g];omega
 ·have hi:i<(s.d.C++List.map (nR s) (List.range (I9 s lsn))).length:=hi;show 0<=((s.d.C++List.map (nR s) (List.range (I9 s lsn))).getD i dz).at_/\((s.d.C++List.map (nR s) (List.range (I9 s lsn))).getD i dz).at_<(s.d.E.length:Int);rw[h4,P3]
  by_cases hc:i<s.d.C.length
  ·rw[rK hc,←P3]
   have:=f i hc;rw[h4] at this;exact this
  ·rw[pZ Z9,←P3]
   simp only[F7,List.length_map,j_g] at hi;rw[j3 _ Z9]
   obtain⟨e,_,q⟩:=n (i-s.d.C.length) Z9
   rw[e];omega
theorem b8B:GK 151 c02:=gk func151<|by
 rintro⟨s,lsn,v⟩ h;dsimp only at h;have hn:=λi=>fY (i:=i) h
 have W:=a1k h;obtain⟨⟨u,z,A⟩,g,o,j,h5,r,n,h8,t⟩:=h;have N:I9 s lsn<=60:=by unfold I9;omega
 refine C4 (gC cZ (gC a46 (gC a9V gN))) func151 (c3b s lsn v) [c42,c4E] (α:=let i:=(0=0/\0=0);let g:=(Y5 s.fr);let w:=(↑(I9 s lsn):Int);let p:=(V8 s lsn);let t:=p.1.d;bd (lsn<=s.S) ((true=p.2/\True)/\nN s p.1/\(Z0 Z5 s.d.E t.E)/\True/\True/\(Z0 Y0 s.L p.1.L)/\(v=v/\s.fr.length=p.1.fr.length/\V2 s.fr.length g (Y5 p.1.fr))/\(Z0 Z1 s.d.C t.C)/\(Z0 Y9 s.d.keep t.keep)/\True) (b1R s.S lsn s.L.length/\(∃(x:Up (I9 s lsn)),let m:=(s.d.C++List.map (nR s) (List.range x.1));(i/\lsn=lsn/\(0+s.S.toNat=s.S.toNat/\lsn.toNat-s.S.toNat=I9 s lsn)/\(↑(lsn.toNat-s.S.toNat):Int)=w/\0=(x.1:Int)/\True)/\(oo ((0=0/\s.d.E.length=s.d.E.length)/\(0=0/\s.d.C.length=m.length)/\s.d.A=s.d.A/\(0=0/\s.d.keep.length=s.d.keep.length)/\s.ep=s.ep/\(0=0/\s.L.length=s.L.length)/\s.S=s.S/\(0=0/\s.fr.length=s.fr.length)/\s.J=s.J/\True))/\(Z0 Z5 s.d.E s.d.E)/\True/\(Z0 Y9 s.d.keep s.d.keep)/\(Z0 Y0 s.L s.L)/\(v=v/\s.fr.length=s.fr.length/\V2 s.fr.length g g)/\(Z0 Z1 s.d.C m)/\True)/\∀(x:Up (I9 s lsn)),let j:=(x.1:Int);let pa:=(s.S.toNat+j.toNat);let r:=(s.d.C++List.map (nR s) (List.range x.1));let q:=(s.L.getD pa dz);bd (j<w) (W9 j (I9 s lsn)/\Lt pa s.L.length/\Ri (9+q.l)/\Ri (9+q.l-1)/\∃(X:Rec),(((EqR q X)/\True)/\a7t X)/\∃(f:(Sto×Int×Bz×Nat)),let a:=f.1.fr.length;let k:=f.1.d;let b:=(k.C++[Pend.mk f.2.1 f.2.2.1]);((i/\9+q.l-1=f.2.1/\J3 X=f.2.2.1/\True)/\((oo ((0=0/\s.d.E.length=k.E.length)/\(0=0/\r.length=k.C.length)/\s.d.A=k.A/\(0=0/\s.d.keep.length=k.keep.length)/\s.ep=f.1.ep/\(0=0/\s.L.length=f.1.L.length)/\s.S=f.1.S/\(0=0/\s.fr.length=a)/\s.J=f.1.J/\True))/\(Z0 Z5 s.d.E k.E)/\(Z0 Z1 r k.C)/\(Z0 Y9 s.d.keep k.keep)/\(Z0 Y0 s.L f.1.L)/\(v=f.2.2.2/\s.fr.length=a/\V2 s.fr.length g (Y5 f.1.fr))/\True)/\k.C.length<=1048576)/\Ri (j+1)/\∃(y:Up (I9 s lsn)),let n:=(s.d.C++List.map (nR s) (List.range y.1));((i/\lsn=lsn/\(s.S.toNat=s.S.toNat/\I9 s lsn=I9 s lsn)/\w=w/\j+1=(y.1:Int)/\True)/\(oo ((0=0/\k.E.length=s.d.E.length)/\(0=0/\b.length=n.length)/\k.A=s.d.A/\(0=0/\k.keep.length=s.d.keep.length)/\f.1.ep=s.ep/\(0=0/\f.1.L.length=s.L.length)/\f.1.S=s.S/\(0=0/\a=s.fr.length)/\f.1.J=s.J/\True))/\(Z0 Z5 k.E s.d.E)/\True/\(Z0 Y9 k.keep s.d.keep)/\(Z0 Y0 f.1.L s.L)/\(f.2.2.2=v/\a=s.fr.length/\V2 f.1.fr.length (Y5 f.1.fr) g)/\(Z0 Z1 b n)/\True)/\Lt (I9 s lsn-y.1) (I9 s lsn-x.1)) (∃(X:(Sto×Nat)),let pb:=(Z0 Y0 X.1.L p.1.L);let u:=(U3 X.1.d);let c:=(Z0 Y9 u.1.keep t.keep);let z:=(X.2=v/\X.1.fr.length=p.1.fr.length/\V2 X.1.fr.length (Y5 X.1.fr) (Y5 p.1.fr));((i/\True)/\((oo ((0=0/\s.d.E.length=X.1.d.E.length)/\(0=0/\r.length=X.1.d.C.length)/\s.d.A=X.1.d.A/\(0=0/\s.d.keep.length=X.1.d.keep.length)/\s.ep=X.1.ep/\(0=0/\s.L.length=X.1.L.length)/\s.S=X.1.S/\(0=0/\s.fr.length=X.1.fr.length)/\s.J=X.1.J/\True))/\(Z0 Z5 s.d.E X.1.d.E)/\(Z0 Z1 r X.1.d.C)/\(Z0 Y9 s.d.keep X.1.d.keep)/\(Z0 Y0 s.L X.1.L)/\(v=X.2/\s.fr.length=X.1.fr.length/\V2 s.fr.length g (Y5 X.1.fr))/\True)/\nM X.1.d/\aL X.1.d)/\br (! u.2) ((false=p.2/\True)/\nN {X.1 with d:=u.1} p.1/\(Z0 Z5 u.1.E t.E)/\True/\True/\pb/\z/\(Z0 Z1 u.1.C t.C)/\c/\True) ((true=p.2/\True)/\nN {X.1 with d:=u.1,S:=lsn} p.1/\(Z0 Z5 u.1.E t.E)/\True/\True/\pb/\z/\(Z0 Z1 u.1.C t.C)/\c/\True)))) ⟨λhc=>?_,λhc=>?_⟩
 ·rw[xD (G5 hc)];exact⟨Y1,Y1,Y1,Z6,Z6,Y1,H9,Y1,Y1,Z6⟩
 ·have hc:=r8 hc;refine⟨⟨h5,Z9,h8⟩,⟨⟨0,N7 _⟩,⟨Y1,rfl,⟨D2 _,rfl⟩,Y1⟩,⟨rfl,rfl,Y1,⟨rfl,W7⟩,Y1⟩,Y1,Z6,Y1,Y1,H9,⟨W7,λi _=>W7⟩,Z6⟩,λx=>⟨λhx=>?_,λhx=>?_⟩⟩
  ·have hlt:=Y2 hx;obtain⟨e,hb,q⟩:=hn x.1 hlt;have e':9+(s.L.getD (s.S.toNat+x.1) dz).l-1=9+s.S+x.1:=e;rw[D8];refine⟨Y6 hlt,Q1,Z4 Z9,Z4 Z9,_,⟨Y1,hb⟩,(s.sd (cT s x.1),9+(s.L.getD (s.S.toNat+x.1) dz).l-1,J3 (s.L.getD (s.S.toNat+x.1) dz),v),⟨Y1,⟨Y1,Y1,Y1,Y1,Y1,H9,Z6⟩,?_⟩,Z4 Z9,⟨x.1+1,hlt⟩,⟨⟨Y1,rfl,Y1,rfl,X5,Z6⟩,⟨rfl,rfl,Y1,⟨rfl,congrArg List.length (uI s x.1)⟩,Y1⟩,Y1,Z6,Y1,Y1,H9,⟨congrArg List.length (uI s x.1),λi _=>congrArg (λL=>Z1 L i) (uI s x.1)⟩,Z6⟩,V5.ext_lt hlt⟩
   show(s.d.C++List.map (nR s) (List.range _)).length<=1048576;simp only[F7,List.length_map,j_g];omega
  ·have hx:x.1=I9 s lsn:=by have:=x.2;have:=X9 hx;omega
   rw[hx,xQ hc];refine⟨(s.sd (cT s (I9 s lsn)),v),⟨Y1,⟨Y1,Y1,Y1,Y1,Y1,H9,Z6⟩,W⟩,λY=>?_,λY=>?_⟩
   ·have Y:(U3 (cT s (I9 s lsn))).2=false:=(vY _).mp Y;exact⟨⟨Y.symm,Z6⟩,⟨rfl,rfl,Y1,Y1,rfl,Y1,rfl,Y1,(if_neg (by rw[Y];simp)).symm,⟨rfl,rfl⟩,rfl,Z6⟩,⟨rfl,X6 _ _⟩,Z6,Z6,⟨rfl,X6 _ _⟩,⟨rfl,rfl,mT _⟩,⟨rfl,X6 _ _⟩,⟨rfl,X6 _ _⟩,Z6⟩
   ·have Y:(U3 (cT s (I9 s lsn))).2=true:=(wT _).mp Y;exact⟨⟨Y.symm,Z6⟩,⟨rfl,rfl,Y1,Y1,rfl,Y1,rfl,Y1,(if_pos Y).symm,Y1⟩,Y1,Z6,Z6,Y1,H9,Y1,Y1,Z6⟩
theorem pP{a b c:Int}(h:V6 a b c=true):b<=a/\a<=c:=by simpa[V6] using h
theorem c7k{a b c:Int}(h:(!V6 a b c)=false):b<=a/\a<=c:=pP w9
theorem c3S{s:Sto}{lsn:Int}(h:F5 s=true)(l:lsn<=s.L.length)(M:iC s):mC s lsn:=by
 obtain⟨⟨f,e,d⟩,_⟩:=(G2 s).1 h;obtain⟨j,c2,_,_,C⟩:=(o4 s).1 f;obtain⟨_,_,n,_,_,_,g⟩:=j;have d:=pP d;refine⟨M.1,Z9,λi hi=>?_,c2,d.1,d.2,C,l,λi hi=>?_⟩
 ·have:=g i hi;unfold P2 at this;simp only[wR,wT] at this;have:=pP this.1;omega
 ·obtain⟨a,b⟩:=C2.1 e i hi;exact⟨b,b92 a⟩
theorem b0c{d:Dsk}(h:nM d):nM (U3 d).1:=by
 obtain⟨e,g,f⟩:=h;unfold U3;split
 ·exact⟨by unfold crD;dsimp only;rw[A6];exact e,Y1⟩
 ·exact⟨by dsimp only;rw[A6];exact e,N7 _,f⟩
theorem cL{s:Sto}{lsn:Int}(h:mC s lsn)(M:iC s):iC (V8 s lsn).1:=by
 by_cases l:lsn<=s.S
 ·rw[xD l];exact M
 ·rw[xQ l];exact⟨b0c (a1k h).1,M.2.1,M.2.2.1,M.2.2.2⟩
def a81:Con:=.rel ⟨Dsk×Int×Bz,λx=>[.agg x.1.ts,Ji x.2.1,.str x.2.2],λx=>.agg (wrD x.1 x.2.1 x.2.2).ts,λx=>x.1.C.length<=1048576⟩
theorem kA:GK 134 a81:=gk func134<|by
 rintro⟨d,at_,t⟩ (h:d.C.length<=1048576);exact U5 gN func134 Z3 (α:=let r:=(d.C++[Pend.mk at_ t]);let q:=(0+d.C.length+1);let p:=(0+d.C.length);(Le 0 0/\U8 0 d.C.length 24)/\(Le 1 1/\Le p p/\U8 p 1 24)/\Le (0+q) q/\(Z0 Z5 d.E d.E)/\(0+d.C.length+1=r.length/\Z8 q (X4 (X4 (tk 2 []) 0 (Z1 d.C)) p (tk 2 [Ji at_,T.str t])) (Z1 r))/\d.A=d.A/\(Z0 Y9 d.keep d.keep)/\True) ⟨⟨U9 _,Q9⟩,⟨U9 _,U9 _,Q9⟩,J9,Y1,⟨W7,by rw[D2];exact a32 d.C ⟨at_,t⟩⟩,Y1⟩
def c4H(l:List T):Option Ob:=some (.arr false 1000000 4 1 λ_=>l)
def b1a(l:List T):Option Ob:=some (.arr true 1000000 4 1 λ_=>l)
def c8M:List T:=[.v (.slice none 0 0),.v (.slice none 0 0),.bool false,.v (.slice none 0 0)]
def a9i:Con:=.rel ⟨Dsk×List Int,λx=>[.agg x.1.ts,sM x.2],λx=>.agg (crD x.1 x.2).ts,λx=>nM x.1/\aL x.1⟩
def a7S(d:Dsk)(K:List Int):Nat->Ann
 |0=>.one (Up d.C.length) (λx=>⟨[(1,sM K),(2,.ref 0 0 0),(4,.ref 1 0 0),(5,.ref 2 0 0),(6,Ji x.1)],[b1a d.ts,b1a c8M,c4H (d.tm 3),some (.arr true 0 1 d.E.length (Z5 (zP d.E d.C (kp K) x.1))),D1 d.C,z8 d.keep]⟩) (λx=>d.C.length-x.1) c4J c4n (λ_=>Z3)
 |_=>.none
theorem K7{p:Prop}(h:p:=by repeat' first|exact trivial|exact rfl|exact X6 _ _|exact mT _|exact P0|exact tZ _|exact U9 _|exact N7 _|refine And.intro ?_ ?_):p:=h
theorem a34:GK 220 a9i:=gk func220<|by
 rintro⟨d,K⟩ ⟨⟨l,f,g⟩,i⟩;dsimp only at l f g i;refine U5 (gC lN gN) func220 (a7S d K) (α:=let m:=(Z0 Y9 K K);let k:=(Z0 Y9 d.keep d.keep);let j:=(oo (zI d d));let w:=(zP d.E d.C (kp K) d.C.length);let z:=(0=0/\0=0);let r:=(oo ((0=0/\d.E.length=d.E.length)/\(0=0/\d.C.length=d.C.length)/\d.A=d.A/\(0=0/\d.keep.length=d.keep.length)/\True));let p:=(oo (Value.slice none 0 0=Value.slice none 0 0/\Value.slice none 0 0=Value.slice none 0 0/\false=false/\Value.slice none 0 0=Value.slice none 0 0/\True));∃(x:Dsk),(((zI d x)/\True)/\nM x)/\(∃(X:Up d.C.length),(m/\z/\z/\z/\0=(X.val:Int)/\True)/\j/\p/\(oo ((0=0/\x.E.length=d.E.length)/\(0=0/\x.C.length=d.C.length)/\x.A=d.A/\(0=0/\x.keep.length=d.keep.length)/\True))/\(x.E.length=d.E.length/\Z8 x.E.length (Z5 x.E) (Z5 (zP d.E d.C (kp K) X.val)))/\(Z0 Z1 x.C d.C)/\(Z0 Y9 x.keep d.keep)/\True)/\∀(x:Up d.C.length),let f:=(d.C.length-x.1);let v:=(Z5 (zP d.E d.C (kp K) x.1));let q:=(x.1:Int);let n:=(q<(K.length:Int));let u:=(d.C.getD q.toNat dz);bd (q<(d.C.length:Int)) ((decide n=true->W9 q K.length)/\br (decide n&&K.getD q.toNat (0:Int) !=0) (W9 q d.C.length/\W9 q d.C.length/\W9 u.at_ d.E.length/\Lt (0+u.at_.toNat) d.E.length/\Ri (q+1)/\∃(y:Up d.C.length),((m/\z/\z/\z/\q+1=(y.1:Int)/\True)/\j/\p/\r/\(d.E.length=d.E.length/\Z8 d.E.length (setRow v (0+u.at_.toNat) 0 [T.str u.d]) (Z5 (zP d.E d.C (kp K) y.1)))/\(Z0 Z1 d.C d.C)/\k/\True)/\Lt (d.C.length-y.1) f) (Ri (q+1)/\∃(y:Up d.C.length),((m/\z/\z/\z/\q+1=(y.1:Int)/\True)/\j/\p/\r/\(d.E.length=d.E.length/\Z8 d.E.length v (Z5 (zP d.E d.C (kp K) y.1)))/\(Z0 Z1 d.C d.C)/\k/\True)/\Lt (d.C.length-y.1) f)) ((Le (0+d.E.length) d.E.length/\Le 0 0/\Le 0 0)/\(d.E.length=w.length/\Z8 d.E.length v (Z5 w))/\(0=0/\Z8 0 (tk 2 []) (Z1 []))/\false=false/\(0=0/\Z8 0 (tk 1 []) (Y9 []))/\True)) ⟨d,⟨Y1,l,f,g⟩,⟨⟨0,N7 _⟩,K7⟩,λx=>⟨λhc=>?_,λhc=>?_⟩⟩
 ·have t:=Y2 hc;have n:(decide ((x.1:Int)<(K.length:Int))&&K.getD x.1 0 !=0)=kp K x.1:=by
   unfold kp;rw[show decide ((x.1:Int)<(K.length:Int))=decide (x.1<K.length) from decide_eq_decide.2 Z9]
  have A:=i x.1 t;rw[D8,n];refine⟨λh=>Y6 (Y2 h),λe=>?_,λe=>?_⟩
  ·exact⟨Y6 t,Y6 t,A,Q1,Z4 Z9,⟨x.1+1,t⟩,⟨⟨Y1,Y1,Y1,Y1,X5,Z6⟩,Y1,K7,K7,⟨rfl,hV e⟩,K7⟩,V5.ext_lt t⟩
  ·exact⟨Z4 Z9,⟨x.1+1,t⟩,⟨⟨Y1,Y1,Y1,Y1,X5,Z6⟩,Y1,K7,K7,⟨rfl,λj _=>by dsimp only;rw[c4P e]⟩,K7⟩,V5.ext_lt t⟩
 ·have hx:x.1=d.C.length:=by have:=x.2;have:=X9 hc;omega
  rw[hx];exact⟨K7,⟨(A6 _ _ _ _).symm,X6 _ _⟩,K7⟩
def b1T:Con:=.rel ⟨Dsk,λd=>[.agg d.ts],λd=>.tup [.agg (U3 d).1.ts,.bool (U3 d).2],λd=>nM d/\aL d⟩
def b3K(d:Dsk):Nat->Ann
 |0=>.one (Up d.C.length) (λx=>⟨[(1,.ref 0 0 0),(2,.ref 1 0 0),(4,.ref 2 0 0),(5,Ji x.1)],[b1a d.ts,b1a c8M,c4H (d.tm 3),some (.arr true 0 1 d.E.length (Z5 (zP d.E d.C (λ_=>true) x.1))),D1 d.C,z8 d.keep]⟩) (λx=>d.C.length-x.1) c4J c4n (λ_=>Z3)
 |_=>.none
theorem dA:GK 133 b1T:=gk func133<|by
 rintro(d:Dsk) ⟨⟨h1,h2,h3⟩,h4⟩;refine U5 (gC a34 (gC lN gN)) func133 (b3K d) (α:=let v:=(U3 d).1.C.length;let z:=(0=0/\0=0);let p:=(oo (Value.slice none 0 0=Value.slice none 0 0/\Value.slice none 0 0=Value.slice none 0 0/\false=false/\Value.slice none 0 0=Value.slice none 0 0/\True));br d.A (∃(x:(Dsk×List Int)),(((zI d x.1)/\(Z0 Y9 d.keep x.2)/\True)/\nM x.1/\aL x.1)/\((Z0 Z5 (zP x.1.E x.1.C (kp x.2) x.1.C.length) (U3 d).1.E)/\(0=v/\Z8 0 (Z1 []) (Z1 (U3 d).1.C))/\false=(U3 d).1.A/\(0=(U3 d).1.keep.length/\Z8 0 (Y9 []) (Y9 (U3 d).1.keep))/\True)/\false=(U3 d).2/\True) (∃(x:Dsk),(((zI d x)/\True)/\nM x)/\(∃(X:Up d.C.length),(z/\z/\z/\0=(X.val:Int)/\True)/\(oo (zI d d))/\p/\(oo ((0=0/\x.E.length=d.E.length)/\(0=0/\x.C.length=d.C.length)/\x.A=d.A/\(0=0/\x.keep.length=d.keep.length)/\True))/\(x.E.length=d.E.length/\Z8 x.E.length (Z5 x.E) (Z5 (zP d.E d.C (λ(x:Nat)=>true) X.val)))/\(Z0 Z1 x.C d.C)/\(Z0 Y9 x.keep d.keep)/\True)/\∀(x:Up d.C.length),let w:=(λ(x:Nat)=>true);let u:=(Z5 (zP d.E d.C w x.1));let r:=(x.1:Int);let q:=(d.C.getD r.toNat dz);bd (r<(d.C.length:Int)) (W9 r d.C.length/\W9 r d.C.length/\W9 q.at_ d.E.length/\Lt (0+q.at_.toNat) d.E.length/\Ri (r+1)/\∃(y:Up d.C.length),((z/\z/\z/\r+1=(y.1:Int)/\True)/\(oo (zI d d))/\p/\(oo ((0=0/\d.E.length=d.E.length)/\(0=0/\d.C.length=d.C.length)/\d.A=d.A/\(0=0/\d.keep.length=d.keep.length)/\True))/\(d.E.length=d.E.length/\Z8 d.E.length (setRow u (0+q.at_.toNat) 0 [T.str q.d]) (Z5 (zP d.E d.C w y.1)))/\(Z0 Z1 d.C d.C)/\(Z0 Y9 d.keep d.keep)/\True)/\Lt (d.C.length-y.1) (d.C.length-x.1)) ((Le (0+d.E.length) d.E.length/\Le 0 0/\Le (0+d.keep.length) d.keep.length)/\((d.E.length=(U3 d).1.E.length/\Z8 d.E.length u (Z5 (U3 d).1.E))/\(0=v/\Z8 0 (tk 2 []) (Z1 (U3 d).1.C))/\d.A=(U3 d).1.A/\(Z0 Y9 d.keep (U3 d).1.keep)/\True)/\true=(U3 d).2/\True))) ⟨λhd=>?_,λhd=>?_⟩
 ·have e:U3 d=(crD d d.keep,false):=by unfold U3;rw[if_pos hd]
  rw[e];exact⟨(d,d.keep),⟨Y1,⟨h1,h2,h3⟩,h4⟩,K7⟩
 ·have e:U3 d=(⟨zP d.E d.C (λ_=>true) d.C.length,[],d.A,d.keep⟩,true):=by unfold U3;rw[if_neg (by rw[hd];simp)]
  rw[e];refine⟨d,⟨Y1,h1,h2,h3⟩,⟨⟨0,N7 _⟩,K7⟩,λx=>⟨λhc=>?_,λhc=>?_⟩⟩
  ·have h:=Y2 hc;have A:=h4 x.1 h;rw[D8];exact⟨Y6 h,Y6 h,A,Q1,Z4 Z9,⟨x.1+1,h⟩,⟨⟨Y1,Y1,Y1,X5,Z6⟩,Y1,K7,K7,⟨rfl,hV (Q:=λ_=>true) rfl⟩,K7⟩,V5.ext_lt h⟩
  ·have hx:x.1=d.C.length:=by have:=x.2;have:=X9 hc;omega
   rw[hx];exact⟨K7,⟨⟨(A6 _ _ _ _).symm,X6 _ _⟩,K7⟩,K7⟩
def c8z(l:List T):Option Ob:=some (.arr true 1000000 9 1 λ_=>l)
def a7f:Con:=.rel ⟨Sto×Int,λx=>[.agg x.1.ts,Ji x.2],λx=>.tup [.agg (V8 x.1 x.2).1.ts,.bool (V8 x.1 x.2).2],λx=>mC x.1 x.2⟩
def a7N(s:Sto)(lsn:Int):Nat->Ann
 |0=>.one (Up (I9 s lsn)) (λx=>⟨[(1,Ji lsn),(2,.ref 0 0 0),(4,.ref 1 0 0),(6,Ji (s.S+x.1+1))],[c8z (s.sd (cT s x.1)).ts,b58]⟩) (λx=>I9 s lsn-x.1) iQ iQ (λ_=>Z3)
 |_=>.none
theorem a4g:GK 138 a7f:=gk func138<|by
 rintro⟨s,lsn⟩ h;dsimp only at h;have n:=λi=>fY (i:=i) h
 have W:=a1k h;obtain⟨⟨A,t,C⟩,j,l,u,z,o,v,g,r⟩:=h;have N:I9 s lsn<=60:=by unfold I9;omega
 refine U5 (gC a5f (gC kA (gC dA gN))) func138 (a7N s lsn) (α:=let w:=(Z0 V9 s.fr s.fr);let u:=(0=0/\0=0);let z:=(V8 s lsn);let p:=(oo (Value.slice none 0 0=Value.slice none 0 0/\Value.slice none 0 0=Value.slice none 0 0/\false=false/\Value.slice none 0 0=Value.slice none 0 0/\(0:Int)=0/\Value.slice none 0 0=Value.slice none 0 0/\(0:Int)=0/\Value.slice none 0 0=Value.slice none 0 0/\(0:Int)=0/\True));bd (lsn<=s.S) ((yR s z.1)/\true=z.2/\True) (Ri (s.S+1)/\(∃(x:Up (I9 s lsn)),(lsn=lsn/\u/\u/\s.S+1=s.S+(x.1:Int)+1/\True)/\(oo ((Z0 Z5 s.d.E s.d.E)/\(Z0 Z1 s.d.C (s.d.C++List.map (nR s) (List.range x.1)))/\s.d.A=s.d.A/\(Z0 Y9 s.d.keep s.d.keep)/\s.ep=s.ep/\(Z0 Y0 s.L s.L)/\s.S=s.S/\w/\s.J=s.J/\True))/\p/\True)/\∀(x:Up (I9 s lsn)),let r:=(s.d.C++List.map (nR s) (List.range x.1));let q:=(x.1:Int);let j:=(s.S+q+1);let v:=(s.S+q+1-1);bd (s.S+q+1<=lsn) (Ri (9+j)/\Ri (9+j-1)/\Ri v/\W9 v s.L.length/\∃(X:Rec),(((EqR (s.L.getD v.toNat dz) X)/\True)/\a7t X)/\∃(f:(Dsk×Int×Bz)),((((Z0 Z5 s.d.E f.1.E)/\(Z0 Z1 r f.1.C)/\s.d.A=f.1.A/\(Z0 Y9 s.d.keep f.1.keep)/\True)/\9+j-1=f.2.1/\J3 X=f.2.2/\True)/\f.1.C.length<=1048576)/\Ri (s.S+q+1+1)/\∃(y:Up (I9 s lsn)),((lsn=lsn/\u/\u/\s.S+q+1+1=s.S+(y.1:Int)+1/\True)/\(oo ((Z0 Z5 f.1.E s.d.E)/\(Z0 Z1 (f.1.C++[Pend.mk f.2.1 f.2.2]) (s.d.C++List.map (nR s) (List.range y.1)))/\f.1.A=s.d.A/\(Z0 Y9 f.1.keep s.d.keep)/\s.ep=s.ep/\(Z0 Y0 s.L s.L)/\s.S=s.S/\w/\s.J=s.J/\True))/\p/\True)/\Lt (I9 s lsn-y.1) (I9 s lsn-x.1)) (∃(X:Dsk),((((Z0 Z5 s.d.E X.E)/\(Z0 Z1 r X.C)/\s.d.A=X.A/\(Z0 Y9 s.d.keep X.keep)/\True)/\True)/\nM X/\aL X)/\br (U3 X).2 ((yR {s with d:=(U3 X).1,S:=lsn} z.1)/\(U3 X).2=z.2/\True) ((yR {s with d:=(U3 X).1} z.1)/\(U3 X).2=z.2/\True)))) ⟨λhc=>?_,λhc=>?_⟩
 ·rw[xD (G5 hc)];exact K7
 ·have hc:=r8 hc;refine⟨Z4 Z9,⟨⟨0,N7 _⟩,⟨rfl,Y1,Y1,X5,Z6⟩,⟨rfl,rfl,Y1,⟨W7,λi _=>W7⟩,K7⟩,K7⟩,λx=>⟨λhx=>?_,λhx=>?_⟩⟩
  ·have hlt:x.1<I9 s lsn:=by have:=G5 hx;unfold I9;omega
   obtain⟨e,B,q⟩:=n x.1 hlt;rw[show(s.S+(x.1:Int)+1-1).toNat=s.S.toNat+x.1 by omega]
   refine⟨Z4 Z9,Z4 Z9,Z4 Z9,⟨Z9,Z9⟩,_,⟨Y1,B⟩,(cT s x.1,(nR s x.1).at_,J3 (s.L.getD (s.S.toNat+x.1) dz)),⟨⟨K7,by show _=(nR s x.1).at_;rw[e];omega,rfl,Z6⟩,?_⟩,Z4 Z9,⟨x.1+1,hlt⟩,⟨⟨rfl,⟨rfl,rfl⟩,⟨rfl,rfl⟩,X5,Z6⟩,⟨rfl,rfl,⟨rfl,X6 _ _⟩,⟨congrArg List.length (uI s x.1),λi _=>congrArg (λL=>Z1 L i) (uI s x.1)⟩,K7⟩,K7⟩,V5.ext_lt hlt⟩
   show(s.d.C++List.map (nR s) (List.range _)).length<=1048576;simp only[F7,List.length_map,j_g];omega
  ·have hx:x.1=I9 s lsn:=by have:=x.2;have:=r8 hx;unfold I9 at*;omega
   rw[hx,xQ hc];refine⟨cT s (I9 s lsn),⟨⟨K7,Z6⟩,W⟩,λY=>⟨⟨Y1,Y1,rfl,Y1,rfl,Y1,(if_pos Y).symm,K7⟩,K7⟩,λY=>⟨⟨Y1,Y1,rfl,Y1,rfl,Y1,(if_neg (by rw[Y];simp)).symm,K7⟩,K7⟩⟩
def c1y(l:Bz)(L:List (Bz)):Nat->Ann
 |0=>.one (Up L.length) (λx=>⟨[(0,.osl 1 0 (l++V7 L x.1).length),(13,s9 L),(14,Ji L.length),(15,Ji x.1)],[none,some (.bys 5 (l++V7 L x.1))]⟩) (λx=>L.length-x.1) [.arr 0,.arr 2] [.arr 0,.at_ 0] (λ_=>Z3)
 |_=>.none
def a04:Con:=.reff ⟨Bz×List (Bz),λx=>[.osl 0 0 x.1.length,s9 x.2],λx=>[some (.bys 5 x.1)],λx=>.osl 1 0 (x.1++S4 x.2).length,λx=>[none,some (.bys 5 (x.1++S4 x.2))],λx=>x.1.length<=1000/\k8 x.2⟩
theorem bI:GK 332 a04:=gk func332<|by
 rintro⟨l,L⟩ ⟨g,h,h3⟩;dsimp only at g h h3;have f:List.take l.length l++List.take 1 (List.drop 0 (List.map R0 [IntKind.u8.wrap (L.length:Int)]))=l++V7 L 0:=by rw[j_l];rfl
 refine C4 gN func332 (c1y l L) [[.arr 0,.arr 1]] (α:=let z:=(L.length:Int);R1 IntKind.u8 (IntKind.u8.wrap z)/\(Le 1 1/\Le l.length l.length/\U8 l.length 1 1)/\(∃(x:Up L.length),((0=0/\l.length+1=(l++V7 L x.1).length)/\(Z0 Z5 L L)/\z=z/\0=(x.1:Int)/\True)/\True/\List.take l.length l++List.take 1 (List.drop 0 (List.map R0 [IntKind.u8.wrap z]))=l++V7 L x.1/\True)/\∀(x:Up L.length),let u:=(x.1:Int);let q:=(L.getD u.toNat []).length;let p:=(l++V7 L x.1).length;let r:=(List.take p (l++V7 L x.1)++List.take 1 (List.drop 0 (List.map R0 [IntKind.u8.wrap (↑q:Int)])));bd (u<z) (W9 u L.length/\R1 IntKind.u8 (IntKind.u8.wrap (↑q:Int))/\(Le 1 1/\Le p p/\U8 p 1 1)/\(Le (p+1) r.length/\U8 (p+1) q 1)/\Ri (u+1)/\∃(y:Up L.length),(((0=0/\p+1+q=(l++V7 L y.1).length)/\(Z0 Z5 L L)/\z=z/\u+1=(y.1:Int)/\True)/\True/\List.take (p+1) r++L.getD u.toNat []=l++V7 L y.1/\True)/\Lt (L.length-y.1) (L.length-x.1)) (((0=0/\p=(l++S4 L).length)/\True)/\True/\l++V7 L x.1=l++S4 L/\True)) ⟨O6 _,⟨U9 _,U9 _,Q9⟩,⟨⟨0,N7 _⟩,⟨⟨rfl,by simp[V7]⟩,⟨rfl,X6 _ _⟩,rfl,rfl,Z6⟩,Z6,f,Z6⟩,λx=>⟨λhc=>?_,λhc=>?_⟩⟩
 ·have hlt:=Y2 hc;have f1:=vX L h3 x.1 Z9
  have F:=h3 x.1 hlt;rw[D8];have i:(l++V7 L x.1).length<=1100000:=by rw[F7];omega
  have e:List.take (l++V7 L x.1).length (l++V7 L x.1)++List.take 1 (List.drop 0 (List.map R0 [IntKind.u8.wrap ((L.getD x.1 []).length:Int)]))=l++V7 L x.1++[yI (L.getD x.1 []).length]:=by
   rw[j_l];rfl
  rw[e];have d:(l++V7 L x.1++[yI (L.getD x.1 []).length]).length=(l++V7 L x.1).length+1:=by rw[F7];rfl
  refine⟨Y6 hlt,O6 _,⟨U9 _,U9 _,Q9⟩,⟨by rw[d];exact U9 _,Q9⟩,Z4 Z9,⟨x.1+1,hlt⟩,⟨⟨⟨rfl,?_⟩,Y1,rfl,X5,Z6⟩,Z6,?_,Z6⟩,V5.ext_lt hlt⟩
  ·simp only[V7,F7,List.length_cons,List.length_nil];omega
  ·rw[←d,j_l];simp only[V7,List.append_assoc]
 ·have hx:x.1=L.length:=by have:=x.2;have:=X9 hc;omega
  rw[hx];exact Y1
def b35:Con:=.reff ⟨Bz,λl=>[.osl 0 0 l.length],λl=>[some (.bys 5 l)],λl=>.osl 1 0 (l++z6 (zN l)).length,λl=>[none,some (.bys 5 (l++z6 (zN l)))],λl=>l.length<=1000000⟩
theorem a8I:GK 247 b35:=gk func247<|by
 intro(l:Bz) (hl:l.length<=1000000);have e:(z6 (zN l)).length=4:=rfl;have h:=a1X l;refine C4 (gC oR (gC a2T gN)) func247 Z3 [[.arr 0,.arr 1]] (α:=∃(x:(tX IntKind.u32).ι),(Le (0+l.length) l.length/\(List.take l.length (List.drop 0 l)=x/\True)/\u9 x)/\∃(X:Nat),((IntKind.i64.wrap (↑(zN x):Int)=(X:Int)/\True)/\X<4294967296)/\(Le l.length l.length/\U8 l.length 4 1)/\((0=0/\l.length+4=(l++z6 (zN l)).length)/\True)/\True/\List.take l.length l++z6 X=l++z6 (zN l)/\True) ⟨l,⟨J9,⟨cI,Z6⟩,a0X⟩,zN l,⟨⟨?_,Z6⟩,h⟩,⟨U9 _,Q9⟩,⟨⟨rfl,by rw[F7,e]⟩,Z6⟩,Z6,by rw[j_l],Z6⟩
 rw[IntKind.wrap_i64];omega
def a5o:Con:=.rmk ⟨Int×Pg,λx=>[Ji x.1,.agg x.2.ts],λ_=>[],λx=>.osl 0 0 (S3 x.1 x.2).length,λx=>[some (.bys 5 (S3 x.1 x.2))],λx=>PgP x.2⟩
theorem a2y:GK 272 a5o:=gk func272<|by
 rintro⟨no,p⟩ ⟨j,g,l,d⟩;dsimp only at j g l d;have f:k8 p.sl:=⟨Z9,λi hi=>Nat.le_trans (d i hi) M3⟩
 have h:=vX p.sl f.2 p.sl.length (U9 _);have h:(S4 p.sl).length<=5000:=by unfold S4;omega
 have e:List.map R0 [(112:Int),IntKind.u8.wrap no,IntKind.u8.wrap (p.Q.fdiv 256),IntKind.u8.wrap p.Q]=[R0 112,yI no]++yW p.Q.toNat:=by
  unfold yW;rw[show((p.Q.toNat:Nat):Int)=p.Q by omega,Int.fdiv_one]
  rfl
 refine⟨C4 (gC bI (gC a8I gN)) func272 Z3 [[.arr 3]] (α:=let q:=(p.Q.fdiv (256:Int));Nn (8:Int)/\(R1 IntKind.u8 (112:Int)/\R1 IntKind.u8 (IntKind.u8.wrap no)/\R1 IntKind.u8 (IntKind.u8.wrap q)/\R1 IntKind.u8 (IntKind.u8.wrap p.Q))/\∃(x:(Bz×List (Bz))),(((0=0/\4=x.1.length)/\(Z0 Z5 p.sl x.2)/\True)/\(List.map R0 [(112:Int),IntKind.u8.wrap no,IntKind.u8.wrap q,IntKind.u8.wrap p.Q]=x.1/\True)/\x.1.length<=1000/\k8 x.2)/\∃(X:(Bz)),(((0=0/\(x.1++S4 x.2).length=X.length)/\True)/\(x.1++S4 x.2=X/\True)/\X.length<=1000000)/\((0=0/\(X++z6 (zN X)).length=(S3 no p).length)/\True)/\X++z6 (zN X)=S3 no p/\True) ⟨m0,⟨(pH _).2 Z9,O6 _,O6 _,O6 _⟩,([R0 112,yI no]++yW p.Q.toNat,p.sl),⟨Y1,⟨e,Z6⟩,by simp[yW],f⟩,sC no p,⟨⟨⟨rfl,rfl⟩,Z6⟩,⟨rfl,Z6⟩,?_⟩,⟨⟨rfl,rfl⟩,Z6⟩,rfl,Z6⟩,rfl,B0 trivial v7⟩
 unfold sC;rw[F7,F7];have n:(yW p.Q.toNat).length=2:=rfl;simp only[List.length_cons,List.length_nil];omega
def a8B:Con:=.rmk ⟨Unit,λ_=>[],λ_=>[],λ_=>.agg (Pg.tm ⟨0,[[],[],[],[]]⟩ 0),λ_=>[z9 [[],[],[],[]]],λ_=>True⟩
theorem a54(h:
  (Nn (4:Int)/\LeI (4:Int) (4:Int)/\yN 16 4 140737488355328/\Lt 4 9223372036854775808)/\(((0:Int)=0/\(0=0/\4=4)/\True)/\True)/\(4=4/\Z8 4 (λ(x:Nat)=>[T.str []]) (Z5 [[],[],[], []]))/\True):
  G1 prog 273 [] [] (.agg (Pg.tm ⟨0,[[],[],[],[]]⟩ 0)) [z9 [[],[],[],[]]]:=
 C4 gN func273 Z3 [[.arr 1]] h
theorem a5A:GK 273 a8B:=gk func273<|λ_ _=>⟨a54 ⟨⟨m0,sG,sW,Q1⟩,Y1,⟨rfl,gS⟩,Z6⟩,rfl,z5 _⟩
def b3M:Con:=.reff ⟨Bz×Bool,λ_=>[.ref 0 0 0],λx=>[rdr x.1 x.2],λx=>.osl 1 0 (U1 x.1 x.2).out.length,λx=>[rdr (U1 x.1 x.2).l (U1 x.1 x.2).fl,z9 (U1 x.1 x.2).out],λ_=>True⟩
theorem a6B:GK 322 b3M:=gk func322<|by
 rintro⟨l,fl⟩ _;have n:=r5 l;refine C4 (gC eI (gC qH gN)) func322 (a5m l fl) [b5p] (α:=let w:=(U1 l fl);(∃(x:Up ((numR l).toNat)),let q:=(F0 l fl x.1);((0=0/\0=0)/\(0=0/\0=q.out.length)/\numR l=numR l/\0=(x.1:Int)/\True)/\(oo (List.drop 1 l=q.l/\(fl||l.isEmpty)=q.fl/\True))/\(0=q.out.length/\Z8 0 (tk 1 []) (Z5 q.out))/\True)/\∀(x:Up ((numR l).toNat)),let j:=(x.1:Int);let p:=(F0 l fl x.1);let v:=(numR p.l);let u:=(List.drop 1 p.l);let z:=p.out.length;bd (j<numR l) (r7 v/\(Le 1 1/\Le p.out.length z/\U8 p.out.length 1 16)/\Ri (j+1)/\∃(y:Up ((numR l).toNat)),let r:=(F0 l fl y.1);(((0=0/\0=0)/\(0=0/\z+1=r.out.length)/\numR l=numR l/\j+1=(y.1:Int)/\True)/\(oo (Q7 u v=r.l/\(p.fl||p.l.isEmpty||big u v)=r.fl/\True))/\(z+1=r.out.length/\Z8 (z+1) (X4 (Z5 p.out) p.out.length (tk 1 [T.str (T3 u v)])) (Z5 r.out))/\True)/\Lt ((numR l).toNat-y.1) ((numR l).toNat-x.1)) (((0=0/\z=w.out.length)/\True)/\(oo (p.l=w.l/\p.fl=w.fl/\True))/\(Z0 Z5 p.out w.out)/\True)) ⟨⟨⟨0,N7 _⟩,Y1,Y1,⟨rfl,nD _ _⟩,Z6⟩,λx=>⟨λhc=>?_,λhc=>?_⟩⟩
 ·have t:(x.1:Int)<numR l:=G5 hc;have h:=uF l fl x.1;have M:=r5 (F0 l fl x.1).l;exact⟨⟨M.1,Z9⟩,⟨U9 _,U9 _,Z9,Z9⟩,Z4 Z9,⟨x.1+1,Z9⟩,⟨⟨Y1,⟨rfl,(congrArg (· +1) h).trans (uF l fl (x.1+1)).symm⟩,rfl,L9,Z6⟩,Y1,⟨(congrArg (· +1) h).trans (uF l fl (x.1+1)).symm,a2H _ _⟩,Z6⟩,nB⟩
 ·have hge:¬ (x.1:Int)<numR l:=r8 hc;have hx:=x.2;have he:x.1=(numR l).toNat:=by omega
  rw[he];exact Y1
def a5j:Con:=.rmk ⟨Int×Bz,λx=>[Ji x.1,.bys x.2],λ_=>[],λx=>.tup [.agg ((P1 x.1 x.2).tm 0),Ji (I2 x.1 x.2)],λx=>[z9 (P1 x.1 x.2).sl],λx=>RdB x.2⟩
theorem a2R:GK 274 a5j:=gk func274<|by
 rintro⟨no,b⟩ (hb:b.length<=1000);have L:∀(x:Bz),(T3 x 4).length=4:=λx=>by
  unfold T3;split
  ·exact List.length_replicate
  ·rename_i h;have:¬4>(x.length:Int):=by simpa[big] using h
   rw[List.length_take,show(4:Int).toNat=4 from rfl]
   omega
 refine⟨C4 (gC sJ (gC qH (gC a2K (gC a6B (gC qO (gC pE gN)))))) func274 Z3 [[.nilS 0 [0,1] 0 1,.arr 4],[.arr 2],[.nilS 0 [0,1] 0 1,.arr 1]] (α:=let w:=(P1 no b);let r:=w.sl.length;let u:=(0=w.Q/\(0=0/\0=r)/\True);bd ((b.length:Int)>65536) (((u/\2=I2 no b/\True)/\True)/\(0=r/\Z8 0 (λ(x:Nat)=>[]) (Z5 w.sl))/\True) (∃(x:tF.ι),let y:=(0=r/\Z8 0 (λ(x:Nat)=>[]) (Z5 w.sl));let p:=(T3 (X1 x) (4:Int));let j:=(↑(p.getD 1 (0:UInt8)).toNat:Int);let z:=(↑(p.getD 0 (0:UInt8)).toNat:Int);((b=x/\True)/\u9 x)/\br (!R9 x) (((u/\8=I2 no b/\True)/\True)/\y/\True) (r7 (4:Int)/\jX (2:Int) p.length/\∃(e:a5M.ι),((List.drop 2 p=e/\True)/\mK e)/\∃(X:(Bz×Bool)),let v:=(U1 X.1 X.2);let k:=v.out.length;let q:=(! v.fl&&v.l.isEmpty);(((0=0/\0=0)/\True)/\((1=1/\Z8 1 (λ(d:Nat)=>[T.bys (Q7 (X1 x) (4:Int)),T.bool (false||big (X1 x) (4:Int))]) λ(x:Nat)=>[T.bys X.1,T.bool X.2])/\True)/\True)/\((! q)=false->W9 (0:Int) p.length)/\((! q||z !=112)=false->W9 (1:Int) p.length)/\∃(d:xA.ι),((! q||z !=112||IntKind.i64.wrap j !=no)=false->Le (0+k) k/\(((↑(be e):Int)=d.Q/\(Z0 Z5 v.out d.sl)/\True)/\True)/\PgB d)/\br (! q||z !=112||IntKind.i64.wrap j !=no|| !j8 d) (((u/\3=I2 no b/\True)/\True)/\y/\True) (((((↑(be e):Int)=w.Q/\(0=0/\k=r)/\True)/\0=I2 no b/\True)/\True)/\(Z0 Z5 v.out w.sl)/\True)))) ⟨λh=>?_,λ_=>⟨b,⟨Y1,Nat.le_trans hb M3⟩,λh=>?_,λh=>⟨⟨Z9,Z9⟩,⟨Z9,a0c⟩,(T3 (X1 b) 4).drop 2,⟨Y1,by unfold mK;rw[List.length_drop,L];omega⟩,
  (Q7 (X1 b) 4,false||big (X1 b) 4),K7,λ_=>⟨Z9,a0c⟩,λ_=>⟨Z9,a0c⟩,rpQ (X1 b),λ_=>⟨tZ _,Y1,?_⟩,λg=>?_,λg=>?_⟩⟩⟩,rfl,z5 _⟩
 ·have:=G5 h;omega
 ·have hu:R9 b=false:=by simpa using h
  have f:(E3 no b).2=false:=by unfold E3;rw[hu];rfl
  have i:P1 no b=⟨0,[]⟩:=by unfold P1;rw[f];rfl
  have j:I2 no b=8:=by unfold I2;rw[hu];rfl
  rw[i,j];exact K7
 ·show(U1 (Q7 (X1 b) 4) (false||big (X1 b) 4)).out.length<1000000000000;unfold U1;rw[uF];have:=r5 (Q7 (X1 b) 4);omega
 ·have hu:R9 b=true:=by simpa using h
  have q:=(b0n no b hu).1;have f:(E3 no b).2=false:=by
   have g:(mP no (X1 b)|| !j8 (rpQ (X1 b)))=true:=g;rw[g] at q;exact(vY _).mp q.symm
  have i:P1 no b=⟨0,[]⟩:=by unfold P1;rw[f];rfl
  have j:I2 no b=3:=by unfold I2;rw[hu,f];rfl
  rw[i,j];exact K7
 ·have hu:R9 b=true:=by simpa using h
  have q:=b0n no b hu;have f:(E3 no b).2=true:=by
   have g:(mP no (X1 b)|| !j8 (rpQ (X1 b)))=false:=g;rw[g] at q;exact(wT _).mp q.1.symm
  have i:P1 no b=rpQ (X1 b):=by unfold P1;rw[f,q.2 f];rfl
  have j:I2 no b=0:=by unfold I2;rw[hu,f];rfl
  rw[i,j];exact K7
def DkB(x:Dsk×Nat):Prop:=1+x.2<x.1.E.length/\x.1.E.length<=1048576/\x.1.C.length<=1048576/\(S0 x.1 (1+x.2)).length<=1000
def b7x:Con:=.rmk ⟨Dsk×Nat,λx=>[.bref x.1.ts,Ji x.2],λ_=>[],λx=>.tup [.agg ((T0 x.1 x.2).1.tm 0),.bool (T0 x.1 x.2).2],λx=>[z9 (T0 x.1 x.2).1.sl],DkB⟩
theorem aQ:GK 187 b7x:=gk func187<|by
 rintro⟨d,no⟩ ⟨g,i,j,f⟩;dsimp only at g i j f;refine⟨C4 (gC dM (gC a5A (gC a2R gN))) func187 Z3 [[.arr 1]] (α:=let p:=(T0 d no);let q:=p.1.sl.length;Ri (1+(no:Int))/\∃(x:oE.ι),(((zI d x.1)/\1+(no:Int)=(x.2:Int)/\True)/\AtB x)/\br (S0 x.1 x.2==[]) (∃(x:Unit),(True/\True)/\(((0=p.1.Q/\(0=0/\4=q)/\True)/\true=p.2/\True)/\True)/\(4=q/\Z8 4 (Z5 [[],[],[],[]]) (Z5 p.1.sl))/\True) (Lt (S0 x.1 x.2).length 140737488355329/\∃(X:(Int×Bz)),let r:=(P1 X.1 X.2);(((no:Int)=X.1/\S0 x.1 x.2=X.2/\True)/\RdB X.2)/\(((r.Q=p.1.Q/\(0=0/\r.sl.length=q)/\True)/\(I2 X.1 X.2==0)=p.2/\True)/\True)/\(Z0 Z5 r.sl p.1.sl)/\True)) ⟨Z4 Z9,(d,1+no),⟨⟨eqD _,L9,Z6⟩,g,L9⟩,λh=>⟨(),Y1,?_⟩,λh=>⟨nB,((no:Int),S0 d (1+no)),⟨Y1,f⟩,?_⟩⟩,rfl,z5 _⟩
 ·have h:S0 d (1+no)=[]:=by simpa using h
  have e:T0 d no=(⟨0,[[],[],[],[]]⟩,true):=by unfold T0;rw[if_pos h]
  rw[e];exact K7
 ·have h:S0 d (1+no)≠[]:=by simpa using h
  have e:T0 d no=(P1 no (S0 d (1+no)),(E3 no (S0 d (1+no))).2):=by unfold T0;rw[if_neg h]
  rw[e];exact⟨⟨⟨K7,a0G _ _,Z6⟩,Z6⟩,Y1⟩
structure SInv(s:Sto):Prop where
 sm:iC s
 c:s.d.C.length<=500
 pd:aL s.d
 n69:s.d.E.length=69
 su:0<=s.S/\s.S<=s.L.length
 l60:s.L.length<=60
 rc:yV s.L=true
 fr3:s.fr.length<=3
 frp:∀i,i<s.fr.length->0<=(s.fr.getD i dz).no/\(s.fr.getD i dz).no<=7/\PgP (s.fr.getD i dz).pg/\(s.fr.getD i dz).pg.Q<=s.L.length
 hd:0<=s.J/\s.J<=2
 pg:∀no,no<8->(P6 s.d no).2=true/\(S0 s.d (1+no)).length<=1000
theorem SInv.flu{s:Sto}(h:SInv s){lsn:Int}(l:lsn<=s.L.length):mC s lsn:=
 ⟨h.sm.1,by have:=h.c;omega,h.pd,h.n69,h.su.1,h.su.2,h.l60,l,λi hi=>by
  obtain⟨a,b⟩:=C2.1 h.rc i hi;exact⟨b,b92 a⟩⟩
theorem a9t{s:Sto}(h:F5 s=true)(M:iC s):SInv s:=by
 obtain⟨⟨q,l,e⟩,_,o,j,g⟩:=(G2 s).1 h;obtain⟨c1,c2,_,_,C⟩:=(o4 s).1 q;have F:=c3S (lsn:=0) h Z9 M
 have e:=pP e;have g:=pP g;unfold zC at j;simp only[J4,vY,P4,o7] at j;refine⟨M,c1.2.2.1,F.2.2.1,c2,e,C,l,Z9,λi hi=>?_,g,λno n=>⟨?_,?_⟩⟩
 ·have B:=j.1 i hi;unfold yY at B;simp only[wR,wT,uG] at B;obtain⟨⟨⟨⟨⟨d,_⟩,f⟩,r⟩,_⟩,_⟩:=B;have d:=pP d;have f:PgP (s.fr.getD i dz).pg:=G5 f;exact⟨d.1,d.2,f,Z9⟩
 ·have B:=o no n;unfold zW at B;simp only[wR,wT] at B;exact B.1
 ·have:=lV c1 (at_:=1+no) Z9
  omega
def y7(d:Dsk):Dsk×Bool:=if 500<=d.C.length then U3 d else(d,true)
def clF(f:Frm):Frm:=⟨f.no,f.pg,false,0⟩
def wrF(a:Sto)(k:Nat):Sto:=⟨wrD a.d (1+(a.fr.getD k dz).no) (S3 (a.fr.getD k dz).no (a.fr.getD k dz).pg),a.ep,a.L,a.S,a.fr.set k (clF (a.fr.getD k dz)),a.J⟩
def X3(s:Sto)(k:Nat):Sto×Bool:=if(s.fr.getD k dz).D=true then
  if(V8 s (s.fr.getD k dz).pg.Q).2=true then
   if(y7 (V8 s (s.fr.getD k dz).pg.Q).1.d).2=true then(wrF ((V8 s (s.fr.getD k dz).pg.Q).1.sd (y7 (V8 s (s.fr.getD k dz).pg.Q).1.d).1) k,true)
   else((V8 s (s.fr.getD k dz).pg.Q).1.sd (y7 (V8 s (s.fr.getD k dz).pg.Q).1.d).1,false)
  else((V8 s (s.fr.getD k dz).pg.Q).1,false)
 else(s,true)
def b7k:Con:=.reff ⟨Sto×Nat×Nat,λx=>[.ref 0 0 0,Ji x.2.1],λx=>x.1.bx x.2.2,λx=>.bool (X3 x.1 x.2.1).2,λx=>(X3 x.1 x.2.1).1.bxY x.2.2,λx=>SInv x.1/\x.2.1<x.1.fr.length⟩
theorem a08(s:Sto)(l:Int):(V8 s l).1.fr=s.fr:=by
 by_cases h:l<=s.S
 ·rw[xD h]
 ·rw[xQ h]
theorem xT(d:Dsk):(U3 d).1.C=[]:=by
 unfold U3;split<;>rfl
theorem b98{d:Dsk}(h:d.C=[]):aL d:=λi hi=>by rw[h] at hi;exact absurd hi (D0 _)
theorem a17{s:Sto}{l:Int}(h:aL s.d):aL (V8 s l).1.d:=by
 by_cases L:l<=s.S
 ·rw[xD L];exact h
 ·rw[xQ L];exact b98 (xT _)
theorem b0b{s:Sto}{l:Int}(h:s.d.C.length<=500):(V8 s l).1.d.C.length<=500:=by
 by_cases L:l<=s.S
 ·rw[xD L];exact h
 ·rw[xQ L];dsimp only;rw[xT];exact N7 _
theorem uH{s:Sto}{k:Nat}(h:(s.fr.getD k dz).D=false):X3 s k=(s,true):=by
 unfold X3;rw[if_neg cY]
theorem rN{s:Sto}{k:Nat}(h:(s.fr.getD k dz).D=true)(u:(V8 s (s.fr.getD k dz).pg.Q).2=false):X3 s k=((V8 s (s.fr.getD k dz).pg.Q).1,false):=by
 unfold X3;rw[if_pos h,if_neg (by rw[u];simp)]
theorem mR{s:Sto}{k:Nat}(h:(s.fr.getD k dz).D=true)(u:(V8 s (s.fr.getD k dz).pg.Q).2=true)(B:(y7 (V8 s (s.fr.getD k dz).pg.Q).1.d).2=false):X3 s k=((V8 s (s.fr.getD k dz).pg.Q).1.sd (y7 (V8 s (s.fr.getD k dz).pg.Q).1.d).1,false):=by
 unfold X3;rw[if_pos h,if_pos u,if_neg (by rw[B];simp)]
theorem eT{s:Sto}{k:Nat}(h:(s.fr.getD k dz).D=true)(u:(V8 s (s.fr.getD k dz).pg.Q).2=true)(B:(y7 (V8 s (s.fr.getD k dz).pg.Q).1.d).2=true):X3 s k=(wrF ((V8 s (s.fr.getD k dz).pg.Q).1.sd (y7 (V8 s (s.fr.getD k dz).pg.Q).1.d).1) k,true):=by
 unfold X3;rw[if_pos h,if_pos u,if_pos B]
theorem kH{d:Dsk}(h:500<=d.C.length):y7 d=U3 d:=if_pos h
theorem fM{d:Dsk}(h:¬500<=d.C.length):y7 d=(d,true):=if_neg h
theorem b9R{L:List Frm}{k:Nat}(hk:k<L.length):V2 L.length (setRow (setRow (Y5 L) k 3 [T.bool false]) k 4 [T.int IntKind.i64 0]) (Y5 (L.set k (clF (L.getD k dz)))):=tV λi _=>by
 have l:∀j,(Y5 L j).length=5:=λ_=>rfl
 by_cases h:i=k
 ·subst h;have e:(L.set i (clF (L.getD i dz))).getD i dz=clF (L.getD i dz):=by rw[P3,j_j hk];rfl
  unfold setRow;rw[iU rfl];unfold Y5;rw[e];rfl
 ·have e:(L.set k (clF (L.getD k dz))).getD i dz=L.getD i dz:=by rw[P3,j_k (Ne.symm h),←P3]
  rw[L4 (by rw[T6 (by rw[l];decide),l];decide) h,L4 (by rw[l];decide) h]
  unfold Y5;rw[e]
theorem b04{p:Prop}(h:p:=by rw[kH hc];exact hb):p:=h
theorem a03:GK 186 b7k:=gk func186<|by
 rintro⟨s,k,v⟩ ⟨h,g⟩;dsimp only at h g;have i:=h.frp k g;have F:=h.flu i.2.2.2;have r:=a08 s (s.fr.getD k dz).pg.Q;have u:=cL F h.sm;have t:=a17 (l:=(s.fr.getD k dz).pg.Q) h.pd;have q:=b0b (l:=(s.fr.getD k dz).pg.Q) h.c;have j:= @rN s k;have O:= @mR s k;have o:= @eT s k;refine C4 (gC b8B (gC a9V (gC a2y (gC a46 gN)))) func186 Z3 [[.box 0,.arr 1,.arr 2,.arr 3,.arr 4,.arr 5,.arr 11,.arr 9],[.box 0,.arr 1,.arr 2,.arr 3,.arr 4,.arr 5,.arr 9,.arr 7],[.box 0,.arr 1,.arr 2,.arr 3,.arr 4,.arr 5,.arr 8,.arr 9],[.box 0,.arr 1,.arr 2,.arr 3,.arr 4,.arr 5,.arr 6,.arr 7],c4E] (α:=let pn:=(X3 s k).1.L.length;let pk:=(X3 s k).1.d.C.length;let pj:=(X3 s k).1.d.E.length;let ph:=(X3 s k).1.d.keep.length;let pf:=(false=(X3 s k).2/\True);let pe:=(0=0/\0=0);let i:=(X3 s k).1.L;let c:=(true=(X3 s k).2/\True);let a:=(X3 s k).1.d.C;let g:=(X3 s k).1.d.E;let n:=(X3 s k).1.d.keep;let j:=(Y5 (X3 s k).1.fr);let z:=(X3 s k).1.fr.length;let p:=(0+(k:Int).toNat);let pd:=(s.fr.getD p dz);W9 (k:Int) s.fr.length/\Lt p s.fr.length/\((! pd.D)=true->c/\nN s (X3 s k).1/\(Z0 Z5 s.d.E g)/\True/\True/\(Z0 Y0 s.L i)/\(v=v/\s.fr.length=z/\V2 s.fr.length (Y5 s.fr) j)/\(Z0 Z1 s.d.C a)/\(Z0 Y9 s.d.keep n)/\True)/\((! pd.D)=false->Lt p s.fr.length/\∃(x:(Sto×Int×Nat)),let q:=(V8 x.1 x.2.1);let pc:=q.1.fr.length;let y:=(q.1.fr.getD p dz);let r:=((↑q.1.d.C.length:Int)≥(500:Int));((pe/\pd.pg.Q=x.2.1/\True)/\(LnS (v) (x.2.2) s x.1)/\mC x.1 x.2.1)/\∃(e:(Sto×Nat)),let pm:=e.1.fr;let b:=pm.length;let m:=(U3 e.1.d);let w:=(! q.2||decide r&& ! m.2);let u:=(pm.getD p dz);((! q.2)=false->decide r=true->(pe/\True)/\(LnS (x.2.2) (e.2) q.1 e.1)/\nM e.1.d/\aL e.1.d)/\((! q.2)=false->decide r=true->(w=true->pf/\nN {e.1 with d:=m.1} (X3 s k).1/\(Z0 Z5 m.1.E g)/\True/\True/\(Z0 Y0 e.1.L i)/\(e.2=v/\b=z/\V2 pm.length (Y5 pm) j)/\(Z0 Z1 m.1.C a)/\(Z0 Y9 m.1.keep n)/\True)/\(w=false->Lt p b/\R1 .i64 (1+u.no)/\Lt p b/\Lt p b/\∃(x:(Int×Pg)),let l:=(S3 x.1 x.2).length;(PoB e.2 e.2 p pm.length u.pg.sl.length u.pg.sl.length/\(u.no=x.1/\(u.pg.Q=x.2.Q/\(Z0 Z5 u.pg.sl x.2.sl)/\True)/\True)/\PgP x.2)/\Le (0+l) l/\∃(X:(Sto×Int×Bz×Nat)),let pa:=(X.1.d.C++[Pend.mk X.2.1 X.2.2.1]);((pe/\1+u.no=X.2.1/\List.take l (List.drop 0 (S3 x.1 x.2))=X.2.2.1/\True)/\(nN {e.1 with d:=m.1} X.1/\(Z0 Z5 m.1.E X.1.d.E)/\(Z0 Z1 m.1.C X.1.d.C)/\(Z0 Y9 m.1.keep X.1.d.keep)/\(Z0 Y0 e.1.L X.1.L)/\(e.2=X.2.2.2/\b=X.1.fr.length/\V2 pm.length (Y5 pm) (Y5 X.1.fr))/\True)/\X.1.d.C.length<=1048576)/\kV p X.1.fr.length [T.bool (X.1.fr.getD p dz).D]/\kV p X.1.fr.length [Ji (X.1.fr.getD p dz).first]/\c/\(1=1/\1=1/\(0=0/\X.1.d.E.length=pj)/\(0=0/\pa.length=pk)/\X.1.d.A=(X3 s k).1.d.A/\(0=0/\X.1.d.keep.length=ph)/\X.1.ep=(X3 s k).1.ep/\(0=0/\X.1.L.length=pn)/\X.1.S=(X3 s k).1.S/\(0=0/\X.1.fr.length=z)/\X.1.J=(X3 s k).1.J/\True)/\(Z0 Z5 X.1.d.E g)/\True/\True/\(Z0 Y0 X.1.L i)/\(X.2.2.2=v/\X.1.fr.length=z/\V2 X.1.fr.length (setRow (setRow (Y5 X.1.fr) p 3 [T.bool false]) p 4 [Ji 0]) j)/\(Z0 Z1 pa a)/\(Z0 Y9 X.1.d.keep n)/\True))/\(((! q.2)=false->decide r=true->False)->(w=true->pf/\nN q.1 (X3 s k).1/\(Z0 Z5 q.1.d.E g)/\True/\True/\(Z0 Y0 q.1.L i)/\(x.2.2=v/\pc=z/\V2 q.1.fr.length (Y5 q.1.fr) j)/\(Z0 Z1 q.1.d.C a)/\(Z0 Y9 q.1.d.keep n)/\True)/\(w=false->Lt p pc/\R1 .i64 (1+y.no)/\Lt p pc/\Lt p pc/\∃(X:(Int×Pg)),let t:=(S3 X.1 X.2).length;(PoB x.2.2 x.2.2 p q.1.fr.length y.pg.sl.length y.pg.sl.length/\(y.no=X.1/\(y.pg.Q=X.2.Q/\(Z0 Z5 y.pg.sl X.2.sl)/\True)/\True)/\PgP X.2)/\Le (0+t) t/\∃(f:(Sto×Int×Bz×Nat)),let pi:=f.1.fr;let pb:=(f.1.d.C++[Pend.mk f.2.1 f.2.2.1]);((pe/\1+y.no=f.2.1/\List.take t (List.drop 0 (S3 X.1 X.2))=f.2.2.1/\True)/\(LnS (x.2.2) (f.2.2.2) q.1 f.1)/\f.1.d.C.length<=1048576)/\kV p pi.length [T.bool (pi.getD p dz).D]/\kV p pi.length [Ji (pi.getD p dz).first]/\c/\(1=1/\1=1/\(0=0/\f.1.d.E.length=pj)/\(0=0/\pb.length=pk)/\f.1.d.A=(X3 s k).1.d.A/\(0=0/\f.1.d.keep.length=ph)/\f.1.ep=(X3 s k).1.ep/\(0=0/\f.1.L.length=pn)/\f.1.S=(X3 s k).1.S/\(0=0/\pi.length=z)/\f.1.J=(X3 s k).1.J/\True)/\(Z0 Z5 f.1.d.E g)/\True/\True/\(Z0 Y0 f.1.L i)/\(f.2.2.2=v/\pi.length=z/\V2 pi.length (setRow (setRow (Y5 pi) p 3 [T.bool false]) p 4 [Ji 0]) j)/\(Z0 Z1 pb a)/\(Z0 Y9 f.1.d.keep n)/\True)))) ?_
 rw[D8,show 0+k=k from D2 k]
 refine⟨Y6 g,g,λhd=>?_,λhd=>⟨g,(s,(s.fr.getD k dz).pg.Q,v),⟨Y1,⟨Y1,Y1,Y1,Y1,Y1,H9,Z6⟩,F⟩,((V8 s (s.fr.getD k dz).pg.Q).1,v),λ_ _=>⟨K7,⟨Y1,Y1,Y1,Y1,Y1,H9,Z6⟩,u.1,t⟩,λhu hc=>⟨λhb=>?_,λhb=>?_⟩,λn=>⟨λhb=>?_,λhb=>?_⟩⟩⟩
 ·rw[uH mQ]
  exact⟨Y1,Y1,Y1,Z6,Z6,Y1,H9,Y1,Y1,Z6⟩
 all_goals
  have hd:(s.fr.getD k dz).D=true:=mQ
  replace j:=j hd;replace O:=O hd;replace o:=o hd;dsimp only at*;generalize V8 s (s.fr.getD k dz).pg.Q=A at*;obtain⟨a,up⟩:=A;dsimp only at*;rw[←r] at g i
 ·have hu:up=true:=(wT _).mp hu;subst hu;have hc:500<=a.d.C.length:=by have:=G5 hc;omega
  have hb:(U3 a.d).2=false:=by simp at hb;exact hb.2
  rw[O rfl b04,kH hc]
  exact⟨Y1,Y1,Y1,Z6,Z6,Y1,H9,Y1,Y1,Z6⟩
 ·have hu:up=true:=(wT _).mp hu;subst hu;have hb:(U3 a.d).2=true:=by rw[hc] at hb;simpa using hb
  have hc:500<=a.d.C.length:=by have:=G5 hc;omega
  rw[o rfl b04,kH hc]
  exact⟨g,Z4 Z9,g,g,((a.fr.getD k dz).no,(a.fr.getD k dz).pg),⟨⟨rfl,g,U9 _⟩,Y1,i.2.2.1⟩,tZ _,(a.sd (U3 a.d).1,1+(a.fr.getD k dz).no,S3 (a.fr.getD k dz).no (a.fr.getD k dz).pg,v),⟨⟨Y1,rfl,cI,Z6⟩,⟨Y1,Y1,Y1,Y1,Y1,H9,Z6⟩,by show(U3 a.d).1.C.length<=_;rw[xT];exact N7 _⟩,⟨g,rfl⟩,⟨g,rfl⟩,Y1,⟨rfl,rfl,Y1,Y1,rfl,Y1,rfl,Y1,rfl,⟨rfl,zV.symm⟩,Y1⟩,Y1,Z6,Z6,Y1,⟨rfl,zV.symm,b9R g⟩,Y1⟩
 ·cases up with
  |false=>
   rw[j rfl];exact⟨Y1,Y1,Y1,Z6,Z6,Y1,H9,Y1,Y1,Z6⟩
  |true=>
   have:decide ((a.d.C.length:Int)≥500)=false:=by
    cases hd:decide ((a.d.C.length:Int)≥500) with
    |false=>rfl
    |true=>exact(n rfl hd).elim
   rw[this] at hb;simp at hb
 ·have hu:up=true:=by cases up<;>simp at hb ⊢
  subst hu;have hc:¬500<=a.d.C.length:=λhc=>n rfl (mN Z9)
  rw[o rfl (by rw[fM hc]),fM hc]
  exact⟨g,Z4 Z9,g,g,((a.fr.getD k dz).no,(a.fr.getD k dz).pg),⟨⟨rfl,g,U9 _⟩,Y1,i.2.2.1⟩,tZ _,(a,1+(a.fr.getD k dz).no,S3 (a.fr.getD k dz).no (a.fr.getD k dz).pg,v),⟨⟨Y1,rfl,cI,Z6⟩,⟨Y1,Y1,Y1,Y1,Y1,H9,Z6⟩,by show a.d.C.length<=_;omega⟩,⟨g,rfl⟩,⟨g,rfl⟩,⟨rfl,Z6⟩,⟨rfl,rfl,⟨rfl,rfl⟩,⟨rfl,rfl⟩,rfl,⟨rfl,rfl⟩,rfl,⟨rfl,rfl⟩,rfl,⟨rfl,zV.symm⟩,rfl,Z6⟩,⟨rfl,X6 _ _⟩,Z6,Z6,⟨rfl,X6 _ _⟩,⟨rfl,zV.symm,b9R g⟩,⟨rfl,X6 _ _⟩,⟨rfl,X6 _ _⟩,Z6⟩
theorem fG(L D:List Pend)(a:Int):∀i,i<=L.length->E6 (L++D) a i=E6 L a i
 |0,_=>rfl
 |i+1,h=>by
  unfold E6;rw[show(L++D).getD i dz=L.getD i dz by rw[P3,rK Z9,←P3],fG L D a i Z9]
theorem a6S(d:Dsk)(a:Int)(t:Bz)(n:Nat):S0 (wrD d a t) n=if a=n then t else S0 d n:=by
 have e:(d.C++[(⟨a,t⟩:Pend)]).getD d.C.length dz=⟨a,t⟩:=by rw[P3,pZ (U9 _)];simp
 have g:E6 (d.C++[(⟨a,t⟩:Pend)]) n (d.C.length+1)=if a=n then some t else E6 d.C n d.C.length:=by
  conv=>lhs;unfold E6
  rw[e,fG _ _ _ _ (U9 _)]
 have f:S0 (wrD d a t) n=(E6 (d.C++[(⟨a,t⟩:Pend)]) n (d.C.length+1)).getD (d.E.getD n []):=by
  unfold S0 wrD;dsimp only;rw[show(d.C++[(⟨a,t⟩:Pend)]).length=d.C.length+1 by simp]
 rw[f,g];split<;>rfl
theorem b8n{s:Sto}{l:Int}(h:mC s l){n:Nat}(N:n<9):∀i,i<=I9 s l->S0 (cT s i) n=S0 s.d n
 |0,_=>by
  have:cT s 0=s.d:=by unfold cT;simp
  rw[this]
 |i+1,hi=>by
  have e:cT s (i+1)=wrD (cT s i) (nR s i).at_ (nR s i).d:=by
   unfold cT wrD;dsimp only;rw[←uI]
  obtain⟨f,_,_⟩:=fY h (i:=i) Z9
  have g:=h.2.2.2.2.1;rw[e,a6S,if_neg (by rw[f];omega),b8n h N i Z9]
theorem b1c{sec:List (Bz)}{C:List Pend}{n:Nat}(hn:n<sec.length)(hp:∀i,i<C.length->0<=(C.getD i dz).at_):∀i,i<=C.length->(zP sec C (λ_=>true) i).getD n []=(E6 C n i).getD (sec.getD n [])
 |0,_=>rfl
 |i+1,hi=>by
  have I:=b1c hn hp i Z9
  have d:=hp i Z9
  rw[c4D rfl];unfold E6;by_cases h:(C.getD i dz).at_=n
  ·rw[if_pos h,show(C.getD i dz).at_.toNat=n by omega,P3,j_j (by rw[A6];exact hn)]
   rfl
  ·rw[if_neg h,P3,j_k Z9,←P3,I]
theorem c8S{d:Dsk}(h:(U3 d).2=true):U3 d=(⟨zP d.E d.C (λ_=>true) d.C.length,[],d.A,d.keep⟩,true):=by
 unfold U3 at h ⊢;split at h
 ·cases h
 ·rw[if_neg (by assumption)]
theorem b6j{d:Dsk}{n:Nat}(h:(U3 d).2=true)(hp:aL d)(N:n<d.E.length):S0 (U3 d).1 n=S0 d n:=by
 rw[c8S h];exact b1c N (λi hi=>(hp i hi).1) _ (U9 _)
theorem c78{s:Sto}{l:Int}(h:mC s l)(u:(V8 s l).2=true){n:Nat}(N:n<9):S0 (V8 s l).1.d n=S0 s.d n:=by
 by_cases L:l<=s.S
 ·rw[xD L]
 ·rw[xQ L] at u ⊢;have:=h.2.2.2.1;rw[b6j u (a1k h).2 (show n<s.d.E.length by omega),b8n h N _ (U9 _)]
theorem c0C{d:Dsk}{n:Nat}(h:(y7 d).2=true)(hp:aL d)(N:n<d.E.length):S0 (y7 d).1 n=S0 d n:=by
 by_cases C:500<=d.C.length
 ·rw[kH C] at h ⊢;exact b6j h hp N
 ·rw[fM C]
theorem b0W(d:Dsk):(U3 d).1.E.length=d.E.length:=by
 unfold U3;split
 ·exact A6 _ _ _ _
 ·exact A6 _ _ _ _
theorem b1b(s:Sto)(l:Int):(V8 s l).1.d.E.length=s.d.E.length:=by
 by_cases h:l<=s.S
 ·rw[xD h]
 ·rw[xQ h];exact b0W _
theorem a4P(s:Sto)(l:Int):(V8 s l).1.fr=s.fr/\(V8 s l).1.J=s.J/\(V8 s l).1.L=s.L/\(V8 s l).1.ep=s.ep:=by
 by_cases h:l<=s.S
 ·rw[xD h];exact Y1
 ·rw[xQ h];exact Y1
theorem a4E(d:Dsk):(y7 d).1.E.length=d.E.length:=by
 unfold y7;split
 ·exact b0W d
 ·rfl
theorem b8V{d:Dsk}(h:d.C.length<=500):(y7 d).1.C.length<=499:=by
 unfold y7;split
 ·rw[xT];exact N7 _
 ·dsimp only;omega
theorem s6(s:Sto)(k:Nat):(X3 s k).1.fr.length=s.fr.length/\(X3 s k).1.J=s.J/\(X3 s k).1.L=s.L/\(X3 s k).1.ep=s.ep/\(X3 s k).1.d.E.length=s.d.E.length:=by
 obtain⟨h,g,f,i⟩:=a4P s (s.fr.getD k dz).pg.Q;have e:=b1b s (s.fr.getD k dz).pg.Q;unfold X3;split
 ·split
  ·split
   ·exact⟨by show(List.set _ _ _).length=_;rw[zV];exact congrArg List.length h,g,f,i,by show(y7 _).1.E.length=_;rw[a4E,e]⟩
   ·exact⟨congrArg List.length h,g,f,i,by show(y7 _).1.E.length=_;rw[a4E,e]⟩
  ·exact⟨congrArg List.length h,g,f,i,e⟩
 ·exact Y1
theorem a5c{s:Sto}{k no:Nat}(h:SInv s)(e:k<s.fr.length)(o:no<8)(i:(s.fr.getD k dz).no≠no)(hu:(X3 s k).2=true):S0 (X3 s k).1.d (1+no)=S0 s.d (1+no)/\(X3 s k).1.d.C.length<=500:=by
 have f:=h.flu (h.frp k e).2.2.2;have j:=(h.frp k e).1;have hfr:=a08 s (s.fr.getD k dz).pg.Q;have C:=b0b (l:=(s.fr.getD k dz).pg.Q) h.c;have hp:=a17 (l:=(s.fr.getD k dz).pg.Q) h.pd;have n:=b1b s (s.fr.getD k dz).pg.Q;have g:=h.n69;by_cases hd:(s.fr.getD k dz).D=true
 ·by_cases hf2:(V8 s (s.fr.getD k dz).pg.Q).2=true
  ·by_cases h5:(y7 (V8 s (s.fr.getD k dz).pg.Q).1.d).2=true
   ·rw[eT hd hf2 h5];refine⟨?_,?_⟩
    ·show S0 (wrD _ (1+((V8 s _).1.fr.getD k dz).no) _) (1+no)=_;rw[hfr,a6S,if_neg Z9]
     exact(c0C h5 hp Z9).trans (c78 f hf2 Z9)
    ·have:=b8V C;show((y7 _).1.C++[_]).length<=500;rw[F7];simp only[List.length_cons,List.length_nil];omega
   ·rw[mR hd hf2 (by simpa using h5)] at hu
    cases hu
  ·rw[rN hd (by simpa using hf2)] at hu
   cases hu
 ·rw[uH mQ]
  exact⟨rfl,h.c⟩
theorem iF{L:List Frm}{no:Int}(h:0<=frAt L no):(frAt L no).toNat<L.length:=by
 unfold frAt S5 at h ⊢;split at h
 ·rename_i i hi;have:=List.mem_range.1 (List.mem_of_find?_eq_some hi)
  simpa using this
 ·omega
theorem a9y{L:List Frm}{no:Int}(h:¬0<=frAt L no){i:Nat}(hi:i<L.length):(L.getD i dz).no≠no:=by
 have e:=C7 L.length (kZ L no);rw[show S5 L.length (kZ L no)=frAt L no from rfl,tP h] at e
 have:=P4.1 e.symm i hi;unfold kZ at this
 simpa using this
theorem cU{d d':Dsk}{no:Nat}(h:S0 d (1+no)=S0 d' (1+no)):P6 d no=P6 d' no/\T0 d no=T0 d' no:=by
 unfold P6 T0;rw[h];exact Y1
def oY(no:Nat)(p:Pg):Frm:=⟨no,p,false,0⟩
def b0B(a:Sto)(k no:Nat):Sto:=⟨a.d,a.ep,a.L,a.S,a.fr.set k (oY no (P6 a.d no).1),(a.J+1).tmod 3⟩
def c2A(a:Sto)(no:Nat):Sto:=⟨a.d,a.ep,a.L,a.S,a.fr++[oY no (P6 a.d no).1],a.J⟩
def Y3(s:Sto)(no:Nat):Sto×Nat×Bool:=if 0<=frAt s.fr no then(s,(frAt s.fr no).toNat,true)
 else if s.fr.length=3 then
  if(X3 s s.J.toNat).2=true then(b0B (X3 s s.J.toNat).1 s.J.toNat no,s.J.toNat,true) else((X3 s s.J.toNat).1,0,false)
 else(c2A s no,s.fr.length,true)
def P7(s:Sto)(no v:Nat):Nat:=if 0<=frAt s.fr no then v
 else if s.fr.length=3 then
  if(X3 s s.J.toNat).2=true then v+1 else v
 else 1
def Sto.bxF(s:Sto)(v:Nat):X8:=[pK (s.tn 1 6 7 4 8),z9 s.d.E,none,none,j5 s.L,none,D1 s.d.C,z8 s.d.keep,wZ v s.fr s.fr.length]
def iS(s:Sto)(no:Nat):Prop:=SInv s/\no<8
def b8h:Con:=.reff ⟨Sto×Nat×Nat,λx=>[.ref 0 0 0,Ji x.2.1],λx=>x.1.bx x.2.2,λx=>.ref 8 (Y3 x.1 x.2.1).2.1 0,λx=>(Y3 x.1 x.2.1).1.bxF (P7 x.1 x.2.1 x.2.2),λx=>iS x.1 x.2.1/\(Y3 x.1 x.2.1).2.2=true⟩
def b9f:Con:=.reff ⟨Sto×Nat×Nat,λx=>[.ref 0 0 0,Ji x.2.1],λx=>x.1.bx x.2.2,λ_=>.v (.pointer none),λx=>(Y3 x.1 x.2.1).1.bxF (P7 x.1 x.2.1 x.2.2),λx=>iS x.1 x.2.1/\(Y3 x.1 x.2.1).2.2=false⟩
theorem c0H{L:List Frm}{k:Nat}(f:Frm)(d:k<L.length):V2 L.length (setRow (Y5 L) (0+k) 0 [T.int IntKind.i64 f.no,T.int IntKind.i64 f.pg.Q,T.own 0 1 f.pg.sl.length (Z5 f.pg.sl),T.bool f.D,T.int IntKind.i64 f.first]) (Y5 (L.set k f)):=tV λi _=>by
 have l:∀j,(Y5 L j).length=5:=λ_=>rfl
 rw[D2,E4 (by rw[l];rfl)]
 by_cases h:i=k
 ·subst h;rw[iU rfl];unfold Y5;rw[show(L.set i f).getD i dz=f by rw[P3,j_j d];rfl]
 ·rw[b3F h];unfold Y5;rw[show(L.set k f).getD i dz=L.getD i dz by rw[P3,j_k (Ne.symm h),←P3]]
theorem c3f{L:List Frm}(f:Frm)(r:Nat->List T)(R:(r 0).length=5):V2 (L.length+1) (setRow (X4 (Y5 L) L.length r) (0+(L.length:Int).toNat) 0 [T.int IntKind.i64 f.no,T.int IntKind.i64 f.pg.Q,T.own 0 1 f.pg.sl.length (Z5 f.pg.sl),T.bool f.D,T.int IntKind.i64 f.first]) (Y5 (L++[f])):=tV λi hi=>by
 rw[D8,D2];have l:(X4 (Y5 L) L.length r i).length=5:=by
  unfold X4;by_cases h:i<L.length
  ·rw[rW h];rfl
  ·rw[mG h,show i-L.length=0 by omega]
   exact R
 rw[E4 (by rw[l];rfl)]
 by_cases h:i=L.length
 ·subst h;rw[iU rfl];unfold Y5;rw[show(L++[f]).getD L.length dz=f by rw[P3,pZ (U9 _)];simp]
 ·rw[b3F h];unfold X4;rw[rW Z9]
  unfold Y5;rw[show(L++[f]).getD i dz=L.getD i dz by rw[P3,rK Z9,←P3]]
theorem yJ{s:Sto}{no:Nat}(v:Nat)(h:0<=frAt s.fr no):Y3 s no=(s,(frAt s.fr no).toNat,true)/\P7 s no v=v:=⟨if_pos h,if_pos h⟩
theorem m3{s:Sto}{no:Nat}(v:Nat)(h:¬0<=frAt s.fr no)(d:s.fr.length=3)(u:(X3 s s.J.toNat).2=true):Y3 s no=(b0B (X3 s s.J.toNat).1 s.J.toNat no,s.J.toNat,true)/\P7 s no v=v+1:=by
 unfold Y3 P7;rw[if_neg h,if_pos d,if_pos u,if_neg h,if_pos d,if_pos u];exact Y1
theorem l9{s:Sto}{no:Nat}(v:Nat)(h:¬0<=frAt s.fr no)(d:s.fr.length=3)(u:(X3 s s.J.toNat).2=false):Y3 s no=((X3 s s.J.toNat).1,0,false)/\P7 s no v=v:=by
 have u:¬ (X3 s s.J.toNat).2=true:=by rw[u];simp
 unfold Y3 P7;rw[if_neg h,if_pos d,if_neg u,if_neg h,if_pos d,if_neg u];exact Y1
theorem yB{s:Sto}{no:Nat}(v:Nat)(h:¬0<=frAt s.fr no)(d:¬s.fr.length=3):Y3 s no=(c2A s no,s.fr.length,true)/\P7 s no v=1:=by
 unfold Y3 P7;rw[if_neg h,if_neg d,if_neg h,if_neg d];exact Y1
theorem a06{s:Sto}{no:Nat}(h:SInv s)(o:no<8)(l:¬0<=frAt s.fr no)(r:s.fr.length=3)(u:(X3 s s.J.toNat).2=true):DkB ((X3 s s.J.toNat).1.d,no)/\T0 (X3 s s.J.toNat).1.d no=P6 (X3 s s.J.toNat).1.d no/\(P6 (X3 s s.J.toNat).1.d no).2=true:=by
 have n:=h.hd;have f:s.J.toNat<s.fr.length:=Z9
 obtain⟨e,q⟩:=a5c h f o (a9y l f) u;obtain⟨_,_,_,_,R⟩:=s6 s s.J.toNat;have j:=h.n69;obtain⟨g,i⟩:=h.pg no o;obtain⟨C,c2⟩:=cU e;refine⟨⟨X5,X5,X5,by show(S0 _ _).length<=_;rw[e];exact i⟩,?_,by rw[C];exact g⟩
 rw[C,c2];exact(eN s.d no).2 g
theorem b0p{s:Sto}{no:Nat}(h:SInv s)(o:no<8):DkB (s.d,no)/\T0 s.d no=P6 s.d no:=by
 have f:=h.n69;have C:=h.c;obtain⟨e,g⟩:=h.pg no o;exact⟨⟨X5,X5,X5,g⟩,(eN s.d no).2 e⟩
theorem b0z{p:Prop}(h:p:=by unfold c2A;simp):p:=h
theorem lG:GK 98 b8h:=gk func98<|by
 rintro⟨s,no,v⟩ ⟨⟨h,hno⟩,f⟩;dsimp only at h hno f;have L:L8 s.fr.length:=by have:=h.fr3;unfold L8;omega
 refine C4 (gC pB (gC a03 (gC aQ gN))) func98 Z3 c43 (α:=let z:=(s.fr.length+1);let r:=(s.fr.length:Int);let q:=(Y3 s no);let m:=(Y5 q.1.fr);let j:=q.1.fr.length;let u:=q.1.d;let f:=(Z0 Y9 s.d.keep u.keep);∃(x:qP.ι),let t:=(frAt x.1.fr x.2);((LeS s)/\((EqF s x.1)/\(no:Int)=x.2/\True)/\L8 x.1.fr.length)/\bd (frAt x.1.fr x.2≥(0:Int)) (W9 t s.fr.length/\((0+t.toNat=q.2.1/\0=0)/\True)/\nN s q.1/\(Z0 Z5 s.d.E u.E)/\True/\True/\(Z0 Y0 s.L q.1.L)/\True/\(Z0 Z1 s.d.C u.C)/\f/\(v=P7 s no v/\s.fr.length=j/\V2 s.fr.length (Y5 s.fr) m)/\True) (br (r==3) (∃(x:(Sto×Nat×Nat)),let p:=(X3 x.1 x.2.1);let l:=p.1.fr;let i:=(Z0 Z1 p.1.d.C u.C);let c:=(Z0 Y0 p.1.L q.1.L);let b:=(Z0 Z5 p.1.d.E u.E);let n:=(Z0 Y9 p.1.d.keep u.keep);let k:=l.length;(((0=0/\0=0)/\s.J=(x.2.1:Int)/\True)/\(LnS (v) (x.2.2) s x.1)/\SInv x.1/\x.2.1<x.1.fr.length)/\br (! p.2) ((J6 (m8 [some 0,some 1,some 2,some 3,some 4,some 5,some 6,some 7,some 5]) (T.v (Value.pointer none)) (T.ref 8 q.2.1 0)/\True)/\nN p.1 q.1/\b/\True/\True/\c/\True/\i/\n/\(x.2.2=P7 s no v/\k=j/\V2 l.length (Y5 l) m)/\True) (Ri (p.1.J+1)/\Nz (3:Int)/\∃(X:(Dsk×Nat)),let g:=(T0 X.1 X.2);let y:=g.1.sl.length;((LeS p.1)/\((zI p.1.d X.1)/\(no:Int)=(X.2:Int)/\True)/\DkB X)/\W9 s.J k/\(0+s.J.toNat<k/\Le y y)/\W9 s.J k/\((0+s.J.toNat=q.2.1/\0=0)/\True)/\nN {p.1 with J:=((p.1.J+1).tmod (3:Int))} q.1/\b/\True/\True/\c/\True/\i/\n/\(x.2.2+1=P7 s no v/\k=j/\V2 l.length (setRow (Y5 l) (0+s.J.toNat) 0 [Ji (no:Int),Ji g.1.Q,T.own 0 1 y (Z5 g.1.sl),T.bool false,Ji 0]) m)/\True)) ((Le 1 1/\Le s.fr.length s.fr.length/\U8 s.fr.length 1 56)/\∃(x:(Dsk×Nat)),let a:=(T0 x.1 x.2);let w:=a.1.sl.length;((Le (0+s.d.E.length) s.d.E.length/\Le (0+s.d.C.length) s.d.C.length/\Le (0+s.d.keep.length) s.d.keep.length/\Le (0+s.L.length) s.L.length/\Le (0+z) z)/\((zI s.d x.1)/\(no:Int)=(x.2:Int)/\True)/\DkB x)/\W9 r z/\(0+r.toNat<s.fr.length+1/\Le w w)/\W9 r z/\((0+r.toNat=q.2.1/\0=0)/\True)/\(oo ((0=0/\s.d.E.length=u.E.length)/\(0=0/\s.d.C.length=u.C.length)/\s.d.A=u.A/\(0=0/\s.d.keep.length=u.keep.length)/\s.ep=q.1.ep/\(0=0/\s.L.length=q.1.L.length)/\s.S=q.1.S/\(0=0/\s.fr.length+1=j)/\s.J=q.1.J/\True))/\(Z0 Z5 s.d.E u.E)/\True/\True/\(Z0 Y0 s.L q.1.L)/\True/\(Z0 Z1 s.d.C u.C)/\f/\(1=P7 s no v/\s.fr.length+1=j/\V2 z (setRow (X4 (Y5 s.fr) s.fr.length (tk 5 [Ji 0,Ji 0,T.v (Value.slice none 0 0),T.bool false,Ji 0])) (0+r.toNat) 0 [Ji (no:Int),Ji a.1.Q,T.own 0 1 w (Z5 a.1.sl),T.bool false,Ji 0]) m)/\True))) ⟨(s,(no:Int)),⟨Y1,Y1,L⟩,λhc=>?_,λhc=>⟨λh3=>?_,λh3=>?_⟩⟩
 ·have hc:0<=frAt s.fr no:=G5 hc;obtain⟨e1,e2⟩:=yJ v hc;rw[e1,e2];exact⟨⟨hc,by have:=iF hc;show frAt s.fr no<_;omega⟩,⟨⟨D2 _,rfl⟩,Z6⟩,⟨rfl,rfl,⟨rfl,rfl⟩,⟨rfl,rfl⟩,rfl,⟨rfl,rfl⟩,rfl,⟨rfl,rfl⟩,rfl,⟨rfl,rfl⟩,rfl,Z6⟩,⟨rfl,X6 _ _⟩,Z6,Z6,⟨rfl,X6 _ _⟩,Z6,⟨rfl,X6 _ _⟩,⟨rfl,X6 _ _⟩,⟨rfl,rfl,mT _⟩,Z6⟩
 ·have hc:¬0<=frAt s.fr no:=r8 hc;have h3:s.fr.length=3:=by have:=beq_iff_eq.1 h3;omega
  have i:=h.hd;have g:s.J.toNat<s.fr.length:=Z9
  obtain⟨r,R,_⟩:=s6 s s.J.toNat;refine⟨(s,s.J.toNat,v),⟨⟨Y1,X5,Z6⟩,⟨Y1,Y1,Y1,Y1,Y1,H9,Z6⟩,h,g⟩,λhu=>?_,λhu=>?_⟩
  ·have hu:(X3 s s.J.toNat).2=false:=(vY _).mp hu;rw[(l9 v hc h3 hu).1] at f;cases f
  ·have hu:(X3 s s.J.toNat).2=true:=(wT _).mp hu;obtain⟨e1,e2⟩:=m3 v hc h3 hu;obtain⟨d1,d2,_⟩:=a06 h hno hc h3 hu;rw[e1,e2];refine⟨Z4 X5,b0D,((X3 s s.J.toNat).1.d,no),⟨Y1,Y1,d1⟩,⟨Z9,X5⟩,⟨X5,U9 _⟩,⟨Z9,X5⟩,⟨⟨D2 _,rfl⟩,Z6⟩,⟨rfl,rfl,Y1,Y1,rfl,Y1,rfl,Y1,rfl,⟨rfl,zV.symm⟩,Y1⟩,Y1,Z6,Z6,Y1,Z6,Y1,Y1,⟨rfl,zV.symm,?_⟩,Z6⟩
   dsimp only;rw[d2];exact c0H (oY no (P6 (X3 s s.J.toNat).1.d no).1) Z9
 ·have hc:¬0<=frAt s.fr no:=r8 hc;have h3:¬s.fr.length=3:=λe=>by rw[e] at h3;simp at h3
  have l:=h.fr3;obtain⟨e1,e2⟩:=yB v hc h3;obtain⟨d1,d2⟩:=b0p h hno;rw[e1,e2];refine⟨⟨U9 _,U9 _,Q9⟩,(s.d,no),⟨Y1,Y1,d1⟩,⟨Z9,Z9⟩,⟨Z9,U9 _⟩,⟨Z9,Z9⟩,⟨⟨X5,rfl⟩,Z6⟩,⟨rfl,rfl,Y1,Y1,rfl,Y1,rfl,Y1,rfl,⟨rfl,b0z⟩,Y1⟩,Y1,Z6,Z6,Y1,Z6,Y1,Y1,⟨rfl,b0z,?_⟩,Z6⟩
  dsimp only;rw[d2];exact c3f (oY no (P6 s.d no).1) _ rfl
theorem lH:GK 98 b9f:=gk func98<|by
 rintro⟨s,no,v⟩ ⟨⟨h,o⟩,f⟩;dsimp only at h o f;have L:L8 s.fr.length:=by have:=h.fr3;unfold L8;omega
 refine C4 (gC pB (gC a03 (gC aQ gN))) func98 Z3 c43 (α:=let u:=(T.v (Value.pointer none));let z:=(s.fr.length+1);let r:=(s.fr.length:Int);let q:=(Y3 s no);let n:=(Y5 q.1.fr);let k:=q.1.fr.length;let y:=q.1.d;let g:=(Z0 Y9 s.d.keep y.keep);∃(x:qP.ι),((LeS s)/\((EqF s x.1)/\(no:Int)=x.2/\True)/\L8 x.1.fr.length)/\bd (frAt x.1.fr x.2≥(0:Int)) (W9 (frAt x.1.fr x.2) s.fr.length/\(J6 (m8 [some 0,some 1,some 2,some 3,some 4,some 5,some 2,some 3,some 5]) (T.ref 5 (0+(frAt x.1.fr x.2).toNat) 0) u/\True)/\nN s q.1/\(Z0 Z5 s.d.E y.E)/\True/\True/\(Z0 Y0 s.L q.1.L)/\True/\(Z0 Z1 s.d.C y.C)/\g/\(v=P7 s no v/\s.fr.length=k/\V2 s.fr.length (Y5 s.fr) n)/\True) (br (r==3) (∃(x:(Sto×Nat×Nat)),let p:=(X3 x.1 x.2.1);let t:=p.1.fr;let l:=(Z0 Z1 p.1.d.C y.C);let i:=(Z0 Y0 p.1.L q.1.L);let c:=(Z0 Z5 p.1.d.E y.E);let f:=(Z0 Y9 p.1.d.keep y.keep);let m:=t.length;(((0=0/\0=0)/\s.J=(x.2.1:Int)/\True)/\(LnS (v) (x.2.2) s x.1)/\SInv x.1/\x.2.1<x.1.fr.length)/\br (! p.2) ((Value.pointer none=Value.pointer none/\True)/\nN p.1 q.1/\c/\True/\True/\i/\True/\l/\f/\(x.2.2=P7 s no v/\m=k/\V2 t.length (Y5 t) n)/\True) (Ri (p.1.J+1)/\Nz (3:Int)/\∃(X:(Dsk×Nat)),let a:=(T0 X.1 X.2);let w:=a.1.sl.length;((LeS p.1)/\((zI p.1.d X.1)/\(no:Int)=(X.2:Int)/\True)/\DkB X)/\W9 s.J m/\(0+s.J.toNat<m/\Le w w)/\W9 s.J m/\(J6 (m8 [some 0,some 1,some 2,some 3,some 4,some 5,some 6,some 7,some 5]) (T.ref 5 (0+s.J.toNat) 0) u/\True)/\nN {p.1 with J:=((p.1.J+1).tmod (3:Int))} q.1/\c/\True/\True/\i/\True/\l/\f/\(x.2.2+1=P7 s no v/\m=k/\V2 t.length (setRow (Y5 t) (0+s.J.toNat) 0 [Ji (no:Int),Ji a.1.Q,T.own 0 1 w (Z5 a.1.sl),T.bool false,Ji 0]) n)/\True)) ((Le 1 1/\Le s.fr.length s.fr.length/\U8 s.fr.length 1 56)/\∃(x:(Dsk×Nat)),let b:=(T0 x.1 x.2);let j:=b.1.sl.length;((Le (0+s.d.E.length) s.d.E.length/\Le (0+s.d.C.length) s.d.C.length/\Le (0+s.d.keep.length) s.d.keep.length/\Le (0+s.L.length) s.L.length/\Le (0+z) z)/\((zI s.d x.1)/\(no:Int)=(x.2:Int)/\True)/\DkB x)/\W9 r z/\(0+r.toNat<s.fr.length+1/\Le j j)/\W9 r z/\(J6 (m8 [some 0,some 1,some 2,some 3,some 4,some 5,some 2,some 3,some 7]) (T.ref 7 (0+r.toNat) 0) u/\True)/\(oo ((0=0/\s.d.E.length=y.E.length)/\(0=0/\s.d.C.length=y.C.length)/\s.d.A=y.A/\(0=0/\s.d.keep.length=y.keep.length)/\s.ep=q.1.ep/\(0=0/\s.L.length=q.1.L.length)/\s.S=q.1.S/\(0=0/\s.fr.length+1=k)/\s.J=q.1.J/\True))/\(Z0 Z5 s.d.E y.E)/\True/\True/\(Z0 Y0 s.L q.1.L)/\True/\(Z0 Z1 s.d.C y.C)/\g/\(1=P7 s no v/\s.fr.length+1=k/\V2 z (setRow (X4 (Y5 s.fr) s.fr.length (tk 5 [Ji 0,Ji 0,T.v (Value.slice none 0 0),T.bool false,Ji 0])) (0+r.toNat) 0 [Ji (no:Int),Ji b.1.Q,T.own 0 1 j (Z5 b.1.sl),T.bool false,Ji 0]) n)/\True))) ⟨(s,(no:Int)),⟨Y1,Y1,L⟩,λhc=>?_,λhc=>⟨λh3=>?_,λh3=>?_⟩⟩
 ·have hc:0<=frAt s.fr no:=G5 hc;rw[(yJ v hc).1] at f;cases f
 ·have hc:¬0<=frAt s.fr no:=r8 hc;have h3:s.fr.length=3:=by have:=beq_iff_eq.1 h3;omega
  have l:=h.hd;have g:s.J.toNat<s.fr.length:=Z9
  refine⟨(s,s.J.toNat,v),⟨⟨Y1,X5,Z6⟩,⟨Y1,Y1,Y1,Y1,Y1,H9,Z6⟩,h,g⟩,λu=>?_,λu=>?_⟩
  ·have u:(X3 s s.J.toNat).2=false:=(vY _).mp u;obtain⟨i,j⟩:=l9 v hc h3 u;rw[i,j];exact⟨Y1,Y1,Y1,Z6,Z6,Y1,Z6,Y1,Y1,H9,Z6⟩
  ·have u:(X3 s s.J.toNat).2=true:=(wT _).mp u;rw[(m3 v hc h3 u).1] at f;cases f
 ·have hc:¬0<=frAt s.fr no:=r8 hc;have h3:¬s.fr.length=3:=λe=>by rw[e] at h3;simp at h3
  rw[(yB v hc h3).1] at f;cases f
theorem iG{d:Dsk}{no:Nat}(h:(P6 d no).2=true):PgP (P6 d no).1:=by
 unfold P6 at h ⊢;by_cases hr:S0 d (1+no)=[]
 ·rw[if_pos hr];refine⟨Int.le_refl _,M3,rfl,λi hi=>?_⟩
  match i,hi with
  |0,_=>exact N7 _
  |1,_=>exact N7 _
  |2,_=>exact N7 _
  |3,_=>exact N7 _
 ·rw[if_neg hr] at h ⊢;unfold E3 at h ⊢;split at h
  ·rename_i C;rw[if_pos C];simp only[J4] at h;exact G5 h.2
  ·cases h
theorem xH{s:Sto}{no:Nat}(h:SInv s)(o:no<8)(u:(Y3 s no).2.2=true):(Y3 s no).2.1<(Y3 s no).1.fr.length/\PgP ((Y3 s no).1.fr.getD (Y3 s no).2.1 dz).pg:=by
 by_cases hc:0<=frAt s.fr no
 ·rw[(yJ 0 hc).1];exact⟨iF hc,(h.frp _ (iF hc)).2.2.1⟩
 ·by_cases h3:s.fr.length=3
  ·cases ho:(X3 s s.J.toNat).2 with
   |false=>
    rw[(l9 0 hc h3 ho).1] at u;cases u
   |true=>
    rw[(m3 0 hc h3 ho).1];have d:=h.hd;have l:=(s6 s s.J.toNat).1;have hp:=(a06 h o hc h3 ho).2.2;unfold b0B;dsimp only;rw[zV,P3,j_j Z9]
    exact⟨Z9,iG hp⟩
  ·rw[(yB 0 hc h3).1];unfold c2A;dsimp only;rw[P3,pZ (U9 _),F7]
   simp only[j_h,List.getElem?_cons_zero,Option.getD_some,List.length_cons,List.length_nil]
   exact⟨Z9,iG (h.pg no o).1⟩
def gF(f:Frm)(r:Rec):Frm:=⟨f.no,⟨r.l,f.pg.sl.set r.s.toNat r.a⟩,true,if f.D=true then f.first else r.l⟩
def c2l(a:Sto)(k:Nat)(r:Rec):Sto:=⟨a.d,a.ep,a.L,a.S,a.fr.set k (gF (a.fr.getD k dz) r),a.J⟩
def T9(s:Sto)(r:Rec):Sto×Bool:=if(Y3 s r.g.toNat).2.2=true then(c2l (Y3 s r.g.toNat).1 (Y3 s r.g.toNat).2.1 r,true) else((Y3 s r.g.toNat).1,false)
def mB(s:Sto)(r:Rec):Prop:=SInv s/\0<=r.g/\r.g<8/\0<=r.s/\r.s<4
def c2W:Con:=.reff ⟨Sto×Rec×Nat,λx=>[.ref 0 0 0,.agg x.2.1.ts],λx=>x.1.bx x.2.2,λx=>.bool (T9 x.1 x.2.1).2,λx=>(T9 x.1 x.2.1).1.bxF (P7 x.1 x.2.1.g.toNat x.2.2),λx=>mB x.1 x.2.1⟩
theorem b9P{L:List Frm}{k i:Nat}(f:Frm)(h:i≠k):b59 (Y5 L i) (Y5 (L.set k f) i):=by
 rw[show Y5 (L.set k f) i=Y5 L i by unfold Y5;rw[show(L.set k f).getD i dz=L.getD i dz by rw[P3,j_k (Ne.symm h),←P3]]]
 exact kX _
theorem oA{L:List Frm}{k:Nat}(f:Frm)(h:k<L.length):(L.set k f).getD k dz=f:=by rw[P3,j_j h];rfl
theorem a1s{L:List (Bz)}{j:Nat}(t:Bz):L.length=(L.set j t).length/\Z8 L.length (setRow (Z5 L) j 0 [T.str t]) (Z5 (L.set j t)):=⟨zV.symm,λi hi=>a1m i hi⟩
theorem c0J{L:List Frm}{k:Nat}{r:Rec}(d:k<L.length)(hd:(L.getD k dz).D=true):V2 L.length (setRow (setRow (Y5 L) k 2 [T.own 0 1 (L.getD k dz).pg.sl.length (setRow (Z5 (L.getD k dz).pg.sl) r.s.toNat 0 [T.str r.a])]) k 1 [T.int IntKind.i64 r.l]) (Y5 (L.set k (gF (L.getD k dz) r))):=λi hi=>by
 have l5:∀j,(Y5 L j).length=5:=λ_=>rfl
 by_cases h:i=k
 ·subst h;unfold setRow;rw[iU rfl];have e:Y5 (L.set i (gF (L.getD i dz) r)) i=[Ji (L.getD i dz).no,Ji r.l,.own 0 1 ((L.getD i dz).pg.sl.set r.s.toNat r.a).length (Z5 ((L.getD i dz).pg.sl.set r.s.toNat r.a)),.bool (L.getD i dz).D,Ji (L.getD i dz).first]:=by
   unfold Y5;rw[oA _ hi];unfold gF;dsimp only;rw[if_pos hd,hd]
  rw[e];exact⟨rfl,rfl,⟨rfl,(a1s r.a).1,(a1s r.a).2⟩,Y1⟩
 ·rw[L4 (by rw[T6 b0X,l5];exact yG rfl) h,L4 b0X h]
  exact b9P _ h
theorem b6Q{L:List Frm}{k:Nat}{r:Rec}(d:k<L.length)(hd:(L.getD k dz).D=false):V2 L.length (setRow (setRow (setRow (setRow (Y5 L) k 2 [T.own 0 1 (L.getD k dz).pg.sl.length (setRow (Z5 (L.getD k dz).pg.sl) r.s.toNat 0 [T.str r.a])]) k 1 [T.int IntKind.i64 r.l]) k 3 [T.bool true]) k 4 [T.int IntKind.i64 r.l]) (Y5 (L.set k (gF (L.getD k dz) r))):=λi hi=>by
 have l5:∀j,(Y5 L j).length=5:=λ_=>rfl
 by_cases h:i=k
 ·subst h;unfold setRow;rw[iU rfl];have e:Y5 (L.set i (gF (L.getD i dz) r)) i=[Ji (L.getD i dz).no,Ji r.l,.own 0 1 ((L.getD i dz).pg.sl.set r.s.toNat r.a).length (Z5 ((L.getD i dz).pg.sl.set r.s.toNat r.a)),.bool true,Ji r.l]:=by
   unfold Y5;rw[oA _ hi];unfold gF;dsimp only;rw[if_neg (by rw[hd];simp)]
  rw[e];exact⟨rfl,rfl,⟨rfl,(a1s r.a).1,(a1s r.a).2⟩,Y1⟩
 ·have a1:(setRow (Y5 L) k 2 [T.own 0 1 (L.getD k dz).pg.sl.length (setRow (Z5 (L.getD k dz).pg.sl) r.s.toNat 0 [T.str r.a])] i).length=5:=by rw[T6 b0X,l5]
  have A:(setRow (setRow (Y5 L) k 2 [T.own 0 1 (L.getD k dz).pg.sl.length (setRow (Z5 (L.getD k dz).pg.sl) r.s.toNat 0 [T.str r.a])]) k 1 [T.int IntKind.i64 r.l] i).length=5:=by rw[T6 a9Z,a1]
  rw[L4 (by rw[T6 (by rw[A];exact yG rfl),A];exact yG rfl) h,L4 (by rw[A];exact yG rfl) h,L4 a9Z h,L4 b0X h]
  exact b9P _ h
theorem a5g:GK 120 c2W:=gk func120<|by
 rintro⟨s,r,v⟩ ⟨h,n,o,i,j⟩;dsimp only at h n o i j;have hno:r.g.toNat<8:=Z9
 by_cases hu:(Y3 s r.g.toNat).2.2=true
 ·have hf:=xH h hno hu;have e:T9 s r=(c2l (Y3 s r.g.toNat).1 (Y3 s r.g.toNat).2.1 r,true):=if_pos hu;refine C4 (gC lG gN) func120 Z3 c4r (α:=let i:=(T9 s r).1;let b:=(true=(T9 s r).2/\True);let n:=(Y5 (T9 s r).1.fr);let m:=(T9 s r).1.fr.length;∃(x:(Sto×Nat×Nat)),let c:=(P7 x.1 x.2.1 x.2.2);let p:=(Y3 x.1 x.2.1);let k:=(Z0 Y0 p.1.L (T9 s r).1.L);let j:=p.1.fr;let f:=j.length;let w:=(Z0 Z1 p.1.d.C (T9 s r).1.d.C);let y:=(Z0 Z5 p.1.d.E (T9 s r).1.d.E);let u:=(Z0 Y9 p.1.d.keep (T9 s r).1.d.keep);let z:=(j.getD p.2.1 dz);let t:=z.pg.sl;let q:=(setRow (setRow (Y5 j) p.2.1 2 [T.own (0:TypeId) 1 t.length (setRow (Z5 t) r.s.toNat 0 [T.str r.a])]) p.2.1 1 [Ji r.l]);(((0=0/\0=0)/\r.g=(x.2.1:Int)/\True)/\(LnS (v) (x.2.2) s x.1)/\iS x.1 x.2.1/\p.2.2=true)/\br false ((false=(T9 s r).2/\True)/\nN p.1 i/\y/\True/\True/\k/\True/\w/\u/\(P7 x.1 x.2.1 x.2.2=P7 s r.g.toNat v/\f=m/\V2 j.length (Y5 j) n)/\True) (Lt p.2.1 f/\W9 r.s t.length/\PfB c c p.2.1 j.length r.s.toNat t.length/\kV p.2.1 j.length [Ji z.pg.Q]/\Lt p.2.1 f/\br (! z.D) (kV p.2.1 j.length [T.bool z.D]/\kV p.2.1 j.length [Ji z.first]/\b/\nN p.1 i/\y/\True/\True/\k/\True/\w/\u/\(P7 x.1 x.2.1 x.2.2=P7 s r.g.toNat v/\f=m/\V2 j.length (setRow (setRow q p.2.1 3 [T.bool true]) p.2.1 4 [Ji r.l]) n)/\True) (b/\nN p.1 i/\y/\True/\True/\k/\True/\w/\u/\(P7 x.1 x.2.1 x.2.2=P7 s r.g.toNat v/\f=m/\V2 j.length q n)/\True))) ⟨(s,r.g.toNat,v),⟨⟨Y1,X5,Z6⟩,⟨Y1,Y1,Y1,Y1,Y1,H9,Z6⟩,⟨h,hno⟩,hu⟩,λhb=>(by cases hb),λ_=>?_⟩
  rw[e];dsimp only;generalize P7 s r.g.toNat v=w;generalize Y3 s r.g.toNat=A at*;obtain⟨a,k,up⟩:=A;dsimp only at*;obtain⟨f,u,z,q,t⟩:=hf;refine⟨f,⟨i,Z9⟩,⟨rfl,f,Z9⟩,⟨f,rfl⟩,f,λhd=>?_,λhd=>?_⟩
  ·exact⟨⟨f,rfl⟩,⟨f,rfl⟩,Y1,⟨rfl,rfl,Y1,Y1,rfl,Y1,rfl,Y1,rfl,⟨rfl,zV.symm⟩,Y1⟩,Y1,Z6,Z6,Y1,Z6,Y1,Y1,⟨rfl,zV.symm,b6Q f mQ⟩,Z6⟩
  ·exact⟨Y1,⟨rfl,rfl,Y1,Y1,rfl,Y1,rfl,Y1,rfl,⟨rfl,zV.symm⟩,Y1⟩,Y1,Z6,Z6,Y1,Z6,Y1,Y1,⟨rfl,zV.symm,c0J f mQ⟩,Z6⟩
 ·have e:T9 s r=((Y3 s r.g.toNat).1,false):=if_neg hu;refine C4 (gC lH gN) func120 Z3 c4r (α:=∃(x:(Sto×Nat×Nat)),let p:=(Y3 x.1 x.2.1);(((0=0/\0=0)/\r.g=(x.2.1:Int)/\True)/\(LnS (v) (x.2.2) s x.1)/\iS x.1 x.2.1/\p.2.2=false)/\br true ((false=(T9 s r).2/\True)/\nN p.1 (T9 s r).1/\(Z0 Z5 p.1.d.E (T9 s r).1.d.E)/\True/\True/\(Z0 Y0 p.1.L (T9 s r).1.L)/\True/\(Z0 Z1 p.1.d.C (T9 s r).1.d.C)/\(Z0 Y9 p.1.d.keep (T9 s r).1.d.keep)/\(P7 x.1 x.2.1 x.2.2=P7 s r.g.toNat v/\p.1.fr.length=(T9 s r).1.fr.length/\V2 p.1.fr.length (Y5 p.1.fr) (Y5 (T9 s r).1.fr))/\True) False) ⟨(s,r.g.toNat,v),⟨⟨Y1,X5,Z6⟩,⟨Y1,Y1,Y1,Y1,Y1,H9,Z6⟩,⟨h,hno⟩,a5T⟩,λ_=>?_,λhb=>(by cases hb)⟩
  rw[e];exact⟨Y1,Y1,Y1,Z6,Z6,Y1,Z6,Y1,Y1,H9,Z6⟩
theorem a65{L:List Frm}{k:Nat}{f:Frm}(h:∀i,i<L.length->SmF (L.getD i dz))(F:SmF f):∀i,i<(L.set k f).length->SmF ((L.set k f).getD i dz):=λi hi=>by
 rw[zV] at hi;by_cases e:i=k
 ·subst e;rw[oA _ hi];exact F
 ·rw[P3,j_k (Ne.symm e),←P3]
  exact h i hi
theorem c2Y{d:Dsk}(h:nM d):nM (y7 d).1:=by
 unfold y7;split
 ·exact b0c h
 ·exact h
theorem c71{s:Sto}{d:Dsk}(h:iC s)(hd:nM d):iC (s.sd d):=⟨hd,h.2⟩
theorem a9X{s:Sto}{k:Nat}(h:SInv s)(d:k<s.fr.length):iC (X3 s k).1:=by
 have f:=h.flu (h.frp k d).2.2.2;have hS:=cL f h.sm;have C:=b0b (l:=(s.fr.getD k dz).pg.Q) h.c;have h5:=c2Y hS.1;unfold X3;split
 ·split
  ·split
   ·refine⟨⟨h5.1,?_,h5.2.2⟩,hS.2.1,?_,?_⟩
    ·have:=b8V C;show((y7 _).1.C++[_]).length<=_;rw[F7];simp only[List.length_cons,List.length_nil];omega
    ·show(List.set _ _ _).length<=_;rw[zV];exact hS.2.2.1
    ·refine a65 hS.2.2.2 ?_
     have:=hS.2.2.2 k (by rw[a08];exact d)
     exact this
   ·exact c71 hS h5
  ·exact hS
 ·exact h.sm
theorem c5l{d:Dsk}{no:Nat}(h:(P6 d no).2=true):SmF (oY no (P6 d no).1):=by
 have:=(iG h).2.2.1;show(P6 d no).1.sl.length<=1048576;omega
theorem a91{s:Sto}{no:Nat}(h:SInv s)(o:no<8):iC (Y3 s no).1:=by
 by_cases hc:0<=frAt s.fr no
 ·rw[(yJ 0 hc).1];exact h.sm
 ·by_cases h3:s.fr.length=3
  ·have hh:=h.hd;have ho:=a9X h (k:=s.J.toNat) Z9
   cases u:(X3 s s.J.toNat).2 with
   |false=>
    rw[(l9 0 hc h3 u).1];exact ho
   |true=>
    rw[(m3 0 hc h3 u).1];refine⟨ho.1,ho.2.1,?_,?_⟩
    ·show(List.set _ _ _).length<=_;rw[zV];exact ho.2.2.1
    ·exact a65 ho.2.2.2 (c5l (a06 h o hc h3 u).2.2)
  ·rw[(yB 0 hc h3).1];have hl:=h.fr3;refine⟨h.sm.1,h.sm.2.1,?_,λi hi=>?_⟩
   ·show(s.fr++[_]).length<=_;rw[F7];simp only[List.length_cons,List.length_nil];omega
   ·have hi:i<(s.fr++[oY no (P6 s.d no).1]).length:=hi;show SmF ((s.fr++[oY no (P6 s.d no).1]).getD i dz);by_cases e:i<s.fr.length
    ·rw[P3,rK e,←P3]
     exact h.sm.2.2.2 i e
    ·have:i=s.fr.length:=by rw[F7] at hi;simp only[List.length_cons,List.length_nil] at hi;omega
     subst this;rw[P3,pZ (U9 _)]
     simp only[j_h,List.getElem?_cons_zero,Option.getD_some]
     exact c5l (h.pg no o).1
theorem c3g{s:Sto}{r:Rec}(h:mB s r):iC (T9 s r).1:=by
 obtain⟨h,f,e,i,d⟩:=h;have hno:r.g.toNat<8:=Z9
 have hS:=a91 h hno;unfold T9;split
 ·rename_i hu;have hf:=xH h hno hu;refine⟨hS.1,hS.2.1,?_,?_⟩
  ·show(List.set _ _ _).length<=_;rw[zV];exact hS.2.2.1
  ·refine a65 hS.2.2.2 ?_
   have:=hf.2.2.2.1;show(List.set _ _ _).length<=_;rw[zV];omega
 ·exact hS
theorem c3s{s:Sto}{lsn:Int}(h:SInv s)(f:1<=lsn)(e:lsn<=s.L.length):mB s (s.L.getD (lsn-1).toNat dz)/\(s.L.getD (lsn-1).toNat dz).l=lsn:=by
 obtain⟨a,b⟩:=C2.1 h.rc (lsn-1).toNat Z9
 have a:=(Q3 _).1 a;obtain⟨_,_,_,_,_,_,_,_,_,_,q,g,Q,d,_⟩:=a;exact⟨⟨h,q,Z9,Q,Z9⟩,Z9⟩
def a6s:Con:=.rel ⟨Dsk×Nat,λx=>[.agg x.1.ts,Ji x.2],λx=>.tup [.agg (P6 x.1 x.2).1.ts,.bool (P6 x.1 x.2).2],DkB⟩
theorem a5y:GK 161 a6s:=gk func161<|by
 rintro⟨d,no⟩ ⟨g,i,j,f⟩;dsimp only at g i j f;refine a0y d no ⟨Z4 Z9,(d,1+no),⟨⟨eqD _,L9,Z6⟩,g,L9⟩,λh=>⟨(),Y1,?_⟩,λh=>⟨((no:Int),S0 d (1+no)),⟨Y1,f⟩,?_⟩⟩
 ·have h:S0 d (1+no)=[]:=by simpa using h
  have e:P6 d no=(⟨0,[[],[],[],[]]⟩,true):=by unfold P6;rw[if_pos h]
  rw[e];exact Y1
 ·have h:S0 d (1+no)≠[]:=by simpa using h
  have e:P6 d no=E3 no (S0 d (1+no)):=by unfold P6;rw[if_neg h]
  rw[e];exact Y1
def b8W:Con:=.rel ⟨Pg×Int×Bz×Int,λx=>[.agg x.1.ts,Ji x.2.1,.str x.2.2.1,Ji x.2.2.2],λx=>.agg (Pg.ts ⟨x.2.2.2,x.1.sl.set x.2.1.toNat x.2.2.1⟩),λx=>x.1.sl.length=4/\0<=x.2.1/\x.2.1<4⟩
theorem b3O:GK 300 b8W:=gk func300<|by
 rintro⟨p,j,t,l⟩ ⟨d,h,e⟩;dsimp only at d h e;exact U5 (gC a0v gN) func300 Z3 (α:=let r:=(p.sl.set j.toNat t);∃(x:Pg),let q:=x.sl.length;(((p.Q=x.Q/\(Z0 Z5 p.sl x.sl)/\True)/\True)/\q<=1048576)/\W9 j q/\Lt (0+j.toNat) q/\Le (0+q) q/\l=l/\(q=r.length/\Z8 x.sl.length (setRow (Z5 x.sl) (0+j.toNat) 0 [T.str t]) (Z5 r))/\True) ⟨p,⟨K7,Z9⟩,⟨h,Z9⟩,Q1,tZ _,rfl,⟨zV.symm,λi hi=>by rw[D2];exact a1m i hi⟩,Z6⟩
theorem aV{f row:Nat->List T}:X4 f 0 row=row:=funext λ_=>rfl
theorem c27{L:List Frm}{k:Nat}(f:Frm)(d:k<L.length):Z8 L.length (setRow (V9 L) k 0 f.ts) (V9 (L.set k f)):=λi _=>by
 have l:∀j,(V9 L j).length=5:=λ_=>rfl
 rw[E4 (by rw[l];rfl)]
 unfold V9;by_cases h:i=k
 ·subst h;rw[iU rfl,oA _ d]
 ·rw[b3F h,show(L.set k f).getD i dz=L.getD i dz by rw[P3,j_k (Ne.symm h),←P3]]
theorem b7K{L:List Frm}{k:Nat}(d:k<L.length):Z8 L.length (setRow (setRow (V9 L) k 3 [T.bool false]) k 4 [T.int IntKind.i64 0]) (V9 (L.set k (clF (L.getD k dz)))):=λi hi=>by
 have hl:∀j,(V9 L j).length=5:=λ_=>rfl
 by_cases h:i=k
 ·subst h;unfold setRow;rw[iU rfl];unfold V9;rw[oA _ d];rfl
 ·rw[L4 (by rw[T6 (by rw[hl];decide),hl];decide) h,L4 (by rw[hl];decide) h]
  unfold V9;rw[show(L.set k (clF (L.getD k dz))).getD i dz=L.getD i dz by rw[P3,j_k (Ne.symm h),←P3]]
theorem c1L{L:List Frm}(f:Frm)(r:Nat->List T)(R:(r 0).length=5):Z8 (L.length+1) (setRow (X4 (V9 L) L.length r) L.length 0 f.ts) (V9 (L++[f])):=λi hi=>by
 have l:(X4 (V9 L) L.length r i).length=5:=by
  unfold X4;by_cases h:i<L.length
  ·rw[rW h];rfl
  ·rw[mG h,show i-L.length=0 by omega]
   exact R
 rw[E4 (by rw[l];rfl)]
 by_cases h:i=L.length
 ·subst h;rw[iU rfl];unfold V9;rw[show(L++[f]).getD L.length dz=f by rw[P3,pZ (U9 _)];simp]
 ·rw[b3F h];unfold X4;rw[rW Z9]
  unfold V9;rw[show(L++[f]).getD i dz=L.getD i dz by rw[P3,rK Z9,←P3]]
def b82:Con:=.rel ⟨Sto×Nat,λx=>[.agg x.1.ts,Ji x.2],λx=>.tup [.agg (X3 x.1 x.2).1.ts,.bool (X3 x.1 x.2).2],λx=>SInv x.1/\x.2<x.1.fr.length⟩
theorem b4a:GK 264 b82:=gk func264<|by
 rintro⟨s,k⟩ ⟨h,j⟩;dsimp only at h j;have i:=h.frp k j;have F:=h.flu i.2.2.2;have r:=a08 s (s.fr.getD k dz).pg.Q;have u:=cL F h.sm;have t:=a17 (l:=(s.fr.getD k dz).pg.Q) h.pd;have q:=b0b (l:=(s.fr.getD k dz).pg.Q) h.c;have n:=h.fr3;have o:= @rN s k;have o2:= @mR s k;have o3:= @eT s k;refine U5 (gC a4g (gC dA (gC a4B (gC kA gN)))) func264 Z3 (α:=let n:=(X3 s k).1.d.keep;let m:=(X3 s k).1;let v:=(X3 s k).2;let u:=(0+(k:Int).toNat);let q:=(s.fr.getD (k:Int).toNat dz);W9 (k:Int) s.fr.length/\((! q.D)=true->(yR s m)/\true=v/\True)/\((! q.D)=false->∃(x:(Sto×Int)),let z:=(V8 x.1 x.2);let w:=(Z0 Y0 z.1.L (X3 s k).1.L);let y:=((↑z.1.d.C.length:Int)==500);let p:=z.1.fr.length;let j:=(Le 0 0/\U8 0 p 56);let r:=(0+p=(X3 s k).1.fr.length/\Z8 (0+p) (setRow (setRow (X4 (tk 5 []) 0 (V9 z.1.fr)) u 3 [T.bool false]) u 4 [Ji 0]) (V9 (X3 s k).1.fr));(((yR s x.1)/\q.pg.Q=x.2/\True)/\mC x.1 x.2)/\((! z.2)=true->(yR z.1 m)/\false=v/\True)/\((! z.2)=false->(y=true->∃(f:Dsk),(((zI z.1.d f)/\True)/\nM f/\aL f)/\((!(U3 f).2)=true->(yR {z.1 with d:=(U3 f).1} m)/\false=v/\True)/\((!(U3 f).2)=false->R1 .i64 (1+q.no)/\∃(X:oJ.ι),((q.no=X.1/\(q.pg.Q=X.2.Q/\(Z0 Z5 q.pg.sl X.2.sl)/\True)/\True)/\PgP X.2)/\∃(g:(Dsk×Int×Bz)),(((zI (U3 f).1 g.1)/\1+q.no=g.2.1/\S3 X.1 X.2=g.2.2/\True)/\g.1.C.length<=1048576)/\j/\W9 (k:Int) (0+p)/\Lt u (0+p)/\W9 (k:Int) (0+p)/\Lt u (0+p)/\Le (0+(0+p)) (0+p)/\((Z0 Z5 g.1.E (X3 s k).1.d.E)/\(Z0 Z1 (g.1.C++[Pend.mk g.2.1 g.2.2]) (X3 s k).1.d.C)/\g.1.A=(X3 s k).1.d.A/\(Z0 Y9 g.1.keep n)/\z.1.ep=(X3 s k).1.ep/\w/\z.1.S=(X3 s k).1.S/\r/\z.1.J=(X3 s k).1.J/\True)/\true=v/\True))/\(y=false->R1 .i64 (1+q.no)/\∃(f:oJ.ι),((q.no=f.1/\(q.pg.Q=f.2.Q/\(Z0 Z5 q.pg.sl f.2.sl)/\True)/\True)/\PgP f.2)/\∃(X:(Dsk×Int×Bz)),(((zI z.1.d X.1)/\1+q.no=X.2.1/\S3 f.1 f.2=X.2.2/\True)/\X.1.C.length<=1048576)/\j/\W9 (k:Int) (0+p)/\Lt u (0+p)/\W9 (k:Int) (0+p)/\Lt u (0+p)/\Le (0+(0+p)) (0+p)/\((Z0 Z5 X.1.E (X3 s k).1.d.E)/\(Z0 Z1 (X.1.C++[Pend.mk X.2.1 X.2.2]) (X3 s k).1.d.C)/\X.1.A=(X3 s k).1.d.A/\(Z0 Y9 X.1.keep n)/\z.1.ep=(X3 s k).1.ep/\w/\z.1.S=(X3 s k).1.S/\r/\z.1.J=(X3 s k).1.J/\True)/\true=v/\True)))) ?_
 rw[D8];refine⟨Y6 j,λhd=>?_,λhd=>⟨(s,(s.fr.getD k dz).pg.Q),⟨Y1,F⟩,λhu=>?_,λhu=>⟨λhc=>?_,λhc=>?_⟩⟩⟩
 ·rw[uH mQ]
  exact Y1
 all_goals
  have hd:(s.fr.getD k dz).D=true:=mQ
  replace o:=o hd;replace o2:=o2 hd;replace o3:=o3 hd;dsimp only at*;generalize V8 s (s.fr.getD k dz).pg.Q=A at*;obtain⟨a,up⟩:=A;dsimp only at*;rw[←r] at j i n
 ·have hu:up=false:=(vY _).mp hu;subst hu;rw[o rfl];exact Y1
 ·have hu:up=true:=(wT _).mp hu;subst hu;have hc:500<=a.d.C.length:=by have:=beq_iff_eq.1 hc;omega
  rw[←r];refine⟨a.d,⟨Y1,u.1,t⟩,λhb=>?_,λhb=>?_⟩
  ·have hb:(U3 a.d).2=false:=(vY _).mp hb;rw[o2 rfl b04,kH hc]
   exact K7
  ·have hb:(U3 a.d).2=true:=(wT _).mp hb;rw[o3 rfl b04,kH hc]
   exact⟨Z4 Z9,((a.fr.getD k dz).no,(a.fr.getD k dz).pg),⟨K7,i.2.2.1⟩,((U3 a.d).1,1+(a.fr.getD k dz).no,S3 (a.fr.getD k dz).no (a.fr.getD k dz).pg),⟨K7,by show(U3 a.d).1.C.length<=_;rw[xT];exact N7 _⟩,⟨U9 _,Q9⟩,⟨Z9,Z9⟩,Q1,⟨Z9,Z9⟩,Q1,J9,⟨Y1,Y1,rfl,Y1,rfl,Y1,rfl,⟨a22,by rw[D2,D2,aV];exact b7K j⟩,Y1⟩,Y1⟩
 ·have hu:up=true:=(wT _).mp hu;subst hu;have hc:¬500<=a.d.C.length:=λe=>by have e:(a.d.C.length:Int)=500:=Z9;rw[e] at hc;simp at hc
  rw[←r,o3 rfl (by rw[fM hc]),fM hc]
  exact⟨Z4 Z9,((a.fr.getD k dz).no,(a.fr.getD k dz).pg),⟨K7,i.2.2.1⟩,(a.d,1+(a.fr.getD k dz).no,S3 (a.fr.getD k dz).no (a.fr.getD k dz).pg),⟨K7,X5⟩,⟨U9 _,Q9⟩,⟨Z9,Z9⟩,Q1,⟨Z9,Z9⟩,Q1,J9,⟨Y1,Y1,rfl,Y1,rfl,Y1,rfl,⟨a22,by rw[D2,D2,aV];exact b7K j⟩,Y1⟩,Y1⟩
def a6J:Con:=.rel ⟨Sto×Nat,λx=>[.agg x.1.ts,Ji x.2],λx=>.tup [.agg (Y3 x.1 x.2).1.ts,Ji (Y3 x.1 x.2).2.1,.bool (Y3 x.1 x.2).2.2],λx=>iS x.1 x.2⟩
theorem rP:GK 167 a6J:=gk func167<|by
 rintro⟨s,no⟩ ⟨h,o⟩;dsimp only at h o;have L:L8 s.fr.length:=by have:=h.fr3;unfold L8;omega
 have g:=h.fr3;refine U5 (gC jW (gC b4a (gC a5y gN))) func167 Z3 (α:=let n:=(tk 5 []);let y:=(0+s.fr.length);let z:=(s.fr.length:Int);let r:=(0+s.fr.length+1);let p:=(Y3 s no);let j:=p.1.d;let w:=(↑p.2.1:Int);∃(x:pF.ι),(((yR s x.1)/\(no:Int)=x.2/\True)/\L8 x.1.fr.length)/\bd (frAt x.1.fr x.2≥(0:Int)) ((yR s p.1)/\frAt x.1.fr x.2=w/\true=p.2.2/\True) (br (z==3) (∃(x:(Sto×Nat)),let q:=(X3 x.1 x.2);let u:=(0+q.1.fr.length);(((yR s x.1)/\s.J=(x.2:Int)/\True)/\SInv x.1/\x.2<x.1.fr.length)/\br (! q.2) ((yR q.1 p.1)/\0=w/\false=p.2.2/\True) (Ri (q.1.J+1)/\Nz (3:Int)/\∃(X:(Dsk×Nat)),let k:=(P6 X.1 X.2);(((zI q.1.d X.1)/\(no:Int)=(X.2:Int)/\True)/\DkB X)/\(Le 0 0/\U8 0 q.1.fr.length 56)/\W9 s.J u/\Lt (0+s.J.toNat) u/\Le (0+u) u/\((Z0 Z5 q.1.d.E j.E)/\(Z0 Z1 q.1.d.C j.C)/\q.1.d.A=j.A/\(Z0 Y9 q.1.d.keep j.keep)/\q.1.ep=p.1.ep/\(Z0 Y0 q.1.L p.1.L)/\q.1.S=p.1.S/\(0+q.1.fr.length=p.1.fr.length/\Z8 u (setRow (X4 n 0 (V9 q.1.fr)) (0+s.J.toNat) 0 [Ji (no:Int),Ji k.1.Q,T.sl 1 k.1.sl.length (Z5 k.1.sl),T.bool false,Ji 0]) (V9 p.1.fr))/\(q.1.J+1).tmod (3:Int)=p.1.J/\True)/\s.J=w/\true=p.2.2/\True)) ((Le 0 0/\U8 0 s.fr.length 56)/\(Le 1 1/\Le y y/\U8 y 1 56)/\∃(x:(Dsk×Nat)),let m:=(P6 x.1 x.2);(((zI s.d x.1)/\(no:Int)=(x.2:Int)/\True)/\DkB x)/\(Le (0+r) r/\Le 0 0/\U8 0 r 56)/\W9 z (0+r)/\Lt (0+z.toNat) (0+r)/\Le (0+(0+r)) (0+r)/\((Z0 Z5 s.d.E j.E)/\(Z0 Z1 s.d.C j.C)/\s.d.A=j.A/\(Z0 Y9 s.d.keep j.keep)/\s.ep=p.1.ep/\(Z0 Y0 s.L p.1.L)/\s.S=p.1.S/\(0+r=p.1.fr.length/\Z8 (0+r) (setRow (X4 n 0 (X4 (X4 n 0 (V9 s.fr)) y (tk 5 [Ji 0,Ji 0,T.v (Value.slice none 0 0),T.bool false,Ji 0]))) (0+z.toNat) 0 [Ji (no:Int),Ji m.1.Q,T.sl 1 m.1.sl.length (Z5 m.1.sl),T.bool false,Ji 0]) (V9 p.1.fr))/\s.J=p.1.J/\True)/\z=w/\true=p.2.2/\True))) ⟨(s,(no:Int)),⟨Y1,L⟩,λhc=>?_,λhc=>⟨λh3=>?_,λh3=>?_⟩⟩
 ·have hc:0<=frAt s.fr no:=G5 hc;rw[(yJ 0 hc).1];exact⟨jR _,X5,Y1⟩
 ·have hc:¬0<=frAt s.fr no:=r8 hc;have h3:s.fr.length=3:=by have:=beq_iff_eq.1 h3;omega
  have i:=h.hd;have f:s.J.toNat<s.fr.length:=Z9
  obtain⟨r,R,_⟩:=s6 s s.J.toNat;refine⟨(s,s.J.toNat),⟨⟨jR _,X5,Z6⟩,h,f⟩,λu=>?_,λu=>?_⟩
  ·have u:(X3 s s.J.toNat).2=false:=(vY _).mp u;rw[(l9 0 hc h3 u).1];exact Y1
  ·have u:(X3 s s.J.toNat).2=true:=(wT _).mp u;obtain⟨d1,_⟩:=a06 h o hc h3 u;rw[(m3 0 hc h3 u).1];exact⟨Z4 X5,b0D,((X3 s s.J.toNat).1.d,no),⟨Y1,d1⟩,⟨U9 _,by unfold U8;dsimp only;omega⟩,⟨Z9,X5⟩,J7,by unfold Le;dsimp only;omega,⟨⟨rfl,X6 _ _⟩,⟨rfl,X6 _ _⟩,rfl,⟨rfl,X6 _ _⟩,rfl,⟨rfl,X6 _ _⟩,rfl,⟨a22,by rw[D2,D2,aV];exact c27 (oY no (P6 (X3 s s.J.toNat).1.d no).1) (by rw[r];exact f)⟩,Y1⟩,X5,Y1⟩
 ·have hc:¬0<=frAt s.fr no:=r8 hc;have h3:¬s.fr.length=3:=λe=>by rw[e] at h3;simp at h3
  obtain⟨d1,_⟩:=b0p h o;rw[(yB 0 hc h3).1];exact⟨⟨U9 _,Q9⟩,⟨U9 _,J9,Q9⟩,(s.d,no),⟨Y1,d1⟩,⟨J9,U9 _,Q9⟩,⟨Z9,Z9⟩,Q1,J9,⟨Y1,Y1,rfl,Y1,rfl,Y1,rfl,⟨b0z,by rw[D8,D2,D2,aV,aV];exact c1L (oY no (P6 s.d no).1) _ rfl⟩,Y1⟩,Y1⟩
def a68:Con:=.rel ⟨Sto×Int,λx=>[.agg x.1.ts,Ji x.2],λx=>.tup [.agg (T9 x.1 (x.1.L.getD (x.2-1).toNat dz)).1.ts,.bool (T9 x.1 (x.1.L.getD (x.2-1).toNat dz)).2],λx=>SInv x.1/\1<=x.2/\x.2<=x.1.L.length⟩
theorem b6d{L:List Frm}{k i:Nat}(f:Frm)(h:i≠k):V9 L i=V9 (L.set k f) i:=by
 unfold V9;rw[show(L.set k f).getD i dz=L.getD i dz by rw[P3,j_k (Ne.symm h),←P3]]
theorem c0N{L:List Frm}{k:Nat}{r:Rec}(d:k<L.length)(hd:(L.getD k dz).D=true):Z8 L.length (setRow (V9 L) k 1 [T.int IntKind.i64 r.l,T.sl 1 ((L.getD k dz).pg.sl.set r.s.toNat r.a).length (Z5 ((L.getD k dz).pg.sl.set r.s.toNat r.a))]) (V9 (L.set k (gF (L.getD k dz) r))):=λi hi=>by
 have hl:∀j,(V9 L j).length=5:=λ_=>rfl
 by_cases h:i=k
 ·subst h;unfold setRow;rw[iU rfl];unfold V9;rw[oA _ d];unfold gF Frm.ts;dsimp only;rw[if_pos hd,hd];rfl
 ·rw[L4 b7r h]
  exact b6d _ h
theorem b5j{L:List Frm}{k:Nat}{r:Rec}(hk:k<L.length)(hd:(L.getD k dz).D=false):Z8 L.length (setRow (setRow (setRow (V9 L) k 1 [T.int IntKind.i64 r.l,T.sl 1 ((L.getD k dz).pg.sl.set r.s.toNat r.a).length (Z5 ((L.getD k dz).pg.sl.set r.s.toNat r.a))]) k 3 [T.bool true]) k 4 [T.int IntKind.i64 r.l]) (V9 (L.set k (gF (L.getD k dz) r))):=λi hi=>by
 have hl:∀j,(V9 L j).length=5:=λ_=>rfl
 by_cases h:i=k
 ·subst h;unfold setRow;rw[iU rfl];unfold V9;rw[oA _ hk];unfold gF Frm.ts;dsimp only;rw[if_neg (by rw[hd];simp)]
  rfl
 ·have a1:(setRow (V9 L) k 1 [T.int IntKind.i64 r.l,T.sl 1 ((L.getD k dz).pg.sl.set r.s.toNat r.a).length (Z5 ((L.getD k dz).pg.sl.set r.s.toNat r.a))] i).length=5:=by rw[T6 b7r,hl]
  rw[L4 (by rw[T6 a9Z,a1];exact yG rfl) h,L4 a9Z h,L4 b7r h]
  exact b6d _ h
theorem b5w(s:Sto)(no:Nat):(Y3 s no).1.L=s.L/\((Y3 s no).1.fr.length<=s.fr.length∨((Y3 s no).1.fr.length=s.fr.length+1/\s.fr.length≠3)):=by
 obtain⟨R,_,r,_⟩:=s6 s s.J.toNat;unfold Y3;split
 ·exact⟨rfl,.inl (U9 _)⟩
 ·split
  ·split
   ·exact⟨r,.inl (by unfold b0B;dsimp only;rw[zV];omega)⟩
   ·exact⟨r,.inl X5⟩
  ·rename_i h;exact⟨rfl,.inr ⟨b0z,h⟩⟩
theorem jL:GK 222 a68:=gk func222<|by
 rintro⟨s,lsn⟩ ⟨h,f,e⟩;dsimp only at h f e;obtain⟨⟨_,u,z,t,j⟩,l⟩:=c3s h f e;have i:=h.l60;have v:=h.fr3;have o:(s.L.getD (lsn-1).toNat dz).g.toNat<8:=Z9
 have n:=(b5w s (s.L.getD (lsn-1).toNat dz).g.toNat).2;have hf:=xH h o;have e1:(Y3 s (s.L.getD (lsn-1).toNat dz).g.toNat).2.2=true->T9 s (s.L.getD (lsn-1).toNat dz)=(c2l (Y3 s (s.L.getD (lsn-1).toNat dz).g.toNat).1 (Y3 s (s.L.getD (lsn-1).toNat dz).g.toNat).2.1 (s.L.getD (lsn-1).toNat dz),true):=λhu=>if_pos hu
 have q:(Y3 s (s.L.getD (lsn-1).toNat dz).g.toNat).2.2=false->T9 s (s.L.getD (lsn-1).toNat dz)=((Y3 s (s.L.getD (lsn-1).toNat dz).g.toNat).1,false):=λhu=>if_neg (by rw[hu];simp)
 refine U5 (gC rP (gC b3O gN)) func222 Z3 (α:=let v:=(s.L.getD (lsn-1).toNat dz);let p:=(T9 s v);Ri (lsn-1)/\W9 (lsn-1) s.L.length/\∃(x:(Sto×Nat)),let q:=(Y3 x.1 x.2);let f:=(Z0 Y0 q.1.L p.1.L);let n:=(Z0 Z1 q.1.d.C p.1.d.C);let m:=(Z0 Z5 q.1.d.E p.1.d.E);let k:=q.1.fr.length;let j:=(Z0 Y9 q.1.d.keep p.1.d.keep);let z:=(0+k);let r:=(↑q.2.1:Int).toNat;let y:=(q.1.fr.getD (0+r-0) dz);(((yR s x.1)/\v.g=(x.2:Int)/\True)/\iS x.1 x.2)/\br (! q.2.2) ((yR q.1 p.1)/\false=p.2/\True) ((Le 0 0/\U8 0 q.1.fr.length 56)/\W9 (↑q.2.1:Int) z/\Lt (0+r) z/\∃(X:(Pg×Int×Bz×Int)),let w:=(X.1.sl.set X.2.1.toNat X.2.2.1);let u:=(setRow (X4 (tk 5 []) 0 (V9 q.1.fr)) (0+r) 1 [Ji X.2.2.2,T.sl 1 w.length (Z5 w)]);(((y.pg.Q=X.1.Q/\(Z0 Z5 y.pg.sl X.1.sl)/\True)/\v.s=X.2.1/\v.a=X.2.2.1/\lsn=X.2.2.2/\True)/\X.1.sl.length=4/\0<=X.2.1/\X.2.1<(4:Int))/\Lt (0+r) z/\Lt (0+r) z/\br (! y.D) (Lt (0+r) z/\Lt (0+r) z/\Le (0+z) z/\(m/\n/\q.1.d.A=p.1.d.A/\j/\q.1.ep=p.1.ep/\f/\q.1.S=p.1.S/\(0+k=p.1.fr.length/\Z8 z (setRow (setRow u (0+r) 3 [T.bool true]) (0+r) 4 [Ji lsn]) (V9 p.1.fr))/\q.1.J=p.1.J/\True)/\true=p.2/\True) (Le (0+z) z/\(m/\n/\q.1.d.A=p.1.d.A/\j/\q.1.ep=p.1.ep/\f/\q.1.S=p.1.S/\(0+k=p.1.fr.length/\Z8 z u (V9 p.1.fr))/\q.1.J=p.1.J/\True)/\true=p.2/\True))) ⟨Z4 Z9,⟨Z9,Z9⟩,(s,(s.L.getD (lsn-1).toNat dz).g.toNat),⟨⟨jR _,X5,Z6⟩,h,o⟩,λhu=>?_,λhu=>?_⟩
 ·rw[q ((vY _).mp hu)];exact Y1
 ·have hu:=(wT _).mp hu;replace e1:=e1 hu;replace hf:=hf hu;rw[e1];dsimp only at*;generalize s.L.getD (lsn-1).toNat dz=r at*;generalize Y3 s r.g.toNat=A at*;obtain⟨a,k,up⟩:=A;dsimp only at*;obtain⟨hk,p1,p2,p3,p4⟩:=hf;rw[D8,show 0+k=k from D2 k,Nat.sub_zero]
  refine⟨⟨U9 _,Q9⟩,⟨Z9,Z9⟩,Q1,((a.fr.getD k dz).pg,r.s,r.a,lsn),⟨⟨K7,Y1⟩,p3,t,j⟩,Q1,Q1,λhd=>?_,λhd=>?_⟩
  ·refine⟨Q1,Q1,J9,⟨Y1,Y1,rfl,Y1,rfl,Y1,rfl,⟨a22,?_⟩,Y1⟩,Y1⟩
   rw[D2,aV,←l];exact b5j hk mQ
  ·refine⟨J9,⟨Y1,Y1,rfl,Y1,rfl,Y1,rfl,⟨a22,?_⟩,Y1⟩,Y1⟩
   rw[D2,aV,←l];exact c0N hk mQ
end
end Go.Proofs.YtpdnnhnfongoeaaGreat
