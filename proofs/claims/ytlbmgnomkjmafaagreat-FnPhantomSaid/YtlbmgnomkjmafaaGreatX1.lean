/- A part of the proof. -/
import Derived.Test.YtlbmgnomkjmafaaGreatE4
namespace Go.Proofs.YtlbmgnomkjmafaaGreat
set_option maxRecDepth 100000
open Go.SS Go.Proofs.Tryz
noncomputable section
theorem y5:E6 []:=λk ob h=>by simp[Z0] at h
theorem C7{o:Ob}{H:Y5}(h:a1A o)(k:E6 H):E6 (some o::H):=λi ob hi=>by
 cases i with
 |zero=>
  simp only[Z0,List.getElem?_cons_zero,Option.bind_some,id,X4] at hi
  rw[←hi];exact h
 |succ i=>exact k i ob (by simpa[Z0] using hi)
theorem x9{row row':Nat->List T}{n:Nat}:Z7 (0+n) (X6 row 0 row') row':=λi _=>rfl
def B7(L:List Pend):Option Ob:=some (.arr true 0 2 L.length (Y8 L))
def z6(L:List Int):Option Ob:=some (.arr true 0 1 L.length (Y9 L))
def zG(L:List Rec):Option Ob:=some (.arr true 0 10 L.length (Y0 L))
theorem m3(L:List (Bz)):E6 [w9 L]:=C7 (λi _ t h=>by simp only[Z5,List.mem_singleton] at h;rw[h];rfl) y5
theorem eB(L:List Pend):E6 [B7 L]:=C7 (λi _ t h=>by
 simp only[Y8,Pend.ts,xX,j_i,or_false] at h;rcases h with rfl|rfl<;>rfl) y5
theorem aY(L:List Int):E6 [z6 L]:=C7 (λi _ t h=>by simp only[Y9,List.mem_singleton] at h;rw[h];rfl) y5
theorem lY(L:List Rec):E6 [zG L]:=C7 (λi _ t h=>by
 simp only[Y0,Rec.ts,xX,j_i,or_false] at h;rcases h with rfl|rfl|rfl|rfl|rfl|rfl|rfl|rfl|rfl|rfl<;>rfl) y5
def b8o:Con:=.rmk ⟨List (Bz),λL=>[xZ L],λ_=>[],λL=>.osl 0 0 L.length,λL=>[w9 L],λL=>L.length<=1048576⟩
theorem b8H(L:List (Bz))(h:
  ∀(b:Bool),(b=true->L.length=0)->br b (((0=0/\0=L.length)/\True)/\(0=L.length/\Z7 0 (λ(x:Nat)=>[]) (Z5 L))/\True) ((Le 0 0/\U8 0 L.length 16)/\((0=0/\0+L.length=L.length)/\True)/\(0+L.length=L.length/\Z7 (0+L.length) (X6 (tk 1 []) 0 (Z5 L)) (Z5 L))/\True)):
  I8 prog 181 [xZ L] [] (.osl 0 0 L.length) [w9 L]:=
 w3 gN func181 Y7 [[.arr 1],[.nilS 0 [] 0 1,.arr 0]] h
theorem a3U:GK 181 b8o:=gk func181<|λ(L:List (Bz)) (hL:L.length<=1048576)=>
 ⟨b8H L (λb B=>⟨λh=>⟨⟨⟨rfl,(B h).symm⟩,Z6⟩,⟨(B h).symm,λi hi=>absurd hi (J9 _)⟩,Z6⟩,λ_=>⟨⟨U9 _,Q5⟩,⟨⟨rfl,Z9⟩,Z6⟩,⟨Z9,x9⟩,Z6⟩⟩),rfl,m3 L⟩
def b25:Con:=.rmk ⟨List Pend,λL=>[qX L],λ_=>[],λL=>.osl 0 0 L.length,λL=>[B7 L],λL=>L.length<=1048576⟩
theorem b3y(L:List Pend)(h:
  ∀(b:Bool),(b=true->L.length=0)->br b (((0=0/\0=L.length)/\True)/\(0=L.length/\Z7 0 (λ(x:Nat)=>[]) (Y8 L))/\True) ((Le 0 0/\U8 0 L.length 24)/\((0=0/\0+L.length=L.length)/\True)/\(0+L.length=L.length/\Z7 (0+L.length) (X6 (tk 2 []) 0 (Y8 L)) (Y8 L))/\True)):
  I8 prog 182 [qX L] [] (.osl 0 0 L.length) [B7 L]:=
 w3 gN func182 Y7 c3R h
theorem b0F:GK 182 b25:=gk func182<|λ(L:List Pend) (hL:L.length<=1048576)=>
 ⟨b3y L (λb B=>⟨λh=>⟨⟨⟨rfl,(B h).symm⟩,Z6⟩,⟨(B h).symm,λi hi=>absurd hi (J9 _)⟩,Z6⟩,λ_=>⟨⟨U9 _,Q5⟩,⟨⟨rfl,Z9⟩,Z6⟩,⟨Z9,x9⟩,Z6⟩⟩),rfl,eB L⟩
def b8d:Con:=.rmk ⟨List Int,λL=>[cN L],λ_=>[],λL=>.osl 0 0 L.length,λL=>[z6 L],λL=>L.length<=1048576⟩
theorem b9z(L:List Int)(h:
  ∀(b:Bool),(b=true->L.length=0)->br b (((0=0/\0=L.length)/\True)/\(0=L.length/\Z7 0 (λ(x:Nat)=>[]) (Y9 L))/\True) ((Le 0 0/\U8 0 L.length 8)/\((0=0/\0+L.length=L.length)/\True)/\(0+L.length=L.length/\Z7 (0+L.length) (X6 (tk 1 []) 0 (Y9 L)) (Y9 L))/\True)):
  I8 prog 183 [cN L] [] (.osl 0 0 L.length) [z6 L]:=
 w3 gN func183 Y7 [[.arr 1],[.nilS 0 [] 0 1,.arr 0]] h
theorem a3w:GK 183 b8d:=gk func183<|λ(L:List Int) (hL:L.length<=1048576)=>
 ⟨b9z L (λb B=>⟨λh=>⟨⟨⟨rfl,(B h).symm⟩,Z6⟩,⟨(B h).symm,λi hi=>absurd hi (J9 _)⟩,Z6⟩,λ_=>⟨⟨U9 _,Q5⟩,⟨⟨rfl,Z9⟩,Z6⟩,⟨Z9,x9⟩,Z6⟩⟩),rfl,aY L⟩
def b7v:Con:=.rmk ⟨List Rec,λL=>[oG L],λ_=>[],λL=>.osl 0 0 L.length,λL=>[zG L],λL=>L.length<=1048576⟩
theorem b9i(L:List Rec)(h:
  ∀(b:Bool),(b=true->L.length=0)->br b (((0=0/\0=L.length)/\True)/\(0=L.length/\Z7 0 (λ(x:Nat)=>[]) (Y0 L))/\True) ((Le 0 0/\U8 0 L.length 96)/\((0=0/\0+L.length=L.length)/\True)/\(0+L.length=L.length/\Z7 (0+L.length) (X6 (tk 10 []) 0 (Y0 L)) (Y0 L))/\True)):
  I8 prog 106 [oG L] [] (.osl 0 0 L.length) [zG L]:=
 w3 gN func106 Y7 [[.arr 1],[.nilS 0 [] 0 10,.arr 0]] h
theorem b5a:GK 106 b7v:=gk func106<|λ(L:List Rec) (hL:L.length<=1048576)=>
 ⟨b9i L (λb B=>⟨λh=>⟨⟨⟨rfl,(B h).symm⟩,Z6⟩,⟨(B h).symm,λi hi=>absurd hi (J9 _)⟩,Z6⟩,λ_=>⟨⟨U9 _,Q5⟩,⟨⟨rfl,Z9⟩,Z6⟩,⟨Z9,x9⟩,Z6⟩⟩),rfl,lY L⟩
def Dsk.tm(d:Dsk)(b:Nat):List T:=[.osl b 0 d.E.length,.osl (b+1) 0 d.C.length,.bool d.A,.osl (b+2) 0 d.keep.length]
def Dsk.hp(d:Dsk):Y5:=[w9 d.E,B7 d.C,z6 d.keep]
theorem k8{H K:Y5}(h:E6 H)(k:E6 K):E6 (H++K):=λi ob hi=>by
 unfold Z0 at hi;rw[List.getElem?_append] at hi
 split at hi
 ·exact h i ob hi
 ·exact k _ ob hi
theorem rW(d:Dsk):E6 d.hp:=k8 (m3 _) (k8 (eB _) (aY _))
def b7Q:Con:=.rmk ⟨Dsk,λd=>[.agg d.ts],λ_=>[],λd=>.agg (d.tm 0),λd=>d.hp,jH⟩
theorem b4C:GK 105 b7Q:=gk func105<|by
 rintro(d:Dsk) ⟨h1,h2,h3⟩;exact⟨w3 (gC a3U (gC b0F (gC a3w gN))) func105 Y7 [[.arr 2,.arr 3,.arr 4]] (α:=∃(x:(List (Bz))),let p:=x.length;(((Z2 Z5 d.E x)/\True)/\p<=1048576)/\∃(X:(List Pend)),(((Z2 Y8 d.C X)/\True)/\X.length<=1048576)/\∃(e:(List Int)),let q:=e.length;(((Z2 Y9 d.keep e)/\True)/\q<=1048576)/\(((0=0/\p=d.E.length)/\(0=0/\X.length=d.C.length)/\d.A=d.A/\(0=0/\q=d.keep.length)/\True)/\True)/\(p=d.E.length/\Z7 (p) (Z5 x) (Z5 d.E))/\(X.length=d.C.length/\Z7 (X.length) (Y8 X) (Y8 d.C))/\(q=d.keep.length/\Z7 (q) (Y9 e) (Y9 d.keep))/\True) ⟨d.E,⟨Y3,h1⟩,d.C,⟨Y3,h2⟩,d.keep,⟨Y3,h3⟩,Y3⟩,rfl,rW d⟩
def Pg.tm(p:Pg)(b:Nat):List T:=[Ji p.Q,.osl b 0 p.sl.length]
def c3K:Con:=.rmk ⟨Pg,λp=>[.agg p.ts],λ_=>[],λp=>.agg (p.tm 0),λp=>[w9 p.sl],λp=>p.sl.length<=1048576⟩
theorem b71:GK 107 c3K:=gk func107<|by
 intro(p:Pg) (h1:p.sl.length<=1048576);exact⟨w3 (gC a3U gN) func107 Y7 [[.arr 2]] (α:=∃(x:(List (Bz))),let q:=x.length;(((Z2 Z5 p.sl x)/\True)/\q<=1048576)/\((p.Q=p.Q/\(0=0/\q=p.sl.length)/\True)/\True)/\(q=p.sl.length/\Z7 (q) (Z5 x) (Z5 p.sl))/\True) ⟨p.sl,⟨Y3,h1⟩,Y3⟩,rfl,m3 _⟩
def Z1(L:List Frm)(i:Nat):List T:=[Ji (L.getD i dz).no,Ji (L.getD i dz).pg.Q,.own 0 1 (L.getD i dz).pg.sl.length (Z5 (L.getD i dz).pg.sl),.bool (L.getD i dz).D,Ji (L.getD i dz).first]
def vU(v:Nat)(L:List Frm)(n:Nat):Option Ob:=some (.fam v 0 5 n (Z1 L))
def Sto.tm(s:Sto)(b:Nat):List T:=[.osl b 0 s.d.E.length,.osl (b+1) 0 s.d.C.length,.bool s.d.A,.osl (b+2) 0 s.d.keep.length,Ji s.ep,.osl (b+3) 0 s.L.length,Ji s.S,.osl (b+4) 0 s.fr.length,Ji s.J]
def Sto.hp(s:Sto)(v:Nat):Y5:=[w9 s.d.E,B7 s.d.C,z6 s.d.keep,zG s.L,vU v s.fr s.fr.length]
def c6U:List T:=[.v (.slice none 0 0),.v (.slice none 0 0),.bool false,.v (.slice none 0 0),Ji 0,.v (.slice none 0 0),Ji 0,.v (.slice none 0 0),Ji 0]
def b3Z:Option Ob:=some (.arr true 1000000 9 1 λ_=>c6U)
def qT(l:List T):Option Ob:=some (.arr false 1000000 9 1 λ_=>l)
abbrev EqF(a b:Sto):Prop:=Z2 Z5 a.d.E b.d.E/\Z2 Y8 a.d.C b.d.C/\a.d.A=b.d.A/\Z2 Y9 a.d.keep b.d.keep/\a.ep=b.ep/\Z2 Y0 a.L b.L/\a.S=b.S/\(a.fr.length=b.fr.length/\Z7 a.fr.length (gU (Z1 a.fr)) (V4 b.fr))/\a.J=b.J/\True
abbrev EqC(a b:Sto):Prop:=((0:Nat)=0/\a.d.E.length=b.d.E.length)/\((0:Nat)=0/\a.d.C.length=b.d.C.length)/\a.d.A=b.d.A/\((0:Nat)=0/\a.d.keep.length=b.d.keep.length)/\a.ep=b.ep/\((0:Nat)=0/\a.L.length=b.L.length)/\a.S=b.S/\((0:Nat)=0/\a.fr.length=b.fr.length)/\a.J=b.J/\True
abbrev EqH(v u:Nat)(a b:Sto):Prop:=Z2 Z5 a.d.E b.d.E/\Z2 Y8 a.d.C b.d.C/\Z2 Y9 a.d.keep b.d.keep/\Z2 Y0 a.L b.L/\(v=u/\a.fr.length=b.fr.length/\V3 a.fr.length (Z1 a.fr) (Z1 b.fr))/\True
abbrev pG(a b:Sto):Prop:=(1:Nat)=1/\(1:Nat)=1/\EqC a b
abbrev LnS(v u:Nat)(a b:Sto):Prop:=pG a b/\EqH v u a b
abbrev LeS(a:Sto):Prop:=Le (0+a.d.E.length) a.d.E.length/\Le (0+a.d.C.length) a.d.C.length/\Le (0+a.d.keep.length) a.d.keep.length/\Le (0+a.L.length) a.L.length/\Le (0+a.fr.length) a.fr.length
abbrev EqR(a b:Rec):Prop:=a.e=b.e/\a.l=b.l/\a.t=b.t/\a.k=b.k/\a.p=b.p/\a.n=b.n/\a.g=b.g/\a.s=b.s/\a.b=b.b/\a.a=b.a/\True
theorem iO{L:List Frm}(n:Nat):V3 n (Z1 L) (Z1 L):=λi _=>by
 refine⟨?_,?_,Y3,?_,?_,Z6⟩<;>rfl
theorem I2{q r:Sort _}{v:q}{a:r}{n:Nat}{L:List Frm}:v=v/\a=a/\V3 n (Z1 L) (Z1 L):=⟨rfl,rfl,iO _⟩
theorem Z8{p:Prop}(h:p:=by repeat' first|exact rfl|exact iO _|exact trivial|refine And.intro ?_ ?_|exact λ_ _=>rfl|exact U9 _|exact N7 _|exact λi hi=>absurd hi (J9 i)|(unfold Le;omega)):p:=h
theorem tI{i n:Nat}(h:i<n):Nat.blt i n=true:=Nat.ble_eq_true_of_le h
theorem nW{i n:Nat}(h:¬i<n):Nat.blt i n=false:=by
 cases B:Nat.blt i n with
 |false=>rfl
 |true=>exact absurd (zT B) h
theorem a8x{L:List Frm}{i:Nat}:V3 (i+1) (X6 (Z1 L) i λ_=>Z1 L i) (Z1 L):=λj J=>by
 have:X6 (Z1 L) i (λ_=>Z1 L i) j=Z1 L j:=by
  unfold X6;by_cases h:j<i
  ·rw[tI h]
  ·rw[nW h,show i=j by omega]
 rw[this];exact iO (j+1) j (Nat.lt_succ_self j)
theorem b1n(v:Nat)(L:List Frm)(n:Nat):E6 [vU v L n]:=C7 (λi _ t h=>by
 simp only[Z1,xX,j_i,or_false] at h;rcases h with rfl|rfl|rfl|rfl|rfl
 ·rfl
 ·rfl
 ·intro j _ t h;simp only[Z5,List.mem_singleton] at h;rw[h];rfl
 ·rfl
 ·rfl) y5
theorem nD(s:Sto)(v:Nat):E6 (s.hp v):=k8 (H:=s.d.hp) (rW _) (k8 (lY _) (b1n _ _ _))
theorem mO:∀l:List T,b30 l l
 | []=>trivial
 |a::r=>⟨by cases a<;>first|rfl|exact⟨rfl,rfl,W2 _ _⟩,mO r⟩
theorem a6d{n:Nat}{f g:Nat->List T}(h:∀i,i<n->f i=g i):V3 n f g:=λi hi=>by rw[h i hi];exact mO _
def b8Q:Con:=.rmk ⟨Sto,λs=>[.agg s.ts],λ_=>[],λs=>.agg (s.tm 0),λs=>s.hp 0,SmS⟩
def b9Y(s:Sto):Nat->Ann
 |0=>.one (Up s.fr.length) (λx=>⟨[(1,.ref 0 0 0),(2,.ref 1 0 0),(17,a5H s.fr),(18,Ji s.fr.length),(19,Ji x.1)],[qT [.osl 2 0 s.d.E.length,.osl 3 0 s.d.C.length,.bool s.d.A,.osl 4 0 s.d.keep.length,Ji s.ep,.osl 5 0 s.L.length,Ji s.S,.osl 6 0 x.1,Ji s.J],b3Z,w9 s.d.E,B7 s.d.C,z6 s.d.keep,zG s.L,vU 0 s.fr x.1]⟩) (λx=>s.fr.length-x.1) [.nilC 0 7 0 5,.fam 6,.box 0,.box 1,.arr 2,.arr 3,.arr 4,.arr 5,.arr 6] [.box 0,.box 1,.arr 2,.arr 3,.arr 4,.arr 5,.at_ 31] (λ_=>Y7)
 |_=>.none
theorem b26:GK 49 b8Q:=gk func49<|by
 rintro(s:Sto) ⟨h1,h2,h3,h4⟩;refine⟨w3 (gC b4C (gC b5a (gC b71 gN))) func49 (b9Y s) [c1C] (α:=let c:=(Z2 V4 s.fr s.fr);let b:=(Z2 Y8 s.d.C s.d.C);let a:=(Z2 Z5 s.d.E s.d.E);let n:=(Z2 Y9 s.d.keep s.d.keep);let m:=(0=0/\0=0);let k:=(0=0/\s.L.length=s.L.length);let j:=(Z1 s.fr);let w:=(0=0/\s.d.C.length=s.d.C.length);let v:=(0=0/\s.d.E.length=s.d.E.length);let u:=(0=0/\s.d.keep.length=s.d.keep.length);let r:=(s.fr.length:Int);let p:=(oo (Value.slice none 0 0=Value.slice none 0 0/\Value.slice none 0 0=Value.slice none 0 0/\false=false/\Value.slice none 0 0=Value.slice none 0 0/\(0:Int)=0/\Value.slice none 0 0=Value.slice none 0 0/\(0:Int)=0/\Value.slice none 0 0=Value.slice none 0 0/\(0:Int)=0/\True));∃(x:Dsk),(((yA s.d x)/\True)/\jH x)/\∃(e:(List Rec)),let g:=e.length;(((Z2 Y0 s.L e)/\True)/\g<=1048576)/\(∃(X:Up s.fr.length),(m/\m/\c/\r=r/\0=(X.val:Int)/\True)/\(oo ((0=0/\x.E.length=s.d.E.length)/\(0=0/\x.C.length=s.d.C.length)/\x.A=s.d.A/\(0=0/\x.keep.length=s.d.keep.length)/\s.ep=s.ep/\(0=0/\g=s.L.length)/\s.S=s.S/\(0=0/\0=X.val)/\s.J=s.J/\True))/\p/\(Z2 Z5 x.E s.d.E)/\(Z2 Y8 x.C s.d.C)/\(Z2 Y9 x.keep s.d.keep)/\(g=s.L.length/\Z7 (g) (Y0 e) (Y0 s.L))/\(0=0/\0=X.val/\V3 0 (λ(x:Nat)=>[]) j)/\True)/\∀(x:Up s.fr.length),let f:=x.1;let z:=(f:Int);let q:=(s.fr.getD z.toNat dz);bd (z<r) (V6 z s.fr.length/\∃(X:Pg),(((q.pg.Q=X.Q/\(Z2 Z5 q.pg.sl X.sl)/\True)/\True)/\X.sl.length<=1048576)/\(Le X.sl.length X.sl.length/\Le x.1 f/\U8 x.1 1 56)/\Ri (z+1)/\∃(y:Up s.fr.length),((m/\m/\c/\r=r/\z+1=(y.1:Int)/\True)/\(oo (v/\w/\s.d.A=s.d.A/\u/\s.ep=s.ep/\k/\s.S=s.S/\(0=0/\f+1=y.1)/\s.J=s.J/\True))/\p/\a/\b/\n/\(Z2 Y0 s.L s.L)/\(0=0/\f+1=y.1/\V3 (f+1) (X6 j x.1 λ(x_3:Nat)=>[Ji q.no,Ji X.Q,T.own 0 1 X.sl.length (Z5 X.sl),T.bool q.D,Ji q.first]) j)/\True)/\Lt (s.fr.length-y.1) (s.fr.length-f)) (((v/\w/\s.d.A=s.d.A/\u/\s.ep=s.ep/\k/\s.S=s.S/\(0=0/\f=s.fr.length)/\s.J=s.J/\True)/\True)/\a/\b/\n/\(Z2 Y0 s.L s.L)/\(0=0/\f=s.fr.length/\V3 x.1 j j)/\True)) ⟨s.d,⟨Y3,h1⟩,s.L,⟨Y3,h2⟩,⟨⟨0,N7 _⟩,Y3,Y3,Y3,Y3,Y3,Y3,Y3,⟨rfl,rfl,λi hi=>absurd hi (J9 _)⟩,Z6⟩,λx=>⟨λhc=>?_,λhc=>?_⟩⟩,rfl,?_⟩
 ·have h:=Y2 hc;rw[E8];exact⟨Y1 h,(s.fr.getD x.1 dz).pg,⟨Y3,h4 _ h⟩,⟨U9 _,U9 _,Q5⟩,Z3 Z9,⟨x.1+1,h⟩,⟨⟨Y3,Y3,Y3,rfl,X0,Z6⟩,Y3,Y3,Y3,Y3,Y3,Y3,⟨rfl,rfl,a8x⟩,Z6⟩,V0.ext_lt h⟩
 ·have hx:x.1=s.fr.length:=by have:=x.2;have:=X7 hc;omega
  rw[hx];exact⟨Y3,Y3,Y3,Y3,Y3,I2,Z6⟩
 ·exact nD s 0
def Sto.tn(s:Sto)(a b c d e:Nat):List T:=[.osl a 0 s.d.E.length,.osl b 0 s.d.C.length,.bool s.d.A,.osl c 0 s.d.keep.length,Ji s.ep,.osl d 0 s.L.length,Ji s.S,.osl e 0 s.fr.length,Ji s.J]
def Sto.bx(s:Sto)(v:Nat):Y5:=[qT (s.tn 1 2 3 4 5),w9 s.d.E,B7 s.d.C,z6 s.d.keep,zG s.L,vU v s.fr s.fr.length]
def Sto.bxL(s:Sto)(v:Nat):Y5:=[qT (s.tn 1 2 3 6 5),w9 s.d.E,B7 s.d.C,z6 s.d.keep,none,vU v s.fr s.fr.length,zG s.L]
def T0(s:Sto)(r:Rec):Rec:=⟨s.ep,(s.L.length:Int)+1,r.t,r.k,r.p,r.n,r.g,r.s,r.b,r.a⟩
def Q7(s:Sto)(r:Rec):Sto:=if M6 (T0 s r)=true then{s with L:=s.L++[T0 s r]} else s
def SmR(r:Rec):Prop:=r.b.length<=1048576/\r.a.length<=1048576
def a4s:Rle:=⟨Sto×Rec×Nat,λx=>[.ref 0 0 0,.agg x.2.1.ts],λx=>x.1.bx x.2.2,λx=>.bool (M6 (T0 x.1 x.2.1)),λx=>(Q7 x.1 x.2.1).bxL x.2.2,λx=>x.1.L.length<=60/\SmR x.2.1⟩
def b5i:Con:=.reff a4s
theorem a1G(L:List Rec)(r:Rec):Z7 (L.length+1) (X6 (Y0 L) L.length λk=>List.take 10 (List.drop (k*10) r.ts)) (Y0 (L++[r])):=by
 intro i hi;unfold X6 Y0;by_cases h:i<L.length
 ·rw[tI h,Q2,Q2,tT h]
 ·have:i=L.length:=by omega
  subst this;rw[nW h];have:(L++[r]).getD L.length dz=r:=by rw[Q2,rL (U9 _)];simp
  rw[this];simp[Rec.ts]
theorem lW:GK 111 b5i:=gk func111<|by
 rintro⟨s,r,v⟩ ⟨f,j,i⟩;dsimp only at f j i;refine w3 (gC uT gN) func111 Y7 [c0X,[.box 0,.arr 1,.arr 2,.arr 3,.arr 4,.arr 5,.arr 4]] (α:=let m:=(Q7 s r).L.length;let j:=(Q7 s r).fr.length;let w:=(Z2 Y8 s.d.C (Q7 s r).d.C);let y:=(Z2 Z5 s.d.E (Q7 s r).d.E);let u:=(Z2 Y9 s.d.keep (Q7 s r).d.keep);let z:=((s.L.length:Int)+1);let q:=(v=v/\s.fr.length=j/\V3 s.fr.length (Z1 s.fr) (Z1 (Q7 s r).fr));Ri z/\b1Z r.a/\br (!M6 (Rec.mk s.ep z r.t r.k r.p r.n r.g r.s r.b r.a)) ((false=M6 (T0 s r)/\True)/\pG s (Q7 s r)/\y/\w/\u/\True/\q/\(Z2 Y0 s.L (Q7 s r).L)/\True) ((Le 1 1/\Le s.L.length s.L.length/\U8 s.L.length 1 96)/\(true=M6 (T0 s r)/\True)/\(oo ((0=0/\s.d.E.length=(Q7 s r).d.E.length)/\(0=0/\s.d.C.length=(Q7 s r).d.C.length)/\s.d.A=(Q7 s r).d.A/\(0=0/\s.d.keep.length=(Q7 s r).d.keep.length)/\s.ep=(Q7 s r).ep/\(0=0/\s.L.length+1=m)/\s.S=(Q7 s r).S/\(0=0/\s.fr.length=j)/\s.J=(Q7 s r).J/\True))/\y/\w/\u/\True/\q/\(s.L.length+1=m/\Z7 (s.L.length+1) (X6 (Y0 s.L) s.L.length (tk 10 [Ji s.ep,Ji z,Ji r.t,Ji r.k,Ji r.p,Ji r.n,Ji r.g,Ji r.s,T.str r.b,T.str r.a])) (Y0 (Q7 s r).L))/\True)) ⟨Z3 Z9,by unfold b1Z;omega,λh=>?_,λh=>?_⟩
 ·have hr:M6 (T0 s r)=false:=by simpa[T0] using h
  have e:Q7 s r=s:=by unfold Q7;rw[if_neg (by rw[hr];simp)]
  rw[e,hr];exact⟨Y3,Y3,Y3,Y3,Y3,Z6,I2,Y3,Z6⟩
 ·have hr:M6 (T0 s r)=true:=by simpa[T0] using h
  have e:Q7 s r={s with L:=s.L++[T0 s r]}:=by unfold Q7;rw[if_pos hr]
  rw[e,hr];have l:s.L.length+1=(s.L++[T0 s r]).length:=X3
  exact⟨⟨U9 _,U9 _,Q5⟩,Y3,⟨rfl,rfl,Y3,Y3,rfl,Y3,rfl,⟨rfl,l⟩,Y3⟩,Y3,Y3,Y3,Z6,I2,⟨l,a1G s.L (T0 s r)⟩,Z6⟩
def c6D:Sto:=⟨⟨[],[],false,[]⟩,0,[],0,[],0⟩
theorem dY(n:Nat):Le (0+n) n:=Nat.le_of_eq (E5 n)
theorem K0{row row':Nat->List T}:Z7 0 row row':=λi hi=>absurd hi (J9 _)
def b5f:Con:=.rmk ⟨Dsk,λd=>[.agg d.ts],λ_=>[],λd=>.agg (d.tm 0),λd=>d.hp,jH⟩
theorem nF:GK 144 b5f:=gk func144<|by
 rintro(d:Dsk) ⟨h1,h2,h3⟩;exact⟨w3 gN func144 Y7 [[.arr 3,.arr 5,.arr 7]] (α:=(Le 0 0/\U8 0 d.E.length 16)/\(Le 0 0/\U8 0 d.C.length 24)/\(Le 0 0/\U8 0 d.keep.length 8)/\(((0=0/\0+d.E.length=d.E.length)/\(0=0/\0+d.C.length=d.C.length)/\d.A=d.A/\(0=0/\0+d.keep.length=d.keep.length)/\True)/\True)/\(0+d.E.length=d.E.length/\Z7 (0+d.E.length) (X6 (tk 1 []) 0 (Z5 d.E)) (Z5 d.E))/\(0+d.C.length=d.C.length/\Z7 (0+d.C.length) (X6 (tk 2 []) 0 (Y8 d.C)) (Y8 d.C))/\(0+d.keep.length=d.keep.length/\Z7 (0+d.keep.length) (X6 (tk 1 []) 0 (Y9 d.keep)) (Y9 d.keep))/\True) ⟨⟨U9 _,Q5⟩,⟨U9 _,Q5⟩,⟨U9 _,Q5⟩,⟨⟨⟨rfl,Z9⟩,⟨rfl,Z9⟩,rfl,⟨rfl,Z9⟩,Z6⟩,Z6⟩,⟨Z9,x9⟩,⟨Z9,x9⟩,⟨Z9,x9⟩,Z6⟩,rfl,rW d⟩
def b3G:Con:=.rmk ⟨Pg,λp=>[.agg p.ts],λ_=>[],λp=>.agg (p.tm 0),λp=>[w9 p.sl],λp=>p.sl.length<=1048576⟩
theorem aP:GK 145 b3G:=gk func145<|by
 intro(p:Pg) (h1:p.sl.length<=1048576);exact⟨w3 gN func145 Y7 [[.arr 3]] (α:=(Le 0 0/\U8 0 p.sl.length 16)/\((p.Q=p.Q/\(0=0/\0+p.sl.length=p.sl.length)/\True)/\True)/\(0+p.sl.length=p.sl.length/\Z7 (0+p.sl.length) (X6 (tk 1 []) 0 (Z5 p.sl)) (Z5 p.sl))/\True) ⟨⟨U9 _,Q5⟩,⟨⟨rfl,⟨rfl,Z9⟩,Z6⟩,Z6⟩,⟨Z9,x9⟩,Z6⟩,rfl,m3 _⟩
def b6K:Con:=.rmk ⟨Sto,λs=>[.agg s.ts],λ_=>[],λs=>.agg (s.tm 0),λs=>s.hp 0,SmS⟩
def b5p(s:Sto):Nat->Ann
 |0=>.one (Up s.fr.length) (λx=>⟨[(1,.ref 0 0 0),(2,.ref 1 0 0),(3,.osl 6 0 x.1),(4,Ji x.1)],[qT [.osl 2 0 s.d.E.length,.osl 3 0 s.d.C.length,.bool s.d.A,.osl 4 0 s.d.keep.length,Ji s.ep,.osl 5 0 s.L.length,Ji s.S,a5H s.fr,Ji s.J],b3Z,w9 s.d.E,B7 s.d.C,z6 s.d.keep,zG s.L,vU 0 s.fr x.1]⟩) (λx=>s.fr.length-x.1) [.fam 7,.box 0,.box 1,.arr 2,.arr 3,.arr 4,.arr 6,.arr 7] [.box 0,.box 1,.arr 2,.arr 3,.arr 4,.arr 5,.at_ 3] (λ_=>Y7)
 |_=>.none
theorem b00:GK 78 b6K:=gk func78<|by
 rintro(s:Sto) ⟨h1,h2,h3,h4⟩;refine⟨w3 (gC nF (gC aP gN)) func78 (b5p s) [c1C] (α:=let a:=(Z2 V4 s.fr s.fr);let g:=(Z2 Y8 s.d.C s.d.C);let f:=(Z2 Z5 s.d.E s.d.E);let m:=(Z2 Y9 s.d.keep s.d.keep);let k:=(0=0/\0=0);let j:=(0=0/\s.L.length=s.L.length);let w:=(Z1 s.fr);let v:=(0=0/\s.d.C.length=s.d.C.length);let u:=(0=0/\s.d.E.length=s.d.E.length);let z:=(0=0/\s.d.keep.length=s.d.keep.length);let p:=(oo (Value.slice none 0 0=Value.slice none 0 0/\Value.slice none 0 0=Value.slice none 0 0/\false=false/\Value.slice none 0 0=Value.slice none 0 0/\(0:Int)=0/\Value.slice none 0 0=Value.slice none 0 0/\(0:Int)=0/\Value.slice none 0 0=Value.slice none 0 0/\(0:Int)=0/\True));∃(x:Dsk),(((yA s.d x)/\True)/\jH x)/\(Le 0 0/\U8 0 s.L.length 96)/\(∃(X:Up s.fr.length),(k/\k/\(0=0/\0=X.val)/\0=(X.val:Int)/\True)/\(oo ((0=0/\x.E.length=s.d.E.length)/\(0=0/\x.C.length=s.d.C.length)/\x.A=s.d.A/\(0=0/\x.keep.length=s.d.keep.length)/\s.ep=s.ep/\(0=0/\0+s.L.length=s.L.length)/\s.S=s.S/\a/\s.J=s.J/\True))/\p/\(Z2 Z5 x.E s.d.E)/\(Z2 Y8 x.C s.d.C)/\(Z2 Y9 x.keep s.d.keep)/\(0+s.L.length=s.L.length/\Z7 (0+s.L.length) (X6 (tk 10 []) 0 (Y0 s.L)) (Y0 s.L))/\(0=0/\0=X.val/\V3 0 (tk 5 []) w)/\True)/\∀(x:Up s.fr.length),let n:=x.1;let r:=(n:Int);let q:=(s.fr.getD r.toNat dz);bd (r<(s.fr.length:Int)) (V6 r s.fr.length/\∃(X:Pg),(((q.pg.Q=X.Q/\(Z2 Z5 q.pg.sl X.sl)/\True)/\True)/\X.sl.length<=1048576)/\(Le X.sl.length X.sl.length/\Le x.1 n/\U8 x.1 1 56)/\Ri (r+1)/\∃(y:Up s.fr.length),((k/\k/\(0=0/\n+1=y.1)/\r+1=(y.1:Int)/\True)/\(oo (u/\v/\s.d.A=s.d.A/\z/\s.ep=s.ep/\j/\s.S=s.S/\a/\s.J=s.J/\True))/\p/\f/\g/\m/\(Z2 Y0 s.L s.L)/\(0=0/\n+1=y.1/\V3 (n+1) (X6 w x.1 λ(x_2:Nat)=>[Ji q.no,Ji X.Q,T.own 0 1 X.sl.length (Z5 X.sl),T.bool q.D,Ji q.first]) w)/\True)/\Lt (s.fr.length-y.1) (s.fr.length-n)) (((u/\v/\s.d.A=s.d.A/\z/\s.ep=s.ep/\j/\s.S=s.S/\(0=0/\n=s.fr.length)/\s.J=s.J/\True)/\True)/\f/\g/\m/\(Z2 Y0 s.L s.L)/\(0=0/\n=s.fr.length/\V3 x.1 w w)/\True)) ⟨s.d,⟨Y3,h1⟩,⟨U9 _,Q5⟩,⟨⟨0,N7 _⟩,Y3,⟨rfl,rfl,Y3,Y3,rfl,Y3,rfl,⟨rfl,Z9⟩,Y3⟩,Y3,Y3,Y3,Y3,⟨Z9,x9⟩,⟨rfl,rfl,λi hi=>absurd hi (J9 _)⟩,Z6⟩,λx=>⟨λhc=>?_,λhc=>?_⟩⟩,rfl,nD s 0⟩
 ·have h:=Y2 hc;rw[E8];exact⟨Y1 h,(s.fr.getD x.1 dz).pg,⟨Y3,h4 _ h⟩,⟨U9 _,U9 _,Q5⟩,Z3 Z9,⟨x.1+1,h⟩,⟨⟨Y3,Y3,Y3,X0,Z6⟩,Y3,Y3,Y3,Y3,Y3,Y3,⟨rfl,rfl,a8x⟩,Z6⟩,V0.ext_lt h⟩
 ·have hx:x.1=s.fr.length:=by have:=x.2;have:=X7 hc;omega
  rw[hx];exact⟨Y3,Y3,Y3,Y3,Y3,I2,Z6⟩
def Frm.tm(f:Frm)(b:Nat):List T:=[Ji f.no,Ji f.pg.Q,.osl b 0 f.pg.sl.length,.bool f.D,Ji f.first]
theorem b5U{a b:Nat}(h:a≠b):Nat.beq a b=false:=by
 cases B:Nat.beq a b with
 |false=>rfl
 |true=>exact absurd (H4 B) h
theorem iE{a b:Nat}(h:a=b):Nat.beq a b=true:=by subst h;exact Nat.beq_refl a
theorem c1b{α:Type}(f:Nat->α){n i:Nat}(h:i<n)(d:α):((List.range n).map f).getD i d=f i:=by
 rw[Q2,pH,List.getElem?_range h]
 rfl
theorem L5{row:Nat->List T}{i j k:Nat}{cs:List T}(h:j+cs.length<=(row k).length)(d:k≠i):setRow row i j cs k=row k:=by
 rw[k5 h,b5U d]
theorem iR{row:Nat->List T}{i j:Nat}{t:T}(h:j<(row i).length):setRow row i j [t] i=(row i).set j t:=by
 rw[k5 I0,iE rfl]
 rw[List.set_eq_take_append_cons_drop,if_pos h];simp
def c5T(ln:Nat->Nat)(k:Nat):Nat->Nat
 |0=>k
 |i+1=>c5T ln k i+(ln i+4)
def c6I(L:List Frm)(i:Nat):Nat:=(L.getD i dz).pg.sl.length
def c6Z(d:Dsk)(k:Nat):Nat:=k+d.E.length+2*d.C.length+d.keep.length
def cI(s:Sto)(k:Nat):Nat:=c5T (c6I s.fr) (c6Z s.d k+10*s.L.length) s.fr.length
def c3B(l:Bz)(L:List (Bz)):Nat->Ann
 |0=>.one (Up L.length) (λx=>⟨[(0,.osl 2 0 (l++W4 L x.1).length),(13,.osl 1 0 L.length),(14,Ji L.length),(15,Ji x.1)],[none,w9 L,some (.bys 5 (l++W4 L x.1))]⟩) (λx=>L.length-x.1) [.arr 0,.arr 1,.arr 3] [.arr 0,.arr 1,.at_ 0] (λ_=>Y7)
 |_=>.none
def a2T:Con:=.reff ⟨Bz×List (Bz),λx=>[.osl 0 0 x.1.length,.osl 1 0 x.2.length],λx=>[some (.bys 5 x.1),w9 x.2],λx=>.osl 2 0 (x.1++S3 x.2).length,λx=>[none,w9 x.2,some (.bys 5 (x.1++S3 x.2))],λx=>x.1.length<=1000/\r5 x.2⟩
theorem a1L:GK 192 a2T:=gk func192<|by
 rintro⟨l,L⟩ ⟨g,h,h3⟩;dsimp only at g h h3;have f:List.take l.length l++List.take 1 (List.drop 0 (List.map R4 [IntKind.u8.wrap (L.length:Int)]))=l++W4 L 0:=by rw[dC];rfl
 refine w3 gN func192 (c3B l L) [[.arr 0,.arr 1,.arr 2]] (α:=let w:=(Z2 Z5 L L);let v:=(0=0/\L.length=L.length);let z:=(L.length:Int);P6 IntKind.u8 (IntKind.u8.wrap z)/\(Le 1 1/\Le l.length l.length/\U8 l.length 1 1)/\(∃(x:Up L.length),((0=0/\l.length+1=(l++W4 L x.1).length)/\v/\z=z/\0=(x.1:Int)/\True)/\True/\w/\List.take l.length l++List.take 1 (List.drop 0 (List.map R4 [IntKind.u8.wrap z]))=l++W4 L x.1/\True)/\∀(x:Up L.length),let u:=(x.1:Int);let j:=(0+u.toNat);let q:=(L.getD j []).length;let p:=(l++W4 L x.1).length;let r:=(List.take p (l++W4 L x.1)++List.take 1 (List.drop 0 (List.map R4 [IntKind.u8.wrap (↑q:Int)])));bd (u<z) (V6 u L.length/\Lt j L.length/\P6 IntKind.u8 (IntKind.u8.wrap (↑q:Int))/\(Le 1 1/\Le p p/\U8 p 1 1)/\(Le (p+1) r.length/\U8 (p+1) q 1)/\Ri (u+1)/\∃(y:Up L.length),(((0=0/\p+1+q=(l++W4 L y.1).length)/\v/\z=z/\u+1=(y.1:Int)/\True)/\True/\w/\List.take (p+1) r++L.getD j []=l++W4 L y.1/\True)/\Lt (L.length-y.1) (L.length-x.1)) (((0=0/\p=(l++S3 L).length)/\True)/\True/\w/\l++W4 L x.1=l++S3 L/\True)) ⟨O9 _,⟨U9 _,U9 _,Q5⟩,⟨⟨0,N7 _⟩,⟨⟨rfl,by simp[W4]⟩,⟨rfl,rfl⟩,rfl,rfl,Z6⟩,Z6,⟨rfl,W2 _ _⟩,f,Z6⟩,λx=>⟨λhc=>?_,λhc=>?_⟩⟩
 ·have hlt:=Y2 hc;have f1:=xF L h3 x.1 Z9
  have F:=h3 x.1 hlt;rw[E8,E5];have i:(l++W4 L x.1).length<=1100000:=by rw[J3];omega
  have e:List.take (l++W4 L x.1).length (l++W4 L x.1)++List.take 1 (List.drop 0 (List.map R4 [IntKind.u8.wrap ((L.getD x.1 []).length:Int)]))=l++W4 L x.1++[zZ (L.getD x.1 []).length]:=by
   rw[dC];rfl
  rw[e];have d:(l++W4 L x.1++[zZ (L.getD x.1 []).length]).length=(l++W4 L x.1).length+1:=by rw[J3];rfl
  refine⟨Y1 hlt,I5,O9 _,⟨U9 _,U9 _,Q5⟩,⟨by rw[d];exact U9 _,Q5⟩,Z3 Z9,⟨x.1+1,hlt⟩,⟨⟨⟨rfl,?_⟩,Y3,rfl,X0,Z6⟩,Z6,Y3,?_,Z6⟩,V0.ext_lt hlt⟩
  ·simp only[W4,J3,List.length_cons,List.length_nil];omega
  ·rw[←d,dC];simp only[W4,List.append_assoc]
 ·have hx:x.1=L.length:=by have:=x.2;have:=X7 hc;omega
  rw[hx];exact Y3
def c2I:Con:=.rel ⟨Nat,λn=>[Ji n],λn=>.bys (D5 n),λn=>n<4294967296⟩
theorem a2g:GK 148 c2I:=gk func148<|by
 intro(n:Nat) hn;have h:Nn 8:=by unfold Nn;omega
 exact S2 gN func148 Y7 (α:=let p:=(n:Int).fdiv;let q:=(p (16777216:Int));Nn (24:Int)/\Nn (16:Int)/\Nn (8:Int)/\(P6 IntKind.u8 (IntKind.u8.wrap q)/\P6 IntKind.u8 (IntKind.u8.wrap (p (65536:Int)))/\P6 IntKind.u8 (IntKind.u8.wrap (p (256:Int)))/\P6 IntKind.u8 (IntKind.u8.wrap (n:Int)))/\Le 4 4/\List.take 4 (List.drop 0 (List.map R4 [IntKind.u8.wrap q,IntKind.u8.wrap (p (65536:Int)),IntKind.u8.wrap (p (256:Int)),IntKind.u8.wrap (n:Int)]))=D5 n) ⟨uD,uD,h,⟨O9 _,O9 _,O9 _,O9 _⟩,U9 _,by unfold D5;rw[show(n:Int).fdiv 1=n by rw[Int.fdiv_one]];rfl⟩
def b29:Con:=.eff xB
theorem aB:GK 104 b29:=gk func104<|by
 intro args H res H' p h hp;unfold xB at h;split at h
 case h_2=>cases h
 rename_i k off n ty l;split at h
 ·skip
  simp only[X4,U1] at h;obtain⟨rfl,rfl,rfl⟩:=h;obtain⟨rfl,hl⟩:zO n l:=hp;have e4:(D5 (m7 l)).length=4:=rfl;have hc:=a1k l;refine vcE (gC qB (gC a2g gN)) func104 Y7 (bs:=[false]) (α:=∃(x:(vF IntKind.u32).ι),(Le (0+l.length) l.length/\(List.take l.length (List.drop 0 l)=x/\True)/\m5 x)/\∃(x_1:Nat),let p:=(List.take l.length l++D5 x_1);((IntKind.i64.wrap (↑(m7 x):Int)=(x_1:Int)/\True)/\x_1<4294967296)/\(Le l.length l.length/\U8 l.length 4 1)/\Le (0+(l.length+4)) p.length/\List.take (l.length+4) (List.drop 0 p)=l++D5 (m7 l)/\True/\True) ⟨l,⟨K2,⟨eH,Z6⟩,a8o⟩,m7 l,⟨⟨?_,Z6⟩,hc⟩,⟨U9 _,Q5⟩,?_,?_,Y3⟩
  ·rw[IntKind.wrap_i64];omega
  ·unfold Le;rw[dC,J3,e4,E5];exact U9 _
  ·rw[dC,List.drop_zero];exact List.take_of_length_le (by rw[J3,e4];exact U9 _)
 ·cases h
def a4S(r:Rec):Bz:=[R4 108,zZ r.e,zZ r.l,zZ r.t,zZ r.k,zZ r.p,zZ r.n,zZ r.g,zZ r.s]++S3 [r.b,r.a]
def Q3(r:Rec):Bz:=a4S r++D5 (m7 (a4S r))
def a6F(r:Rec):Prop:=r.b.length<=1000/\r.a.length<=1000
theorem qQ(a b:Bz):Z7 2 (λk=>List.take 1 (List.drop (k*1) [T.str a,T.str b])) (Z5 [a,b]):=λi hi=>by
 match i,hi with
 |0,_=>rfl
 |1,_=>rfl
theorem fs2{a b:Bz}(h:a.length<=1000)(d:b.length<=1000):r5 [a,b]:=⟨X3,λi hi=>by
 match i,hi with
 |0,_=>exact h
 |1,_=>exact d⟩
theorem b5x{r:Rec}(f:r5 [r.b,r.a]):(a4S r).length<=1000000:=by
 have h:=xF [r.b,r.a] f.2 2 (U9 _);have h:(S3 [r.b,r.a]).length<=2003:=h;unfold a4S;rw[J3];simp only[List.length_cons,List.length_nil];omega
def dR:Con:=.rel ⟨Rec,λr=>[.agg r.ts],λr=>.bys (Q3 r),a6F⟩
theorem eV:GK 121 dR:=gk func121<|by
 rintro(r:Rec) ⟨h1,h2⟩;have f:=fs2 h1 h2;exact S2 (gC a1L (gC aB gN)) func121 (b6s 9) (α:=let pr:=(1+1+1+1);let pg:=(List.map R4 [(108:Int)]);let pf:=(1+1+1+1+1);let pd:=(1+1+1+1+1+1+1+1);let pa:=(1+1+1+1+1+1+1);let i:=(1+1+1+1+1+1);let d:=(List.drop 0 (List.map R4 [IntKind.u8.wrap r.g]));let c:=(List.drop 0 (List.map R4 [IntKind.u8.wrap r.p]));let f:=(List.drop 0 (List.map R4 [IntKind.u8.wrap r.t]));let m:=(List.drop 0 (List.map R4 [IntKind.u8.wrap r.e]));let j:=(List.drop 0 (List.map R4 [IntKind.u8.wrap r.n]));let w:=(List.drop 0 (List.map R4 [IntKind.u8.wrap r.k]));let y:=(List.drop 0 (List.map R4 [IntKind.u8.wrap r.l]));let v:=(List.take 1 pg++List.take 1 m);let pc:=(List.take (1+1) v++List.take 1 y);let u:=(tk 1 [T.str r.b,T.str r.a]);let q:=(List.take (1+1+1) pc++List.take 1 f);let pb:=(List.take pr q++List.take 1 w);let z:=(List.take pf pb++List.take 1 c);let pe:=(List.take i z++List.take 1 j);P6 IntKind.u8 (108:Int)/\br true (V6 (0:Int) 8/\P6 IntKind.u8 (IntKind.u8.wrap r.e)/\(Le 1 1/\Le 1 1/\U8 1 1 1)/\Ri (1:Int)/\br true (V6 (1:Int) 8/\P6 IntKind.u8 (IntKind.u8.wrap r.l)/\(Le 1 1/\Le (1+1) 2/\U8 (1+1) 1 1)/\Ri (2:Int)/\br true (V6 (2:Int) 8/\P6 IntKind.u8 (IntKind.u8.wrap r.t)/\(Le 1 1/\Le (1+1+1) 3/\U8 (1+1+1) 1 1)/\Ri (3:Int)/\br true (V6 (3:Int) 8/\P6 IntKind.u8 (IntKind.u8.wrap r.k)/\(Le 1 1/\Le pr 4/\U8 pr 1 1)/\Ri (4:Int)/\br true (V6 (4:Int) 8/\P6 IntKind.u8 (IntKind.u8.wrap r.p)/\(Le 1 1/\Le pf 5/\U8 pf 1 1)/\Ri (5:Int)/\br true (V6 (5:Int) 8/\P6 IntKind.u8 (IntKind.u8.wrap r.n)/\(Le 1 1/\Le i 6/\U8 i 1 1)/\Ri (6:Int)/\br true (V6 (6:Int) 8/\P6 IntKind.u8 (IntKind.u8.wrap r.g)/\(Le 1 1/\Le pa 7/\U8 pa 1 1)/\Ri (7:Int)/\br true (V6 (7:Int) 8/\P6 IntKind.u8 (IntKind.u8.wrap r.s)/\(Le 1 1/\Le pd 8/\U8 pd 1 1)/\Ri (8:Int)/\br false False (∃(x:(Bz×List (Bz))),let ph:=(x.1++S3 x.2);(((0=0/\1+1+1+1+1+1+1+1+1=x.1.length)/\(0=0/\2=x.2.length)/\True)/\(List.take pd (List.take pa pe++List.take 1 d)++List.take 1 (List.drop 0 (List.map R4 [IntKind.u8.wrap r.s]))=x.1/\(2=x.2.length/\Z7 2 u (Z5 x.2))/\True)/\x.1.length<=1000/\r5 x.2)/\zO ph.length ph/\x.1++S3 x.2++D5 (m7 ph)=Q3 r)) (∃(x:(Bz×List (Bz))),let pi:=(x.1++S3 x.2);(((0=0/\1+1+1+1+1+1+1+1=x.1.length)/\(0=0/\2=x.2.length)/\True)/\(List.take pa pe++List.take 1 d=x.1/\(2=x.2.length/\Z7 2 u (Z5 x.2))/\True)/\x.1.length<=1000/\r5 x.2)/\zO pi.length pi/\x.1++S3 x.2++D5 (m7 pi)=Q3 r)) (∃(x:(Bz×List (Bz))),let pj:=(x.1++S3 x.2);(((0=0/\1+1+1+1+1+1+1=x.1.length)/\(0=0/\2=x.2.length)/\True)/\(List.take i z++List.take 1 j=x.1/\(2=x.2.length/\Z7 2 u (Z5 x.2))/\True)/\x.1.length<=1000/\r5 x.2)/\zO pj.length pj/\x.1++S3 x.2++D5 (m7 pj)=Q3 r)) (∃(x:(Bz×List (Bz))),let pk:=(x.1++S3 x.2);(((0=0/\1+1+1+1+1+1=x.1.length)/\(0=0/\2=x.2.length)/\True)/\(List.take pf pb++List.take 1 c=x.1/\(2=x.2.length/\Z7 2 u (Z5 x.2))/\True)/\x.1.length<=1000/\r5 x.2)/\zO pk.length pk/\x.1++S3 x.2++D5 (m7 pk)=Q3 r)) (∃(x:(Bz×List (Bz))),let pm:=(x.1++S3 x.2);(((0=0/\1+1+1+1+1=x.1.length)/\(0=0/\2=x.2.length)/\True)/\(List.take pr q++List.take 1 w=x.1/\(2=x.2.length/\Z7 2 u (Z5 x.2))/\True)/\x.1.length<=1000/\r5 x.2)/\zO pm.length pm/\x.1++S3 x.2++D5 (m7 pm)=Q3 r)) (∃(x:(Bz×List (Bz))),let pn:=(x.1++S3 x.2);(((0=0/\1+1+1+1=x.1.length)/\(0=0/\2=x.2.length)/\True)/\(List.take (1+1+1) pc++List.take 1 f=x.1/\(2=x.2.length/\Z7 2 u (Z5 x.2))/\True)/\x.1.length<=1000/\r5 x.2)/\zO pn.length pn/\x.1++S3 x.2++D5 (m7 pn)=Q3 r)) (∃(x:(Bz×List (Bz))),let po:=(x.1++S3 x.2);(((0=0/\1+1+1=x.1.length)/\(0=0/\2=x.2.length)/\True)/\(List.take (1+1) v++List.take 1 y=x.1/\(2=x.2.length/\Z7 2 u (Z5 x.2))/\True)/\x.1.length<=1000/\r5 x.2)/\zO po.length po/\x.1++S3 x.2++D5 (m7 po)=Q3 r)) (∃(x:(Bz×List (Bz))),let pp:=(x.1++S3 x.2);(((0=0/\1+1=x.1.length)/\(0=0/\2=x.2.length)/\True)/\(List.take 1 pg++List.take 1 m=x.1/\(2=x.2.length/\Z7 2 u (Z5 x.2))/\True)/\x.1.length<=1000/\r5 x.2)/\zO pp.length pp/\x.1++S3 x.2++D5 (m7 pp)=Q3 r)) (∃(x:(Bz×List (Bz))),let pq:=(x.1++S3 x.2);(((0=0/\1=x.1.length)/\(0=0/\2=x.2.length)/\True)/\(List.map R4 [(108:Int)]=x.1/\(2=x.2.length/\Z7 2 u (Z5 x.2))/\True)/\x.1.length<=1000/\r5 x.2)/\zO pq.length pq/\x.1++S3 x.2++D5 (m7 pq)=Q3 r)) ⟨(yV _).2 Z9,λ_=>⟨lA,O9 _,⟨U9 _,U9 _,Q5⟩,Z3 Z9,λ_=>⟨lA,O9 _,⟨U9 _,U9 _,Q5⟩,Z3 Z9,λ_=>⟨lA,O9 _,⟨U9 _,U9 _,Q5⟩,Z3 Z9,λ_=>⟨lA,O9 _,⟨U9 _,U9 _,Q5⟩,Z3 Z9,λ_=>⟨lA,O9 _,⟨U9 _,U9 _,Q5⟩,Z3 Z9,λ_=>⟨lA,O9 _,⟨U9 _,U9 _,Q5⟩,Z3 Z9,λ_=>⟨lA,O9 _,⟨U9 _,U9 _,Q5⟩,Z3 Z9,λ_=>⟨lA,O9 _,⟨U9 _,U9 _,Q5⟩,Z3 Z9,(λh=>J4),λ_=>⟨([R4 108,zZ r.e,zZ r.l,zZ r.t,zZ r.k,zZ r.p,zZ r.n,zZ r.g,zZ r.s],[r.b,r.a]),⟨Y3,⟨rfl,⟨rfl,qQ _ _⟩,Z6⟩,X3,f⟩,⟨rfl,b5x f⟩,rfl⟩⟩,λh=>J4⟩,λh=>J4⟩,λh=>J4⟩,λh=>J4⟩,λh=>J4⟩,λh=>J4⟩,λh=>J4⟩,λh=>J4⟩
def a1i:Con:=.rfz xD
theorem dD:GK 270 a1i:=gk func270<|l01Fields_ok.1
def a6R:Con:=.rel ⟨Rec,λr=>[.agg r.ts],λr=>.bys (Q3 r),a6F⟩
theorem a4r:GK 225 a6R:=gk func225<|by
 rintro(r:Rec) ⟨h1,h2⟩;have f:=fs2 h1 h2;have h:=xF [r.b,r.a] f.2 2 (U9 _);have h:(S3 [r.b,r.a]).length<=2003:=h;refine S2 (gC dD (gC nX gN)) func225 Y7 (α:=let q:=(List.map R4 [(108:Int),IntKind.u8.wrap r.e,IntKind.u8.wrap r.l,IntKind.u8.wrap r.t,IntKind.u8.wrap r.k,IntKind.u8.wrap r.p,IntKind.u8.wrap r.n,IntKind.u8.wrap r.g,IntKind.u8.wrap r.s]);(P6 IntKind.u8 (108:Int)/\P6 IntKind.u8 (IntKind.u8.wrap r.e)/\P6 IntKind.u8 (IntKind.u8.wrap r.l)/\P6 IntKind.u8 (IntKind.u8.wrap r.t)/\P6 IntKind.u8 (IntKind.u8.wrap r.k)/\P6 IntKind.u8 (IntKind.u8.wrap r.p)/\P6 IntKind.u8 (IntKind.u8.wrap r.n)/\P6 IntKind.u8 (IntKind.u8.wrap r.g)/\P6 IntKind.u8 (IntKind.u8.wrap r.s))/\∃(x:xD.ι),let z:=(List.take 9 q++S3 x);(Le 2 2/\((2=x.length/\Z7 2 (tk 1 [T.str r.b,T.str r.a]) (Z5 x))/\True)/\r5 x)/\(Le 9 9/\U8 9 (S3 x).length 1)/\zO (9+(S3 x).length) z/\List.take 9 q++S3 x++D5 (m7 z)=Q3 r) ⟨⟨(yV _).2 Z9,O9 _,O9 _,O9 _,O9 _,O9 _,O9 _,O9 _,O9 _⟩,[r.b,r.a],⟨U9 _,⟨⟨rfl,qQ _ _⟩,Z6⟩,f⟩,⟨U9 _,Q5⟩,?_,?_⟩
 ·exact⟨by rw[J3];rfl,b5x f⟩
 ·rfl
def h9(sec:List (Bz))(C:List Pend)(Q:Nat->Bool):Nat->List (Bz)
 |0=>sec
 |i+1=>if Q i=true then(h9 sec C Q i).set (C.getD i dz).at_.toNat (C.getD i dz).d else h9 sec C Q i
theorem C5(sec:List (Bz))(C:List Pend)(Q:Nat->Bool):∀i,(h9 sec C Q i).length=sec.length
 |0=>rfl
 |i+1=>by
  unfold h9;split
  ·rw[zN,C5 sec C Q i]
  ·exact C5 sec C Q i
theorem c1f{sec:List (Bz)}{C:List Pend}{Q:Nat->Bool}{i:Nat}(h:Q i=true):h9 sec C Q (i+1)=(h9 sec C Q i).set (C.getD i dz).at_.toNat (C.getD i dz).d:=by
 conv=>lhs;unfold h9
 rw[if_pos h]
theorem c1p{sec:List (Bz)}{C:List Pend}{Q:Nat->Bool}{i:Nat}(h:Q i=false):h9 sec C Q (i+1)=h9 sec C Q i:=by
 conv=>lhs;unfold h9
 rw[if_neg (by rw[h];simp)]
def kp(K:List Int)(i:Nat):Bool:=decide (i<K.length)&&(K.getD i 0 !=0)
def wrD(d:Dsk)(at_:Int)(t:Bz):Dsk:=⟨d.E,d.C++[⟨at_,t⟩],d.A,d.keep⟩
def Sto.sd(s:Sto)(d:Dsk):Sto:=⟨d,s.ep,s.L,s.S,s.fr,s.J⟩
def crD(d:Dsk)(K:List Int):Dsk:=⟨h9 d.E d.C (kp K) d.C.length,[],false,[]⟩
def U7(d:Dsk):Dsk×Bool:=if d.A=true then(crD d d.keep,false) else(⟨h9 d.E d.C (λ_=>true) d.C.length,[],d.A,d.keep⟩,true)
def bW(d:Dsk):Prop:=∀i,i<d.C.length->0<=(d.C.getD i dz).at_/\(d.C.getD i dz).at_<d.E.length
theorem a3j(L:List Pend)(p:Pend):Z7 (L.length+1) (X6 (Y8 L) L.length λk=>List.take 2 (List.drop (k*2) p.ts)) (Y8 (L++[p])):=by
 intro i hi;unfold X6 Y8;by_cases h:i<L.length
 ·rw[tI h,Q2,Q2,tT h]
 ·have:i=L.length:=by omega
  subst this;rw[nW h];have:(L++[p]).getD L.length dz=p:=by rw[Q2,rL (U9 _)];simp
  rw[this];simp[Pend.ts]
theorem kC{L:List (Bz)}{n:Nat}{t:Bz}(j:Nat)(J:j<L.length):setRow (Z5 L) n 0 [.str t] j=Z5 (L.set n t) j:=by
 by_cases h:j=n
 ·subst h;rw[iR (by simp[Z5])]
  simp[Z5,j_j J]
 ·rw[L5 (by simp[Z5]) h]
  simp[Z5,j_l (Ne.symm h)]
theorem jU{sec:List (Bz)}{C:List Pend}{Q:Nat->Bool}{i:Nat}(h:Q i=true):Z7 sec.length (setRow (Z5 (h9 sec C Q i)) (0+(C.getD i dz).at_.toNat) 0 [.str (C.getD i dz).d]) (Z5 (h9 sec C Q (i+1))):=λj J=>by
 rw[c1f h,E5];exact kC j (by rw[C5];exact J)
def Sto.bxC(s:Sto)(v:Nat):Y5:=[qT (s.tn 1 6 3 4 5),w9 s.d.E,none,z6 s.d.keep,zG s.L,vU v s.fr s.fr.length,B7 s.d.C]
def c0o:Con:=.reff ⟨Sto×Int×Bz×Nat,λx=>[.ref 0 0 0,Ji x.2.1,.str x.2.2.1],λx=>x.1.bx x.2.2.2,λ_=>.tup [],λx=>(x.1.sd (wrD x.1.d x.2.1 x.2.2.1)).bxC x.2.2.2,λx=>x.1.d.C.length<=1048576⟩
theorem a4k:GK 120 c0o:=gk func120<|by
 rintro⟨s,at_,t,v⟩ (h:s.d.C.length<=1048576);have l:s.d.C.length+1=(s.d.C++[(⟨at_,t⟩:Pend)]).length:=X3
 exact w3 gN func120 Y7 [[.box 0,.arr 1,.arr 2,.arr 3,.arr 4,.arr 5,.arr 7]] (α:=let p:=(s.d.C++[Pend.mk at_ t]);(Le 1 1/\Le s.d.C.length s.d.C.length/\U8 s.d.C.length 1 24)/\(True/\True)/\(oo ((0=0/\s.d.E.length=s.d.E.length)/\(0=0/\s.d.C.length+1=p.length)/\s.d.A=s.d.A/\(0=0/\s.d.keep.length=s.d.keep.length)/\s.ep=s.ep/\(0=0/\s.L.length=s.L.length)/\s.S=s.S/\(0=0/\s.fr.length=s.fr.length)/\s.J=s.J/\True))/\(Z2 Z5 s.d.E s.d.E)/\True/\(Z2 Y9 s.d.keep s.d.keep)/\(Z2 Y0 s.L s.L)/\(v=v/\s.fr.length=s.fr.length/\V3 s.fr.length (Z1 s.fr) (Z1 s.fr))/\(s.d.C.length+1=p.length/\Z7 (s.d.C.length+1) (X6 (Y8 s.d.C) s.d.C.length (tk 2 [Ji at_,T.str t])) (Y8 p))/\True) ⟨⟨U9 _,U9 _,Q5⟩,Y3,⟨rfl,rfl,Y3,⟨rfl,l⟩,Y3⟩,Y3,Z6,Y3,Y3,I2,⟨l,a3j s.d.C ⟨at_,t⟩⟩,Z6⟩
def Sto.bxX(s:Sto)(v:Nat)(K:List Int):Y5:=[qT (s.tn 1 7 8 4 5),w9 s.d.E,none,none,zG s.L,vU v s.fr s.fr.length,z6 K,B7 s.d.C,z6 s.d.keep]
def b7N:Con:=.reff ⟨Sto×List Int×Nat,λx=>[.ref 0 0 0,.osl 6 0 x.2.1.length],λx=>x.1.bx x.2.2++[z6 x.2.1],λ_=>.tup [],λx=>(x.1.sd (crD x.1.d x.2.1)).bxX x.2.2 x.2.1,λx=>jH x.1.d/\bW x.1.d/\x.2.1.length<=1048576⟩
def b8B(s:Sto)(K:List Int)(v:Nat):Nat->Ann
 |0=>.one (Up s.d.C.length) (λx=>⟨[(0,.ref 0 0 0),(1,.osl 6 0 K.length),(9,.osl 2 0 s.d.C.length),(10,Ji s.d.C.length),(11,Ji x.1)],[qT (s.tn 1 2 3 4 5),some (.arr true 0 1 s.d.E.length (Z5 (h9 s.d.E s.d.C (kp K) x.1))),B7 s.d.C,z6 s.d.keep,zG s.L,vU v s.fr s.fr.length,z6 K]⟩) (λx=>s.d.C.length-x.1) c04 c04 (λ_=>Y7)
 |_=>.none
theorem b3m:GK 193 b7N:=gk func193<|by
 rintro⟨s,K,v⟩ ⟨⟨o,g,i⟩,f,q⟩;dsimp only at o g i f q;refine w3 gN func193 (b8B s K v) [[.nilC 0 1 0 2,.nilC 0 3 0 1,.box 0,.arr 1,.arr 2,.arr 3,.arr 4,.arr 5,.arr 6,.arr 7,.arr 8]] (α:=let b:=(Z2 Y9 K K);let g:=(0=0/\0=0);let f:=(Z2 Y8 s.d.C s.d.C);let n:=(Z2 Y0 s.L s.L);let m:=(0=0/\K.length=K.length);let k:=(Z2 Y9 s.d.keep s.d.keep);let j:=(0=0/\s.d.C.length=s.d.C.length);let u:=(h9 s.d.E s.d.C (kp K) s.d.C.length);let r:=(s.d.C.length:Int);let p:=(v=v/\s.fr.length=s.fr.length/\V3 s.fr.length (Z1 s.fr) (Z1 s.fr));(∃(x:Up s.d.C.length),(g/\m/\j/\r=r/\0=(x.1:Int)/\True)/\pG s s/\(s.d.E.length=s.d.E.length/\Z7 s.d.E.length (Z5 s.d.E) (Z5 (h9 s.d.E s.d.C (kp K) x.1)))/\f/\k/\n/\p/\b/\True)/\∀(x:Up s.d.C.length),let i:=(s.d.C.length-x.1);let w:=(Z5 (h9 s.d.E s.d.C (kp K) x.1));let q:=(x.1:Int);let c:=(0+q.toNat);let a:=(q<(K.length:Int));let z:=(s.d.C.getD c dz);bd (q<r) (V6 q s.d.C.length/\Lt c s.d.C.length/\(decide a=true->V6 q K.length)/\(decide a=true->Lt c K.length)/\br (decide a&&K.getD c (0:Int) !=0) (V6 z.at_ s.d.E.length/\Lt (0+z.at_.toNat) s.d.E.length/\Ri (q+1)/\∃(y:Up s.d.C.length),((g/\m/\j/\r=r/\q+1=(y.1:Int)/\True)/\pG s s/\(s.d.E.length=s.d.E.length/\Z7 s.d.E.length (setRow w (0+z.at_.toNat) 0 [T.str z.d]) (Z5 (h9 s.d.E s.d.C (kp K) y.1)))/\f/\k/\n/\p/\b/\True)/\Lt (s.d.C.length-y.1) i) (Ri (q+1)/\∃(y:Up s.d.C.length),((g/\m/\j/\r=r/\q+1=(y.1:Int)/\True)/\pG s s/\(s.d.E.length=s.d.E.length/\Z7 s.d.E.length w (Z5 (h9 s.d.E s.d.C (kp K) y.1)))/\f/\k/\n/\p/\b/\True)/\Lt (s.d.C.length-y.1) i)) ((True/\True)/\(oo ((0=0/\s.d.E.length=u.length)/\g/\false=false/\g/\s.ep=s.ep/\(0=0/\s.L.length=s.L.length)/\s.S=s.S/\(0=0/\s.fr.length=s.fr.length)/\s.J=s.J/\True))/\(s.d.E.length=u.length/\Z7 s.d.E.length w (Z5 u))/\True/\True/\n/\p/\b/\(0=0/\Z7 0 (λ(x:Nat)=>[]) (Y8 []))/\(0=0/\Z7 0 (λ(x:Nat)=>[]) (Y9 []))/\True)) ⟨⟨⟨0,N7 _⟩,Y3,Y3,Y3,Y3,Y3,Y3,I2,Y3,Z6⟩,λx=>⟨λhc=>?_,λhc=>?_⟩⟩
 ·have t:=Y2 hc;have n:(decide ((x.1:Int)<(K.length:Int))&&K.getD x.1 0 !=0)=kp K x.1:=by
   unfold kp;rw[show decide ((x.1:Int)<(K.length:Int))=decide (x.1<K.length) from decide_eq_decide.2 Z9]
  rw[E8,show 0+x.1=x.1 by omega,n]
  have A:=f x.1 t;refine⟨Y1 t,t,λh=>Y1 (Y2 h),λh=>Y2 h,λe=>?_,λe=>?_⟩
  ·exact⟨A,I5,Z3 Z9,⟨x.1+1,t⟩,⟨⟨Y3,Y3,Y3,rfl,X0,Z6⟩,Y3,⟨rfl,jU e⟩,Y3,Y3,Y3,I2,Y3,Z6⟩,V0.ext_lt t⟩
  ·exact⟨Z3 Z9,⟨x.1+1,t⟩,⟨⟨Y3,Y3,Y3,rfl,X0,Z6⟩,Y3,⟨rfl,λj _=>by dsimp only;rw[c1p e]⟩,⟨rfl,W2 _ _⟩,⟨rfl,W2 _ _⟩,⟨rfl,W2 _ _⟩,⟨rfl,rfl,iO _⟩,⟨rfl,W2 _ _⟩,Z6⟩,V0.ext_lt t⟩
 ·have hx:x.1=s.d.C.length:=by have:=x.2;have:=X7 hc;omega
  rw[hx];have l:=(C5 s.d.E s.d.C (kp K) s.d.C.length).symm;exact⟨Y3,⟨rfl,rfl,⟨rfl,l⟩,Y3⟩,⟨l,W2 _ _⟩,Z6,Z6,Y3,I2,Y3,⟨rfl,K0⟩,⟨rfl,K0⟩,Z6⟩
def Sto.bxY(s:Sto)(v:Nat):Y5:=[qT (s.tn 1 6 7 4 5),w9 s.d.E,none,none,zG s.L,vU v s.fr s.fr.length,B7 s.d.C,z6 s.d.keep]
def c3E:Con:=.reff ⟨Sto×Nat,λx=>[.ref 0 0 0],λx=>x.1.bx x.2,λx=>.bool (U7 x.1.d).2,λx=>(x.1.sd ((U7 x.1.d).1)).bxY x.2,λx=>jH x.1.d/\bW x.1.d⟩
def c2C(s:Sto)(v:Nat):Nat->Ann
 |0=>.one (Up s.d.C.length) (λx=>⟨[(0,.ref 0 0 0),(19,.osl 2 0 s.d.C.length),(20,Ji s.d.C.length),(21,Ji x.1)],[qT (s.tn 1 2 3 4 5),some (.arr true 0 1 s.d.E.length (Z5 (h9 s.d.E s.d.C (λ_=>true) x.1))),B7 s.d.C,z6 s.d.keep,zG s.L,vU v s.fr s.fr.length]⟩) (λx=>s.d.C.length-x.1) c1n c1n (λ_=>Y7)
 |_=>.none
theorem a8L:GK 122 c3E:=gk func122<|by
 rintro⟨s,v⟩ ⟨⟨i,g,h⟩,f⟩;dsimp only at i g h f;refine w3 (gC a3w (gC b3m gN)) func122 (c2C s v) [c1N,[.nilC 0 1 0 2,.box 0,.arr 1,.arr 2,.arr 3,.arr 4,.arr 5,.arr 6,.arr 3]] (α:=let l:=(Y8 (U7 s.d).1.C);let i:=(0=0/\0=0);let c:=(Z2 Y8 s.d.C s.d.C);let a:=(Z1 s.fr);let g:=(Z2 Y9 s.d.keep s.d.keep);let f:=(Z2 Y0 s.L s.L);let n:=(0=0/\s.d.C.length=s.d.C.length);let m:=(U7 s.d).1.E.length;let k:=(U7 s.d).1.keep.length;let z:=(U7 s.d).1.C.length;let r:=(s.d.C.length:Int);let p:=(v=v/\s.fr.length=s.fr.length/\V3 s.fr.length a a);br s.d.A (∃(x:(List Int)),let b:=x.length;(Le (0+s.d.keep.length) s.d.keep.length/\((Z2 Y9 s.d.keep x)/\True)/\b<=1048576)/\∃(X:(Sto×List Int×Nat)),let w:=(h9 X.1.d.E X.1.d.C (kp X.2.1) X.1.d.C.length);((i/\(0=0/\b=X.2.1.length)/\True)/\(pG s X.1/\(Z2 Z5 s.d.E X.1.d.E)/\(Z2 Y8 s.d.C X.1.d.C)/\(Z2 Y9 s.d.keep X.1.d.keep)/\(Z2 Y0 s.L X.1.L)/\(v=X.2.2/\s.fr.length=X.1.fr.length/\V3 s.fr.length a (Z1 X.1.fr))/\(b=X.2.1.length/\Z7 (b) (Y9 x) (Y9 X.2.1))/\True)/\jH X.1.d/\bW X.1.d/\X.2.1.length<=1048576)/\(false=(U7 s.d).2/\True)/\(oo ((0=0/\w.length=m)/\(0=0/\0=z)/\false=(U7 s.d).1.A/\(0=0/\0=k)/\X.1.ep=s.ep/\(0=0/\X.1.L.length=s.L.length)/\X.1.S=s.S/\(0=0/\X.1.fr.length=s.fr.length)/\X.1.J=s.J/\True))/\(Z2 Z5 w (U7 s.d).1.E)/\True/\True/\(Z2 Y0 X.1.L s.L)/\(X.2.2=v/\X.1.fr.length=s.fr.length/\V3 X.1.fr.length (Z1 X.1.fr) a)/\(0=z/\Z7 0 (Y8 []) l)/\(0=k/\Z7 0 (Y9 []) (Y9 (U7 s.d).1.keep))/\True) ((∃(x:Up s.d.C.length),(i/\n/\r=r/\0=(x.1:Int)/\True)/\pG s s/\(s.d.E.length=s.d.E.length/\Z7 s.d.E.length (Z5 s.d.E) (Z5 (h9 s.d.E s.d.C (λ(x:Nat)=>true) x.1)))/\c/\g/\f/\p/\True)/\∀(x:Up s.d.C.length),let t:=(λ(x:Nat)=>true);let j:=(Z5 (h9 s.d.E s.d.C t x.1));let u:=(x.1:Int);let q:=(s.d.C.getD (0+u.toNat) dz);bd (u<r) (V6 u s.d.C.length/\Lt (0+u.toNat) s.d.C.length/\V6 q.at_ s.d.E.length/\Lt (0+q.at_.toNat) s.d.E.length/\Ri (u+1)/\∃(y:Up s.d.C.length),((i/\n/\r=r/\u+1=(y.1:Int)/\True)/\pG s s/\(s.d.E.length=s.d.E.length/\Z7 s.d.E.length (setRow j (0+q.at_.toNat) 0 [T.str q.d]) (Z5 (h9 s.d.E s.d.C t y.1)))/\c/\g/\f/\p/\True)/\Lt (s.d.C.length-y.1) (s.d.C.length-x.1)) ((true=(U7 s.d).2/\True)/\(oo ((0=0/\s.d.E.length=m)/\(0=0/\0=z)/\s.d.A=(U7 s.d).1.A/\(0=0/\s.d.keep.length=k)/\s.ep=s.ep/\(0=0/\s.L.length=s.L.length)/\s.S=s.S/\(0=0/\s.fr.length=s.fr.length)/\s.J=s.J/\True))/\(s.d.E.length=m/\Z7 s.d.E.length j (Z5 (U7 s.d).1.E))/\True/\True/\f/\p/\(0=z/\Z7 0 (λ(x:Nat)=>[]) l)/\(Z2 Y9 s.d.keep (U7 s.d).1.keep)/\True))) ⟨λha=>?_,λha=>?_⟩
 ·have e:U7 s.d=(crD s.d s.d.keep,false):=by unfold U7;rw[if_pos ha]
  rw[e];exact⟨s.d.keep,⟨dY _,Y3,h⟩,(s,s.d.keep,v),⟨Y3,⟨Y3,Y3,Y3,Y3,Y3,I2,Y3,Z6⟩,⟨i,g,h⟩,f,h⟩,Y3,Y3,Y3,Z6,Z6,Y3,I2,⟨rfl,K0⟩,⟨rfl,K0⟩,Z6⟩
 ·have e:U7 s.d=(⟨h9 s.d.E s.d.C (λ_=>true) s.d.C.length,[],s.d.A,s.d.keep⟩,true):=by unfold U7;rw[if_neg (by rw[ha];simp)]
  rw[e];refine⟨⟨⟨0,N7 _⟩,Y3,Y3,Y3,Y3,Y3,Y3,I2,Z6⟩,λx=>⟨λhc=>?_,λhc=>?_⟩⟩
  ·have hlt:=Y2 hc;rw[E8,show 0+x.1=x.1 by omega]
   have ha:=f x.1 hlt;exact⟨Y1 hlt,hlt,ha,I5,Z3 Z9,⟨x.1+1,hlt⟩,⟨⟨Y3,Y3,rfl,X0,Z6⟩,Y3,⟨rfl,jU (Q:=λ_=>true) rfl⟩,Y3,Y3,Y3,I2,Z6⟩,V0.ext_lt hlt⟩
  ·have hx:x.1=s.d.C.length:=by have:=x.2;have:=X7 hc;omega
   rw[hx];have l:=(C5 s.d.E s.d.C (λ_=>true) s.d.C.length).symm
   exact⟨Y3,⟨rfl,rfl,⟨rfl,l⟩,Y3⟩,⟨l,W2 _ _⟩,Z6,Z6,Y3,I2,⟨rfl,K0⟩,Y3⟩
theorem c1L{hi lsn:Int}{s:RdSt}:∀n,(RdSt.go hi lsn s n).ok=true->s.ok=true
 |0,h=>h
 |n+1,h=>by
  refine c1L (hi:=hi) (lsn:=lsn) n ?_
  simp only[RdSt.go,RdSt.step,M1] at h;exact h.1.1
theorem b6v{hi lsn:Int}{s:RdSt}:∀n,s.l.length<=(RdSt.go hi lsn s n).l.length+2*n
 |0=>by simp[RdSt.go]
 |n+1=>by
  have:=b6v (hi:=hi) (lsn:=lsn) (s:=s) n;simp only[RdSt.go,RdSt.step,List.length_drop];omega
theorem b5V{most lo hi lsn:Int}{l:Bz}{fl:Bool}(h:(O1 most lo hi lsn l fl).ok=true):(l.length:Int)<=(O1 most lo hi lsn l fl).l.length+2*most+1:=by
 have h1:=c1L _ h;have h2:=b6v (hi:=hi) (lsn:=lsn) (s:=vQ most lo l fl) (numR l).toNat;have h3:numR l<=most:=D4 h1;have h4:=(u9 l).1;have h5:(vQ most lo l fl).l.length=l.length-1:=by simp[vQ]
 have h6:(O1 most lo hi lsn l fl).l.length=(RdSt.go hi lsn (vQ most lo l fl) (numR l).toNat).l.length:=rfl;omega
theorem a0S{a:Bz}{lsn:Int}(h:a32 a lsn=true):a.length<=38:=by
 unfold a32 at h;simp only[M1] at h;have f:=b5V h.1.1.1;have d:=b5V h.1.2.1;have e:=List.isEmpty_iff.1 h.2.2;rw[e] at d;simp at d;omega
theorem a72{r:Rec}(h:M6 r=true):a6F r:=by
 have h:=(R2 r).1 h;unfold C8 at h;obtain⟨_,_,_,_,_,_,_,_,_,_,_,_,_,_,B,f,e⟩:=h;refine⟨Z9,?_⟩
 by_cases d:r.k=6
 ·have:=a0S (f d).2.2.2.2.2.2;omega
 ·have:=(e d).2.2.1;omega
def rE(s:Sto)(i:Nat):Pend:=⟨9+(s.L.getD (s.S.toNat+i) dz).l-1,Q3 (s.L.getD (s.S.toNat+i) dz)⟩
def rK(s:Sto)(n:Nat):Dsk:=⟨s.d.E,s.d.C++(List.range n).map (rE s),s.d.A,s.d.keep⟩
def M7(s:Sto)(lsn:Int):Nat:=lsn.toNat-s.S.toNat
def W5(s:Sto)(lsn:Int):Sto×Bool:=if lsn<=s.S then(s,true) else
 (⟨(U7 (rK s (M7 s lsn))).1,s.ep,s.L,if(U7 (rK s (M7 s lsn))).2=true then lsn else s.S,s.fr,s.J⟩,(U7 (rK s (M7 s lsn))).2)
def uW(s:Sto)(lsn:Int):Prop:=jH s.d/\s.d.C.length<=1000/\bW s.d/\s.d.E.length=69/\0<=s.S/\s.S<=s.L.length/\s.L.length<=60/\lsn<=s.L.length/\∀i,i<s.L.length->(s.L.getD i dz).l=(i:Int)+1/\a6F (s.L.getD i dz)
def b7V:Con:=.reff ⟨Sto×Int×Nat,λx=>[.ref 0 0 0,Ji x.2.1],λx=>x.1.bx x.2.2,λx=>.bool (W5 x.1 x.2.1).2,λx=>(W5 x.1 x.2.1).1.bxY x.2.2,λx=>uW x.1 x.2.1⟩
def b9Z(s:Sto)(lsn:Int)(v:Nat):Nat->Ann
 |0=>.one (Up (M7 s lsn)) (λx=>⟨[(0,.ref 0 0 0),(1,Ji lsn),(22,.osl 4 s.S.toNat (M7 s lsn)),(23,Ji (M7 s lsn)),(24,Ji x.1)],(s.sd (rK s x.1)).bxC v⟩) (λx=>M7 s lsn-x.1) [.box 0,.arr 1,.arr 2,.arr 3,.arr 4,.arr 5,.arr 2] c0X (λ_=>Y7)
 |_=>.none
theorem r8{s:Sto}{lsn:Int}(h:lsn<=s.S):W5 s lsn=(s,true):=if_pos h
theorem m4{s:Sto}{lsn:Int}(h:¬lsn<=s.S):W5 s lsn=(⟨(U7 (rK s (M7 s lsn))).1,s.ep,s.L,if(U7 (rK s (M7 s lsn))).2=true then lsn else s.S,s.fr,s.J⟩,(U7 (rK s (M7 s lsn))).2):=if_neg h
theorem mT{s:Sto}{lsn:Int}{i:Nat}(h:uW s lsn)(hi:i<M7 s lsn):(rE s i).at_=9+s.S+i/\a6F (s.L.getD (s.S.toNat+i) dz)/\s.S+i<lsn:=by
 obtain⟨_,_,_,_,g,e,_,f,d⟩:=h;unfold M7 at hi;obtain⟨a,b⟩:=d (s.S.toNat+i) Z9
 refine⟨?_,b,Z9⟩
 unfold rE;dsimp only;rw[a];omega
theorem yF(s:Sto)(n:Nat):s.d.C++List.map (rE s) (List.range n)++[rE s n]=s.d.C++List.map (rE s) (List.range (n+1)):=by
 rw[List.range_succ,List.map_append,List.append_assoc];rfl
theorem a0K{s:Sto}{lsn:Int}(h:uW s lsn):jH (rK s (M7 s lsn))/\bW (rK s (M7 s lsn)):=by
 have n:=λi=>mT (i:=i) h
 obtain⟨⟨A,t,g⟩,l,f,h4,v,o,u,j,r⟩:=h;have N:M7 s lsn<=60:=by unfold M7;omega
 refine⟨⟨A,?_,g⟩,λi hi=>?_⟩
 ·show(s.d.C++List.map (rE s) (List.range _)).length<=1048576;simp only[J3,List.length_map,j_g];omega
 ·have hi:i<(s.d.C++List.map (rE s) (List.range (M7 s lsn))).length:=hi;show 0<=((s.d.C++List.map (rE s) (List.range (M7 s lsn))).getD i dz).at_/\((s.d.C++List.map (rE s) (List.range (M7 s lsn))).getD i dz).at_<(s.d.E.length:Int);rw[h4,Q2]
  by_cases hc:i<s.d.C.length
  ·rw[tT hc,←Q2]
   have:=f i hc;rw[h4] at this;exact this
  ·rw[rL Z9,←Q2]
   simp only[J3,List.length_map,j_g] at hi;rw[c1b _ Z9]
   obtain⟨e,_,q⟩:=n (i-s.d.C.length) Z9
   rw[e];omega
theorem a31:GK 65 b7V:=gk func65<|by
 rintro⟨s,lsn,v⟩ h;dsimp only at h;have hn:=λi=>mT (i:=i) h
 have W:=a0K h;obtain⟨⟨u,z,A⟩,g,o,j,h5,r,n,h8,t⟩:=h;have N:M7 s lsn<=60:=by unfold M7;omega
 refine w3 (gC eV (gC a4k (gC a8L gN))) func65 (b9Z s lsn v) [c1N,c1D] (α:=let i:=(0=0/\0=0);let g:=(Z1 s.fr);let w:=(↑(M7 s lsn):Int);let p:=(W5 s lsn);let t:=p.1.d;bd (lsn<=s.S) ((true=p.2/\True)/\pG s p.1/\(Z2 Z5 s.d.E t.E)/\True/\True/\(Z2 Y0 s.L p.1.L)/\(v=v/\s.fr.length=p.1.fr.length/\V3 s.fr.length g (Z1 p.1.fr))/\(Z2 Y8 s.d.C t.C)/\(Z2 Y9 s.d.keep t.keep)/\True) (b0s s.S lsn s.L.length/\(∃(x:Up (M7 s lsn)),let m:=(s.d.C++List.map (rE s) (List.range x.1));(i/\lsn=lsn/\(0+s.S.toNat=s.S.toNat/\lsn.toNat-s.S.toNat=M7 s lsn)/\(↑(lsn.toNat-s.S.toNat):Int)=w/\0=(x.1:Int)/\True)/\(oo ((0=0/\s.d.E.length=s.d.E.length)/\(0=0/\s.d.C.length=m.length)/\s.d.A=s.d.A/\(0=0/\s.d.keep.length=s.d.keep.length)/\s.ep=s.ep/\(0=0/\s.L.length=s.L.length)/\s.S=s.S/\(0=0/\s.fr.length=s.fr.length)/\s.J=s.J/\True))/\(Z2 Z5 s.d.E s.d.E)/\True/\(Z2 Y9 s.d.keep s.d.keep)/\(Z2 Y0 s.L s.L)/\(v=v/\s.fr.length=s.fr.length/\V3 s.fr.length g g)/\(Z2 Y8 s.d.C m)/\True)/\∀(x:Up (M7 s lsn)),let j:=(x.1:Int);let pa:=(s.S.toNat+j.toNat);let r:=(s.d.C++List.map (rE s) (List.range x.1));let q:=(s.L.getD pa dz);bd (j<w) (V6 j (M7 s lsn)/\Lt pa s.L.length/\Ri (9+q.l)/\Ri (9+q.l-1)/\∃(X:Rec),(((EqR q X)/\True)/\a6F X)/\∃(f:(Sto×Int×Bz×Nat)),let a:=f.1.fr.length;let k:=f.1.d;let b:=(k.C++[Pend.mk f.2.1 f.2.2.1]);((i/\9+q.l-1=f.2.1/\Q3 X=f.2.2.1/\True)/\((oo ((0=0/\s.d.E.length=k.E.length)/\(0=0/\r.length=k.C.length)/\s.d.A=k.A/\(0=0/\s.d.keep.length=k.keep.length)/\s.ep=f.1.ep/\(0=0/\s.L.length=f.1.L.length)/\s.S=f.1.S/\(0=0/\s.fr.length=a)/\s.J=f.1.J/\True))/\(Z2 Z5 s.d.E k.E)/\(Z2 Y8 r k.C)/\(Z2 Y9 s.d.keep k.keep)/\(Z2 Y0 s.L f.1.L)/\(v=f.2.2.2/\s.fr.length=a/\V3 s.fr.length g (Z1 f.1.fr))/\True)/\k.C.length<=1048576)/\Ri (j+1)/\∃(y:Up (M7 s lsn)),let n:=(s.d.C++List.map (rE s) (List.range y.1));((i/\lsn=lsn/\(s.S.toNat=s.S.toNat/\M7 s lsn=M7 s lsn)/\w=w/\j+1=(y.1:Int)/\True)/\(oo ((0=0/\k.E.length=s.d.E.length)/\(0=0/\b.length=n.length)/\k.A=s.d.A/\(0=0/\k.keep.length=s.d.keep.length)/\f.1.ep=s.ep/\(0=0/\f.1.L.length=s.L.length)/\f.1.S=s.S/\(0=0/\a=s.fr.length)/\f.1.J=s.J/\True))/\(Z2 Z5 k.E s.d.E)/\True/\(Z2 Y9 k.keep s.d.keep)/\(Z2 Y0 f.1.L s.L)/\(f.2.2.2=v/\a=s.fr.length/\V3 f.1.fr.length (Z1 f.1.fr) g)/\(Z2 Y8 b n)/\True)/\Lt (M7 s lsn-y.1) (M7 s lsn-x.1)) (∃(X:(Sto×Nat)),let pb:=(Z2 Y0 X.1.L p.1.L);let u:=(U7 X.1.d);let c:=(Z2 Y9 u.1.keep t.keep);let z:=(X.2=v/\X.1.fr.length=p.1.fr.length/\V3 X.1.fr.length (Z1 X.1.fr) (Z1 p.1.fr));((i/\True)/\((oo ((0=0/\s.d.E.length=X.1.d.E.length)/\(0=0/\r.length=X.1.d.C.length)/\s.d.A=X.1.d.A/\(0=0/\s.d.keep.length=X.1.d.keep.length)/\s.ep=X.1.ep/\(0=0/\s.L.length=X.1.L.length)/\s.S=X.1.S/\(0=0/\s.fr.length=X.1.fr.length)/\s.J=X.1.J/\True))/\(Z2 Z5 s.d.E X.1.d.E)/\(Z2 Y8 r X.1.d.C)/\(Z2 Y9 s.d.keep X.1.d.keep)/\(Z2 Y0 s.L X.1.L)/\(v=X.2/\s.fr.length=X.1.fr.length/\V3 s.fr.length g (Z1 X.1.fr))/\True)/\jH X.1.d/\bW X.1.d)/\br (! u.2) ((false=p.2/\True)/\pG {X.1 with d:=u.1} p.1/\(Z2 Z5 u.1.E t.E)/\True/\True/\pb/\z/\(Z2 Y8 u.1.C t.C)/\c/\True) ((true=p.2/\True)/\pG {X.1 with d:=u.1,S:=lsn} p.1/\(Z2 Z5 u.1.E t.E)/\True/\True/\pb/\z/\(Z2 Y8 u.1.C t.C)/\c/\True)))) ⟨λhc=>?_,λhc=>?_⟩
 ·rw[r8 (D4 hc)];exact⟨Y3,Y3,Y3,Z6,Z6,Y3,I2,Y3,Y3,Z6⟩
 ·have hc:=q8 hc;refine⟨⟨h5,Z9,h8⟩,⟨⟨0,N7 _⟩,⟨Y3,rfl,⟨E5 _,rfl⟩,Y3⟩,⟨rfl,rfl,Y3,⟨rfl,X3⟩,Y3⟩,Y3,Z6,Y3,Y3,I2,⟨X3,λi _=>X3⟩,Z6⟩,λx=>⟨λhx=>?_,λhx=>?_⟩⟩
  ·have hlt:=Y2 hx;obtain⟨e,hb,q⟩:=hn x.1 hlt;have e':9+(s.L.getD (s.S.toNat+x.1) dz).l-1=9+s.S+x.1:=e;rw[E8];refine⟨Y1 hlt,I5,Z3 Z9,Z3 Z9,_,⟨Y3,hb⟩,(s.sd (rK s x.1),9+(s.L.getD (s.S.toNat+x.1) dz).l-1,Q3 (s.L.getD (s.S.toNat+x.1) dz),v),⟨Y3,⟨Y3,Y3,Y3,Y3,Y3,I2,Z6⟩,?_⟩,Z3 Z9,⟨x.1+1,hlt⟩,⟨⟨Y3,rfl,Y3,rfl,X0,Z6⟩,⟨rfl,rfl,Y3,⟨rfl,congrArg List.length (yF s x.1)⟩,Y3⟩,Y3,Z6,Y3,Y3,I2,⟨congrArg List.length (yF s x.1),λi _=>congrArg (λL=>Y8 L i) (yF s x.1)⟩,Z6⟩,V0.ext_lt hlt⟩
   show(s.d.C++List.map (rE s) (List.range _)).length<=1048576;simp only[J3,List.length_map,j_g];omega
  ·have hx:x.1=M7 s lsn:=by have:=x.2;have:=X7 hx;omega
   rw[hx,m4 hc];refine⟨(s.sd (rK s (M7 s lsn)),v),⟨Y3,⟨Y3,Y3,Y3,Y3,Y3,I2,Z6⟩,W⟩,λY=>?_,λY=>?_⟩
   ·have Y:(U7 (rK s (M7 s lsn))).2=false:=(xO _).mp Y;exact⟨⟨Y.symm,Z6⟩,⟨rfl,rfl,Y3,Y3,rfl,Y3,rfl,Y3,(if_neg (by rw[Y];simp)).symm,⟨rfl,rfl⟩,rfl,Z6⟩,⟨rfl,W2 _ _⟩,Z6,Z6,⟨rfl,W2 _ _⟩,⟨rfl,rfl,iO _⟩,⟨rfl,W2 _ _⟩,⟨rfl,W2 _ _⟩,Z6⟩
   ·have Y:(U7 (rK s (M7 s lsn))).2=true:=(yC _).mp Y;exact⟨⟨Y.symm,Z6⟩,⟨rfl,rfl,Y3,Y3,rfl,Y3,rfl,Y3,(if_pos Y).symm,Y3⟩,Y3,Z6,Z6,Y3,I2,Y3,Y3,Z6⟩
theorem rB{a b c:Int}(h:V9 a b c=true):b<=a/\a<=c:=by simpa[V9] using h
theorem c3M{a b c:Int}(h:(!V9 a b c)=false):b<=a/\a<=c:=rB D3
theorem c0B{s:Sto}{lsn:Int}(h:H7 s=true)(l:lsn<=s.L.length)(M:SmS s):uW s lsn:=by
 obtain⟨⟨f,e,d⟩,_⟩:=(K3 s).1 h;obtain⟨j,c2,_,_,C⟩:=(y6 s).1 f;obtain⟨_,_,n,_,_,_,g⟩:=j;have d:=rB d;refine⟨M.1,Z9,λi hi=>?_,c2,d.1,d.2,C,l,λi hi=>?_⟩
 ·have:=g i hi;unfold O8 at this;simp only[yY,yC] at this;have:=rB this.1;omega
 ·obtain⟨a,b⟩:=D8.1 e i hi;exact⟨b,a72 a⟩
theorem b8O{d:Dsk}(h:jH d):jH (U7 d).1:=by
 obtain⟨e,g,f⟩:=h;unfold U7;split
 ·exact⟨by unfold crD;dsimp only;rw[C5];exact e,Y3⟩
 ·exact⟨by dsimp only;rw[C5];exact e,N7 _,f⟩
theorem a4V{s:Sto}{lsn:Int}(h:uW s lsn)(M:SmS s):SmS (W5 s lsn).1:=by
 by_cases l:lsn<=s.S
 ·rw[r8 l];exact M
 ·rw[m4 l];exact⟨b8O (a0K h).1,M.2.1,M.2.2.1,M.2.2.2⟩
def a7Y:Con:=.rel ⟨Dsk×Int×Bz,λx=>[.agg x.1.ts,Ji x.2.1,.str x.2.2],λx=>.agg (wrD x.1 x.2.1 x.2.2).ts,λx=>x.1.C.length<=1048576⟩
theorem lS:GK 224 a7Y:=gk func224<|by
 rintro⟨d,at_,t⟩ (h:d.C.length<=1048576);exact S2 gN func224 Y7 (α:=(Le 0 0/\U8 0 d.C.length 24)/\(Le 1 1/\Le (0+d.C.length) (0+d.C.length)/\U8 (0+d.C.length) 1 24)/\Le (0+(0+d.C.length+1)) (0+d.C.length+1)/\(Z2 Z5 d.E d.E)/\(0+d.C.length+1=(d.C++[Pend.mk at_ t]).length/\Z7 (0+d.C.length+1) (X6 (X6 (tk 2 []) 0 (Y8 d.C)) (0+d.C.length) (tk 2 [Ji at_,T.str t])) (Y8 (d.C++[Pend.mk at_ t])))/\d.A=d.A/\(Z2 Y9 d.keep d.keep)/\True) ⟨⟨U9 _,Q5⟩,⟨U9 _,U9 _,Q5⟩,K2,Y3,⟨X3,by rw[E5];exact a3j d.C ⟨at_,t⟩⟩,Y3⟩
def c1l(l:List T):Option Ob:=some (.arr false 1000000 4 1 λ_=>l)
def a9O(l:List T):Option Ob:=some (.arr true 1000000 4 1 λ_=>l)
def c5t:List T:=[.v (.slice none 0 0),.v (.slice none 0 0),.bool false,.v (.slice none 0 0)]
def a8f:Con:=.rel ⟨Dsk×List Int,λx=>[.agg x.1.ts,cN x.2],λx=>.agg (crD x.1 x.2).ts,λx=>jH x.1/\bW x.1⟩
def a63(d:Dsk)(K:List Int):Nat->Ann
 |0=>.one (Up d.C.length) (λx=>⟨[(1,cN K),(2,.ref 0 0 0),(4,.ref 1 0 0),(5,.ref 2 0 0),(6,Ji x.1)],[a9O d.ts,a9O c5t,c1l (d.tm 3),some (.arr true 0 1 d.E.length (Z5 (h9 d.E d.C (kp K) x.1))),B7 d.C,z6 d.keep]⟩) (λx=>d.C.length-x.1) c1g c1m (λ_=>Y7)
 |_=>.none
theorem Q6{p:Prop}(h:p:=by repeat' first|exact trivial|exact rfl|exact W2 _ _|exact iO _|exact K0|exact dY _|exact U9 _|exact N7 _|refine And.intro ?_ ?_):p:=h
theorem a3k:GK 271 a8f:=gk func271<|by
 rintro⟨d,K⟩ ⟨⟨l,f,g⟩,i⟩;dsimp only at l f g i;refine S2 (gC nF gN) func271 (a63 d K) (α:=let m:=(Z2 Y9 K K);let k:=(Z2 Y9 d.keep d.keep);let j:=(oo (yA d d));let w:=(h9 d.E d.C (kp K) d.C.length);let z:=(0=0/\0=0);let r:=(oo ((0=0/\d.E.length=d.E.length)/\(0=0/\d.C.length=d.C.length)/\d.A=d.A/\(0=0/\d.keep.length=d.keep.length)/\True));let p:=(oo (Value.slice none 0 0=Value.slice none 0 0/\Value.slice none 0 0=Value.slice none 0 0/\false=false/\Value.slice none 0 0=Value.slice none 0 0/\True));∃(x:Dsk),(((yA d x)/\True)/\jH x)/\(∃(X:Up d.C.length),(m/\z/\z/\z/\0=(X.val:Int)/\True)/\j/\p/\(oo ((0=0/\x.E.length=d.E.length)/\(0=0/\x.C.length=d.C.length)/\x.A=d.A/\(0=0/\x.keep.length=d.keep.length)/\True))/\(x.E.length=d.E.length/\Z7 x.E.length (Z5 x.E) (Z5 (h9 d.E d.C (kp K) X.val)))/\(Z2 Y8 x.C d.C)/\(Z2 Y9 x.keep d.keep)/\True)/\∀(x:Up d.C.length),let f:=(d.C.length-x.1);let v:=(Z5 (h9 d.E d.C (kp K) x.1));let q:=(x.1:Int);let n:=(q<(K.length:Int));let u:=(d.C.getD q.toNat dz);bd (q<(d.C.length:Int)) ((decide n=true->V6 q K.length)/\br (decide n&&K.getD q.toNat (0:Int) !=0) (V6 q d.C.length/\V6 q d.C.length/\V6 u.at_ d.E.length/\Lt (0+u.at_.toNat) d.E.length/\Ri (q+1)/\∃(y:Up d.C.length),((m/\z/\z/\z/\q+1=(y.1:Int)/\True)/\j/\p/\r/\(d.E.length=d.E.length/\Z7 d.E.length (setRow v (0+u.at_.toNat) 0 [T.str u.d]) (Z5 (h9 d.E d.C (kp K) y.1)))/\(Z2 Y8 d.C d.C)/\k/\True)/\Lt (d.C.length-y.1) f) (Ri (q+1)/\∃(y:Up d.C.length),((m/\z/\z/\z/\q+1=(y.1:Int)/\True)/\j/\p/\r/\(d.E.length=d.E.length/\Z7 d.E.length v (Z5 (h9 d.E d.C (kp K) y.1)))/\(Z2 Y8 d.C d.C)/\k/\True)/\Lt (d.C.length-y.1) f)) ((Le (0+d.E.length) d.E.length/\Le 0 0/\Le 0 0)/\(d.E.length=w.length/\Z7 d.E.length v (Z5 w))/\(0=0/\Z7 0 (tk 2 []) (Y8 []))/\false=false/\(0=0/\Z7 0 (tk 1 []) (Y9 []))/\True)) ⟨d,⟨Y3,l,f,g⟩,⟨⟨0,N7 _⟩,Q6⟩,λx=>⟨λhc=>?_,λhc=>?_⟩⟩
 ·have t:=Y2 hc;have n:(decide ((x.1:Int)<(K.length:Int))&&K.getD x.1 0 !=0)=kp K x.1:=by
   unfold kp;rw[show decide ((x.1:Int)<(K.length:Int))=decide (x.1<K.length) from decide_eq_decide.2 Z9]
  have A:=i x.1 t;rw[E8,n];refine⟨λh=>Y1 (Y2 h),λe=>?_,λe=>?_⟩
  ·exact⟨Y1 t,Y1 t,A,I5,Z3 Z9,⟨x.1+1,t⟩,⟨⟨Y3,Y3,Y3,Y3,X0,Z6⟩,Y3,Q6,Q6,⟨rfl,jU e⟩,Q6⟩,V0.ext_lt t⟩
  ·exact⟨Z3 Z9,⟨x.1+1,t⟩,⟨⟨Y3,Y3,Y3,Y3,X0,Z6⟩,Y3,Q6,Q6,⟨rfl,λj _=>by dsimp only;rw[c1p e]⟩,Q6⟩,V0.ext_lt t⟩
 ·have hx:x.1=d.C.length:=by have:=x.2;have:=X7 hc;omega
  rw[hx];exact⟨Q6,⟨(C5 _ _ _ _).symm,W2 _ _⟩,Q6⟩
def b0u:Con:=.rel ⟨Dsk,λd=>[.agg d.ts],λd=>.tup [.agg (U7 d).1.ts,.bool (U7 d).2],λd=>jH d/\bW d⟩
def b10(d:Dsk):Nat->Ann
 |0=>.one (Up d.C.length) (λx=>⟨[(1,.ref 0 0 0),(2,.ref 1 0 0),(4,.ref 2 0 0),(5,Ji x.1)],[a9O d.ts,a9O c5t,c1l (d.tm 3),some (.arr true 0 1 d.E.length (Z5 (h9 d.E d.C (λ_=>true) x.1))),B7 d.C,z6 d.keep]⟩) (λx=>d.C.length-x.1) c1g c1m (λ_=>Y7)
 |_=>.none
theorem eX:GK 226 b0u:=gk func226<|by
 rintro(d:Dsk) ⟨⟨h1,h2,h3⟩,h4⟩;refine S2 (gC a3k (gC nF gN)) func226 (b10 d) (α:=let v:=(U7 d).1.C.length;let z:=(0=0/\0=0);let p:=(oo (Value.slice none 0 0=Value.slice none 0 0/\Value.slice none 0 0=Value.slice none 0 0/\false=false/\Value.slice none 0 0=Value.slice none 0 0/\True));br d.A (∃(x:(Dsk×List Int)),(((yA d x.1)/\(Z2 Y9 d.keep x.2)/\True)/\jH x.1/\bW x.1)/\((Z2 Z5 (h9 x.1.E x.1.C (kp x.2) x.1.C.length) (U7 d).1.E)/\(0=v/\Z7 0 (Y8 []) (Y8 (U7 d).1.C))/\false=(U7 d).1.A/\(0=(U7 d).1.keep.length/\Z7 0 (Y9 []) (Y9 (U7 d).1.keep))/\True)/\false=(U7 d).2/\True) (∃(x:Dsk),(((yA d x)/\True)/\jH x)/\(∃(X:Up d.C.length),(z/\z/\z/\0=(X.val:Int)/\True)/\(oo (yA d d))/\p/\(oo ((0=0/\x.E.length=d.E.length)/\(0=0/\x.C.length=d.C.length)/\x.A=d.A/\(0=0/\x.keep.length=d.keep.length)/\True))/\(x.E.length=d.E.length/\Z7 x.E.length (Z5 x.E) (Z5 (h9 d.E d.C (λ(x:Nat)=>true) X.val)))/\(Z2 Y8 x.C d.C)/\(Z2 Y9 x.keep d.keep)/\True)/\∀(x:Up d.C.length),let w:=(λ(x:Nat)=>true);let u:=(Z5 (h9 d.E d.C w x.1));let r:=(x.1:Int);let q:=(d.C.getD r.toNat dz);bd (r<(d.C.length:Int)) (V6 r d.C.length/\V6 r d.C.length/\V6 q.at_ d.E.length/\Lt (0+q.at_.toNat) d.E.length/\Ri (r+1)/\∃(y:Up d.C.length),((z/\z/\z/\r+1=(y.1:Int)/\True)/\(oo (yA d d))/\p/\(oo ((0=0/\d.E.length=d.E.length)/\(0=0/\d.C.length=d.C.length)/\d.A=d.A/\(0=0/\d.keep.length=d.keep.length)/\True))/\(d.E.length=d.E.length/\Z7 d.E.length (setRow u (0+q.at_.toNat) 0 [T.str q.d]) (Z5 (h9 d.E d.C w y.1)))/\(Z2 Y8 d.C d.C)/\(Z2 Y9 d.keep d.keep)/\True)/\Lt (d.C.length-y.1) (d.C.length-x.1)) ((Le (0+d.E.length) d.E.length/\Le 0 0/\Le (0+d.keep.length) d.keep.length)/\((d.E.length=(U7 d).1.E.length/\Z7 d.E.length u (Z5 (U7 d).1.E))/\(0=v/\Z7 0 (tk 2 []) (Y8 (U7 d).1.C))/\d.A=(U7 d).1.A/\(Z2 Y9 d.keep (U7 d).1.keep)/\True)/\true=(U7 d).2/\True))) ⟨λhd=>?_,λhd=>?_⟩
 ·have e:U7 d=(crD d d.keep,false):=by unfold U7;rw[if_pos hd]
  rw[e];exact⟨(d,d.keep),⟨Y3,⟨h1,h2,h3⟩,h4⟩,Q6⟩
 ·have e:U7 d=(⟨h9 d.E d.C (λ_=>true) d.C.length,[],d.A,d.keep⟩,true):=by unfold U7;rw[if_neg (by rw[hd];simp)]
  rw[e];refine⟨d,⟨Y3,h1,h2,h3⟩,⟨⟨0,N7 _⟩,Q6⟩,λx=>⟨λhc=>?_,λhc=>?_⟩⟩
  ·have h:=Y2 hc;have A:=h4 x.1 h;rw[E8];exact⟨Y1 h,Y1 h,A,I5,Z3 Z9,⟨x.1+1,h⟩,⟨⟨Y3,Y3,Y3,X0,Z6⟩,Y3,Q6,Q6,⟨rfl,jU (Q:=λ_=>true) rfl⟩,Q6⟩,V0.ext_lt h⟩
  ·have hx:x.1=d.C.length:=by have:=x.2;have:=X7 hc;omega
   rw[hx];exact⟨Q6,⟨⟨(C5 _ _ _ _).symm,W2 _ _⟩,Q6⟩,Q6⟩
def c5g(l:List T):Option Ob:=some (.arr true 1000000 9 1 λ_=>l)
def a6s:Con:=.rel ⟨Sto×Int,λx=>[.agg x.1.ts,Ji x.2],λx=>.tup [.agg (W5 x.1 x.2).1.ts,.bool (W5 x.1 x.2).2],λx=>uW x.1 x.2⟩
def a6Z(s:Sto)(lsn:Int):Nat->Ann
 |0=>.one (Up (M7 s lsn)) (λx=>⟨[(1,Ji lsn),(2,.ref 0 0 0),(4,.ref 1 0 0),(6,Ji (s.S+x.1+1))],[c5g (s.sd (rK s x.1)).ts,b3Z]⟩) (λx=>M7 s lsn-x.1) vO vO (λ_=>Y7)
 |_=>.none
theorem a3v:GK 156 a6s:=gk func156<|by
 rintro⟨s,lsn⟩ h;dsimp only at h;have n:=λi=>mT (i:=i) h
 have W:=a0K h;obtain⟨⟨A,t,C⟩,j,l,u,z,o,v,g,r⟩:=h;have N:M7 s lsn<=60:=by unfold M7;omega
 refine S2 (gC a4r (gC lS (gC eX gN))) func156 (a6Z s lsn) (α:=let w:=(Z2 V4 s.fr s.fr);let u:=(0=0/\0=0);let z:=(W5 s lsn);let p:=(oo (Value.slice none 0 0=Value.slice none 0 0/\Value.slice none 0 0=Value.slice none 0 0/\false=false/\Value.slice none 0 0=Value.slice none 0 0/\(0:Int)=0/\Value.slice none 0 0=Value.slice none 0 0/\(0:Int)=0/\Value.slice none 0 0=Value.slice none 0 0/\(0:Int)=0/\True));bd (lsn<=s.S) ((zV s z.1)/\true=z.2/\True) (Ri (s.S+1)/\(∃(x:Up (M7 s lsn)),(lsn=lsn/\u/\u/\s.S+1=s.S+(x.1:Int)+1/\True)/\(oo ((Z2 Z5 s.d.E s.d.E)/\(Z2 Y8 s.d.C (s.d.C++List.map (rE s) (List.range x.1)))/\s.d.A=s.d.A/\(Z2 Y9 s.d.keep s.d.keep)/\s.ep=s.ep/\(Z2 Y0 s.L s.L)/\s.S=s.S/\w/\s.J=s.J/\True))/\p/\True)/\∀(x:Up (M7 s lsn)),let r:=(s.d.C++List.map (rE s) (List.range x.1));let q:=(x.1:Int);let j:=(s.S+q+1);let v:=(s.S+q+1-1);bd (s.S+q+1<=lsn) (Ri (9+j)/\Ri (9+j-1)/\Ri v/\V6 v s.L.length/\∃(X:Rec),(((EqR (s.L.getD v.toNat dz) X)/\True)/\a6F X)/\∃(f:(Dsk×Int×Bz)),((((Z2 Z5 s.d.E f.1.E)/\(Z2 Y8 r f.1.C)/\s.d.A=f.1.A/\(Z2 Y9 s.d.keep f.1.keep)/\True)/\9+j-1=f.2.1/\Q3 X=f.2.2/\True)/\f.1.C.length<=1048576)/\Ri (s.S+q+1+1)/\∃(y:Up (M7 s lsn)),((lsn=lsn/\u/\u/\s.S+q+1+1=s.S+(y.1:Int)+1/\True)/\(oo ((Z2 Z5 f.1.E s.d.E)/\(Z2 Y8 (f.1.C++[Pend.mk f.2.1 f.2.2]) (s.d.C++List.map (rE s) (List.range y.1)))/\f.1.A=s.d.A/\(Z2 Y9 f.1.keep s.d.keep)/\s.ep=s.ep/\(Z2 Y0 s.L s.L)/\s.S=s.S/\w/\s.J=s.J/\True))/\p/\True)/\Lt (M7 s lsn-y.1) (M7 s lsn-x.1)) (∃(X:Dsk),((((Z2 Z5 s.d.E X.E)/\(Z2 Y8 r X.C)/\s.d.A=X.A/\(Z2 Y9 s.d.keep X.keep)/\True)/\True)/\jH X/\bW X)/\br (U7 X).2 ((zV {s with d:=(U7 X).1,S:=lsn} z.1)/\(U7 X).2=z.2/\True) ((zV {s with d:=(U7 X).1} z.1)/\(U7 X).2=z.2/\True)))) ⟨λhc=>?_,λhc=>?_⟩
 ·rw[r8 (D4 hc)];exact Q6
 ·have hc:=q8 hc;refine⟨Z3 Z9,⟨⟨0,N7 _⟩,⟨rfl,Y3,Y3,X0,Z6⟩,⟨rfl,rfl,Y3,⟨X3,λi _=>X3⟩,Q6⟩,Q6⟩,λx=>⟨λhx=>?_,λhx=>?_⟩⟩
  ·have hlt:x.1<M7 s lsn:=by have:=D4 hx;unfold M7;omega
   obtain⟨e,B,q⟩:=n x.1 hlt;rw[show(s.S+(x.1:Int)+1-1).toNat=s.S.toNat+x.1 by omega]
   refine⟨Z3 Z9,Z3 Z9,Z3 Z9,⟨Z9,Z9⟩,_,⟨Y3,B⟩,(rK s x.1,(rE s x.1).at_,Q3 (s.L.getD (s.S.toNat+x.1) dz)),⟨⟨Q6,by show _=(rE s x.1).at_;rw[e];omega,rfl,Z6⟩,?_⟩,Z3 Z9,⟨x.1+1,hlt⟩,⟨⟨rfl,⟨rfl,rfl⟩,⟨rfl,rfl⟩,X0,Z6⟩,⟨rfl,rfl,⟨rfl,W2 _ _⟩,⟨congrArg List.length (yF s x.1),λi _=>congrArg (λL=>Y8 L i) (yF s x.1)⟩,Q6⟩,Q6⟩,V0.ext_lt hlt⟩
   show(s.d.C++List.map (rE s) (List.range _)).length<=1048576;simp only[J3,List.length_map,j_g];omega
  ·have hx:x.1=M7 s lsn:=by have:=x.2;have:=q8 hx;unfold M7 at*;omega
   rw[hx,m4 hc];refine⟨rK s (M7 s lsn),⟨⟨Q6,Z6⟩,W⟩,λY=>⟨⟨Y3,Y3,rfl,Y3,rfl,Y3,(if_pos Y).symm,Q6⟩,Q6⟩,λY=>⟨⟨Y3,Y3,rfl,Y3,rfl,Y3,(if_neg (by rw[Y];simp)).symm,Q6⟩,Q6⟩⟩
def b8m(l:Bz)(L:List (Bz)):Nat->Ann
 |0=>.one (Up L.length) (λx=>⟨[(0,.osl 1 0 (l++W4 L x.1).length),(13,xZ L),(14,Ji L.length),(15,Ji x.1)],[none,some (.bys 5 (l++W4 L x.1))]⟩) (λx=>L.length-x.1) [.arr 0,.arr 2] [.arr 0,.at_ 0] (λ_=>Y7)
 |_=>.none
def a0w:Con:=.reff ⟨Bz×List (Bz),λx=>[.osl 0 0 x.1.length,xZ x.2],λx=>[some (.bys 5 x.1)],λx=>.osl 1 0 (x.1++S3 x.2).length,λx=>[none,some (.bys 5 (x.1++S3 x.2))],λx=>x.1.length<=1000/\r5 x.2⟩
theorem dG:GK 192 a0w:=gk func192<|by
 rintro⟨l,L⟩ ⟨g,h,h3⟩;dsimp only at g h h3;have f:List.take l.length l++List.take 1 (List.drop 0 (List.map R4 [IntKind.u8.wrap (L.length:Int)]))=l++W4 L 0:=by rw[dC];rfl
 refine w3 gN func192 (b8m l L) [[.arr 0,.arr 1]] (α:=let z:=(L.length:Int);P6 IntKind.u8 (IntKind.u8.wrap z)/\(Le 1 1/\Le l.length l.length/\U8 l.length 1 1)/\(∃(x:Up L.length),((0=0/\l.length+1=(l++W4 L x.1).length)/\(Z2 Z5 L L)/\z=z/\0=(x.1:Int)/\True)/\True/\List.take l.length l++List.take 1 (List.drop 0 (List.map R4 [IntKind.u8.wrap z]))=l++W4 L x.1/\True)/\∀(x:Up L.length),let u:=(x.1:Int);let q:=(L.getD u.toNat []).length;let p:=(l++W4 L x.1).length;let r:=(List.take p (l++W4 L x.1)++List.take 1 (List.drop 0 (List.map R4 [IntKind.u8.wrap (↑q:Int)])));bd (u<z) (V6 u L.length/\P6 IntKind.u8 (IntKind.u8.wrap (↑q:Int))/\(Le 1 1/\Le p p/\U8 p 1 1)/\(Le (p+1) r.length/\U8 (p+1) q 1)/\Ri (u+1)/\∃(y:Up L.length),(((0=0/\p+1+q=(l++W4 L y.1).length)/\(Z2 Z5 L L)/\z=z/\u+1=(y.1:Int)/\True)/\True/\List.take (p+1) r++L.getD u.toNat []=l++W4 L y.1/\True)/\Lt (L.length-y.1) (L.length-x.1)) (((0=0/\p=(l++S3 L).length)/\True)/\True/\l++W4 L x.1=l++S3 L/\True)) ⟨O9 _,⟨U9 _,U9 _,Q5⟩,⟨⟨0,N7 _⟩,⟨⟨rfl,by simp[W4]⟩,⟨rfl,W2 _ _⟩,rfl,rfl,Z6⟩,Z6,f,Z6⟩,λx=>⟨λhc=>?_,λhc=>?_⟩⟩
 ·have hlt:=Y2 hc;have f1:=xF L h3 x.1 Z9
  have F:=h3 x.1 hlt;rw[E8];have i:(l++W4 L x.1).length<=1100000:=by rw[J3];omega
  have e:List.take (l++W4 L x.1).length (l++W4 L x.1)++List.take 1 (List.drop 0 (List.map R4 [IntKind.u8.wrap ((L.getD x.1 []).length:Int)]))=l++W4 L x.1++[zZ (L.getD x.1 []).length]:=by
   rw[dC];rfl
  rw[e];have d:(l++W4 L x.1++[zZ (L.getD x.1 []).length]).length=(l++W4 L x.1).length+1:=by rw[J3];rfl
  refine⟨Y1 hlt,O9 _,⟨U9 _,U9 _,Q5⟩,⟨by rw[d];exact U9 _,Q5⟩,Z3 Z9,⟨x.1+1,hlt⟩,⟨⟨⟨rfl,?_⟩,Y3,rfl,X0,Z6⟩,Z6,?_,Z6⟩,V0.ext_lt hlt⟩
  ·simp only[W4,J3,List.length_cons,List.length_nil];omega
  ·rw[←d,dC];simp only[W4,List.append_assoc]
 ·have hx:x.1=L.length:=by have:=x.2;have:=X7 hc;omega
  rw[hx];exact Y3
def b2g:Con:=.reff ⟨Bz,λl=>[.osl 0 0 l.length],λl=>[some (.bys 5 l)],λl=>.osl 1 0 (l++D5 (m7 l)).length,λl=>[none,some (.bys 5 (l++D5 (m7 l)))],λl=>l.length<=1000000⟩
theorem a7M:GK 104 b2g:=gk func104<|by
 intro(l:Bz) (hl:l.length<=1000000);have e:(D5 (m7 l)).length=4:=rfl;have h:=a1k l;refine w3 (gC qB (gC a2g gN)) func104 Y7 [[.arr 0,.arr 1]] (α:=∃(x:(vF IntKind.u32).ι),(Le (0+l.length) l.length/\(List.take l.length (List.drop 0 l)=x/\True)/\m5 x)/\∃(X:Nat),((IntKind.i64.wrap (↑(m7 x):Int)=(X:Int)/\True)/\X<4294967296)/\(Le l.length l.length/\U8 l.length 4 1)/\((0=0/\l.length+4=(l++D5 (m7 l)).length)/\True)/\True/\List.take l.length l++D5 X=l++D5 (m7 l)/\True) ⟨l,⟨K2,⟨eH,Z6⟩,a8o⟩,m7 l,⟨⟨?_,Z6⟩,h⟩,⟨U9 _,Q5⟩,⟨⟨rfl,by rw[J3,e]⟩,Z6⟩,Z6,by rw[dC],Z6⟩
 rw[IntKind.wrap_i64];omega
def a4z:Con:=.rmk ⟨Int×Pg,λx=>[Ji x.1,.agg x.2.ts],λ_=>[],λx=>.osl 0 0 (Q4 x.1 x.2).length,λx=>[some (.bys 5 (Q4 x.1 x.2))],λx=>PgP x.2⟩
theorem a1Z:GK 191 a4z:=gk func191<|by
 rintro⟨no,p⟩ ⟨j,g,l,d⟩;dsimp only at j g l d;have f:r5 p.sl:=⟨Z9,λi hi=>Nat.le_trans (d i hi) W6⟩
 have h:=xF p.sl f.2 p.sl.length (U9 _);have h:(S3 p.sl).length<=5000:=by unfold S3;omega
 have e:List.map R4 [(112:Int),IntKind.u8.wrap no,IntKind.u8.wrap (p.Q.fdiv 256),IntKind.u8.wrap p.Q]=[R4 112,zZ no]++zS p.Q.toNat:=by
  unfold zS;rw[show((p.Q.toNat:Nat):Int)=p.Q by omega,Int.fdiv_one]
  rfl
 refine⟨w3 (gC dG (gC a7M gN)) func191 Y7 [[.arr 3]] (α:=let q:=(p.Q.fdiv (256:Int));Nn (8:Int)/\(P6 IntKind.u8 (112:Int)/\P6 IntKind.u8 (IntKind.u8.wrap no)/\P6 IntKind.u8 (IntKind.u8.wrap q)/\P6 IntKind.u8 (IntKind.u8.wrap p.Q))/\∃(x:(Bz×List (Bz))),(((0=0/\4=x.1.length)/\(Z2 Z5 p.sl x.2)/\True)/\(List.map R4 [(112:Int),IntKind.u8.wrap no,IntKind.u8.wrap q,IntKind.u8.wrap p.Q]=x.1/\True)/\x.1.length<=1000/\r5 x.2)/\∃(X:(Bz)),(((0=0/\(x.1++S3 x.2).length=X.length)/\True)/\(x.1++S3 x.2=X/\True)/\X.length<=1000000)/\((0=0/\(X++D5 (m7 X)).length=(Q4 no p).length)/\True)/\X++D5 (m7 X)=Q4 no p/\True) ⟨uD,⟨(yV _).2 Z9,O9 _,O9 _,O9 _⟩,([R4 112,zZ no]++zS p.Q.toNat,p.sl),⟨Y3,⟨e,Z6⟩,by simp[zS],f⟩,tL no p,⟨⟨⟨rfl,rfl⟩,Z6⟩,⟨rfl,Z6⟩,?_⟩,⟨⟨rfl,rfl⟩,Z6⟩,rfl,Z6⟩,rfl,C7 trivial y5⟩
 unfold tL;rw[J3,J3];have n:(zS p.Q.toNat).length=2:=rfl;simp only[List.length_cons,List.length_nil];omega
def a7H:Con:=.rmk ⟨Unit,λ_=>[],λ_=>[],λ_=>.agg (Pg.tm ⟨0,[[],[],[],[]]⟩ 0),λ_=>[w9 [[],[],[],[]]],λ_=>True⟩
theorem a5d(h:
  (Nn (4:Int)/\LeI (4:Int) (4:Int)/\nI 16 4 140737488355328/\Lt 4 9223372036854775808)/\(((0:Int)=0/\(0=0/\4=4)/\True)/\True)/\(4=4/\Z7 4 (λ(x:Nat)=>[T.str []]) (Z5 [[],[],[], []]))/\True):
  I8 prog 167 [] [] (.agg (Pg.tm ⟨0,[[],[],[],[]]⟩ 0)) [w9 [[],[],[],[]]]:=
 w3 gN func167 Y7 [[.arr 1]] h
theorem a4L:GK 167 a7H:=gk func167<|λ_ _=>⟨a5d ⟨⟨uD,a9r,a4j,I5⟩,Y3,⟨rfl,jE⟩,Z6⟩,rfl,m3 _⟩
def b11:Con:=.reff ⟨Bz×Bool,λ_=>[.ref 0 0 0],λx=>[rdr x.1 x.2],λx=>.osl 1 0 (S4 x.1 x.2).out.length,λx=>[rdr (S4 x.1 x.2).l (S4 x.1 x.2).fl,w9 (S4 x.1 x.2).out],λ_=>True⟩
theorem a5J:GK 234 b11:=gk func234<|by
 rintro⟨l,fl⟩ _;have n:=u9 l;refine w3 (gC gE (gC rU gN)) func234 (a4y l fl) [b7u] (α:=let w:=(S4 l fl);(∃(x:Up ((numR l).toNat)),let q:=(G4 l fl x.1);((0=0/\0=0)/\(0=0/\0=q.out.length)/\numR l=numR l/\0=(x.1:Int)/\True)/\(oo (List.drop 1 l=q.l/\(fl||l.isEmpty)=q.fl/\True))/\(0=q.out.length/\Z7 0 (tk 1 []) (Z5 q.out))/\True)/\∀(x:Up ((numR l).toNat)),let j:=(x.1:Int);let p:=(G4 l fl x.1);let v:=(numR p.l);let u:=(List.drop 1 p.l);let z:=p.out.length;bd (j<numR l) (w2 v/\(Le 1 1/\Le p.out.length z/\U8 p.out.length 1 16)/\Ri (j+1)/\∃(y:Up ((numR l).toNat)),let r:=(G4 l fl y.1);(((0=0/\0=0)/\(0=0/\z+1=r.out.length)/\numR l=numR l/\j+1=(y.1:Int)/\True)/\(oo (R0 u v=r.l/\(p.fl||p.l.isEmpty||big u v)=r.fl/\True))/\(z+1=r.out.length/\Z7 (z+1) (X6 (Z5 p.out) p.out.length (tk 1 [T.str (T2 u v)])) (Z5 r.out))/\True)/\Lt ((numR l).toNat-y.1) ((numR l).toNat-x.1)) (((0=0/\z=w.out.length)/\True)/\(oo (p.l=w.l/\p.fl=w.fl/\True))/\(Z2 Z5 p.out w.out)/\True)) ⟨⟨⟨0,N7 _⟩,Y3,Y3,⟨rfl,oW _ _⟩,Z6⟩,λx=>⟨λhc=>?_,λhc=>?_⟩⟩
 ·have t:(x.1:Int)<numR l:=D4 hc;have h:=vL l fl x.1;have M:=u9 (G4 l fl x.1).l;exact⟨⟨M.1,Z9⟩,⟨U9 _,U9 _,Z9,Z9⟩,Z3 Z9,⟨x.1+1,Z9⟩,⟨⟨Y3,⟨rfl,(congrArg (· +1) h).trans (vL l fl (x.1+1)).symm⟩,rfl,F9,Z6⟩,Y3,⟨(congrArg (· +1) h).trans (vL l fl (x.1+1)).symm,a15 _ _⟩,Z6⟩,oI⟩
 ·have hge:¬ (x.1:Int)<numR l:=q8 hc;have hx:=x.2;have he:x.1=(numR l).toNat:=by omega
  rw[he];exact Y3
def a4t:Con:=.rmk ⟨Int×Bz,λx=>[Ji x.1,.bys x.2],λ_=>[],λx=>.tup [.agg ((P2 x.1 x.2).tm 0),Ji (J7 x.1 x.2)],λx=>[w9 (P2 x.1 x.2).sl],λx=>RdB x.2⟩
theorem a2e:GK 168 a4t:=gk func168<|by
 rintro⟨no,b⟩ (hb:b.length<=1000);have L:∀(x:Bz),(T2 x 4).length=4:=λx=>by
  unfold T2;split
  ·exact List.length_replicate
  ·rename_i h;have:¬4>(x.length:Int):=by simpa[big] using h
   rw[List.length_take,show(4:Int).toNat=4 from rfl]
   omega
 refine⟨w3 (gC tR (gC rU (gC a17 (gC a5J (gC sC (gC qO gN)))))) func168 Y7 [[.nilS 0 [0,1] 0 1,.arr 4],[.arr 2],[.nilS 0 [0,1] 0 1,.arr 1]] (α:=let w:=(P2 no b);let r:=w.sl.length;let u:=(0=w.Q/\(0=0/\0=r)/\True);bd ((b.length:Int)>65536) (((u/\2=J7 no b/\True)/\True)/\(0=r/\Z7 0 (λ(x:Nat)=>[]) (Z5 w.sl))/\True) (∃(x:uO.ι),let y:=(0=r/\Z7 0 (λ(x:Nat)=>[]) (Z5 w.sl));let p:=(T2 (V7 x) (4:Int));let j:=(↑(p.getD 1 (0:UInt8)).toNat:Int);let z:=(↑(p.getD 0 (0:UInt8)).toNat:Int);((b=x/\True)/\m5 x)/\br (!P4 x) (((u/\8=J7 no b/\True)/\True)/\y/\True) (w2 (4:Int)/\iM (2:Int) p.length/\∃(e:a4Y.ι),((List.drop 2 p=e/\True)/\oD e)/\∃(X:(Bz×Bool)),let v:=(S4 X.1 X.2);let k:=v.out.length;let q:=(! v.fl&&v.l.isEmpty);(((0=0/\0=0)/\True)/\((1=1/\Z7 1 (λ(d:Nat)=>[T.bys (R0 (V7 x) (4:Int)),T.bool (false||big (V7 x) (4:Int))]) λ(x:Nat)=>[T.bys X.1,T.bool X.2])/\True)/\True)/\((! q)=false->V6 (0:Int) p.length)/\((! q||z !=112)=false->V6 (1:Int) p.length)/\∃(d:yI.ι),((! q||z !=112||IntKind.i64.wrap j !=no)=false->Le (0+k) k/\(((↑(be e):Int)=d.Q/\(Z2 Z5 v.out d.sl)/\True)/\True)/\PgB d)/\br (! q||z !=112||IntKind.i64.wrap j !=no|| !o9 d) (((u/\3=J7 no b/\True)/\True)/\y/\True) (((((↑(be e):Int)=w.Q/\(0=0/\k=r)/\True)/\0=J7 no b/\True)/\True)/\(Z2 Z5 v.out w.sl)/\True)))) ⟨λh=>?_,λ_=>⟨b,⟨Y3,Nat.le_trans hb W6⟩,λh=>?_,λh=>⟨⟨Z9,Z9⟩,⟨Z9,bG⟩,(T2 (V7 b) 4).drop 2,⟨Y3,by unfold oD;rw[List.length_drop,L];omega⟩,
  (R0 (V7 b) 4,false||big (V7 b) 4),Q6,λ_=>⟨Z9,bG⟩,λ_=>⟨Z9,bG⟩,rpQ (V7 b),λ_=>⟨dY _,Y3,?_⟩,λg=>?_,λg=>?_⟩⟩⟩,rfl,m3 _⟩
 ·have:=D4 h;omega
 ·have hu:P4 b=false:=by simpa using h
  have f:(G0 no b).2=false:=by unfold G0;rw[hu];rfl
  have i:P2 no b=⟨0,[]⟩:=by unfold P2;rw[f];rfl
  have j:J7 no b=8:=by unfold J7;rw[hu];rfl
  rw[i,j];exact Q6
 ·show(S4 (R0 (V7 b) 4) (false||big (V7 b) 4)).out.length<1000000000000;unfold S4;rw[vL];have:=u9 (R0 (V7 b) 4);omega
 ·have hu:P4 b=true:=by simpa using h
  have q:=(a87 no b hu).1;have f:(G0 no b).2=false:=by
   have g:(oK no (V7 b)|| !o9 (rpQ (V7 b)))=true:=g;rw[g] at q;exact(xO _).mp q.symm
  have i:P2 no b=⟨0,[]⟩:=by unfold P2;rw[f];rfl
  have j:J7 no b=3:=by unfold J7;rw[hu,f];rfl
  rw[i,j];exact Q6
 ·have hu:P4 b=true:=by simpa using h
  have q:=a87 no b hu;have f:(G0 no b).2=true:=by
   have g:(oK no (V7 b)|| !o9 (rpQ (V7 b)))=false:=g;rw[g] at q;exact(yC _).mp q.1.symm
  have i:P2 no b=rpQ (V7 b):=by unfold P2;rw[f,q.2 f];rfl
  have j:J7 no b=0:=by unfold J7;rw[hu,f];rfl
  rw[i,j];exact Q6
def DkB(x:Dsk×Nat):Prop:=1+x.2<x.1.E.length/\x.1.E.length<=1048576/\x.1.C.length<=1048576/\(T7 x.1 (1+x.2)).length<=1000
def b4X:Con:=.rmk ⟨Dsk×Nat,λx=>[.bref x.1.ts,Ji x.2],λ_=>[],λx=>.tup [.agg ((S7 x.1 x.2).1.tm 0),.bool (S7 x.1 x.2).2],λx=>[w9 (S7 x.1 x.2).1.sl],DkB⟩
theorem cC:GK 94 b4X:=gk func94<|by
 rintro⟨d,no⟩ ⟨g,i,j,f⟩;dsimp only at g i j f;refine⟨w3 (gC fE (gC a4L (gC a2e gN))) func94 Y7 [[.arr 1]] (α:=let p:=(S7 d no);let q:=p.1.sl.length;Ri (1+(no:Int))/\∃(x:mD.ι),(((yA d x.1)/\1+(no:Int)=(x.2:Int)/\True)/\AtB x)/\br (T7 x.1 x.2==[]) (∃(x:Unit),(True/\True)/\(((0=p.1.Q/\(0=0/\4=q)/\True)/\true=p.2/\True)/\True)/\(4=q/\Z7 4 (Z5 [[],[],[],[]]) (Z5 p.1.sl))/\True) (Lt (T7 x.1 x.2).length 140737488355329/\∃(X:(Int×Bz)),let r:=(P2 X.1 X.2);(((no:Int)=X.1/\T7 x.1 x.2=X.2/\True)/\RdB X.2)/\(((r.Q=p.1.Q/\(0=0/\r.sl.length=q)/\True)/\(J7 X.1 X.2==0)=p.2/\True)/\True)/\(Z2 Z5 r.sl p.1.sl)/\True)) ⟨Z3 Z9,(d,1+no),⟨⟨eqD _,F9,Z6⟩,g,F9⟩,λh=>⟨(),Y3,?_⟩,λh=>⟨oI,((no:Int),T7 d (1+no)),⟨Y3,f⟩,?_⟩⟩,rfl,m3 _⟩
 ·have h:T7 d (1+no)=[]:=by simpa using h
  have e:S7 d no=(⟨0,[[],[],[],[]]⟩,true):=by unfold S7;rw[if_pos h]
  rw[e];exact Q6
 ·have h:T7 d (1+no)≠[]:=by simpa using h
  have e:S7 d no=(P2 no (T7 d (1+no)),(G0 no (T7 d (1+no))).2):=by unfold S7;rw[if_neg h]
  rw[e];exact⟨⟨⟨Q6,aE _ _,Z6⟩,Z6⟩,Y3⟩
structure SInv(s:Sto):Prop where
 sm:SmS s
 c:s.d.C.length<=500
 pd:bW s.d
 n69:s.d.E.length=69
 su:0<=s.S/\s.S<=s.L.length
 l60:s.L.length<=60
 rc:i8 s.L=true
 fr3:s.fr.length<=3
 frp:∀i,i<s.fr.length->0<=(s.fr.getD i dz).no/\(s.fr.getD i dz).no<=7/\PgP (s.fr.getD i dz).pg/\(s.fr.getD i dz).pg.Q<=s.L.length
 hd:0<=s.J/\s.J<=2
 pg:∀no,no<8->(U4 s.d no).2=true/\(T7 s.d (1+no)).length<=1000
theorem SInv.flu{s:Sto}(h:SInv s){lsn:Int}(l:lsn<=s.L.length):uW s lsn:=
 ⟨h.sm.1,by have:=h.c;omega,h.pd,h.n69,h.su.1,h.su.2,h.l60,l,λi hi=>by
  obtain⟨a,b⟩:=D8.1 h.rc i hi;exact⟨b,a72 a⟩⟩
theorem a8n{s:Sto}(h:H7 s=true)(M:SmS s):SInv s:=by
 obtain⟨⟨q,l,e⟩,_,o,j,g⟩:=(K3 s).1 h;obtain⟨c1,c2,_,_,C⟩:=(y6 s).1 q;have F:=c0B (lsn:=0) h Z9 M
 have e:=rB e;have g:=rB g;unfold zY at j;simp only[M1,xO,R8,i5] at j;refine⟨M,c1.2.2.1,F.2.2.1,c2,e,C,l,Z9,λi hi=>?_,g,λno n=>⟨?_,?_⟩⟩
 ·have B:=j.1 i hi;unfold zU at B;simp only[yY,yC,pT] at B;obtain⟨⟨⟨⟨⟨d,_⟩,f⟩,r⟩,_⟩,_⟩:=B;have d:=rB d;have f:PgP (s.fr.getD i dz).pg:=D4 f;exact⟨d.1,d.2,f,Z9⟩
 ·have B:=o no n;unfold i7 at B;simp only[yY,yC] at B;exact B.1
 ·have:=jR c1 (at_:=1+no) Z9
  omega
def yH(d:Dsk):Dsk×Bool:=if 500<=d.C.length then U7 d else(d,true)
def jO(f:Frm):Frm:=⟨f.no,f.pg,false,0⟩
def wrF(a:Sto)(k:Nat):Sto:=⟨wrD a.d (1+(a.fr.getD k dz).no) (Q4 (a.fr.getD k dz).no (a.fr.getD k dz).pg),a.ep,a.L,a.S,a.fr.set k (jO (a.fr.getD k dz)),a.J⟩
def X5(s:Sto)(k:Nat):Sto×Bool:=if(s.fr.getD k dz).D=true then
  if(W5 s (s.fr.getD k dz).pg.Q).2=true then
   if(yH (W5 s (s.fr.getD k dz).pg.Q).1.d).2=true then(wrF ((W5 s (s.fr.getD k dz).pg.Q).1.sd (yH (W5 s (s.fr.getD k dz).pg.Q).1.d).1) k,true)
   else((W5 s (s.fr.getD k dz).pg.Q).1.sd (yH (W5 s (s.fr.getD k dz).pg.Q).1.d).1,false)
  else((W5 s (s.fr.getD k dz).pg.Q).1,false)
 else(s,true)
def b4P:Con:=.reff ⟨Sto×Nat×Nat,λx=>[.ref 0 0 0,Ji x.2.1],λx=>x.1.bx x.2.2,λx=>.bool (X5 x.1 x.2.1).2,λx=>(X5 x.1 x.2.1).1.bxY x.2.2,λx=>SInv x.1/\x.2.1<x.1.fr.length⟩
theorem a5h(s:Sto)(l:Int):(W5 s l).1.fr=s.fr:=by
 by_cases h:l<=s.S
 ·rw[r8 h]
 ·rw[m4 h]
theorem zA(d:Dsk):(U7 d).1.C=[]:=by
 unfold U7;split<;>rfl
theorem c4K{d:Dsk}(h:d.C=[]):bW d:=λi hi=>by rw[h] at hi;exact absurd hi (J9 _)
theorem a69{s:Sto}{l:Int}(h:bW s.d):bW (W5 s l).1.d:=by
 by_cases L:l<=s.S
 ·rw[r8 L];exact h
 ·rw[m4 L];exact c4K (zA _)
theorem a8Z{s:Sto}{l:Int}(h:s.d.C.length<=500):(W5 s l).1.d.C.length<=500:=by
 by_cases L:l<=s.S
 ·rw[r8 L];exact h
 ·rw[m4 L];dsimp only;rw[zA];exact N7 _
theorem vN{s:Sto}{k:Nat}(h:(s.fr.getD k dz).D=false):X5 s k=(s,true):=by
 unfold X5;rw[if_neg (by rw[h];simp)]
theorem fV{s:Sto}{k:Nat}(h:(s.fr.getD k dz).D=true)(u:(W5 s (s.fr.getD k dz).pg.Q).2=false):X5 s k=((W5 s (s.fr.getD k dz).pg.Q).1,false):=by
 unfold X5;rw[if_pos h,if_neg (by rw[u];simp)]
theorem a0N{s:Sto}{k:Nat}(h:(s.fr.getD k dz).D=true)(u:(W5 s (s.fr.getD k dz).pg.Q).2=true)(B:(yH (W5 s (s.fr.getD k dz).pg.Q).1.d).2=false):X5 s k=((W5 s (s.fr.getD k dz).pg.Q).1.sd (yH (W5 s (s.fr.getD k dz).pg.Q).1.d).1,false):=by
 unfold X5;rw[if_pos h,if_pos u,if_neg (by rw[B];simp)]
theorem gQ{s:Sto}{k:Nat}(h:(s.fr.getD k dz).D=true)(u:(W5 s (s.fr.getD k dz).pg.Q).2=true)(B:(yH (W5 s (s.fr.getD k dz).pg.Q).1.d).2=true):X5 s k=(wrF ((W5 s (s.fr.getD k dz).pg.Q).1.sd (yH (W5 s (s.fr.getD k dz).pg.Q).1.d).1) k,true):=by
 unfold X5;rw[if_pos h,if_pos u,if_pos B]
theorem sU{d:Dsk}(h:500<=d.C.length):yH d=U7 d:=if_pos h
theorem qJ{d:Dsk}(h:¬500<=d.C.length):yH d=(d,true):=if_neg h
theorem b6X{L:List Frm}{k:Nat}(hk:k<L.length):V3 L.length (setRow (setRow (Z1 L) k 3 [T.bool false]) k 4 [T.int IntKind.i64 0]) (Z1 (L.set k (jO (L.getD k dz)))):=a6d λi _=>by
 have l:∀j,(Z1 L j).length=5:=λ_=>rfl
 by_cases h:i=k
 ·subst h;have e:(L.set i (jO (L.getD i dz))).getD i dz=jO (L.getD i dz):=by rw[Q2,j_j hk];rfl
  unfold setRow;rw[iE rfl];unfold Z1;rw[e];rfl
 ·have e:(L.set k (jO (L.getD k dz))).getD i dz=L.getD i dz:=by rw[Q2,j_l (Ne.symm h),←Q2]
  rw[L5 (by rw[T6 (by rw[l];decide),l];decide) h,L5 (by rw[l];decide) h]
  unfold Z1;rw[e]
theorem a9m{p:Prop}(h:p:=by rw[sU hc];exact hb):p:=h
theorem a0v:GK 118 b4P:=gk func118<|by
 rintro⟨s,k,v⟩ ⟨h,g⟩;dsimp only at h g;have i:=h.frp k g;have F:=h.flu i.2.2.2;have r:=a5h s (s.fr.getD k dz).pg.Q;have u:=a4V F h.sm;have t:=a69 (l:=(s.fr.getD k dz).pg.Q) h.pd;have q:=a8Z (l:=(s.fr.getD k dz).pg.Q) h.c;have j:= @fV s k;have O:= @a0N s k;have o:= @gQ s k;refine w3 (gC a31 (gC a8L (gC a1Z (gC a4k gN)))) func118 Y7 [[.box 0,.arr 1,.arr 2,.arr 3,.arr 4,.arr 5,.arr 11,.arr 9],[.box 0,.arr 1,.arr 2,.arr 3,.arr 4,.arr 5,.arr 9,.arr 7],[.box 0,.arr 1,.arr 2,.arr 3,.arr 4,.arr 5,.arr 8,.arr 9],[.box 0,.arr 1,.arr 2,.arr 3,.arr 4,.arr 5,.arr 6,.arr 7],c1D] (α:=let pn:=(X5 s k).1.L.length;let pk:=(X5 s k).1.d.C.length;let pj:=(X5 s k).1.d.E.length;let ph:=(X5 s k).1.d.keep.length;let pf:=(false=(X5 s k).2/\True);let pe:=(0=0/\0=0);let i:=(X5 s k).1.L;let c:=(true=(X5 s k).2/\True);let a:=(X5 s k).1.d.C;let g:=(X5 s k).1.d.E;let n:=(X5 s k).1.d.keep;let j:=(Z1 (X5 s k).1.fr);let z:=(X5 s k).1.fr.length;let p:=(0+(k:Int).toNat);let pd:=(s.fr.getD p dz);V6 (k:Int) s.fr.length/\Lt p s.fr.length/\((! pd.D)=true->c/\pG s (X5 s k).1/\(Z2 Z5 s.d.E g)/\True/\True/\(Z2 Y0 s.L i)/\(v=v/\s.fr.length=z/\V3 s.fr.length (Z1 s.fr) j)/\(Z2 Y8 s.d.C a)/\(Z2 Y9 s.d.keep n)/\True)/\((! pd.D)=false->Lt p s.fr.length/\∃(x:(Sto×Int×Nat)),let q:=(W5 x.1 x.2.1);let pc:=q.1.fr.length;let y:=(q.1.fr.getD p dz);let r:=((↑q.1.d.C.length:Int)≥(500:Int));((pe/\pd.pg.Q=x.2.1/\True)/\(LnS (v) (x.2.2) s x.1)/\uW x.1 x.2.1)/\∃(e:(Sto×Nat)),let pm:=e.1.fr;let b:=pm.length;let m:=(U7 e.1.d);let w:=(! q.2||decide r&& ! m.2);let u:=(pm.getD p dz);((! q.2)=false->decide r=true->(pe/\True)/\(LnS (x.2.2) (e.2) q.1 e.1)/\jH e.1.d/\bW e.1.d)/\((! q.2)=false->decide r=true->(w=true->pf/\pG {e.1 with d:=m.1} (X5 s k).1/\(Z2 Z5 m.1.E g)/\True/\True/\(Z2 Y0 e.1.L i)/\(e.2=v/\b=z/\V3 pm.length (Z1 pm) j)/\(Z2 Y8 m.1.C a)/\(Z2 Y9 m.1.keep n)/\True)/\(w=false->Lt p b/\P6 .i64 (1+u.no)/\Lt p b/\Lt p b/\∃(x:(Int×Pg)),let l:=(Q4 x.1 x.2).length;(PoB e.2 e.2 p pm.length u.pg.sl.length u.pg.sl.length/\(u.no=x.1/\(u.pg.Q=x.2.Q/\(Z2 Z5 u.pg.sl x.2.sl)/\True)/\True)/\PgP x.2)/\Le (0+l) l/\∃(X:(Sto×Int×Bz×Nat)),let pa:=(X.1.d.C++[Pend.mk X.2.1 X.2.2.1]);((pe/\1+u.no=X.2.1/\List.take l (List.drop 0 (Q4 x.1 x.2))=X.2.2.1/\True)/\(pG {e.1 with d:=m.1} X.1/\(Z2 Z5 m.1.E X.1.d.E)/\(Z2 Y8 m.1.C X.1.d.C)/\(Z2 Y9 m.1.keep X.1.d.keep)/\(Z2 Y0 e.1.L X.1.L)/\(e.2=X.2.2.2/\b=X.1.fr.length/\V3 pm.length (Z1 pm) (Z1 X.1.fr))/\True)/\X.1.d.C.length<=1048576)/\a07 p X.1.fr.length [T.bool (X.1.fr.getD p dz).D]/\a07 p X.1.fr.length [Ji (X.1.fr.getD p dz).first]/\c/\(1=1/\1=1/\(0=0/\X.1.d.E.length=pj)/\(0=0/\pa.length=pk)/\X.1.d.A=(X5 s k).1.d.A/\(0=0/\X.1.d.keep.length=ph)/\X.1.ep=(X5 s k).1.ep/\(0=0/\X.1.L.length=pn)/\X.1.S=(X5 s k).1.S/\(0=0/\X.1.fr.length=z)/\X.1.J=(X5 s k).1.J/\True)/\(Z2 Z5 X.1.d.E g)/\True/\True/\(Z2 Y0 X.1.L i)/\(X.2.2.2=v/\X.1.fr.length=z/\V3 X.1.fr.length (setRow (setRow (Z1 X.1.fr) p 3 [T.bool false]) p 4 [Ji 0]) j)/\(Z2 Y8 pa a)/\(Z2 Y9 X.1.d.keep n)/\True))/\(((! q.2)=false->decide r=true->False)->(w=true->pf/\pG q.1 (X5 s k).1/\(Z2 Z5 q.1.d.E g)/\True/\True/\(Z2 Y0 q.1.L i)/\(x.2.2=v/\pc=z/\V3 q.1.fr.length (Z1 q.1.fr) j)/\(Z2 Y8 q.1.d.C a)/\(Z2 Y9 q.1.d.keep n)/\True)/\(w=false->Lt p pc/\P6 .i64 (1+y.no)/\Lt p pc/\Lt p pc/\∃(X:(Int×Pg)),let t:=(Q4 X.1 X.2).length;(PoB x.2.2 x.2.2 p q.1.fr.length y.pg.sl.length y.pg.sl.length/\(y.no=X.1/\(y.pg.Q=X.2.Q/\(Z2 Z5 y.pg.sl X.2.sl)/\True)/\True)/\PgP X.2)/\Le (0+t) t/\∃(f:(Sto×Int×Bz×Nat)),let pi:=f.1.fr;let pb:=(f.1.d.C++[Pend.mk f.2.1 f.2.2.1]);((pe/\1+y.no=f.2.1/\List.take t (List.drop 0 (Q4 X.1 X.2))=f.2.2.1/\True)/\(LnS (x.2.2) (f.2.2.2) q.1 f.1)/\f.1.d.C.length<=1048576)/\a07 p pi.length [T.bool (pi.getD p dz).D]/\a07 p pi.length [Ji (pi.getD p dz).first]/\c/\(1=1/\1=1/\(0=0/\f.1.d.E.length=pj)/\(0=0/\pb.length=pk)/\f.1.d.A=(X5 s k).1.d.A/\(0=0/\f.1.d.keep.length=ph)/\f.1.ep=(X5 s k).1.ep/\(0=0/\f.1.L.length=pn)/\f.1.S=(X5 s k).1.S/\(0=0/\pi.length=z)/\f.1.J=(X5 s k).1.J/\True)/\(Z2 Z5 f.1.d.E g)/\True/\True/\(Z2 Y0 f.1.L i)/\(f.2.2.2=v/\pi.length=z/\V3 pi.length (setRow (setRow (Z1 pi) p 3 [T.bool false]) p 4 [Ji 0]) j)/\(Z2 Y8 pb a)/\(Z2 Y9 f.1.d.keep n)/\True)))) ?_
 rw[E8,show 0+k=k from E5 k]
 refine⟨Y1 g,g,λhd=>?_,λhd=>⟨g,(s,(s.fr.getD k dz).pg.Q,v),⟨Y3,⟨Y3,Y3,Y3,Y3,Y3,I2,Z6⟩,F⟩,((W5 s (s.fr.getD k dz).pg.Q).1,v),λ_ _=>⟨Q6,⟨Y3,Y3,Y3,Y3,Y3,I2,Z6⟩,u.1,t⟩,λhu hc=>⟨λhb=>?_,λhb=>?_⟩,λn=>⟨λhb=>?_,λhb=>?_⟩⟩⟩
 ·rw[vN nJ]
  exact⟨Y3,Y3,Y3,Z6,Z6,Y3,I2,Y3,Y3,Z6⟩
 all_goals
  have hd:(s.fr.getD k dz).D=true:=nJ
  replace j:=j hd;replace O:=O hd;replace o:=o hd;dsimp only at*;generalize W5 s (s.fr.getD k dz).pg.Q=A at*;obtain⟨a,up⟩:=A;dsimp only at*;rw[←r] at g i
 ·have hu:up=true:=(yC _).mp hu;subst hu;have hc:500<=a.d.C.length:=by have:=D4 hc;omega
  have hb:(U7 a.d).2=false:=by simp at hb;exact hb.2
  rw[O rfl a9m,sU hc]
  exact⟨Y3,Y3,Y3,Z6,Z6,Y3,I2,Y3,Y3,Z6⟩
 ·have hu:up=true:=(yC _).mp hu;subst hu;have hb:(U7 a.d).2=true:=by rw[hc] at hb;simpa using hb
  have hc:500<=a.d.C.length:=by have:=D4 hc;omega
  rw[o rfl a9m,sU hc]
  exact⟨g,Z3 Z9,g,g,((a.fr.getD k dz).no,(a.fr.getD k dz).pg),⟨⟨rfl,g,U9 _⟩,Y3,i.2.2.1⟩,dY _,(a.sd (U7 a.d).1,1+(a.fr.getD k dz).no,Q4 (a.fr.getD k dz).no (a.fr.getD k dz).pg,v),⟨⟨Y3,rfl,eH,Z6⟩,⟨Y3,Y3,Y3,Y3,Y3,I2,Z6⟩,by show(U7 a.d).1.C.length<=_;rw[zA];exact N7 _⟩,⟨g,rfl⟩,⟨g,rfl⟩,Y3,⟨rfl,rfl,Y3,Y3,rfl,Y3,rfl,Y3,rfl,⟨rfl,zN.symm⟩,Y3⟩,Y3,Z6,Z6,Y3,⟨rfl,zN.symm,b6X g⟩,Y3⟩
 ·cases up with
  |false=>
   rw[j rfl];exact⟨Y3,Y3,Y3,Z6,Z6,Y3,I2,Y3,Y3,Z6⟩
  |true=>
   have:decide ((a.d.C.length:Int)≥500)=false:=by
    cases hd:decide ((a.d.C.length:Int)≥500) with
    |false=>rfl
    |true=>exact(n rfl hd).elim
   rw[this] at hb;simp at hb
 ·have hu:up=true:=by cases up<;>simp at hb ⊢
  subst hu;have hc:¬500<=a.d.C.length:=λhc=>n rfl (mN Z9)
  rw[o rfl (by rw[qJ hc]),qJ hc]
  exact⟨g,Z3 Z9,g,g,((a.fr.getD k dz).no,(a.fr.getD k dz).pg),⟨⟨rfl,g,U9 _⟩,Y3,i.2.2.1⟩,dY _,(a,1+(a.fr.getD k dz).no,Q4 (a.fr.getD k dz).no (a.fr.getD k dz).pg,v),⟨⟨Y3,rfl,eH,Z6⟩,⟨Y3,Y3,Y3,Y3,Y3,I2,Z6⟩,by show a.d.C.length<=_;omega⟩,⟨g,rfl⟩,⟨g,rfl⟩,⟨rfl,Z6⟩,⟨rfl,rfl,⟨rfl,rfl⟩,⟨rfl,rfl⟩,rfl,⟨rfl,rfl⟩,rfl,⟨rfl,rfl⟩,rfl,⟨rfl,zN.symm⟩,rfl,Z6⟩,⟨rfl,W2 _ _⟩,Z6,Z6,⟨rfl,W2 _ _⟩,⟨rfl,zN.symm,b6X g⟩,⟨rfl,W2 _ _⟩,⟨rfl,W2 _ _⟩,Z6⟩
theorem hV(L D:List Pend)(a:Int):∀i,i<=L.length->I9 (L++D) a i=I9 L a i
 |0,_=>rfl
 |i+1,h=>by
  unfold I9;rw[show(L++D).getD i dz=L.getD i dz by rw[Q2,tT Z9,←Q2],hV L D a i Z9]
theorem iC(d:Dsk)(a:Int)(t:Bz)(n:Nat):T7 (wrD d a t) n=if a=n then t else T7 d n:=by
 have e:(d.C++[(⟨a,t⟩:Pend)]).getD d.C.length dz=⟨a,t⟩:=by rw[Q2,rL (U9 _)];simp
 have g:I9 (d.C++[(⟨a,t⟩:Pend)]) n (d.C.length+1)=if a=n then some t else I9 d.C n d.C.length:=by
  conv=>lhs;unfold I9
  rw[e,hV _ _ _ _ (U9 _)]
 have f:T7 (wrD d a t) n=(I9 (d.C++[(⟨a,t⟩:Pend)]) n (d.C.length+1)).getD (d.E.getD n []):=by
  unfold T7 wrD;dsimp only;rw[show(d.C++[(⟨a,t⟩:Pend)]).length=d.C.length+1 by simp]
 rw[f,g];split<;>rfl
theorem b5C{s:Sto}{l:Int}(h:uW s l){n:Nat}(N:n<9):∀i,i<=M7 s l->T7 (rK s i) n=T7 s.d n
 |0,_=>by
  have:rK s 0=s.d:=by unfold rK;simp
  rw[this]
 |i+1,hi=>by
  have e:rK s (i+1)=wrD (rK s i) (rE s i).at_ (rE s i).d:=by
   unfold rK wrD;dsimp only;rw[←yF]
  obtain⟨f,_,_⟩:=mT h (i:=i) Z9
  have g:=h.2.2.2.2.1;rw[e,iC,if_neg (by rw[f];omega),b5C h N i Z9]
theorem a9Q{sec:List (Bz)}{C:List Pend}{n:Nat}(hn:n<sec.length)(hp:∀i,i<C.length->0<=(C.getD i dz).at_):∀i,i<=C.length->(h9 sec C (λ_=>true) i).getD n []=(I9 C n i).getD (sec.getD n [])
 |0,_=>rfl
 |i+1,hi=>by
  have I:=a9Q hn hp i Z9
  have d:=hp i Z9
  rw[c1f rfl];unfold I9;by_cases h:(C.getD i dz).at_=n
  ·rw[if_pos h,show(C.getD i dz).at_.toNat=n by omega,Q2,j_j (by rw[C5];exact hn)]
   rfl
  ·rw[if_neg h,Q2,j_l Z9,←Q2,I]
theorem c1o{d:Dsk}(h:(U7 d).2=true):U7 d=(⟨h9 d.E d.C (λ_=>true) d.C.length,[],d.A,d.keep⟩,true):=by
 unfold U7 at h ⊢;split at h
 ·cases h
 ·rw[if_neg (by assumption)]
theorem a5Q{d:Dsk}{n:Nat}(h:(U7 d).2=true)(hp:bW d)(N:n<d.E.length):T7 (U7 d).1 n=T7 d n:=by
 rw[c1o h];exact a9Q N (λi hi=>(hp i hi).1) _ (U9 _)
theorem c4J{s:Sto}{l:Int}(h:uW s l)(u:(W5 s l).2=true){n:Nat}(N:n<9):T7 (W5 s l).1.d n=T7 s.d n:=by
 by_cases L:l<=s.S
 ·rw[r8 L]
 ·rw[m4 L] at u ⊢;have:=h.2.2.2.1;rw[a5Q u (a0K h).2 (show n<s.d.E.length by omega),b5C h N _ (U9 _)]
theorem b7A{d:Dsk}{n:Nat}(h:(yH d).2=true)(hp:bW d)(N:n<d.E.length):T7 (yH d).1 n=T7 d n:=by
 by_cases C:500<=d.C.length
 ·rw[sU C] at h ⊢;exact a5Q h hp N
 ·rw[qJ C]
theorem a1R(d:Dsk):(U7 d).1.E.length=d.E.length:=by
 unfold U7;split
 ·exact C5 _ _ _ _
 ·exact C5 _ _ _ _
theorem a9P(s:Sto)(l:Int):(W5 s l).1.d.E.length=s.d.E.length:=by
 by_cases h:l<=s.S
 ·rw[r8 h]
 ·rw[m4 h];exact a1R _
theorem vZ(s:Sto)(l:Int):(W5 s l).1.fr=s.fr/\(W5 s l).1.J=s.J/\(W5 s l).1.L=s.L/\(W5 s l).1.ep=s.ep:=by
 by_cases h:l<=s.S
 ·rw[r8 h];exact Y3
 ·rw[m4 h];exact Y3
theorem a3R(d:Dsk):(yH d).1.E.length=d.E.length:=by
 unfold yH;split
 ·exact a1R d
 ·rfl
theorem b58{d:Dsk}(h:d.C.length<=500):(yH d).1.C.length<=499:=by
 unfold yH;split
 ·rw[zA];exact N7 _
 ·dsimp only;omega
theorem sZ(s:Sto)(k:Nat):(X5 s k).1.fr.length=s.fr.length/\(X5 s k).1.J=s.J/\(X5 s k).1.L=s.L/\(X5 s k).1.ep=s.ep/\(X5 s k).1.d.E.length=s.d.E.length:=by
 obtain⟨h,g,f,i⟩:=vZ s (s.fr.getD k dz).pg.Q;have e:=a9P s (s.fr.getD k dz).pg.Q;unfold X5;split
 ·split
  ·split
   ·exact⟨by show(List.set _ _ _).length=_;rw[zN];exact congrArg List.length h,g,f,i,by show(yH _).1.E.length=_;rw[a3R,e]⟩
   ·exact⟨congrArg List.length h,g,f,i,by show(yH _).1.E.length=_;rw[a3R,e]⟩
  ·exact⟨congrArg List.length h,g,f,i,e⟩
 ·exact Y3
theorem b6o{s:Sto}{k no:Nat}(h:SInv s)(e:k<s.fr.length)(o:no<8)(i:(s.fr.getD k dz).no≠no)(hu:(X5 s k).2=true):T7 (X5 s k).1.d (1+no)=T7 s.d (1+no)/\(X5 s k).1.d.C.length<=500:=by
 have f:=h.flu (h.frp k e).2.2.2;have j:=(h.frp k e).1;have hfr:=a5h s (s.fr.getD k dz).pg.Q;have C:=a8Z (l:=(s.fr.getD k dz).pg.Q) h.c;have hp:=a69 (l:=(s.fr.getD k dz).pg.Q) h.pd;have n:=a9P s (s.fr.getD k dz).pg.Q;have g:=h.n69;by_cases hd:(s.fr.getD k dz).D=true
 ·by_cases hf2:(W5 s (s.fr.getD k dz).pg.Q).2=true
  ·by_cases h5:(yH (W5 s (s.fr.getD k dz).pg.Q).1.d).2=true
   ·rw[gQ hd hf2 h5];refine⟨?_,?_⟩
    ·show T7 (wrD _ (1+((W5 s _).1.fr.getD k dz).no) _) (1+no)=_;rw[hfr,iC,if_neg Z9]
     exact(b7A h5 hp Z9).trans (c4J f hf2 Z9)
    ·have:=b58 C;show((yH _).1.C++[_]).length<=500;rw[J3];simp only[List.length_cons,List.length_nil];omega
   ·rw[a0N hd hf2 (by simpa using h5)] at hu
    cases hu
  ·rw[fV hd (by simpa using hf2)] at hu
   cases hu
 ·rw[vN nJ]
  exact⟨rfl,h.c⟩
theorem vB{L:List Frm}{no:Int}(h:0<=frAt L no):(frAt L no).toNat<L.length:=by
 unfold frAt S9 at h ⊢;split at h
 ·rename_i i hi;have:=List.mem_range.1 (List.mem_of_find?_eq_some hi)
  simpa using this
 ·omega
theorem oR{L:List Frm}{no:Int}(h:¬0<=frAt L no){i:Nat}(hi:i<L.length):(L.getD i dz).no≠no:=by
 have e:=G1 L.length (mQ L no);rw[show S9 L.length (mQ L no)=frAt L no from rfl,sX h] at e
 have:=R8.1 e.symm i hi;unfold mQ at this
 simpa using this
theorem y7{d e:Dsk}{no:Nat}(h:T7 d (1+no)=T7 e (1+no)):U4 d no=U4 e no/\S7 d no=S7 e no:=by
 unfold U4 S7;rw[h];exact Y3
def B1(no:Nat)(p:Pg):Frm:=⟨no,p,false,0⟩
def a9j(a:Sto)(k no:Nat):Sto:=⟨a.d,a.ep,a.L,a.S,a.fr.set k (B1 no (U4 a.d no).1),(a.J+1).tmod 3⟩
def b9r(a:Sto)(no:Nat):Sto:=⟨a.d,a.ep,a.L,a.S,a.fr++[B1 no (U4 a.d no).1],a.J⟩
def Z4(s:Sto)(no:Nat):Sto×Nat×Bool:=if 0<=frAt s.fr no then(s,(frAt s.fr no).toNat,true)
 else if s.fr.length=3 then
  if(X5 s s.J.toNat).2=true then(a9j (X5 s s.J.toNat).1 s.J.toNat no,s.J.toNat,true) else((X5 s s.J.toNat).1,0,false)
 else(b9r s no,s.fr.length,true)
def O5(s:Sto)(no v:Nat):Nat:=if 0<=frAt s.fr no then v
 else if s.fr.length=3 then
  if(X5 s s.J.toNat).2=true then v+1 else v
 else 1
def Sto.bxF(s:Sto)(v:Nat):Y5:=[qT (s.tn 1 6 7 4 8),w9 s.d.E,none,none,zG s.L,none,B7 s.d.C,z6 s.d.keep,vU v s.fr s.fr.length]
def fD(s:Sto)(no:Nat):Prop:=SInv s/\no<8
def b5y:Con:=.reff ⟨Sto×Nat×Nat,λx=>[.ref 0 0 0,Ji x.2.1],λx=>x.1.bx x.2.2,λx=>.ref 8 (Z4 x.1 x.2.1).2.1 0,λx=>(Z4 x.1 x.2.1).1.bxF (O5 x.1 x.2.1 x.2.2),λx=>fD x.1 x.2.1/\(Z4 x.1 x.2.1).2.2=true⟩
def b6t:Con:=.reff ⟨Sto×Nat×Nat,λx=>[.ref 0 0 0,Ji x.2.1],λx=>x.1.bx x.2.2,λ_=>.v (.pointer none),λx=>(Z4 x.1 x.2.1).1.bxF (O5 x.1 x.2.1 x.2.2),λx=>fD x.1 x.2.1/\(Z4 x.1 x.2.1).2.2=false⟩
theorem b7F{L:List Frm}{k:Nat}(f:Frm)(d:k<L.length):V3 L.length (setRow (Z1 L) (0+k) 0 [T.int IntKind.i64 f.no,T.int IntKind.i64 f.pg.Q,T.own 0 1 f.pg.sl.length (Z5 f.pg.sl),T.bool f.D,T.int IntKind.i64 f.first]) (Z1 (L.set k f)):=a6d λi _=>by
 have l:∀j,(Z1 L j).length=5:=λ_=>rfl
 rw[E5,i9 (by rw[l];rfl)]
 by_cases h:i=k
 ·subst h;rw[iE rfl];unfold Z1;rw[show(L.set i f).getD i dz=f by rw[Q2,j_j d];rfl]
 ·rw[b5U h];unfold Z1;rw[show(L.set k f).getD i dz=L.getD i dz by rw[Q2,j_l (Ne.symm h),←Q2]]
theorem b94{L:List Frm}(f:Frm)(r:Nat->List T)(R:(r 0).length=5):V3 (L.length+1) (setRow (X6 (Z1 L) L.length r) (0+(L.length:Int).toNat) 0 [T.int IntKind.i64 f.no,T.int IntKind.i64 f.pg.Q,T.own 0 1 f.pg.sl.length (Z5 f.pg.sl),T.bool f.D,T.int IntKind.i64 f.first]) (Z1 (L++[f])):=a6d λi hi=>by
 rw[E8,E5];have l:(X6 (Z1 L) L.length r i).length=5:=by
  unfold X6;by_cases h:i<L.length
  ·rw[tI h];rfl
  ·rw[nW h,show i-L.length=0 by omega]
   exact R
 rw[i9 (by rw[l];rfl)]
 by_cases h:i=L.length
 ·subst h;rw[iE rfl];unfold Z1;rw[show(L++[f]).getD L.length dz=f by rw[Q2,rL (U9 _)];simp]
 ·rw[b5U h];unfold X6;rw[tI Z9]
  unfold Z1;rw[show(L++[f]).getD i dz=L.getD i dz by rw[Q2,tT Z9,←Q2]]
theorem sN{s:Sto}{no:Nat}(v:Nat)(h:0<=frAt s.fr no):Z4 s no=(s,(frAt s.fr no).toNat,true)/\O5 s no v=v:=⟨if_pos h,if_pos h⟩
theorem wC{s:Sto}{no:Nat}(v:Nat)(h:¬0<=frAt s.fr no)(d:s.fr.length=3)(u:(X5 s s.J.toNat).2=true):Z4 s no=(a9j (X5 s s.J.toNat).1 s.J.toNat no,s.J.toNat,true)/\O5 s no v=v+1:=by
 unfold Z4 O5;rw[if_neg h,if_pos d,if_pos u,if_neg h,if_pos d,if_pos u];exact Y3
theorem oB{s:Sto}{no:Nat}(v:Nat)(h:¬0<=frAt s.fr no)(d:s.fr.length=3)(u:(X5 s s.J.toNat).2=false):Z4 s no=((X5 s s.J.toNat).1,0,false)/\O5 s no v=v:=by
 have u:¬ (X5 s s.J.toNat).2=true:=by rw[u];simp
 unfold Z4 O5;rw[if_neg h,if_pos d,if_neg u,if_neg h,if_pos d,if_neg u];exact Y3
theorem rS{s:Sto}{no:Nat}(v:Nat)(h:¬0<=frAt s.fr no)(d:¬s.fr.length=3):Z4 s no=(b9r s no,s.fr.length,true)/\O5 s no v=1:=by
 unfold Z4 O5;rw[if_neg h,if_neg d,if_neg h,if_neg d];exact Y3
theorem a5e{s:Sto}{no:Nat}(h:SInv s)(o:no<8)(l:¬0<=frAt s.fr no)(r:s.fr.length=3)(u:(X5 s s.J.toNat).2=true):DkB ((X5 s s.J.toNat).1.d,no)/\S7 (X5 s s.J.toNat).1.d no=U4 (X5 s s.J.toNat).1.d no/\(U4 (X5 s s.J.toNat).1.d no).2=true:=by
 have n:=h.hd;have f:s.J.toNat<s.fr.length:=Z9
 obtain⟨e,q⟩:=b6o h f o (oR l f) u;obtain⟨_,_,_,_,R⟩:=sZ s s.J.toNat;have j:=h.n69;obtain⟨g,i⟩:=h.pg no o;obtain⟨C,c2⟩:=y7 e;refine⟨⟨X0,X0,X0,by show(T7 _ _).length<=_;rw[e];exact i⟩,?_,by rw[C];exact g⟩
 rw[C,c2];exact(gK s.d no).2 g
theorem a89{s:Sto}{no:Nat}(h:SInv s)(o:no<8):DkB (s.d,no)/\S7 s.d no=U4 s.d no:=by
 have f:=h.n69;have C:=h.c;obtain⟨e,g⟩:=h.pg no o;exact⟨⟨X0,X0,X0,g⟩,(gK s.d no).2 e⟩
theorem a9J{p:Prop}(h:p:=by unfold b9r;simp):p:=h
theorem sM:GK 59 b5y:=gk func59<|by
 rintro⟨s,no,v⟩ ⟨⟨h,hno⟩,f⟩;dsimp only at h hno f;have L:N6 s.fr.length:=by have:=h.fr3;unfold N6;omega
 refine w3 (gC qM (gC a0v (gC cC gN))) func59 Y7 c0W (α:=let z:=(s.fr.length+1);let r:=(s.fr.length:Int);let q:=(Z4 s no);let m:=(Z1 q.1.fr);let j:=q.1.fr.length;let u:=q.1.d;let f:=(Z2 Y9 s.d.keep u.keep);∃(x:sD.ι),let t:=(frAt x.1.fr x.2);((LeS s)/\((EqF s x.1)/\(no:Int)=x.2/\True)/\N6 x.1.fr.length)/\bd (frAt x.1.fr x.2≥(0:Int)) (V6 t s.fr.length/\((0+t.toNat=q.2.1/\0=0)/\True)/\pG s q.1/\(Z2 Z5 s.d.E u.E)/\True/\True/\(Z2 Y0 s.L q.1.L)/\True/\(Z2 Y8 s.d.C u.C)/\f/\(v=O5 s no v/\s.fr.length=j/\V3 s.fr.length (Z1 s.fr) m)/\True) (br (r==3) (∃(x:(Sto×Nat×Nat)),let p:=(X5 x.1 x.2.1);let l:=p.1.fr;let i:=(Z2 Y8 p.1.d.C u.C);let c:=(Z2 Y0 p.1.L q.1.L);let b:=(Z2 Z5 p.1.d.E u.E);let n:=(Z2 Y9 p.1.d.keep u.keep);let k:=l.length;(((0=0/\0=0)/\s.J=(x.2.1:Int)/\True)/\(LnS (v) (x.2.2) s x.1)/\SInv x.1/\x.2.1<x.1.fr.length)/\br (! p.2) ((L6 (v6 [some 0,some 1,some 2,some 3,some 4,some 5,some 6,some 7,some 5]) (T.v (Value.pointer none)) (T.ref 8 q.2.1 0)/\True)/\pG p.1 q.1/\b/\True/\True/\c/\True/\i/\n/\(x.2.2=O5 s no v/\k=j/\V3 l.length (Z1 l) m)/\True) (Ri (p.1.J+1)/\Nz (3:Int)/\∃(X:(Dsk×Nat)),let g:=(S7 X.1 X.2);let y:=g.1.sl.length;((LeS p.1)/\((yA p.1.d X.1)/\(no:Int)=(X.2:Int)/\True)/\DkB X)/\V6 s.J k/\(0+s.J.toNat<k/\Le y y)/\V6 s.J k/\((0+s.J.toNat=q.2.1/\0=0)/\True)/\pG {p.1 with J:=((p.1.J+1).tmod (3:Int))} q.1/\b/\True/\True/\c/\True/\i/\n/\(x.2.2+1=O5 s no v/\k=j/\V3 l.length (setRow (Z1 l) (0+s.J.toNat) 0 [Ji (no:Int),Ji g.1.Q,T.own 0 1 y (Z5 g.1.sl),T.bool false,Ji 0]) m)/\True)) ((Le 1 1/\Le s.fr.length s.fr.length/\U8 s.fr.length 1 56)/\∃(x:(Dsk×Nat)),let a:=(S7 x.1 x.2);let w:=a.1.sl.length;((Le (0+s.d.E.length) s.d.E.length/\Le (0+s.d.C.length) s.d.C.length/\Le (0+s.d.keep.length) s.d.keep.length/\Le (0+s.L.length) s.L.length/\Le (0+z) z)/\((yA s.d x.1)/\(no:Int)=(x.2:Int)/\True)/\DkB x)/\V6 r z/\(0+r.toNat<s.fr.length+1/\Le w w)/\V6 r z/\((0+r.toNat=q.2.1/\0=0)/\True)/\(oo ((0=0/\s.d.E.length=u.E.length)/\(0=0/\s.d.C.length=u.C.length)/\s.d.A=u.A/\(0=0/\s.d.keep.length=u.keep.length)/\s.ep=q.1.ep/\(0=0/\s.L.length=q.1.L.length)/\s.S=q.1.S/\(0=0/\s.fr.length+1=j)/\s.J=q.1.J/\True))/\(Z2 Z5 s.d.E u.E)/\True/\True/\(Z2 Y0 s.L q.1.L)/\True/\(Z2 Y8 s.d.C u.C)/\f/\(1=O5 s no v/\s.fr.length+1=j/\V3 z (setRow (X6 (Z1 s.fr) s.fr.length (tk 5 [Ji 0,Ji 0,T.v (Value.slice none 0 0),T.bool false,Ji 0])) (0+r.toNat) 0 [Ji (no:Int),Ji a.1.Q,T.own 0 1 w (Z5 a.1.sl),T.bool false,Ji 0]) m)/\True))) ⟨(s,(no:Int)),⟨Y3,Y3,L⟩,λhc=>?_,λhc=>⟨λh3=>?_,λh3=>?_⟩⟩
 ·have hc:0<=frAt s.fr no:=D4 hc;obtain⟨e1,e2⟩:=sN v hc;rw[e1,e2];exact⟨⟨hc,by have:=vB hc;show frAt s.fr no<_;omega⟩,⟨⟨E5 _,rfl⟩,Z6⟩,⟨rfl,rfl,⟨rfl,rfl⟩,⟨rfl,rfl⟩,rfl,⟨rfl,rfl⟩,rfl,⟨rfl,rfl⟩,rfl,⟨rfl,rfl⟩,rfl,Z6⟩,⟨rfl,W2 _ _⟩,Z6,Z6,⟨rfl,W2 _ _⟩,Z6,⟨rfl,W2 _ _⟩,⟨rfl,W2 _ _⟩,⟨rfl,rfl,iO _⟩,Z6⟩
 ·have hc:¬0<=frAt s.fr no:=q8 hc;have h3:s.fr.length=3:=by have:=beq_iff_eq.1 h3;omega
  have i:=h.hd;have g:s.J.toNat<s.fr.length:=Z9
  obtain⟨r,R,_⟩:=sZ s s.J.toNat;refine⟨(s,s.J.toNat,v),⟨⟨Y3,X0,Z6⟩,⟨Y3,Y3,Y3,Y3,Y3,I2,Z6⟩,h,g⟩,λhu=>?_,λhu=>?_⟩
  ·have hu:(X5 s s.J.toNat).2=false:=(xO _).mp hu;rw[(oB v hc h3 hu).1] at f;cases f
  ·have hu:(X5 s s.J.toNat).2=true:=(yC _).mp hu;obtain⟨e1,e2⟩:=wC v hc h3 hu;obtain⟨d1,d2,_⟩:=a5e h hno hc h3 hu;rw[e1,e2];refine⟨Z3 X0,by unfold Nz;omega,((X5 s s.J.toNat).1.d,no),⟨Y3,Y3,d1⟩,⟨Z9,X0⟩,⟨X0,U9 _⟩,⟨Z9,X0⟩,⟨⟨E5 _,rfl⟩,Z6⟩,⟨rfl,rfl,Y3,Y3,rfl,Y3,rfl,Y3,rfl,⟨rfl,zN.symm⟩,Y3⟩,Y3,Z6,Z6,Y3,Z6,Y3,Y3,⟨rfl,zN.symm,?_⟩,Z6⟩
   dsimp only;rw[d2];exact b7F (B1 no (U4 (X5 s s.J.toNat).1.d no).1) Z9
 ·have hc:¬0<=frAt s.fr no:=q8 hc;have h3:¬s.fr.length=3:=λe=>by rw[e] at h3;simp at h3
  have l:=h.fr3;obtain⟨e1,e2⟩:=rS v hc h3;obtain⟨d1,d2⟩:=a89 h hno;rw[e1,e2];refine⟨⟨U9 _,U9 _,Q5⟩,(s.d,no),⟨Y3,Y3,d1⟩,⟨Z9,Z9⟩,⟨Z9,U9 _⟩,⟨Z9,Z9⟩,⟨⟨X0,rfl⟩,Z6⟩,⟨rfl,rfl,Y3,Y3,rfl,Y3,rfl,Y3,rfl,⟨rfl,a9J⟩,Y3⟩,Y3,Z6,Z6,Y3,Z6,Y3,Y3,⟨rfl,a9J,?_⟩,Z6⟩
  dsimp only;rw[d2];exact b94 (B1 no (U4 s.d no).1) _ rfl
theorem b0x:GK 59 b6t:=gk func59<|by
 rintro⟨s,no,v⟩ ⟨⟨h,o⟩,f⟩;dsimp only at h o f;have L:N6 s.fr.length:=by have:=h.fr3;unfold N6;omega
 refine w3 (gC qM (gC a0v (gC cC gN))) func59 Y7 c0W (α:=let u:=(T.v (Value.pointer none));let z:=(s.fr.length+1);let r:=(s.fr.length:Int);let q:=(Z4 s no);let n:=(Z1 q.1.fr);let k:=q.1.fr.length;let y:=q.1.d;let g:=(Z2 Y9 s.d.keep y.keep);∃(x:sD.ι),((LeS s)/\((EqF s x.1)/\(no:Int)=x.2/\True)/\N6 x.1.fr.length)/\bd (frAt x.1.fr x.2≥(0:Int)) (V6 (frAt x.1.fr x.2) s.fr.length/\(L6 (v6 [some 0,some 1,some 2,some 3,some 4,some 5,some 2,some 3,some 5]) (T.ref 5 (0+(frAt x.1.fr x.2).toNat) 0) u/\True)/\pG s q.1/\(Z2 Z5 s.d.E y.E)/\True/\True/\(Z2 Y0 s.L q.1.L)/\True/\(Z2 Y8 s.d.C y.C)/\g/\(v=O5 s no v/\s.fr.length=k/\V3 s.fr.length (Z1 s.fr) n)/\True) (br (r==3) (∃(x:(Sto×Nat×Nat)),let p:=(X5 x.1 x.2.1);let t:=p.1.fr;let l:=(Z2 Y8 p.1.d.C y.C);let i:=(Z2 Y0 p.1.L q.1.L);let c:=(Z2 Z5 p.1.d.E y.E);let f:=(Z2 Y9 p.1.d.keep y.keep);let m:=t.length;(((0=0/\0=0)/\s.J=(x.2.1:Int)/\True)/\(LnS (v) (x.2.2) s x.1)/\SInv x.1/\x.2.1<x.1.fr.length)/\br (! p.2) ((Value.pointer none=Value.pointer none/\True)/\pG p.1 q.1/\c/\True/\True/\i/\True/\l/\f/\(x.2.2=O5 s no v/\m=k/\V3 t.length (Z1 t) n)/\True) (Ri (p.1.J+1)/\Nz (3:Int)/\∃(X:(Dsk×Nat)),let a:=(S7 X.1 X.2);let w:=a.1.sl.length;((LeS p.1)/\((yA p.1.d X.1)/\(no:Int)=(X.2:Int)/\True)/\DkB X)/\V6 s.J m/\(0+s.J.toNat<m/\Le w w)/\V6 s.J m/\(L6 (v6 [some 0,some 1,some 2,some 3,some 4,some 5,some 6,some 7,some 5]) (T.ref 5 (0+s.J.toNat) 0) u/\True)/\pG {p.1 with J:=((p.1.J+1).tmod (3:Int))} q.1/\c/\True/\True/\i/\True/\l/\f/\(x.2.2+1=O5 s no v/\m=k/\V3 t.length (setRow (Z1 t) (0+s.J.toNat) 0 [Ji (no:Int),Ji a.1.Q,T.own 0 1 w (Z5 a.1.sl),T.bool false,Ji 0]) n)/\True)) ((Le 1 1/\Le s.fr.length s.fr.length/\U8 s.fr.length 1 56)/\∃(x:(Dsk×Nat)),let b:=(S7 x.1 x.2);let j:=b.1.sl.length;((Le (0+s.d.E.length) s.d.E.length/\Le (0+s.d.C.length) s.d.C.length/\Le (0+s.d.keep.length) s.d.keep.length/\Le (0+s.L.length) s.L.length/\Le (0+z) z)/\((yA s.d x.1)/\(no:Int)=(x.2:Int)/\True)/\DkB x)/\V6 r z/\(0+r.toNat<s.fr.length+1/\Le j j)/\V6 r z/\(L6 (v6 [some 0,some 1,some 2,some 3,some 4,some 5,some 2,some 3,some 7]) (T.ref 7 (0+r.toNat) 0) u/\True)/\(oo ((0=0/\s.d.E.length=y.E.length)/\(0=0/\s.d.C.length=y.C.length)/\s.d.A=y.A/\(0=0/\s.d.keep.length=y.keep.length)/\s.ep=q.1.ep/\(0=0/\s.L.length=q.1.L.length)/\s.S=q.1.S/\(0=0/\s.fr.length+1=k)/\s.J=q.1.J/\True))/\(Z2 Z5 s.d.E y.E)/\True/\True/\(Z2 Y0 s.L q.1.L)/\True/\(Z2 Y8 s.d.C y.C)/\g/\(1=O5 s no v/\s.fr.length+1=k/\V3 z (setRow (X6 (Z1 s.fr) s.fr.length (tk 5 [Ji 0,Ji 0,T.v (Value.slice none 0 0),T.bool false,Ji 0])) (0+r.toNat) 0 [Ji (no:Int),Ji b.1.Q,T.own 0 1 j (Z5 b.1.sl),T.bool false,Ji 0]) n)/\True))) ⟨(s,(no:Int)),⟨Y3,Y3,L⟩,λhc=>?_,λhc=>⟨λh3=>?_,λh3=>?_⟩⟩
 ·have hc:0<=frAt s.fr no:=D4 hc;rw[(sN v hc).1] at f;cases f
 ·have hc:¬0<=frAt s.fr no:=q8 hc;have h3:s.fr.length=3:=by have:=beq_iff_eq.1 h3;omega
  have l:=h.hd;have g:s.J.toNat<s.fr.length:=Z9
  refine⟨(s,s.J.toNat,v),⟨⟨Y3,X0,Z6⟩,⟨Y3,Y3,Y3,Y3,Y3,I2,Z6⟩,h,g⟩,λu=>?_,λu=>?_⟩
  ·have u:(X5 s s.J.toNat).2=false:=(xO _).mp u;obtain⟨i,j⟩:=oB v hc h3 u;rw[i,j];exact⟨Y3,Y3,Y3,Z6,Z6,Y3,Z6,Y3,Y3,I2,Z6⟩
  ·have u:(X5 s s.J.toNat).2=true:=(yC _).mp u;rw[(wC v hc h3 u).1] at f;cases f
 ·have hc:¬0<=frAt s.fr no:=q8 hc;have h3:¬s.fr.length=3:=λe=>by rw[e] at h3;simp at h3
  rw[(rS v hc h3).1] at f;cases f
theorem a01{d:Dsk}{no:Nat}(h:(U4 d no).2=true):PgP (U4 d no).1:=by
 unfold U4 at h ⊢;by_cases hr:T7 d (1+no)=[]
 ·rw[if_pos hr];refine⟨Int.le_refl _,W6,rfl,λi hi=>?_⟩
  match i,hi with
  |0,_=>exact N7 _
  |1,_=>exact N7 _
  |2,_=>exact N7 _
  |3,_=>exact N7 _
 ·rw[if_neg hr] at h ⊢;unfold G0 at h ⊢;split at h
  ·rename_i C;rw[if_pos C];simp only[M1] at h;exact D4 h.2
  ·cases h
theorem gF{s:Sto}{no:Nat}(h:SInv s)(o:no<8)(u:(Z4 s no).2.2=true):(Z4 s no).2.1<(Z4 s no).1.fr.length/\PgP ((Z4 s no).1.fr.getD (Z4 s no).2.1 dz).pg:=by
 by_cases hc:0<=frAt s.fr no
 ·rw[(sN 0 hc).1];exact⟨vB hc,(h.frp _ (vB hc)).2.2.1⟩
 ·by_cases h3:s.fr.length=3
  ·cases ho:(X5 s s.J.toNat).2 with
   |false=>
    rw[(oB 0 hc h3 ho).1] at u;cases u
   |true=>
    rw[(wC 0 hc h3 ho).1];have d:=h.hd;have l:=(sZ s s.J.toNat).1;have hp:=(a5e h o hc h3 ho).2.2;unfold a9j;dsimp only;rw[zN,Q2,j_j Z9]
    exact⟨Z9,a01 hp⟩
  ·rw[(rS 0 hc h3).1];unfold b9r;dsimp only;rw[Q2,rL (U9 _),J3]
   simp only[j_h,List.getElem?_cons_zero,Option.getD_some,List.length_cons,List.length_nil]
   exact⟨Z9,a01 (h.pg no o).1⟩
def wJ(f:Frm)(r:Rec):Frm:=⟨f.no,⟨r.l,f.pg.sl.set r.s.toNat r.a⟩,true,if f.D=true then f.first else r.l⟩
def b5o(a:Sto)(k:Nat)(r:Rec):Sto:=⟨a.d,a.ep,a.L,a.S,a.fr.set k (wJ (a.fr.getD k dz) r),a.J⟩
def S0(s:Sto)(r:Rec):Sto×Bool:=if(Z4 s r.g.toNat).2.2=true then(b5o (Z4 s r.g.toNat).1 (Z4 s r.g.toNat).2.1 r,true) else((Z4 s r.g.toNat).1,false)
def a68(s:Sto)(r:Rec):Prop:=SInv s/\0<=r.g/\r.g<8/\0<=r.s/\r.s<4
def b9K:Con:=.reff ⟨Sto×Rec×Nat,λx=>[.ref 0 0 0,.agg x.2.1.ts],λx=>x.1.bx x.2.2,λx=>.bool (S0 x.1 x.2.1).2,λx=>(S0 x.1 x.2.1).1.bxF (O5 x.1 x.2.1.g.toNat x.2.2),λx=>a68 x.1 x.2.1⟩
theorem b6V{L:List Frm}{k i:Nat}(f:Frm)(h:i≠k):b30 (Z1 L i) (Z1 (L.set k f) i):=by
 rw[show Z1 (L.set k f) i=Z1 L i by unfold Z1;rw[show(L.set k f).getD i dz=L.getD i dz by rw[Q2,j_l (Ne.symm h),←Q2]]]
 exact mO _
theorem pO{L:List Frm}{k:Nat}(f:Frm)(h:k<L.length):(L.set k f).getD k dz=f:=by rw[Q2,j_j h];rfl
theorem a0V{L:List (Bz)}{j:Nat}(t:Bz):L.length=(L.set j t).length/\Z7 L.length (setRow (Z5 L) j 0 [T.str t]) (Z5 (L.set j t)):=⟨zN.symm,λi hi=>kC i hi⟩
theorem b7H{L:List Frm}{k:Nat}{r:Rec}(d:k<L.length)(hd:(L.getD k dz).D=true):V3 L.length (setRow (setRow (Z1 L) k 2 [T.own 0 1 (L.getD k dz).pg.sl.length (setRow (Z5 (L.getD k dz).pg.sl) r.s.toNat 0 [T.str r.a])]) k 1 [T.int IntKind.i64 r.l]) (Z1 (L.set k (wJ (L.getD k dz) r))):=λi hi=>by
 have l5:∀j,(Z1 L j).length=5:=λ_=>rfl
 by_cases h:i=k
 ·subst h;unfold setRow;rw[iE rfl];have e:Z1 (L.set i (wJ (L.getD i dz) r)) i=[Ji (L.getD i dz).no,Ji r.l,.own 0 1 ((L.getD i dz).pg.sl.set r.s.toNat r.a).length (Z5 ((L.getD i dz).pg.sl.set r.s.toNat r.a)),.bool (L.getD i dz).D,Ji (L.getD i dz).first]:=by
   unfold Z1;rw[pO _ hi];unfold wJ;dsimp only;rw[if_pos hd,hd]
  rw[e];exact⟨rfl,rfl,⟨rfl,(a0V r.a).1,(a0V r.a).2⟩,Y3⟩
 ·rw[L5 (by rw[T6 a9h,l5];exact zT rfl) h,L5 a9h h]
  exact b6V _ h
theorem b4t{L:List Frm}{k:Nat}{r:Rec}(d:k<L.length)(hd:(L.getD k dz).D=false):V3 L.length (setRow (setRow (setRow (setRow (Z1 L) k 2 [T.own 0 1 (L.getD k dz).pg.sl.length (setRow (Z5 (L.getD k dz).pg.sl) r.s.toNat 0 [T.str r.a])]) k 1 [T.int IntKind.i64 r.l]) k 3 [T.bool true]) k 4 [T.int IntKind.i64 r.l]) (Z1 (L.set k (wJ (L.getD k dz) r))):=λi hi=>by
 have l5:∀j,(Z1 L j).length=5:=λ_=>rfl
 by_cases h:i=k
 ·subst h;unfold setRow;rw[iE rfl];have e:Z1 (L.set i (wJ (L.getD i dz) r)) i=[Ji (L.getD i dz).no,Ji r.l,.own 0 1 ((L.getD i dz).pg.sl.set r.s.toNat r.a).length (Z5 ((L.getD i dz).pg.sl.set r.s.toNat r.a)),.bool true,Ji r.l]:=by
   unfold Z1;rw[pO _ hi];unfold wJ;dsimp only;rw[if_neg (by rw[hd];simp)]
  rw[e];exact⟨rfl,rfl,⟨rfl,(a0V r.a).1,(a0V r.a).2⟩,Y3⟩
 ·have a1:(setRow (Z1 L) k 2 [T.own 0 1 (L.getD k dz).pg.sl.length (setRow (Z5 (L.getD k dz).pg.sl) r.s.toNat 0 [T.str r.a])] i).length=5:=by rw[T6 a9h,l5]
  have A:(setRow (setRow (Z1 L) k 2 [T.own 0 1 (L.getD k dz).pg.sl.length (setRow (Z5 (L.getD k dz).pg.sl) r.s.toNat 0 [T.str r.a])]) k 1 [T.int IntKind.i64 r.l] i).length=5:=by rw[T6 a9F,a1]
  rw[L5 (by rw[T6 (by rw[A];exact zT rfl),A];exact zT rfl) h,L5 (by rw[A];exact zT rfl) h,L5 a9F h,L5 a9h h]
  exact b6V _ h
theorem b6r:GK 60 b9K:=gk func60<|by
 rintro⟨s,r,v⟩ ⟨h,n,o,i,j⟩;dsimp only at h n o i j;have hno:r.g.toNat<8:=Z9
 by_cases hu:(Z4 s r.g.toNat).2.2=true
 ·have hf:=gF h hno hu;have e:S0 s r=(b5o (Z4 s r.g.toNat).1 (Z4 s r.g.toNat).2.1 r,true):=if_pos hu;refine w3 (gC sM gN) func60 Y7 c1I (α:=let i:=(S0 s r).1;let b:=(true=(S0 s r).2/\True);let n:=(Z1 (S0 s r).1.fr);let m:=(S0 s r).1.fr.length;∃(x:(Sto×Nat×Nat)),let c:=(O5 x.1 x.2.1 x.2.2);let p:=(Z4 x.1 x.2.1);let k:=(Z2 Y0 p.1.L (S0 s r).1.L);let j:=p.1.fr;let f:=j.length;let w:=(Z2 Y8 p.1.d.C (S0 s r).1.d.C);let y:=(Z2 Z5 p.1.d.E (S0 s r).1.d.E);let u:=(Z2 Y9 p.1.d.keep (S0 s r).1.d.keep);let z:=(j.getD p.2.1 dz);let t:=z.pg.sl;let q:=(setRow (setRow (Z1 j) p.2.1 2 [T.own (0:TypeId) 1 t.length (setRow (Z5 t) r.s.toNat 0 [T.str r.a])]) p.2.1 1 [Ji r.l]);(((0=0/\0=0)/\r.g=(x.2.1:Int)/\True)/\(LnS (v) (x.2.2) s x.1)/\fD x.1 x.2.1/\p.2.2=true)/\br false ((false=(S0 s r).2/\True)/\pG p.1 i/\y/\True/\True/\k/\True/\w/\u/\(O5 x.1 x.2.1 x.2.2=O5 s r.g.toNat v/\f=m/\V3 j.length (Z1 j) n)/\True) (Lt p.2.1 f/\V6 r.s t.length/\PfB c c p.2.1 j.length r.s.toNat t.length/\a07 p.2.1 j.length [Ji z.pg.Q]/\Lt p.2.1 f/\br (! z.D) (a07 p.2.1 j.length [T.bool z.D]/\a07 p.2.1 j.length [Ji z.first]/\b/\pG p.1 i/\y/\True/\True/\k/\True/\w/\u/\(O5 x.1 x.2.1 x.2.2=O5 s r.g.toNat v/\f=m/\V3 j.length (setRow (setRow q p.2.1 3 [T.bool true]) p.2.1 4 [Ji r.l]) n)/\True) (b/\pG p.1 i/\y/\True/\True/\k/\True/\w/\u/\(O5 x.1 x.2.1 x.2.2=O5 s r.g.toNat v/\f=m/\V3 j.length q n)/\True))) ⟨(s,r.g.toNat,v),⟨⟨Y3,X0,Z6⟩,⟨Y3,Y3,Y3,Y3,Y3,I2,Z6⟩,⟨h,hno⟩,hu⟩,λhb=>(by cases hb),λ_=>?_⟩
  rw[e];dsimp only;generalize O5 s r.g.toNat v=w;generalize Z4 s r.g.toNat=A at*;obtain⟨a,k,up⟩:=A;dsimp only at*;obtain⟨f,u,z,q,t⟩:=hf;refine⟨f,⟨i,Z9⟩,⟨rfl,f,Z9⟩,⟨f,rfl⟩,f,λhd=>?_,λhd=>?_⟩
  ·exact⟨⟨f,rfl⟩,⟨f,rfl⟩,Y3,⟨rfl,rfl,Y3,Y3,rfl,Y3,rfl,Y3,rfl,⟨rfl,zN.symm⟩,Y3⟩,Y3,Z6,Z6,Y3,Z6,Y3,Y3,⟨rfl,zN.symm,b4t f nJ⟩,Z6⟩
  ·exact⟨Y3,⟨rfl,rfl,Y3,Y3,rfl,Y3,rfl,Y3,rfl,⟨rfl,zN.symm⟩,Y3⟩,Y3,Z6,Z6,Y3,Z6,Y3,Y3,⟨rfl,zN.symm,b7H f nJ⟩,Z6⟩
 ·have e:S0 s r=((Z4 s r.g.toNat).1,false):=if_neg hu;refine w3 (gC b0x gN) func60 Y7 c1I (α:=∃(x:(Sto×Nat×Nat)),let p:=(Z4 x.1 x.2.1);(((0=0/\0=0)/\r.g=(x.2.1:Int)/\True)/\(LnS (v) (x.2.2) s x.1)/\fD x.1 x.2.1/\p.2.2=false)/\br true ((false=(S0 s r).2/\True)/\pG p.1 (S0 s r).1/\(Z2 Z5 p.1.d.E (S0 s r).1.d.E)/\True/\True/\(Z2 Y0 p.1.L (S0 s r).1.L)/\True/\(Z2 Y8 p.1.d.C (S0 s r).1.d.C)/\(Z2 Y9 p.1.d.keep (S0 s r).1.d.keep)/\(O5 x.1 x.2.1 x.2.2=O5 s r.g.toNat v/\p.1.fr.length=(S0 s r).1.fr.length/\V3 p.1.fr.length (Z1 p.1.fr) (Z1 (S0 s r).1.fr))/\True) False) ⟨(s,r.g.toNat,v),⟨⟨Y3,X0,Z6⟩,⟨Y3,Y3,Y3,Y3,Y3,I2,Z6⟩,⟨h,hno⟩,a8v⟩,λ_=>?_,λhb=>(by cases hb)⟩
  rw[e];exact⟨Y3,Y3,Y3,Z6,Z6,Y3,Z6,Y3,Y3,I2,Z6⟩
theorem c0f{s:Sto}{lsn:Int}(h:SInv s)(f:1<=lsn)(e:lsn<=s.L.length):a68 s (s.L.getD (lsn-1).toNat dz)/\(s.L.getD (lsn-1).toNat dz).l=lsn:=by
 obtain⟨a,b⟩:=D8.1 h.rc (lsn-1).toNat Z9
 have a:=(R2 _).1 a;obtain⟨_,_,_,_,_,_,_,_,_,_,q,g,Q,d,_⟩:=a;exact⟨⟨h,q,Z9,Q,Z9⟩,Z9⟩
def a5y:Con:=.rel ⟨Dsk×Nat,λx=>[.agg x.1.ts,Ji x.2],λx=>.tup [.agg (U4 x.1 x.2).1.ts,.bool (U4 x.1 x.2).2],DkB⟩
theorem a4I:GK 135 a5y:=gk func135<|by
 rintro⟨d,no⟩ ⟨g,i,j,f⟩;dsimp only at g i j f;refine aN d no ⟨Z3 Z9,(d,1+no),⟨⟨eqD _,F9,Z6⟩,g,F9⟩,λh=>⟨(),Y3,?_⟩,λh=>⟨((no:Int),T7 d (1+no)),⟨Y3,f⟩,?_⟩⟩
 ·have h:T7 d (1+no)=[]:=by simpa using h
  have e:U4 d no=(⟨0,[[],[],[],[]]⟩,true):=by unfold U4;rw[if_pos h]
  rw[e];exact Y3
 ·have h:T7 d (1+no)≠[]:=by simpa using h
  have e:U4 d no=G0 no (T7 d (1+no)):=by unfold U4;rw[if_neg h]
  rw[e];exact Y3
def b59:Con:=.rel ⟨Pg×Int×Bz×Int,λx=>[.agg x.1.ts,Ji x.2.1,.str x.2.2.1,Ji x.2.2.2],λx=>.agg (Pg.ts ⟨x.2.2.2,x.1.sl.set x.2.1.toNat x.2.2.1⟩),λx=>x.1.sl.length=4/\0<=x.2.1/\x.2.1<4⟩
theorem b13:GK 268 b59:=gk func268<|by
 rintro⟨p,j,t,l⟩ ⟨d,h,e⟩;dsimp only at d h e;exact S2 (gC aP gN) func268 Y7 (α:=let r:=(p.sl.set j.toNat t);∃(x:Pg),let q:=x.sl.length;(((p.Q=x.Q/\(Z2 Z5 p.sl x.sl)/\True)/\True)/\q<=1048576)/\V6 j q/\Lt (0+j.toNat) q/\Le (0+q) q/\l=l/\(q=r.length/\Z7 x.sl.length (setRow (Z5 x.sl) (0+j.toNat) 0 [T.str t]) (Z5 r))/\True) ⟨p,⟨Q6,Z9⟩,⟨h,Z9⟩,I5,dY _,rfl,⟨zN.symm,λi hi=>by rw[E5];exact kC i hi⟩,Z6⟩
theorem cO{f row:Nat->List T}:X6 f 0 row=row:=funext λ_=>rfl
theorem b9W{L:List Frm}{k:Nat}(f:Frm)(d:k<L.length):Z7 L.length (setRow (V4 L) k 0 f.ts) (V4 (L.set k f)):=λi _=>by
 have l:∀j,(V4 L j).length=5:=λ_=>rfl
 rw[i9 (by rw[l];rfl)]
 unfold V4;by_cases h:i=k
 ·subst h;rw[iE rfl,pO _ d]
 ·rw[b5U h,show(L.set k f).getD i dz=L.getD i dz by rw[Q2,j_l (Ne.symm h),←Q2]]
theorem b45{L:List Frm}{k:Nat}(d:k<L.length):Z7 L.length (setRow (setRow (V4 L) k 3 [T.bool false]) k 4 [T.int IntKind.i64 0]) (V4 (L.set k (jO (L.getD k dz)))):=λi hi=>by
 have hl:∀j,(V4 L j).length=5:=λ_=>rfl
 by_cases h:i=k
 ·subst h;unfold setRow;rw[iE rfl];unfold V4;rw[pO _ d];rfl
 ·rw[L5 (by rw[T6 (by rw[hl];decide),hl];decide) h,L5 (by rw[hl];decide) h]
  unfold V4;rw[show(L.set k (jO (L.getD k dz))).getD i dz=L.getD i dz by rw[Q2,j_l (Ne.symm h),←Q2]]
theorem b8z{L:List Frm}(f:Frm)(r:Nat->List T)(R:(r 0).length=5):Z7 (L.length+1) (setRow (X6 (V4 L) L.length r) L.length 0 f.ts) (V4 (L++[f])):=λi hi=>by
 have l:(X6 (V4 L) L.length r i).length=5:=by
  unfold X6;by_cases h:i<L.length
  ·rw[tI h];rfl
  ·rw[nW h,show i-L.length=0 by omega]
   exact R
 rw[i9 (by rw[l];rfl)]
 by_cases h:i=L.length
 ·subst h;rw[iE rfl];unfold V4;rw[show(L++[f]).getD L.length dz=f by rw[Q2,rL (U9 _)];simp]
 ·rw[b5U h];unfold X6;rw[tI Z9]
  unfold V4;rw[show(L++[f]).getD i dz=L.getD i dz by rw[Q2,tT Z9,←Q2]]
def b6e:Con:=.rel ⟨Sto×Nat,λx=>[.agg x.1.ts,Ji x.2],λx=>.tup [.agg (X5 x.1 x.2).1.ts,.bool (X5 x.1 x.2).2],λx=>SInv x.1/\x.2<x.1.fr.length⟩
theorem b2j:GK 265 b6e:=gk func265<|by
 rintro⟨s,k⟩ ⟨h,j⟩;dsimp only at h j;have i:=h.frp k j;have F:=h.flu i.2.2.2;have r:=a5h s (s.fr.getD k dz).pg.Q;have u:=a4V F h.sm;have t:=a69 (l:=(s.fr.getD k dz).pg.Q) h.pd;have q:=a8Z (l:=(s.fr.getD k dz).pg.Q) h.c;have n:=h.fr3;have o:= @fV s k;have o2:= @a0N s k;have o3:= @gQ s k;refine S2 (gC a3v (gC eX (gC a3N (gC lS gN)))) func265 Y7 (α:=let n:=(X5 s k).1.d.keep;let m:=(X5 s k).1;let v:=(X5 s k).2;let u:=(0+(k:Int).toNat);let q:=(s.fr.getD (k:Int).toNat dz);V6 (k:Int) s.fr.length/\((! q.D)=true->(zV s m)/\true=v/\True)/\((! q.D)=false->∃(x:(Sto×Int)),let z:=(W5 x.1 x.2);let w:=(Z2 Y0 z.1.L (X5 s k).1.L);let y:=((↑z.1.d.C.length:Int)==500);let p:=z.1.fr.length;let j:=(Le 0 0/\U8 0 p 56);let r:=(0+p=(X5 s k).1.fr.length/\Z7 (0+p) (setRow (setRow (X6 (tk 5 []) 0 (V4 z.1.fr)) u 3 [T.bool false]) u 4 [Ji 0]) (V4 (X5 s k).1.fr));(((zV s x.1)/\q.pg.Q=x.2/\True)/\uW x.1 x.2)/\((! z.2)=true->(zV z.1 m)/\false=v/\True)/\((! z.2)=false->(y=true->∃(f:Dsk),(((yA z.1.d f)/\True)/\jH f/\bW f)/\((!(U7 f).2)=true->(zV {z.1 with d:=(U7 f).1} m)/\false=v/\True)/\((!(U7 f).2)=false->P6 .i64 (1+q.no)/\∃(X:pV.ι),((q.no=X.1/\(q.pg.Q=X.2.Q/\(Z2 Z5 q.pg.sl X.2.sl)/\True)/\True)/\PgP X.2)/\∃(g:(Dsk×Int×Bz)),(((yA (U7 f).1 g.1)/\1+q.no=g.2.1/\Q4 X.1 X.2=g.2.2/\True)/\g.1.C.length<=1048576)/\j/\V6 (k:Int) (0+p)/\Lt u (0+p)/\V6 (k:Int) (0+p)/\Lt u (0+p)/\Le (0+(0+p)) (0+p)/\((Z2 Z5 g.1.E (X5 s k).1.d.E)/\(Z2 Y8 (g.1.C++[Pend.mk g.2.1 g.2.2]) (X5 s k).1.d.C)/\g.1.A=(X5 s k).1.d.A/\(Z2 Y9 g.1.keep n)/\z.1.ep=(X5 s k).1.ep/\w/\z.1.S=(X5 s k).1.S/\r/\z.1.J=(X5 s k).1.J/\True)/\true=v/\True))/\(y=false->P6 .i64 (1+q.no)/\∃(f:pV.ι),((q.no=f.1/\(q.pg.Q=f.2.Q/\(Z2 Z5 q.pg.sl f.2.sl)/\True)/\True)/\PgP f.2)/\∃(X:(Dsk×Int×Bz)),(((yA z.1.d X.1)/\1+q.no=X.2.1/\Q4 f.1 f.2=X.2.2/\True)/\X.1.C.length<=1048576)/\j/\V6 (k:Int) (0+p)/\Lt u (0+p)/\V6 (k:Int) (0+p)/\Lt u (0+p)/\Le (0+(0+p)) (0+p)/\((Z2 Z5 X.1.E (X5 s k).1.d.E)/\(Z2 Y8 (X.1.C++[Pend.mk X.2.1 X.2.2]) (X5 s k).1.d.C)/\X.1.A=(X5 s k).1.d.A/\(Z2 Y9 X.1.keep n)/\z.1.ep=(X5 s k).1.ep/\w/\z.1.S=(X5 s k).1.S/\r/\z.1.J=(X5 s k).1.J/\True)/\true=v/\True)))) ?_
 rw[E8];refine⟨Y1 j,λhd=>?_,λhd=>⟨(s,(s.fr.getD k dz).pg.Q),⟨Y3,F⟩,λhu=>?_,λhu=>⟨λhc=>?_,λhc=>?_⟩⟩⟩
 ·rw[vN nJ]
  exact Y3
 all_goals
  have hd:(s.fr.getD k dz).D=true:=nJ
  replace o:=o hd;replace o2:=o2 hd;replace o3:=o3 hd;dsimp only at*;generalize W5 s (s.fr.getD k dz).pg.Q=A at*;obtain⟨a,up⟩:=A;dsimp only at*;rw[←r] at j i n
 ·have hu:up=false:=(xO _).mp hu;subst hu;rw[o rfl];exact Y3
 ·have hu:up=true:=(yC _).mp hu;subst hu;have hc:500<=a.d.C.length:=by have:=beq_iff_eq.1 hc;omega
  rw[←r];refine⟨a.d,⟨Y3,u.1,t⟩,λhb=>?_,λhb=>?_⟩
  ·have hb:(U7 a.d).2=false:=(xO _).mp hb;rw[o2 rfl a9m,sU hc]
   exact Q6
  ·have hb:(U7 a.d).2=true:=(yC _).mp hb;rw[o3 rfl a9m,sU hc]
   exact⟨Z3 Z9,((a.fr.getD k dz).no,(a.fr.getD k dz).pg),⟨Q6,i.2.2.1⟩,((U7 a.d).1,1+(a.fr.getD k dz).no,Q4 (a.fr.getD k dz).no (a.fr.getD k dz).pg),⟨Q6,by show(U7 a.d).1.C.length<=_;rw[zA];exact N7 _⟩,⟨U9 _,Q5⟩,⟨Z9,Z9⟩,I5,⟨Z9,Z9⟩,I5,K2,⟨Y3,Y3,rfl,Y3,rfl,Y3,rfl,⟨a2o,by rw[E5,E5,cO];exact b45 j⟩,Y3⟩,Y3⟩
 ·have hu:up=true:=(yC _).mp hu;subst hu;have hc:¬500<=a.d.C.length:=λe=>by have e:(a.d.C.length:Int)=500:=Z9;rw[e] at hc;simp at hc
  rw[←r,o3 rfl (by rw[qJ hc]),qJ hc]
  exact⟨Z3 Z9,((a.fr.getD k dz).no,(a.fr.getD k dz).pg),⟨Q6,i.2.2.1⟩,(a.d,1+(a.fr.getD k dz).no,Q4 (a.fr.getD k dz).no (a.fr.getD k dz).pg),⟨Q6,X0⟩,⟨U9 _,Q5⟩,⟨Z9,Z9⟩,I5,⟨Z9,Z9⟩,I5,K2,⟨Y3,Y3,rfl,Y3,rfl,Y3,rfl,⟨a2o,by rw[E5,E5,cO];exact b45 j⟩,Y3⟩,Y3⟩
def a5R:Con:=.rel ⟨Sto×Nat,λx=>[.agg x.1.ts,Ji x.2],λx=>.tup [.agg (Z4 x.1 x.2).1.ts,Ji (Z4 x.1 x.2).2.1,.bool (Z4 x.1 x.2).2.2],λx=>fD x.1 x.2⟩
theorem tE:GK 215 a5R:=gk func215<|by
 rintro⟨s,no⟩ ⟨h,o⟩;dsimp only at h o;have L:N6 s.fr.length:=by have:=h.fr3;unfold N6;omega
 have g:=h.fr3;refine S2 (gC lP (gC b2j (gC a4I gN))) func215 Y7 (α:=let n:=(tk 5 []);let y:=(0+s.fr.length);let z:=(s.fr.length:Int);let r:=(0+s.fr.length+1);let p:=(Z4 s no);let j:=p.1.d;let w:=(↑p.2.1:Int);∃(x:qP.ι),(((zV s x.1)/\(no:Int)=x.2/\True)/\N6 x.1.fr.length)/\bd (frAt x.1.fr x.2≥(0:Int)) ((zV s p.1)/\frAt x.1.fr x.2=w/\true=p.2.2/\True) (br (z==3) (∃(x:(Sto×Nat)),let q:=(X5 x.1 x.2);let u:=(0+q.1.fr.length);(((zV s x.1)/\s.J=(x.2:Int)/\True)/\SInv x.1/\x.2<x.1.fr.length)/\br (! q.2) ((zV q.1 p.1)/\0=w/\false=p.2.2/\True) (Ri (q.1.J+1)/\Nz (3:Int)/\∃(X:(Dsk×Nat)),let k:=(U4 X.1 X.2);(((yA q.1.d X.1)/\(no:Int)=(X.2:Int)/\True)/\DkB X)/\(Le 0 0/\U8 0 q.1.fr.length 56)/\V6 s.J u/\Lt (0+s.J.toNat) u/\Le (0+u) u/\((Z2 Z5 q.1.d.E j.E)/\(Z2 Y8 q.1.d.C j.C)/\q.1.d.A=j.A/\(Z2 Y9 q.1.d.keep j.keep)/\q.1.ep=p.1.ep/\(Z2 Y0 q.1.L p.1.L)/\q.1.S=p.1.S/\(0+q.1.fr.length=p.1.fr.length/\Z7 u (setRow (X6 n 0 (V4 q.1.fr)) (0+s.J.toNat) 0 [Ji (no:Int),Ji k.1.Q,T.sl 1 k.1.sl.length (Z5 k.1.sl),T.bool false,Ji 0]) (V4 p.1.fr))/\(q.1.J+1).tmod (3:Int)=p.1.J/\True)/\s.J=w/\true=p.2.2/\True)) ((Le 0 0/\U8 0 s.fr.length 56)/\(Le 1 1/\Le y y/\U8 y 1 56)/\∃(x:(Dsk×Nat)),let m:=(U4 x.1 x.2);(((yA s.d x.1)/\(no:Int)=(x.2:Int)/\True)/\DkB x)/\(Le (0+r) r/\Le 0 0/\U8 0 r 56)/\V6 z (0+r)/\Lt (0+z.toNat) (0+r)/\Le (0+(0+r)) (0+r)/\((Z2 Z5 s.d.E j.E)/\(Z2 Y8 s.d.C j.C)/\s.d.A=j.A/\(Z2 Y9 s.d.keep j.keep)/\s.ep=p.1.ep/\(Z2 Y0 s.L p.1.L)/\s.S=p.1.S/\(0+r=p.1.fr.length/\Z7 (0+r) (setRow (X6 n 0 (X6 (X6 n 0 (V4 s.fr)) y (tk 5 [Ji 0,Ji 0,T.v (Value.slice none 0 0),T.bool false,Ji 0]))) (0+z.toNat) 0 [Ji (no:Int),Ji m.1.Q,T.sl 1 m.1.sl.length (Z5 m.1.sl),T.bool false,Ji 0]) (V4 p.1.fr))/\s.J=p.1.J/\True)/\z=w/\true=p.2.2/\True))) ⟨(s,(no:Int)),⟨Y3,L⟩,λhc=>?_,λhc=>⟨λh3=>?_,λh3=>?_⟩⟩
 ·have hc:0<=frAt s.fr no:=D4 hc;rw[(sN 0 hc).1];exact⟨gL _,X0,Y3⟩
 ·have hc:¬0<=frAt s.fr no:=q8 hc;have h3:s.fr.length=3:=by have:=beq_iff_eq.1 h3;omega
  have i:=h.hd;have f:s.J.toNat<s.fr.length:=Z9
  obtain⟨r,R,_⟩:=sZ s s.J.toNat;refine⟨(s,s.J.toNat),⟨⟨gL _,X0,Z6⟩,h,f⟩,λu=>?_,λu=>?_⟩
  ·have u:(X5 s s.J.toNat).2=false:=(xO _).mp u;rw[(oB 0 hc h3 u).1];exact Y3
  ·have u:(X5 s s.J.toNat).2=true:=(yC _).mp u;obtain⟨d1,_⟩:=a5e h o hc h3 u;rw[(wC 0 hc h3 u).1];exact⟨Z3 X0,by unfold Nz;omega,((X5 s s.J.toNat).1.d,no),⟨Y3,d1⟩,⟨U9 _,by unfold U8;dsimp only;omega⟩,⟨Z9,X0⟩,K1,by unfold Le;dsimp only;omega,⟨⟨rfl,W2 _ _⟩,⟨rfl,W2 _ _⟩,rfl,⟨rfl,W2 _ _⟩,rfl,⟨rfl,W2 _ _⟩,rfl,⟨a2o,by rw[E5,E5,cO];exact b9W (B1 no (U4 (X5 s s.J.toNat).1.d no).1) (by rw[r];exact f)⟩,Y3⟩,X0,Y3⟩
 ·have hc:¬0<=frAt s.fr no:=q8 hc;have h3:¬s.fr.length=3:=λe=>by rw[e] at h3;simp at h3
  obtain⟨d1,_⟩:=a89 h o;rw[(rS 0 hc h3).1];exact⟨⟨U9 _,Q5⟩,⟨U9 _,K2,Q5⟩,(s.d,no),⟨Y3,d1⟩,⟨K2,U9 _,Q5⟩,⟨Z9,Z9⟩,I5,K2,⟨Y3,Y3,rfl,Y3,rfl,Y3,rfl,⟨a9J,by rw[E8,E5,E5,cO,cO];exact b8z (B1 no (U4 s.d no).1) _ rfl⟩,Y3⟩,Y3⟩
def a6k:Con:=.rel ⟨Sto×Int,λx=>[.agg x.1.ts,Ji x.2],λx=>.tup [.agg (S0 x.1 (x.1.L.getD (x.2-1).toNat dz)).1.ts,.bool (S0 x.1 (x.1.L.getD (x.2-1).toNat dz)).2],λx=>SInv x.1/\1<=x.2/\x.2<=x.1.L.length⟩
theorem b33{L:List Frm}{k i:Nat}(f:Frm)(h:i≠k):V4 L i=V4 (L.set k f) i:=by
 unfold V4;rw[show(L.set k f).getD i dz=L.getD i dz by rw[Q2,j_l (Ne.symm h),←Q2]]
theorem b7K{L:List Frm}{k:Nat}{r:Rec}(d:k<L.length)(hd:(L.getD k dz).D=true):Z7 L.length (setRow (V4 L) k 1 [T.int IntKind.i64 r.l,T.sl 1 ((L.getD k dz).pg.sl.set r.s.toNat r.a).length (Z5 ((L.getD k dz).pg.sl.set r.s.toNat r.a))]) (V4 (L.set k (wJ (L.getD k dz) r))):=λi hi=>by
 have hl:∀j,(V4 L j).length=5:=λ_=>rfl
 by_cases h:i=k
 ·subst h;unfold setRow;rw[iE rfl];unfold V4;rw[pO _ d];unfold wJ Frm.ts;dsimp only;rw[if_pos hd,hd];rfl
 ·rw[L5 b4T h]
  exact b33 _ h
theorem b3k{L:List Frm}{k:Nat}{r:Rec}(hk:k<L.length)(hd:(L.getD k dz).D=false):Z7 L.length (setRow (setRow (setRow (V4 L) k 1 [T.int IntKind.i64 r.l,T.sl 1 ((L.getD k dz).pg.sl.set r.s.toNat r.a).length (Z5 ((L.getD k dz).pg.sl.set r.s.toNat r.a))]) k 3 [T.bool true]) k 4 [T.int IntKind.i64 r.l]) (V4 (L.set k (wJ (L.getD k dz) r))):=λi hi=>by
 have hl:∀j,(V4 L j).length=5:=λ_=>rfl
 by_cases h:i=k
 ·subst h;unfold setRow;rw[iE rfl];unfold V4;rw[pO _ hk];unfold wJ Frm.ts;dsimp only;rw[if_neg (by rw[hd];simp)]
  rfl
 ·have a1:(setRow (V4 L) k 1 [T.int IntKind.i64 r.l,T.sl 1 ((L.getD k dz).pg.sl.set r.s.toNat r.a).length (Z5 ((L.getD k dz).pg.sl.set r.s.toNat r.a))] i).length=5:=by rw[T6 b4T,hl]
  rw[L5 (by rw[T6 a9F,a1];exact zT rfl) h,L5 a9F h,L5 b4T h]
  exact b33 _ h
theorem b3u(s:Sto)(no:Nat):(Z4 s no).1.L=s.L/\((Z4 s no).1.fr.length<=s.fr.length∨((Z4 s no).1.fr.length=s.fr.length+1/\s.fr.length≠3)):=by
 obtain⟨R,_,r,_⟩:=sZ s s.J.toNat;unfold Z4;split
 ·exact⟨rfl,.inl (U9 _)⟩
 ·split
  ·split
   ·exact⟨r,.inl (by unfold a9j;dsimp only;rw[zN];omega)⟩
   ·exact⟨r,.inl X0⟩
  ·rename_i h;exact⟨rfl,.inr ⟨a9J,h⟩⟩
theorem a4g:GK 219 a6k:=gk func219<|by
 rintro⟨s,lsn⟩ ⟨h,f,e⟩;dsimp only at h f e;obtain⟨⟨_,u,z,t,j⟩,l⟩:=c0f h f e;have i:=h.l60;have v:=h.fr3;have o:(s.L.getD (lsn-1).toNat dz).g.toNat<8:=Z9
 have n:=(b3u s (s.L.getD (lsn-1).toNat dz).g.toNat).2;have hf:=gF h o;have e1:(Z4 s (s.L.getD (lsn-1).toNat dz).g.toNat).2.2=true->S0 s (s.L.getD (lsn-1).toNat dz)=(b5o (Z4 s (s.L.getD (lsn-1).toNat dz).g.toNat).1 (Z4 s (s.L.getD (lsn-1).toNat dz).g.toNat).2.1 (s.L.getD (lsn-1).toNat dz),true):=λhu=>if_pos hu
 have q:(Z4 s (s.L.getD (lsn-1).toNat dz).g.toNat).2.2=false->S0 s (s.L.getD (lsn-1).toNat dz)=((Z4 s (s.L.getD (lsn-1).toNat dz).g.toNat).1,false):=λhu=>if_neg (by rw[hu];simp)
 refine S2 (gC tE (gC b13 gN)) func219 Y7 (α:=let v:=(s.L.getD (lsn-1).toNat dz);let p:=(S0 s v);Ri (lsn-1)/\V6 (lsn-1) s.L.length/\∃(x:(Sto×Nat)),let q:=(Z4 x.1 x.2);let f:=(Z2 Y0 q.1.L p.1.L);let n:=(Z2 Y8 q.1.d.C p.1.d.C);let m:=(Z2 Z5 q.1.d.E p.1.d.E);let k:=q.1.fr.length;let j:=(Z2 Y9 q.1.d.keep p.1.d.keep);let z:=(0+k);let r:=(↑q.2.1:Int).toNat;let y:=(q.1.fr.getD (0+r-0) dz);(((zV s x.1)/\v.g=(x.2:Int)/\True)/\fD x.1 x.2)/\br (! q.2.2) ((zV q.1 p.1)/\false=p.2/\True) ((Le 0 0/\U8 0 q.1.fr.length 56)/\V6 (↑q.2.1:Int) z/\Lt (0+r) z/\∃(X:(Pg×Int×Bz×Int)),let w:=(X.1.sl.set X.2.1.toNat X.2.2.1);let u:=(setRow (X6 (tk 5 []) 0 (V4 q.1.fr)) (0+r) 1 [Ji X.2.2.2,T.sl 1 w.length (Z5 w)]);(((y.pg.Q=X.1.Q/\(Z2 Z5 y.pg.sl X.1.sl)/\True)/\v.s=X.2.1/\v.a=X.2.2.1/\lsn=X.2.2.2/\True)/\X.1.sl.length=4/\0<=X.2.1/\X.2.1<(4:Int))/\Lt (0+r) z/\Lt (0+r) z/\br (! y.D) (Lt (0+r) z/\Lt (0+r) z/\Le (0+z) z/\(m/\n/\q.1.d.A=p.1.d.A/\j/\q.1.ep=p.1.ep/\f/\q.1.S=p.1.S/\(0+k=p.1.fr.length/\Z7 z (setRow (setRow u (0+r) 3 [T.bool true]) (0+r) 4 [Ji lsn]) (V4 p.1.fr))/\q.1.J=p.1.J/\True)/\true=p.2/\True) (Le (0+z) z/\(m/\n/\q.1.d.A=p.1.d.A/\j/\q.1.ep=p.1.ep/\f/\q.1.S=p.1.S/\(0+k=p.1.fr.length/\Z7 z u (V4 p.1.fr))/\q.1.J=p.1.J/\True)/\true=p.2/\True))) ⟨Z3 Z9,⟨Z9,Z9⟩,(s,(s.L.getD (lsn-1).toNat dz).g.toNat),⟨⟨gL _,X0,Z6⟩,h,o⟩,λhu=>?_,λhu=>?_⟩
 ·rw[q ((xO _).mp hu)];exact Y3
 ·have hu:=(yC _).mp hu;replace e1:=e1 hu;replace hf:=hf hu;rw[e1];dsimp only at*;generalize s.L.getD (lsn-1).toNat dz=r at*;generalize Z4 s r.g.toNat=A at*;obtain⟨a,k,up⟩:=A;dsimp only at*;obtain⟨hk,p1,p2,p3,p4⟩:=hf;rw[E8,show 0+k=k from E5 k,Nat.sub_zero]
  refine⟨⟨U9 _,Q5⟩,⟨Z9,Z9⟩,I5,((a.fr.getD k dz).pg,r.s,r.a,lsn),⟨⟨Q6,Y3⟩,p3,t,j⟩,I5,I5,λhd=>?_,λhd=>?_⟩
  ·refine⟨I5,I5,K2,⟨Y3,Y3,rfl,Y3,rfl,Y3,rfl,⟨a2o,?_⟩,Y3⟩,Y3⟩
   rw[E5,cO,←l];exact b3k hk nJ
  ·refine⟨K2,⟨Y3,Y3,rfl,Y3,rfl,Y3,rfl,⟨a2o,?_⟩,Y3⟩,Y3⟩
   rw[E5,cO,←l];exact b7K hk nJ
end
end Go.Proofs.YtlbmgnomkjmafaaGreat
