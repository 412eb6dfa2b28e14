/- A part of the proof. -/
import Derived.Test.YtcobnbfhkpbokaaGreatE4
namespace Go.Proofs.YtcobnbfhkpbokaaGreat
set_option maxRecDepth 100000
open Go.SS Go.Proofs.Tryz
noncomputable section
theorem v8:C4 []:=λk ob h=>by simp[Y8] at h
theorem B1{o:Ob}{H:Y4}(h:a13 o)(k:C4 H):C4 (some o::H):=λi ob hi=>by
 cases i with
 |zero=>
  simp only[Y8,List.getElem?_cons_zero,Option.bind_some,id,W9] at hi
  rw[←hi];exact h
 |succ i=>exact k i ob (by simpa[Y8] using hi)
theorem v6{row row':Nat->List T}{n:Nat}:Z7 (0+n) (X6 row 0 row') row':=λi _=>rfl
def z9(L:List Pend):Option Ob:=some (.arr true 0 2 L.length (Z2 L))
def u2(L:List Int):Option Ob:=some (.arr true 0 1 L.length (Z0 L))
def yV(L:List Rec):Option Ob:=some (.arr true 0 10 L.length (Y6 L))
theorem i7(L:List (Bz)):C4 [u5 L]:=B1 (λi _ t h=>by simp only[Z6,List.mem_singleton] at h;rw[h];rfl) v8
theorem cP(L:List Pend):C4 [z9 L]:=B1 (λi _ t h=>by
 simp only[Z2,Pend.ts,vT,j_h,or_false] at h;rcases h with rfl|rfl<;>rfl) v8
theorem a0e(L:List Int):C4 [u2 L]:=B1 (λi _ t h=>by simp only[Z0,List.mem_singleton] at h;rw[h];rfl) v8
theorem kU(L:List Rec):C4 [yV L]:=B1 (λi _ t h=>by
 simp only[Y6,Rec.ts,vT,j_h,or_false] at h;rcases h with rfl|rfl|rfl|rfl|rfl|rfl|rfl|rfl|rfl|rfl<;>rfl) v8
def b9c:Con:=.rmk ⟨List (Bz),λL=>[yC L],λ_=>[],λL=>.osl 0 0 L.length,λL=>[u5 L],λL=>L.length<=1048576⟩
theorem b9r(L:List (Bz))(h:
  ∀(b:Bool),(b=true->L.length=0)->br b (((0=0/\0=L.length)/\True)/\(0=L.length/\Z7 0 (λ(x:Nat)=>[]) (Z6 L))/\True) ((Le 0 0/\U2 0 L.length 16)/\((0=0/\0+L.length=L.length)/\True)/\(0+L.length=L.length/\Z7 (0+L.length) (X6 (tk 1 []) 0 (Z6 L)) (Z6 L))/\True)):
  G8 prog 138 [yC L] [] (.osl 0 0 L.length) [u5 L]:=
 r9 gN func138 Y5 [[.arr 1],[.nilS 0 [] 0 1,.arr 0]] h
theorem a4w:GK 138 b9c:=gk func138<|λ(L:List (Bz)) (hL:L.length<=1048576)=>
 ⟨b9r L (λb B=>⟨λh=>⟨⟨⟨rfl,(B h).symm⟩,Z5⟩,⟨(B h).symm,λi hi=>absurd hi (J2 _)⟩,Z5⟩,λ_=>⟨⟨U9 _,O6⟩,⟨⟨rfl,Z9⟩,Z5⟩,⟨Z9,v6⟩,Z5⟩⟩),rfl,i7 L⟩
def b3B:Con:=.rmk ⟨List Pend,λL=>[qA L],λ_=>[],λL=>.osl 0 0 L.length,λL=>[z9 L],λL=>L.length<=1048576⟩
theorem b32(L:List Pend)(h:
  ∀(b:Bool),(b=true->L.length=0)->br b (((0=0/\0=L.length)/\True)/\(0=L.length/\Z7 0 (λ(x:Nat)=>[]) (Z2 L))/\True) ((Le 0 0/\U2 0 L.length 24)/\((0=0/\0+L.length=L.length)/\True)/\(0+L.length=L.length/\Z7 (0+L.length) (X6 (tk 2 []) 0 (Z2 L)) (Z2 L))/\True)):
  G8 prog 139 [qA L] [] (.osl 0 0 L.length) [z9 L]:=
 r9 gN func139 Y5 c4b h
theorem b09:GK 139 b3B:=gk func139<|λ(L:List Pend) (hL:L.length<=1048576)=>
 ⟨b32 L (λb B=>⟨λh=>⟨⟨⟨rfl,(B h).symm⟩,Z5⟩,⟨(B h).symm,λi hi=>absurd hi (J2 _)⟩,Z5⟩,λ_=>⟨⟨U9 _,O6⟩,⟨⟨rfl,Z9⟩,Z5⟩,⟨Z9,v6⟩,Z5⟩⟩),rfl,cP L⟩
def b83:Con:=.rmk ⟨List Int,λL=>[aX L],λ_=>[],λL=>.osl 0 0 L.length,λL=>[u2 L],λL=>L.length<=1048576⟩
theorem c0h(L:List Int)(h:
  ∀(b:Bool),(b=true->L.length=0)->br b (((0=0/\0=L.length)/\True)/\(0=L.length/\Z7 0 (λ(x:Nat)=>[]) (Z0 L))/\True) ((Le 0 0/\U2 0 L.length 8)/\((0=0/\0+L.length=L.length)/\True)/\(0+L.length=L.length/\Z7 (0+L.length) (X6 (tk 1 []) 0 (Z0 L)) (Z0 L))/\True)):
  G8 prog 128 [aX L] [] (.osl 0 0 L.length) [u2 L]:=
 r9 gN func128 Y5 [[.arr 1],[.nilS 0 [] 0 1,.arr 0]] h
theorem a30:GK 128 b83:=gk func128<|λ(L:List Int) (hL:L.length<=1048576)=>
 ⟨c0h L (λb B=>⟨λh=>⟨⟨⟨rfl,(B h).symm⟩,Z5⟩,⟨(B h).symm,λi hi=>absurd hi (J2 _)⟩,Z5⟩,λ_=>⟨⟨U9 _,O6⟩,⟨⟨rfl,Z9⟩,Z5⟩,⟨Z9,v6⟩,Z5⟩⟩),rfl,a0e L⟩
def b8g:Con:=.rmk ⟨List Rec,λL=>[pB L],λ_=>[],λL=>.osl 0 0 L.length,λL=>[yV L],λL=>L.length<=1048576⟩
theorem b93(L:List Rec)(h:
  ∀(b:Bool),(b=true->L.length=0)->br b (((0=0/\0=L.length)/\True)/\(0=L.length/\Z7 0 (λ(x:Nat)=>[]) (Y6 L))/\True) ((Le 0 0/\U2 0 L.length 96)/\((0=0/\0+L.length=L.length)/\True)/\(0+L.length=L.length/\Z7 (0+L.length) (X6 (tk 10 []) 0 (Y6 L)) (Y6 L))/\True)):
  G8 prog 110 [pB L] [] (.osl 0 0 L.length) [yV L]:=
 r9 gN func110 Y5 [[.arr 1],[.nilS 0 [] 0 10,.arr 0]] h
theorem b5H:GK 110 b8g:=gk func110<|λ(L:List Rec) (hL:L.length<=1048576)=>
 ⟨b93 L (λb B=>⟨λh=>⟨⟨⟨rfl,(B h).symm⟩,Z5⟩,⟨(B h).symm,λi hi=>absurd hi (J2 _)⟩,Z5⟩,λ_=>⟨⟨U9 _,O6⟩,⟨⟨rfl,Z9⟩,Z5⟩,⟨Z9,v6⟩,Z5⟩⟩),rfl,kU L⟩
def Dsk.tm(d:Dsk)(b:Nat):List T:=[.osl b 0 d.E.length,.osl (b+1) 0 d.C.length,.bool d.A,.osl (b+2) 0 d.keep.length]
def Dsk.hp(d:Dsk):Y4:=[u5 d.E,z9 d.C,u2 d.keep]
theorem h9{H K:Y4}(h:C4 H)(k:C4 K):C4 (H++K):=λi ob hi=>by
 unfold Y8 at hi;rw[List.getElem?_append] at hi
 split at hi
 ·exact h i ob hi
 ·exact k _ ob hi
theorem rE(d:Dsk):C4 d.hp:=h9 (i7 _) (h9 (cP _) (a0e _))
def b8F:Con:=.rmk ⟨Dsk,λd=>[.agg d.ts],λ_=>[],λd=>.agg (d.tm 0),λd=>d.hp,kT⟩
theorem b47:GK 77 b8F:=gk func77<|by
 rintro(d:Dsk) ⟨h1,h2,h3⟩;exact⟨r9 (gC a4w (gC b09 (gC a30 gN))) func77 Y5 [[.arr 2,.arr 3,.arr 4]] (α:=∃(x:(List (Bz))),let p:=x.length;(((Z3 Z6 d.E x)/\True)/\p<=1048576)/\∃(X:(List Pend)),(((Z3 Z2 d.C X)/\True)/\X.length<=1048576)/\∃(e:(List Int)),let q:=e.length;(((Z3 Z0 d.keep e)/\True)/\q<=1048576)/\(((0=0/\p=d.E.length)/\(0=0/\X.length=d.C.length)/\d.A=d.A/\(0=0/\q=d.keep.length)/\True)/\True)/\(p=d.E.length/\Z7 (p) (Z6 x) (Z6 d.E))/\(X.length=d.C.length/\Z7 (X.length) (Z2 X) (Z2 d.C))/\(q=d.keep.length/\Z7 (q) (Z0 e) (Z0 d.keep))/\True) ⟨d.E,⟨Y1,h1⟩,d.C,⟨Y1,h2⟩,d.keep,⟨Y1,h3⟩,Y1⟩,rfl,rE d⟩
def Pg.tm(p:Pg)(b:Nat):List T:=[Ji p.Q,.osl b 0 p.sl.length]
def c4z:Con:=.rmk ⟨Pg,λp=>[.agg p.ts],λ_=>[],λp=>.agg (p.tm 0),λp=>[u5 p.sl],λp=>p.sl.length<=1048576⟩
theorem b8Q:GK 111 c4z:=gk func111<|by
 intro(p:Pg) (h1:p.sl.length<=1048576);exact⟨r9 (gC a4w gN) func111 Y5 [[.arr 2]] (α:=∃(x:(List (Bz))),let q:=x.length;(((Z3 Z6 p.sl x)/\True)/\q<=1048576)/\((p.Q=p.Q/\(0=0/\q=p.sl.length)/\True)/\True)/\(q=p.sl.length/\Z7 (q) (Z6 x) (Z6 p.sl))/\True) ⟨p.sl,⟨Y1,h1⟩,Y1⟩,rfl,i7 _⟩
def Y9(L:List Frm)(i:Nat):List T:=[Ji (L.getD i dz).no,Ji (L.getD i dz).pg.Q,.own 0 1 (L.getD i dz).pg.sl.length (Z6 (L.getD i dz).pg.sl),.bool (L.getD i dz).D,Ji (L.getD i dz).first]
def uV(v:Nat)(L:List Frm)(n:Nat):Option Ob:=some (.fam v 0 5 n (Y9 L))
def Sto.tm(s:Sto)(b:Nat):List T:=[.osl b 0 s.d.E.length,.osl (b+1) 0 s.d.C.length,.bool s.d.A,.osl (b+2) 0 s.d.keep.length,Ji s.ep,.osl (b+3) 0 s.L.length,Ji s.S,.osl (b+4) 0 s.fr.length,Ji s.J]
def Sto.hp(s:Sto)(v:Nat):Y4:=[u5 s.d.E,z9 s.d.C,u2 s.d.keep,yV s.L,uV v s.fr s.fr.length]
def c7F:List T:=[.v (.slice none 0 0),.v (.slice none 0 0),.bool false,.v (.slice none 0 0),Ji 0,.v (.slice none 0 0),Ji 0,.v (.slice none 0 0),Ji 0]
def b4v:Option Ob:=some (.arr true 1000000 9 1 λ_=>c7F)
def pW(l:List T):Option Ob:=some (.arr false 1000000 9 1 λ_=>l)
abbrev EqF(a b:Sto):Prop:=Z3 Z6 a.d.E b.d.E/\Z3 Z2 a.d.C b.d.C/\a.d.A=b.d.A/\Z3 Z0 a.d.keep b.d.keep/\a.ep=b.ep/\Z3 Y6 a.L b.L/\a.S=b.S/\(a.fr.length=b.fr.length/\Z7 a.fr.length (sO (Y9 a.fr)) (X2 b.fr))/\a.J=b.J/\True
abbrev EqC(a b:Sto):Prop:=((0:Nat)=0/\a.d.E.length=b.d.E.length)/\((0:Nat)=0/\a.d.C.length=b.d.C.length)/\a.d.A=b.d.A/\((0:Nat)=0/\a.d.keep.length=b.d.keep.length)/\a.ep=b.ep/\((0:Nat)=0/\a.L.length=b.L.length)/\a.S=b.S/\((0:Nat)=0/\a.fr.length=b.fr.length)/\a.J=b.J/\True
abbrev EqH(v u:Nat)(a b:Sto):Prop:=Z3 Z6 a.d.E b.d.E/\Z3 Z2 a.d.C b.d.C/\Z3 Z0 a.d.keep b.d.keep/\Z3 Y6 a.L b.L/\(v=u/\a.fr.length=b.fr.length/\V0 a.fr.length (Y9 a.fr) (Y9 b.fr))/\True
abbrev oM(a b:Sto):Prop:=(1:Nat)=1/\(1:Nat)=1/\EqC a b
abbrev LnS(v u:Nat)(a b:Sto):Prop:=oM a b/\EqH v u a b
abbrev LeS(a:Sto):Prop:=Le (0+a.d.E.length) a.d.E.length/\Le (0+a.d.C.length) a.d.C.length/\Le (0+a.d.keep.length) a.d.keep.length/\Le (0+a.L.length) a.L.length/\Le (0+a.fr.length) a.fr.length
abbrev EqR(a b:Rec):Prop:=a.e=b.e/\a.l=b.l/\a.t=b.t/\a.k=b.k/\a.p=b.p/\a.n=b.n/\a.g=b.g/\a.s=b.s/\a.b=b.b/\a.a=b.a/\True
theorem jJ{L:List Frm}(n:Nat):V0 n (Y9 L) (Y9 L):=λi _=>by
 refine⟨?_,?_,Y1,?_,?_,Z5⟩<;>rfl
theorem H4{q r:Sort _}{v:q}{a:r}{n:Nat}{L:List Frm}:v=v/\a=a/\V0 n (Y9 L) (Y9 L):=⟨rfl,rfl,jJ _⟩
theorem Z8{p:Prop}(h:p:=by repeat' first|exact rfl|exact jJ _|exact trivial|refine And.intro ?_ ?_|exact λ_ _=>rfl|exact U9 _|exact L8 _|exact λi hi=>absurd hi (J2 i)|(unfold Le;omega)):p:=h
theorem sN{i n:Nat}(h:i<n):Nat.blt i n=true:=Nat.ble_eq_true_of_le h
theorem mT{i n:Nat}(h:¬i<n):Nat.blt i n=false:=by
 cases B:Nat.blt i n with
 |false=>rfl
 |true=>exact absurd (yQ B) h
theorem a80{L:List Frm}{i:Nat}:V0 (i+1) (X6 (Y9 L) i λ_=>Y9 L i) (Y9 L):=λj J=>by
 have:X6 (Y9 L) i (λ_=>Y9 L i) j=Y9 L j:=by
  unfold X6;by_cases h:j<i
  ·rw[sN h]
  ·rw[mT h,show i=j by omega]
 rw[this];exact jJ (j+1) j (Nat.lt_succ_self j)
theorem b1O(v:Nat)(L:List Frm)(n:Nat):C4 [uV v L n]:=B1 (λi _ t h=>by
 simp only[Y9,vT,j_h,or_false] at h;rcases h with rfl|rfl|rfl|rfl|rfl
 ·rfl
 ·rfl
 ·intro j _ t h;simp only[Z6,List.mem_singleton] at h;rw[h];rfl
 ·rfl
 ·rfl) v8
theorem lW(s:Sto)(v:Nat):C4 (s.hp v):=h9 (H:=s.d.hp) (rE _) (h9 (kU _) (b1O _ _ _))
theorem lG:∀l:List T,b4x l l
 | []=>trivial
 |a::r=>⟨by cases a<;>first|rfl|exact⟨rfl,rfl,W2 _ _⟩,lG r⟩
theorem a6H{n:Nat}{f g:Nat->List T}(h:∀i,i<n->f i=g i):V0 n f g:=λi hi=>by rw[h i hi];exact lG _
def b9z:Con:=.rmk ⟨Sto,λs=>[.agg s.ts],λ_=>[],λs=>.agg (s.tm 0),λs=>s.hp 0,SmS⟩
def c0z(s:Sto):Nat->Ann
 |0=>.one (Up s.fr.length) (λx=>⟨[(1,.ref 0 0 0),(2,.ref 1 0 0),(17,a6h s.fr),(18,Ji s.fr.length),(19,Ji x.1)],[pW [.osl 2 0 s.d.E.length,.osl 3 0 s.d.C.length,.bool s.d.A,.osl 4 0 s.d.keep.length,Ji s.ep,.osl 5 0 s.L.length,Ji s.S,.osl 6 0 x.1,Ji s.J],b4v,u5 s.d.E,z9 s.d.C,u2 s.d.keep,yV s.L,uV 0 s.fr x.1]⟩) (λx=>s.fr.length-x.1) [.nilC 0 7 0 5,.fam 6,.box 0,.box 1,.arr 2,.arr 3,.arr 4,.arr 5,.arr 6] [.box 0,.box 1,.arr 2,.arr 3,.arr 4,.arr 5,.at_ 31] (λ_=>Y5)
 |_=>.none
theorem b3C:GK 51 b9z:=gk func51<|by
 rintro(s:Sto) ⟨h1,h2,h3,h4⟩;refine⟨r9 (gC b47 (gC b5H (gC b8Q gN))) func51 (c0z s) [c6I] (α:=let c:=(Z3 X2 s.fr s.fr);let b:=(Z3 Z2 s.d.C s.d.C);let a:=(Z3 Z6 s.d.E s.d.E);let n:=(Z3 Z0 s.d.keep s.d.keep);let m:=(0=0/\0=0);let k:=(0=0/\s.L.length=s.L.length);let j:=(Y9 s.fr);let w:=(0=0/\s.d.C.length=s.d.C.length);let v:=(0=0/\s.d.E.length=s.d.E.length);let u:=(0=0/\s.d.keep.length=s.d.keep.length);let r:=(s.fr.length:Int);let p:=(oo (Value.slice none 0 0=Value.slice none 0 0/\Value.slice none 0 0=Value.slice none 0 0/\false=false/\Value.slice none 0 0=Value.slice none 0 0/\(0:Int)=0/\Value.slice none 0 0=Value.slice none 0 0/\(0:Int)=0/\Value.slice none 0 0=Value.slice none 0 0/\(0:Int)=0/\True));∃(x:Dsk),(((zA s.d x)/\True)/\kT x)/\∃(e:(List Rec)),let g:=e.length;(((Z3 Y6 s.L e)/\True)/\g<=1048576)/\(∃(X:Up s.fr.length),(m/\m/\c/\r=r/\0=(X.val:Int)/\True)/\(oo ((0=0/\x.E.length=s.d.E.length)/\(0=0/\x.C.length=s.d.C.length)/\x.A=s.d.A/\(0=0/\x.keep.length=s.d.keep.length)/\s.ep=s.ep/\(0=0/\g=s.L.length)/\s.S=s.S/\(0=0/\0=X.val)/\s.J=s.J/\True))/\p/\(Z3 Z6 x.E s.d.E)/\(Z3 Z2 x.C s.d.C)/\(Z3 Z0 x.keep s.d.keep)/\(g=s.L.length/\Z7 (g) (Y6 e) (Y6 s.L))/\(0=0/\0=X.val/\V0 0 (λ(x:Nat)=>[]) j)/\True)/\∀(x:Up s.fr.length),let f:=x.1;let z:=(f:Int);let q:=(s.fr.getD z.toNat dz);bd (z<r) (V3 z s.fr.length/\∃(X:Pg),(((q.pg.Q=X.Q/\(Z3 Z6 q.pg.sl X.sl)/\True)/\True)/\X.sl.length<=1048576)/\(Le X.sl.length X.sl.length/\Le x.1 f/\U2 x.1 1 56)/\Ri (z+1)/\∃(y:Up s.fr.length),((m/\m/\c/\r=r/\z+1=(y.1:Int)/\True)/\(oo (v/\w/\s.d.A=s.d.A/\u/\s.ep=s.ep/\k/\s.S=s.S/\(0=0/\f+1=y.1)/\s.J=s.J/\True))/\p/\a/\b/\n/\(Z3 Y6 s.L s.L)/\(0=0/\f+1=y.1/\V0 (f+1) (X6 j x.1 λ(x_3:Nat)=>[Ji q.no,Ji X.Q,T.own 0 1 X.sl.length (Z6 X.sl),T.bool q.D,Ji q.first]) j)/\True)/\Lt (s.fr.length-y.1) (s.fr.length-f)) (((v/\w/\s.d.A=s.d.A/\u/\s.ep=s.ep/\k/\s.S=s.S/\(0=0/\f=s.fr.length)/\s.J=s.J/\True)/\True)/\a/\b/\n/\(Z3 Y6 s.L s.L)/\(0=0/\f=s.fr.length/\V0 x.1 j j)/\True)) ⟨s.d,⟨Y1,h1⟩,s.L,⟨Y1,h2⟩,⟨⟨0,L8 _⟩,Y1,Y1,Y1,Y1,Y1,Y1,Y1,⟨rfl,rfl,λi hi=>absurd hi (J2 _)⟩,Z5⟩,λx=>⟨λhc=>?_,λhc=>?_⟩⟩,rfl,?_⟩
 ·have h:=Y0 hc;rw[C8];exact⟨X9 h,(s.fr.getD x.1 dz).pg,⟨Y1,h4 _ h⟩,⟨U9 _,U9 _,O6⟩,Z1 Z9,⟨x.1+1,h⟩,⟨⟨Y1,Y1,Y1,rfl,W5,Z5⟩,Y1,Y1,Y1,Y1,Y1,Y1,⟨rfl,rfl,a80⟩,Z5⟩,V2.ext_lt h⟩
 ·have hx:x.1=s.fr.length:=by have:=x.2;have:=X3 hc;omega
  rw[hx];exact⟨Y1,Y1,Y1,Y1,Y1,H4,Z5⟩
 ·exact lW s 0
def Sto.tn(s:Sto)(a b c d e:Nat):List T:=[.osl a 0 s.d.E.length,.osl b 0 s.d.C.length,.bool s.d.A,.osl c 0 s.d.keep.length,Ji s.ep,.osl d 0 s.L.length,Ji s.S,.osl e 0 s.fr.length,Ji s.J]
def Sto.bx(s:Sto)(v:Nat):Y4:=[pW (s.tn 1 2 3 4 5),u5 s.d.E,z9 s.d.C,u2 s.d.keep,yV s.L,uV v s.fr s.fr.length]
def Sto.bxL(s:Sto)(v:Nat):Y4:=[pW (s.tn 1 2 3 6 5),u5 s.d.E,z9 s.d.C,u2 s.d.keep,none,uV v s.fr s.fr.length,yV s.L]
def U0(s:Sto)(r:Rec):Rec:=⟨s.ep,(s.L.length:Int)+1,r.t,r.k,r.p,r.n,r.g,r.s,r.b,r.a⟩
def P6(s:Sto)(r:Rec):Sto:=if O9 (U0 s r)=true then{s with L:=s.L++[U0 s r]} else s
def SmR(r:Rec):Prop:=r.b.length<=1048576/\r.a.length<=1048576
def a47:Rle:=⟨Sto×Rec×Nat,λx=>[.ref 0 0 0,.agg x.2.1.ts],λx=>x.1.bx x.2.2,λx=>.bool (O9 (U0 x.1 x.2.1)),λx=>(P6 x.1 x.2.1).bxL x.2.2,λx=>x.1.L.length<=60/\SmR x.2.1⟩
def b5R:Con:=.reff a47
theorem iN(L:List Rec)(r:Rec):Z7 (L.length+1) (X6 (Y6 L) L.length λk=>List.take 10 (List.drop (k*10) r.ts)) (Y6 (L++[r])):=by
 intro i hi;unfold X6 Y6;by_cases h:i<L.length
 ·rw[sN h,Q8,Q8,tI h]
 ·have:i=L.length:=by omega
  subst this;rw[mT h];have:(L++[r]).getD L.length dz=r:=by rw[Q8,tD (U9 _)];simp
  rw[this];simp[Rec.ts]
theorem kQ:GK 70 b5R:=gk func70<|by
 rintro⟨s,r,v⟩ ⟨f,j,i⟩;dsimp only at f j i;refine r9 (gC tW gN) func70 Y5 [c1O,[.box 0,.arr 1,.arr 2,.arr 3,.arr 4,.arr 5,.arr 4]] (α:=let m:=(P6 s r).L.length;let j:=(P6 s r).fr.length;let w:=(Z3 Z2 s.d.C (P6 s r).d.C);let y:=(Z3 Z6 s.d.E (P6 s r).d.E);let u:=(Z3 Z0 s.d.keep (P6 s r).d.keep);let z:=((s.L.length:Int)+1);let q:=(v=v/\s.fr.length=j/\V0 s.fr.length (Y9 s.fr) (Y9 (P6 s r).fr));Ri z/\b2q r.a/\br (!O9 (Rec.mk s.ep z r.t r.k r.p r.n r.g r.s r.b r.a)) ((false=O9 (U0 s r)/\True)/\oM s (P6 s r)/\y/\w/\u/\True/\q/\(Z3 Y6 s.L (P6 s r).L)/\True) ((Le 1 1/\Le s.L.length s.L.length/\U2 s.L.length 1 96)/\(true=O9 (U0 s r)/\True)/\(oo ((0=0/\s.d.E.length=(P6 s r).d.E.length)/\(0=0/\s.d.C.length=(P6 s r).d.C.length)/\s.d.A=(P6 s r).d.A/\(0=0/\s.d.keep.length=(P6 s r).d.keep.length)/\s.ep=(P6 s r).ep/\(0=0/\s.L.length+1=m)/\s.S=(P6 s r).S/\(0=0/\s.fr.length=j)/\s.J=(P6 s r).J/\True))/\y/\w/\u/\True/\q/\(s.L.length+1=m/\Z7 (s.L.length+1) (X6 (Y6 s.L) s.L.length (tk 10 [Ji s.ep,Ji z,Ji r.t,Ji r.k,Ji r.p,Ji r.n,Ji r.g,Ji r.s,T.str r.b,T.str r.a])) (Y6 (P6 s r).L))/\True)) ⟨Z1 Z9,by unfold b2q;omega,λh=>?_,λh=>?_⟩
 ·have hr:O9 (U0 s r)=false:=by simpa[U0] using h
  have e:P6 s r=s:=by unfold P6;rw[if_neg (by rw[hr];simp)]
  rw[e,hr];exact⟨Y1,Y1,Y1,Y1,Y1,Z5,H4,Y1,Z5⟩
 ·have hr:O9 (U0 s r)=true:=by simpa[U0] using h
  have e:P6 s r={s with L:=s.L++[U0 s r]}:=by unfold P6;rw[if_pos hr]
  rw[e,hr];have l:s.L.length+1=(s.L++[U0 s r]).length:=W6
  exact⟨⟨U9 _,U9 _,O6⟩,Y1,⟨rfl,rfl,Y1,Y1,rfl,Y1,rfl,⟨rfl,l⟩,Y1⟩,Y1,Y1,Y1,Z5,H4,⟨l,iN s.L (U0 s r)⟩,Z5⟩
def c7p:Sto:=⟨⟨[],[],false,[]⟩,0,[],0,[],0⟩
theorem cM(n:Nat):Le (0+n) n:=Nat.le_of_eq (D8 n)
theorem A8{row row':Nat->List T}:Z7 0 row row':=λi hi=>absurd hi (J2 _)
def b5N:Con:=.rmk ⟨Dsk,λd=>[.agg d.ts],λ_=>[],λd=>.agg (d.tm 0),λd=>d.hp,kT⟩
theorem lX:GK 158 b5N:=gk func158<|by
 rintro(d:Dsk) ⟨h1,h2,h3⟩;exact⟨r9 gN func158 Y5 [[.arr 3,.arr 5,.arr 7]] (α:=(Le 0 0/\U2 0 d.E.length 16)/\(Le 0 0/\U2 0 d.C.length 24)/\(Le 0 0/\U2 0 d.keep.length 8)/\(((0=0/\0+d.E.length=d.E.length)/\(0=0/\0+d.C.length=d.C.length)/\d.A=d.A/\(0=0/\0+d.keep.length=d.keep.length)/\True)/\True)/\(0+d.E.length=d.E.length/\Z7 (0+d.E.length) (X6 (tk 1 []) 0 (Z6 d.E)) (Z6 d.E))/\(0+d.C.length=d.C.length/\Z7 (0+d.C.length) (X6 (tk 2 []) 0 (Z2 d.C)) (Z2 d.C))/\(0+d.keep.length=d.keep.length/\Z7 (0+d.keep.length) (X6 (tk 1 []) 0 (Z0 d.keep)) (Z0 d.keep))/\True) ⟨⟨U9 _,O6⟩,⟨U9 _,O6⟩,⟨U9 _,O6⟩,⟨⟨⟨rfl,Z9⟩,⟨rfl,Z9⟩,rfl,⟨rfl,Z9⟩,Z5⟩,Z5⟩,⟨Z9,v6⟩,⟨Z9,v6⟩,⟨Z9,v6⟩,Z5⟩,rfl,rE d⟩
def b4c:Con:=.rmk ⟨Pg,λp=>[.agg p.ts],λ_=>[],λp=>.agg (p.tm 0),λp=>[u5 p.sl],λp=>p.sl.length<=1048576⟩
theorem a0q:GK 159 b4c:=gk func159<|by
 intro(p:Pg) (h1:p.sl.length<=1048576);exact⟨r9 gN func159 Y5 [[.arr 3]] (α:=(Le 0 0/\U2 0 p.sl.length 16)/\((p.Q=p.Q/\(0=0/\0+p.sl.length=p.sl.length)/\True)/\True)/\(0+p.sl.length=p.sl.length/\Z7 (0+p.sl.length) (X6 (tk 1 []) 0 (Z6 p.sl)) (Z6 p.sl))/\True) ⟨⟨U9 _,O6⟩,⟨⟨rfl,⟨rfl,Z9⟩,Z5⟩,Z5⟩,⟨Z9,v6⟩,Z5⟩,rfl,i7 _⟩
def b7s:Con:=.rmk ⟨Sto,λs=>[.agg s.ts],λ_=>[],λs=>.agg (s.tm 0),λs=>s.hp 0,SmS⟩
def b50(s:Sto):Nat->Ann
 |0=>.one (Up s.fr.length) (λx=>⟨[(1,.ref 0 0 0),(2,.ref 1 0 0),(3,.osl 6 0 x.1),(4,Ji x.1)],[pW [.osl 2 0 s.d.E.length,.osl 3 0 s.d.C.length,.bool s.d.A,.osl 4 0 s.d.keep.length,Ji s.ep,.osl 5 0 s.L.length,Ji s.S,a6h s.fr,Ji s.J],b4v,u5 s.d.E,z9 s.d.C,u2 s.d.keep,yV s.L,uV 0 s.fr x.1]⟩) (λx=>s.fr.length-x.1) [.fam 7,.box 0,.box 1,.arr 2,.arr 3,.arr 4,.arr 6,.arr 7] [.box 0,.box 1,.arr 2,.arr 3,.arr 4,.arr 5,.at_ 3] (λ_=>Y5)
 |_=>.none
theorem b1t:GK 93 b7s:=gk func93<|by
 rintro(s:Sto) ⟨h1,h2,h3,h4⟩;refine⟨r9 (gC lX (gC a0q gN)) func93 (b50 s) [c6I] (α:=let a:=(Z3 X2 s.fr s.fr);let g:=(Z3 Z2 s.d.C s.d.C);let f:=(Z3 Z6 s.d.E s.d.E);let m:=(Z3 Z0 s.d.keep s.d.keep);let k:=(0=0/\0=0);let j:=(0=0/\s.L.length=s.L.length);let w:=(Y9 s.fr);let v:=(0=0/\s.d.C.length=s.d.C.length);let u:=(0=0/\s.d.E.length=s.d.E.length);let z:=(0=0/\s.d.keep.length=s.d.keep.length);let p:=(oo (Value.slice none 0 0=Value.slice none 0 0/\Value.slice none 0 0=Value.slice none 0 0/\false=false/\Value.slice none 0 0=Value.slice none 0 0/\(0:Int)=0/\Value.slice none 0 0=Value.slice none 0 0/\(0:Int)=0/\Value.slice none 0 0=Value.slice none 0 0/\(0:Int)=0/\True));∃(x:Dsk),(((zA s.d x)/\True)/\kT x)/\(Le 0 0/\U2 0 s.L.length 96)/\(∃(X:Up s.fr.length),(k/\k/\(0=0/\0=X.val)/\0=(X.val:Int)/\True)/\(oo ((0=0/\x.E.length=s.d.E.length)/\(0=0/\x.C.length=s.d.C.length)/\x.A=s.d.A/\(0=0/\x.keep.length=s.d.keep.length)/\s.ep=s.ep/\(0=0/\0+s.L.length=s.L.length)/\s.S=s.S/\a/\s.J=s.J/\True))/\p/\(Z3 Z6 x.E s.d.E)/\(Z3 Z2 x.C s.d.C)/\(Z3 Z0 x.keep s.d.keep)/\(0+s.L.length=s.L.length/\Z7 (0+s.L.length) (X6 (tk 10 []) 0 (Y6 s.L)) (Y6 s.L))/\(0=0/\0=X.val/\V0 0 (tk 5 []) w)/\True)/\∀(x:Up s.fr.length),let n:=x.1;let r:=(n:Int);let q:=(s.fr.getD r.toNat dz);bd (r<(s.fr.length:Int)) (V3 r s.fr.length/\∃(X:Pg),(((q.pg.Q=X.Q/\(Z3 Z6 q.pg.sl X.sl)/\True)/\True)/\X.sl.length<=1048576)/\(Le X.sl.length X.sl.length/\Le x.1 n/\U2 x.1 1 56)/\Ri (r+1)/\∃(y:Up s.fr.length),((k/\k/\(0=0/\n+1=y.1)/\r+1=(y.1:Int)/\True)/\(oo (u/\v/\s.d.A=s.d.A/\z/\s.ep=s.ep/\j/\s.S=s.S/\a/\s.J=s.J/\True))/\p/\f/\g/\m/\(Z3 Y6 s.L s.L)/\(0=0/\n+1=y.1/\V0 (n+1) (X6 w x.1 λ(x_2:Nat)=>[Ji q.no,Ji X.Q,T.own 0 1 X.sl.length (Z6 X.sl),T.bool q.D,Ji q.first]) w)/\True)/\Lt (s.fr.length-y.1) (s.fr.length-n)) (((u/\v/\s.d.A=s.d.A/\z/\s.ep=s.ep/\j/\s.S=s.S/\(0=0/\n=s.fr.length)/\s.J=s.J/\True)/\True)/\f/\g/\m/\(Z3 Y6 s.L s.L)/\(0=0/\n=s.fr.length/\V0 x.1 w w)/\True)) ⟨s.d,⟨Y1,h1⟩,⟨U9 _,O6⟩,⟨⟨0,L8 _⟩,Y1,⟨rfl,rfl,Y1,Y1,rfl,Y1,rfl,⟨rfl,Z9⟩,Y1⟩,Y1,Y1,Y1,Y1,⟨Z9,v6⟩,⟨rfl,rfl,λi hi=>absurd hi (J2 _)⟩,Z5⟩,λx=>⟨λhc=>?_,λhc=>?_⟩⟩,rfl,lW s 0⟩
 ·have h:=Y0 hc;rw[C8];exact⟨X9 h,(s.fr.getD x.1 dz).pg,⟨Y1,h4 _ h⟩,⟨U9 _,U9 _,O6⟩,Z1 Z9,⟨x.1+1,h⟩,⟨⟨Y1,Y1,Y1,W5,Z5⟩,Y1,Y1,Y1,Y1,Y1,Y1,⟨rfl,rfl,a80⟩,Z5⟩,V2.ext_lt h⟩
 ·have hx:x.1=s.fr.length:=by have:=x.2;have:=X3 hc;omega
  rw[hx];exact⟨Y1,Y1,Y1,Y1,Y1,H4,Z5⟩
def Frm.tm(f:Frm)(b:Nat):List T:=[Ji f.no,Ji f.pg.Q,.osl b 0 f.pg.sl.length,.bool f.D,Ji f.first]
theorem b6z{a b:Nat}(h:a≠b):Nat.beq a b=false:=by
 cases B:Nat.beq a b with
 |false=>rfl
 |true=>exact absurd (F5 B) h
theorem gA{a b:Nat}(h:a=b):Nat.beq a b=true:=by subst h;exact Nat.beq_refl a
theorem c1N{α:Type}(f:Nat->α){n i:Nat}(h:i<n)(d:α):((List.range n).map f).getD i d=f i:=by
 rw[Q8,oB,List.getElem?_range h]
 rfl
theorem K6{row:Nat->List T}{i j k:Nat}{cs:List T}(h:j+cs.length<=(row k).length)(d:k≠i):setRow row i j cs k=row k:=by
 rw[c8 h,b6z d]
theorem gM{row:Nat->List T}{i j:Nat}{t:T}(h:j<(row i).length):setRow row i j [t] i=(row i).set j t:=by
 rw[c8 E3,gA rfl]
 rw[List.set_eq_take_append_cons_drop,if_pos h];simp
def c6F(ln:Nat->Nat)(k:Nat):Nat->Nat
 |0=>k
 |i+1=>c6F ln k i+(ln i+4)
def c7v(L:List Frm)(i:Nat):Nat:=(L.getD i dz).pg.sl.length
def c7M(d:Dsk)(k:Nat):Nat:=k+d.E.length+2*d.C.length+d.keep.length
def aV(s:Sto)(k:Nat):Nat:=c6F (c7v s.fr) (c7M s.d k+10*s.L.length) s.fr.length
def c4r(l:Bz)(L:List (Bz)):Nat->Ann
 |0=>.one (Up L.length) (λx=>⟨[(0,.osl 2 0 (l++V6 L x.1).length),(13,.osl 1 0 L.length),(14,Ji L.length),(15,Ji x.1)],[none,u5 L,some (.bys 5 (l++V6 L x.1))]⟩) (λx=>L.length-x.1) [.arr 0,.arr 1,.arr 3] [.arr 0,.arr 1,.at_ 0] (λ_=>Y5)
 |_=>.none
def a3p:Con:=.reff ⟨Bz×List (Bz),λx=>[.osl 0 0 x.1.length,.osl 1 0 x.2.length],λx=>[some (.bys 5 x.1),u5 x.2],λx=>.osl 2 0 (x.1++R7 x.2).length,λx=>[none,u5 x.2,some (.bys 5 (x.1++R7 x.2))],λx=>x.1.length<=1000/\k8 x.2⟩
theorem a2d:GK 189 a3p:=gk func189<|by
 rintro⟨l,L⟩ ⟨g,h,h3⟩;dsimp only at g h h3;have f:List.take l.length l++List.take 1 (List.drop 0 (List.map P9 [IntKind.u8.wrap (L.length:Int)]))=l++V6 L 0:=by rw[j_j];rfl
 refine r9 gN func189 (c4r l L) [[.arr 0,.arr 1,.arr 2]] (α:=let w:=(Z3 Z6 L L);let v:=(0=0/\L.length=L.length);let z:=(L.length:Int);O1 IntKind.u8 (IntKind.u8.wrap z)/\(Le 1 1/\Le l.length l.length/\U2 l.length 1 1)/\(∃(x:Up L.length),((0=0/\l.length+1=(l++V6 L x.1).length)/\v/\z=z/\0=(x.1:Int)/\True)/\True/\w/\List.take l.length l++List.take 1 (List.drop 0 (List.map P9 [IntKind.u8.wrap z]))=l++V6 L x.1/\True)/\∀(x:Up L.length),let u:=(x.1:Int);let j:=(0+u.toNat);let q:=(L.getD j []).length;let p:=(l++V6 L x.1).length;let r:=(List.take p (l++V6 L x.1)++List.take 1 (List.drop 0 (List.map P9 [IntKind.u8.wrap (↑q:Int)])));bd (u<z) (V3 u L.length/\Lt j L.length/\O1 IntKind.u8 (IntKind.u8.wrap (↑q:Int))/\(Le 1 1/\Le p p/\U2 p 1 1)/\(Le (p+1) r.length/\U2 (p+1) q 1)/\Ri (u+1)/\∃(y:Up L.length),(((0=0/\p+1+q=(l++V6 L y.1).length)/\v/\z=z/\u+1=(y.1:Int)/\True)/\True/\w/\List.take (p+1) r++L.getD j []=l++V6 L y.1/\True)/\Lt (L.length-y.1) (L.length-x.1)) (((0=0/\p=(l++R7 L).length)/\True)/\True/\w/\l++V6 L x.1=l++R7 L/\True)) ⟨N9 _,⟨U9 _,U9 _,O6⟩,⟨⟨0,L8 _⟩,⟨⟨rfl,by simp[V6]⟩,⟨rfl,rfl⟩,rfl,rfl,Z5⟩,Z5,⟨rfl,W2 _ _⟩,f,Z5⟩,λx=>⟨λhc=>?_,λhc=>?_⟩⟩
 ·have hlt:=Y0 hc;have f1:=wE L h3 x.1 Z9
  have F:=h3 x.1 hlt;rw[C8,D8];have i:(l++V6 L x.1).length<=1100000:=by rw[J6];omega
  have e:List.take (l++V6 L x.1).length (l++V6 L x.1)++List.take 1 (List.drop 0 (List.map P9 [IntKind.u8.wrap ((L.getD x.1 []).length:Int)]))=l++V6 L x.1++[zC (L.getD x.1 []).length]:=by
   rw[j_j];rfl
  rw[e];have d:(l++V6 L x.1++[zC (L.getD x.1 []).length]).length=(l++V6 L x.1).length+1:=by rw[J6];rfl
  refine⟨X9 hlt,H3,N9 _,⟨U9 _,U9 _,O6⟩,⟨by rw[d];exact U9 _,O6⟩,Z1 Z9,⟨x.1+1,hlt⟩,⟨⟨⟨rfl,?_⟩,Y1,rfl,W5,Z5⟩,Z5,Y1,?_,Z5⟩,V2.ext_lt hlt⟩
  ·simp only[V6,J6,List.length_cons,List.length_nil];omega
  ·rw[←d,j_j];simp only[V6,List.append_assoc]
 ·have hx:x.1=L.length:=by have:=x.2;have:=X3 hc;omega
  rw[hx];exact Y1
def c3r:Con:=.rel ⟨Nat,λn=>[Ji n],λn=>.bys (z7 n),λn=>n<4294967296⟩
theorem a2N:GK 179 c3r:=gk func179<|by
 intro(n:Nat) hn;have h:Nn 8:=by unfold Nn;omega
 exact R1 gN func179 Y5 (α:=let p:=(n:Int).fdiv;let q:=(p (16777216:Int));Nn (24:Int)/\Nn (16:Int)/\Nn (8:Int)/\(O1 IntKind.u8 (IntKind.u8.wrap q)/\O1 IntKind.u8 (IntKind.u8.wrap (p (65536:Int)))/\O1 IntKind.u8 (IntKind.u8.wrap (p (256:Int)))/\O1 IntKind.u8 (IntKind.u8.wrap (n:Int)))/\Le 4 4/\List.take 4 (List.drop 0 (List.map P9 [IntKind.u8.wrap q,IntKind.u8.wrap (p (65536:Int)),IntKind.u8.wrap (p (256:Int)),IntKind.u8.wrap (n:Int)]))=z7 n) ⟨tJ,tJ,h,⟨N9 _,N9 _,N9 _,N9 _⟩,U9 _,by unfold z7;rw[show(n:Int).fdiv 1=n by rw[Int.fdiv_one]];rfl⟩
def b3E:Con:=.eff wB
theorem a0D:GK 109 b3E:=gk func109<|by
 intro args H res H' p h hp;unfold wB at h;split at h
 case h_2=>cases h
 rename_i k off n ty l;split at h
 ·skip
  simp only[W9,T6] at h;obtain⟨rfl,rfl,rfl⟩:=h;obtain⟨rfl,hl⟩:yK n l:=hp;have e4:(z7 (j3 l)).length=4:=rfl;have hc:=a1Q l;refine vcE (gC oY (gC a2N gN)) func109 Y5 (bs:=[false]) (α:=∃(x:(uJ IntKind.u32).ι),(Le (0+l.length) l.length/\(List.take l.length (List.drop 0 l)=x/\True)/\v5 x)/\∃(x_1:Nat),let p:=(List.take l.length l++z7 x_1);((IntKind.i64.wrap (↑(j3 x):Int)=(x_1:Int)/\True)/\x_1<4294967296)/\(Le l.length l.length/\U2 l.length 4 1)/\Le (0+(l.length+4)) p.length/\List.take (l.length+4) (List.drop 0 p)=l++z7 (j3 l)/\True/\True) ⟨l,⟨C9,⟨a0k,Z5⟩,a0v⟩,j3 l,⟨⟨?_,Z5⟩,hc⟩,⟨U9 _,O6⟩,?_,?_,Y1⟩
  ·rw[IntKind.wrap_i64];omega
  ·unfold Le;rw[j_j,J6,e4,D8];exact U9 _
  ·rw[j_j,List.drop_zero];exact List.take_of_length_le (by rw[J6,e4];exact U9 _)
 ·cases h
def a5w(r:Rec):Bz:=[P9 108,zC r.e,zC r.l,zC r.t,zC r.k,zC r.p,zC r.n,zC r.g,zC r.s]++R7 [r.b,r.a]
def P0(r:Rec):Bz:=a5w r++z7 (j3 (a5w r))
def a63(r:Rec):Prop:=r.b.length<=1000/\r.a.length<=1000
theorem pT(a b:Bz):Z7 2 (λk=>List.take 1 (List.drop (k*1) [T.str a,T.str b])) (Z6 [a,b]):=λi hi=>by
 match i,hi with
 |0,_=>rfl
 |1,_=>rfl
theorem fs2{a b:Bz}(h:a.length<=1000)(d:b.length<=1000):k8 [a,b]:=⟨W6,λi hi=>by
 match i,hi with
 |0,_=>exact h
 |1,_=>exact d⟩
theorem b6a{r:Rec}(f:k8 [r.b,r.a]):(a5w r).length<=1000000:=by
 have h:=wE [r.b,r.a] f.2 2 (U9 _);have h:(R7 [r.b,r.a]).length<=2003:=h;unfold a5w;rw[J6];simp only[List.length_cons,List.length_nil];omega
def cH:Con:=.rel ⟨Rec,λr=>[.agg r.ts],λr=>.bys (P0 r),a63⟩
theorem dF:GK 125 cH:=gk func125<|by
 rintro(r:Rec) ⟨h1,h2⟩;have f:=fs2 h1 h2;exact R1 (gC a2d (gC a0D gN)) func125 (b66 9) (α:=let pr:=(1+1+1+1);let pg:=(List.map P9 [(108:Int)]);let pf:=(1+1+1+1+1);let pd:=(1+1+1+1+1+1+1+1);let pa:=(1+1+1+1+1+1+1);let i:=(1+1+1+1+1+1);let d:=(List.drop 0 (List.map P9 [IntKind.u8.wrap r.g]));let c:=(List.drop 0 (List.map P9 [IntKind.u8.wrap r.p]));let f:=(List.drop 0 (List.map P9 [IntKind.u8.wrap r.t]));let m:=(List.drop 0 (List.map P9 [IntKind.u8.wrap r.e]));let j:=(List.drop 0 (List.map P9 [IntKind.u8.wrap r.n]));let w:=(List.drop 0 (List.map P9 [IntKind.u8.wrap r.k]));let y:=(List.drop 0 (List.map P9 [IntKind.u8.wrap r.l]));let v:=(List.take 1 pg++List.take 1 m);let pc:=(List.take (1+1) v++List.take 1 y);let u:=(tk 1 [T.str r.b,T.str r.a]);let q:=(List.take (1+1+1) pc++List.take 1 f);let pb:=(List.take pr q++List.take 1 w);let z:=(List.take pf pb++List.take 1 c);let pe:=(List.take i z++List.take 1 j);O1 IntKind.u8 (108:Int)/\br true (V3 (0:Int) 8/\O1 IntKind.u8 (IntKind.u8.wrap r.e)/\(Le 1 1/\Le 1 1/\U2 1 1 1)/\Ri (1:Int)/\br true (V3 (1:Int) 8/\O1 IntKind.u8 (IntKind.u8.wrap r.l)/\(Le 1 1/\Le (1+1) 2/\U2 (1+1) 1 1)/\Ri (2:Int)/\br true (V3 (2:Int) 8/\O1 IntKind.u8 (IntKind.u8.wrap r.t)/\(Le 1 1/\Le (1+1+1) 3/\U2 (1+1+1) 1 1)/\Ri (3:Int)/\br true (V3 (3:Int) 8/\O1 IntKind.u8 (IntKind.u8.wrap r.k)/\(Le 1 1/\Le pr 4/\U2 pr 1 1)/\Ri (4:Int)/\br true (V3 (4:Int) 8/\O1 IntKind.u8 (IntKind.u8.wrap r.p)/\(Le 1 1/\Le pf 5/\U2 pf 1 1)/\Ri (5:Int)/\br true (V3 (5:Int) 8/\O1 IntKind.u8 (IntKind.u8.wrap r.n)/\(Le 1 1/\Le i 6/\U2 i 1 1)/\Ri (6:Int)/\br true (V3 (6:Int) 8/\O1 IntKind.u8 (IntKind.u8.wrap r.g)/\(Le 1 1/\Le pa 7/\U2 pa 1 1)/\Ri (7:Int)/\br true (V3 (7:Int) 8/\O1 IntKind.u8 (IntKind.u8.wrap r.s)/\(Le 1 1/\Le pd 8/\U2 pd 1 1)/\Ri (8:Int)/\br false False (∃(x:(Bz×List (Bz))),let ph:=(x.1++R7 x.2);(((0=0/\1+1+1+1+1+1+1+1+1=x.1.length)/\(0=0/\2=x.2.length)/\True)/\(List.take pd (List.take pa pe++List.take 1 d)++List.take 1 (List.drop 0 (List.map P9 [IntKind.u8.wrap r.s]))=x.1/\(2=x.2.length/\Z7 2 u (Z6 x.2))/\True)/\x.1.length<=1000/\k8 x.2)/\yK ph.length ph/\x.1++R7 x.2++z7 (j3 ph)=P0 r)) (∃(x:(Bz×List (Bz))),let pi:=(x.1++R7 x.2);(((0=0/\1+1+1+1+1+1+1+1=x.1.length)/\(0=0/\2=x.2.length)/\True)/\(List.take pa pe++List.take 1 d=x.1/\(2=x.2.length/\Z7 2 u (Z6 x.2))/\True)/\x.1.length<=1000/\k8 x.2)/\yK pi.length pi/\x.1++R7 x.2++z7 (j3 pi)=P0 r)) (∃(x:(Bz×List (Bz))),let pj:=(x.1++R7 x.2);(((0=0/\1+1+1+1+1+1+1=x.1.length)/\(0=0/\2=x.2.length)/\True)/\(List.take i z++List.take 1 j=x.1/\(2=x.2.length/\Z7 2 u (Z6 x.2))/\True)/\x.1.length<=1000/\k8 x.2)/\yK pj.length pj/\x.1++R7 x.2++z7 (j3 pj)=P0 r)) (∃(x:(Bz×List (Bz))),let pk:=(x.1++R7 x.2);(((0=0/\1+1+1+1+1+1=x.1.length)/\(0=0/\2=x.2.length)/\True)/\(List.take pf pb++List.take 1 c=x.1/\(2=x.2.length/\Z7 2 u (Z6 x.2))/\True)/\x.1.length<=1000/\k8 x.2)/\yK pk.length pk/\x.1++R7 x.2++z7 (j3 pk)=P0 r)) (∃(x:(Bz×List (Bz))),let pm:=(x.1++R7 x.2);(((0=0/\1+1+1+1+1=x.1.length)/\(0=0/\2=x.2.length)/\True)/\(List.take pr q++List.take 1 w=x.1/\(2=x.2.length/\Z7 2 u (Z6 x.2))/\True)/\x.1.length<=1000/\k8 x.2)/\yK pm.length pm/\x.1++R7 x.2++z7 (j3 pm)=P0 r)) (∃(x:(Bz×List (Bz))),let pn:=(x.1++R7 x.2);(((0=0/\1+1+1+1=x.1.length)/\(0=0/\2=x.2.length)/\True)/\(List.take (1+1+1) pc++List.take 1 f=x.1/\(2=x.2.length/\Z7 2 u (Z6 x.2))/\True)/\x.1.length<=1000/\k8 x.2)/\yK pn.length pn/\x.1++R7 x.2++z7 (j3 pn)=P0 r)) (∃(x:(Bz×List (Bz))),let po:=(x.1++R7 x.2);(((0=0/\1+1+1=x.1.length)/\(0=0/\2=x.2.length)/\True)/\(List.take (1+1) v++List.take 1 y=x.1/\(2=x.2.length/\Z7 2 u (Z6 x.2))/\True)/\x.1.length<=1000/\k8 x.2)/\yK po.length po/\x.1++R7 x.2++z7 (j3 po)=P0 r)) (∃(x:(Bz×List (Bz))),let pp:=(x.1++R7 x.2);(((0=0/\1+1=x.1.length)/\(0=0/\2=x.2.length)/\True)/\(List.take 1 pg++List.take 1 m=x.1/\(2=x.2.length/\Z7 2 u (Z6 x.2))/\True)/\x.1.length<=1000/\k8 x.2)/\yK pp.length pp/\x.1++R7 x.2++z7 (j3 pp)=P0 r)) (∃(x:(Bz×List (Bz))),let pq:=(x.1++R7 x.2);(((0=0/\1=x.1.length)/\(0=0/\2=x.2.length)/\True)/\(List.map P9 [(108:Int)]=x.1/\(2=x.2.length/\Z7 2 u (Z6 x.2))/\True)/\x.1.length<=1000/\k8 x.2)/\yK pq.length pq/\x.1++R7 x.2++z7 (j3 pq)=P0 r)) ⟨(i8 _).2 Z9,λ_=>⟨jT,N9 _,⟨U9 _,U9 _,O6⟩,Z1 Z9,λ_=>⟨jT,N9 _,⟨U9 _,U9 _,O6⟩,Z1 Z9,λ_=>⟨jT,N9 _,⟨U9 _,U9 _,O6⟩,Z1 Z9,λ_=>⟨jT,N9 _,⟨U9 _,U9 _,O6⟩,Z1 Z9,λ_=>⟨jT,N9 _,⟨U9 _,U9 _,O6⟩,Z1 Z9,λ_=>⟨jT,N9 _,⟨U9 _,U9 _,O6⟩,Z1 Z9,λ_=>⟨jT,N9 _,⟨U9 _,U9 _,O6⟩,Z1 Z9,λ_=>⟨jT,N9 _,⟨U9 _,U9 _,O6⟩,Z1 Z9,(λh=>G3),λ_=>⟨([P9 108,zC r.e,zC r.l,zC r.t,zC r.k,zC r.p,zC r.n,zC r.g,zC r.s],[r.b,r.a]),⟨Y1,⟨rfl,⟨rfl,pT _ _⟩,Z5⟩,W6,f⟩,⟨rfl,b6a f⟩,rfl⟩⟩,λh=>G3⟩,λh=>G3⟩,λh=>G3⟩,λh=>G3⟩,λh=>G3⟩,λh=>G3⟩,λh=>G3⟩,λh=>G3⟩
def a1P:Con:=.rfz wD
theorem bJ:GK 266 a1P:=gk func266<|l01Fields_ok.1
def a7g:Con:=.rel ⟨Rec,λr=>[.agg r.ts],λr=>.bys (P0 r),a63⟩
theorem a45:GK 262 a7g:=gk func262<|by
 rintro(r:Rec) ⟨h1,h2⟩;have f:=fs2 h1 h2;have h:=wE [r.b,r.a] f.2 2 (U9 _);have h:(R7 [r.b,r.a]).length<=2003:=h;refine R1 (gC bJ (gC mU gN)) func262 Y5 (α:=let q:=(List.map P9 [(108:Int),IntKind.u8.wrap r.e,IntKind.u8.wrap r.l,IntKind.u8.wrap r.t,IntKind.u8.wrap r.k,IntKind.u8.wrap r.p,IntKind.u8.wrap r.n,IntKind.u8.wrap r.g,IntKind.u8.wrap r.s]);(O1 IntKind.u8 (108:Int)/\O1 IntKind.u8 (IntKind.u8.wrap r.e)/\O1 IntKind.u8 (IntKind.u8.wrap r.l)/\O1 IntKind.u8 (IntKind.u8.wrap r.t)/\O1 IntKind.u8 (IntKind.u8.wrap r.k)/\O1 IntKind.u8 (IntKind.u8.wrap r.p)/\O1 IntKind.u8 (IntKind.u8.wrap r.n)/\O1 IntKind.u8 (IntKind.u8.wrap r.g)/\O1 IntKind.u8 (IntKind.u8.wrap r.s))/\∃(x:wD.ι),let z:=(List.take 9 q++R7 x);(Le 2 2/\((2=x.length/\Z7 2 (tk 1 [T.str r.b,T.str r.a]) (Z6 x))/\True)/\k8 x)/\(Le 9 9/\U2 9 (R7 x).length 1)/\yK (9+(R7 x).length) z/\List.take 9 q++R7 x++z7 (j3 z)=P0 r) ⟨⟨(i8 _).2 Z9,N9 _,N9 _,N9 _,N9 _,N9 _,N9 _,N9 _,N9 _⟩,[r.b,r.a],⟨U9 _,⟨⟨rfl,pT _ _⟩,Z5⟩,f⟩,⟨U9 _,O6⟩,?_,?_⟩
 ·exact⟨by rw[J6];rfl,b6a f⟩
 ·rfl
def zI(sec:List (Bz))(C:List Pend)(Q:Nat->Bool):Nat->List (Bz)
 |0=>sec
 |i+1=>if Q i=true then(zI sec C Q i).set (C.getD i dz).at_.toNat (C.getD i dz).d else zI sec C Q i
theorem A9(sec:List (Bz))(C:List Pend)(Q:Nat->Bool):∀i,(zI sec C Q i).length=sec.length
 |0=>rfl
 |i+1=>by
  unfold zI;split
  ·rw[w6,A9 sec C Q i]
  ·exact A9 sec C Q i
theorem c1S{sec:List (Bz)}{C:List Pend}{Q:Nat->Bool}{i:Nat}(h:Q i=true):zI sec C Q (i+1)=(zI sec C Q i).set (C.getD i dz).at_.toNat (C.getD i dz).d:=by
 conv=>lhs;unfold zI
 rw[if_pos h]
theorem c13{sec:List (Bz)}{C:List Pend}{Q:Nat->Bool}{i:Nat}(h:Q i=false):zI sec C Q (i+1)=zI sec C Q i:=by
 conv=>lhs;unfold zI
 rw[if_neg gD]
def kp(K:List Int)(i:Nat):Bool:=decide (i<K.length)&&(K.getD i 0 !=0)
def wrD(d:Dsk)(at_:Int)(t:Bz):Dsk:=⟨d.E,d.C++[⟨at_,t⟩],d.A,d.keep⟩
def Sto.sd(s:Sto)(d:Dsk):Sto:=⟨d,s.ep,s.L,s.S,s.fr,s.J⟩
def crD(d:Dsk)(K:List Int):Dsk:=⟨zI d.E d.C (kp K) d.C.length,[],false,[]⟩
def U7(d:Dsk):Dsk×Bool:=if d.A=true then(crD d d.keep,false) else(⟨zI d.E d.C (λ_=>true) d.C.length,[],d.A,d.keep⟩,true)
def cB(d:Dsk):Prop:=∀i,i<d.C.length->0<=(d.C.getD i dz).at_/\(d.C.getD i dz).at_<d.E.length
theorem a3O(L:List Pend)(p:Pend):Z7 (L.length+1) (X6 (Z2 L) L.length λk=>List.take 2 (List.drop (k*2) p.ts)) (Z2 (L++[p])):=by
 intro i hi;unfold X6 Z2;by_cases h:i<L.length
 ·rw[sN h,Q8,Q8,tI h]
 ·have:i=L.length:=by omega
  subst this;rw[mT h];have:(L++[p]).getD L.length dz=p:=by rw[Q8,tD (U9 _)];simp
  rw[this];simp[Pend.ts]
theorem iZ{L:List (Bz)}{n:Nat}{t:Bz}(j:Nat)(J:j<L.length):setRow (Z6 L) n 0 [.str t] j=Z6 (L.set n t) j:=by
 by_cases h:j=n
 ·subst h;rw[gM (by simp[Z6])]
  simp[Z6,j_k J]
 ·rw[K6 (by simp[Z6]) h]
  simp[Z6,bI (Ne.symm h)]
theorem iP{sec:List (Bz)}{C:List Pend}{Q:Nat->Bool}{i:Nat}(h:Q i=true):Z7 sec.length (setRow (Z6 (zI sec C Q i)) (0+(C.getD i dz).at_.toNat) 0 [.str (C.getD i dz).d]) (Z6 (zI sec C Q (i+1))):=λj J=>by
 rw[c1S h,D8];exact iZ j (by rw[A9];exact J)
def Sto.bxC(s:Sto)(v:Nat):Y4:=[pW (s.tn 1 6 3 4 5),u5 s.d.E,none,u2 s.d.keep,yV s.L,uV v s.fr s.fr.length,z9 s.d.C]
def c01:Con:=.reff ⟨Sto×Int×Bz×Nat,λx=>[.ref 0 0 0,Ji x.2.1,.str x.2.2.1],λx=>x.1.bx x.2.2.2,λ_=>.tup [],λx=>(x.1.sd (wrD x.1.d x.2.1 x.2.2.1)).bxC x.2.2.2,λx=>x.1.d.C.length<=1048576⟩
theorem a4X:GK 78 c01:=gk func78<|by
 rintro⟨s,at_,t,v⟩ (h:s.d.C.length<=1048576);have l:s.d.C.length+1=(s.d.C++[(⟨at_,t⟩:Pend)]).length:=W6
 exact r9 gN func78 Y5 [[.box 0,.arr 1,.arr 2,.arr 3,.arr 4,.arr 5,.arr 7]] (α:=let p:=(s.d.C++[Pend.mk at_ t]);(Le 1 1/\Le s.d.C.length s.d.C.length/\U2 s.d.C.length 1 24)/\(True/\True)/\(oo ((0=0/\s.d.E.length=s.d.E.length)/\(0=0/\s.d.C.length+1=p.length)/\s.d.A=s.d.A/\(0=0/\s.d.keep.length=s.d.keep.length)/\s.ep=s.ep/\(0=0/\s.L.length=s.L.length)/\s.S=s.S/\(0=0/\s.fr.length=s.fr.length)/\s.J=s.J/\True))/\(Z3 Z6 s.d.E s.d.E)/\True/\(Z3 Z0 s.d.keep s.d.keep)/\(Z3 Y6 s.L s.L)/\(v=v/\s.fr.length=s.fr.length/\V0 s.fr.length (Y9 s.fr) (Y9 s.fr))/\(s.d.C.length+1=p.length/\Z7 (s.d.C.length+1) (X6 (Z2 s.d.C) s.d.C.length (tk 2 [Ji at_,T.str t])) (Z2 p))/\True) ⟨⟨U9 _,U9 _,O6⟩,Y1,⟨rfl,rfl,Y1,⟨rfl,l⟩,Y1⟩,Y1,Z5,Y1,Y1,H4,⟨l,a3O s.d.C ⟨at_,t⟩⟩,Z5⟩
def Sto.bxX(s:Sto)(v:Nat)(K:List Int):Y4:=[pW (s.tn 1 7 8 4 5),u5 s.d.E,none,none,yV s.L,uV v s.fr s.fr.length,u2 K,z9 s.d.C,u2 s.d.keep]
def b8B:Con:=.reff ⟨Sto×List Int×Nat,λx=>[.ref 0 0 0,.osl 6 0 x.2.1.length],λx=>x.1.bx x.2.2++[u2 x.2.1],λ_=>.tup [],λx=>(x.1.sd (crD x.1.d x.2.1)).bxX x.2.2 x.2.1,λx=>kT x.1.d/\cB x.1.d/\x.2.1.length<=1048576⟩
def b9l(s:Sto)(K:List Int)(v:Nat):Nat->Ann
 |0=>.one (Up s.d.C.length) (λx=>⟨[(0,.ref 0 0 0),(1,.osl 6 0 K.length),(9,.osl 2 0 s.d.C.length),(10,Ji s.d.C.length),(11,Ji x.1)],[pW (s.tn 1 2 3 4 5),some (.arr true 0 1 s.d.E.length (Z6 (zI s.d.E s.d.C (kp K) x.1))),z9 s.d.C,u2 s.d.keep,yV s.L,uV v s.fr s.fr.length,u2 K]⟩) (λx=>s.d.C.length-x.1) c2b c2b (λ_=>Y5)
 |_=>.none
theorem b3S:GK 72 b8B:=gk func72<|by
 rintro⟨s,K,v⟩ ⟨⟨o,g,i⟩,f,q⟩;dsimp only at o g i f q;refine r9 gN func72 (b9l s K v) [[.nilC 0 1 0 2,.nilC 0 3 0 1,.box 0,.arr 1,.arr 2,.arr 3,.arr 4,.arr 5,.arr 6,.arr 7,.arr 8]] (α:=let b:=(Z3 Z0 K K);let g:=(0=0/\0=0);let f:=(Z3 Z2 s.d.C s.d.C);let n:=(Z3 Y6 s.L s.L);let m:=(0=0/\K.length=K.length);let k:=(Z3 Z0 s.d.keep s.d.keep);let j:=(0=0/\s.d.C.length=s.d.C.length);let u:=(zI s.d.E s.d.C (kp K) s.d.C.length);let r:=(s.d.C.length:Int);let p:=(v=v/\s.fr.length=s.fr.length/\V0 s.fr.length (Y9 s.fr) (Y9 s.fr));(∃(x:Up s.d.C.length),(g/\m/\j/\r=r/\0=(x.1:Int)/\True)/\oM s s/\(s.d.E.length=s.d.E.length/\Z7 s.d.E.length (Z6 s.d.E) (Z6 (zI s.d.E s.d.C (kp K) x.1)))/\f/\k/\n/\p/\b/\True)/\∀(x:Up s.d.C.length),let i:=(s.d.C.length-x.1);let w:=(Z6 (zI s.d.E s.d.C (kp K) x.1));let q:=(x.1:Int);let c:=(0+q.toNat);let a:=(q<(K.length:Int));let z:=(s.d.C.getD c dz);bd (q<r) (V3 q s.d.C.length/\Lt c s.d.C.length/\(decide a=true->V3 q K.length)/\(decide a=true->Lt c K.length)/\br (decide a&&K.getD c (0:Int) !=0) (V3 z.at_ s.d.E.length/\Lt (0+z.at_.toNat) s.d.E.length/\Ri (q+1)/\∃(y:Up s.d.C.length),((g/\m/\j/\r=r/\q+1=(y.1:Int)/\True)/\oM s s/\(s.d.E.length=s.d.E.length/\Z7 s.d.E.length (setRow w (0+z.at_.toNat) 0 [T.str z.d]) (Z6 (zI s.d.E s.d.C (kp K) y.1)))/\f/\k/\n/\p/\b/\True)/\Lt (s.d.C.length-y.1) i) (Ri (q+1)/\∃(y:Up s.d.C.length),((g/\m/\j/\r=r/\q+1=(y.1:Int)/\True)/\oM s s/\(s.d.E.length=s.d.E.length/\Z7 s.d.E.length w (Z6 (zI s.d.E s.d.C (kp K) y.1)))/\f/\k/\n/\p/\b/\True)/\Lt (s.d.C.length-y.1) i)) ((True/\True)/\(oo ((0=0/\s.d.E.length=u.length)/\g/\false=false/\g/\s.ep=s.ep/\(0=0/\s.L.length=s.L.length)/\s.S=s.S/\(0=0/\s.fr.length=s.fr.length)/\s.J=s.J/\True))/\(s.d.E.length=u.length/\Z7 s.d.E.length w (Z6 u))/\True/\True/\n/\p/\b/\(0=0/\Z7 0 (λ(x:Nat)=>[]) (Z2 []))/\(0=0/\Z7 0 (λ(x:Nat)=>[]) (Z0 []))/\True)) ⟨⟨⟨0,L8 _⟩,Y1,Y1,Y1,Y1,Y1,Y1,H4,Y1,Z5⟩,λx=>⟨λhc=>?_,λhc=>?_⟩⟩
 ·have t:=Y0 hc;have n:(decide ((x.1:Int)<(K.length:Int))&&K.getD x.1 0 !=0)=kp K x.1:=by
   unfold kp;rw[show decide ((x.1:Int)<(K.length:Int))=decide (x.1<K.length) from decide_eq_decide.2 Z9]
  rw[C8,show 0+x.1=x.1 by omega,n]
  have A:=f x.1 t;refine⟨X9 t,t,λh=>X9 (Y0 h),λh=>Y0 h,λe=>?_,λe=>?_⟩
  ·exact⟨A,H3,Z1 Z9,⟨x.1+1,t⟩,⟨⟨Y1,Y1,Y1,rfl,W5,Z5⟩,Y1,⟨rfl,iP e⟩,Y1,Y1,Y1,H4,Y1,Z5⟩,V2.ext_lt t⟩
  ·exact⟨Z1 Z9,⟨x.1+1,t⟩,⟨⟨Y1,Y1,Y1,rfl,W5,Z5⟩,Y1,⟨rfl,λj _=>by dsimp only;rw[c13 e]⟩,⟨rfl,W2 _ _⟩,⟨rfl,W2 _ _⟩,⟨rfl,W2 _ _⟩,⟨rfl,rfl,jJ _⟩,⟨rfl,W2 _ _⟩,Z5⟩,V2.ext_lt t⟩
 ·have hx:x.1=s.d.C.length:=by have:=x.2;have:=X3 hc;omega
  rw[hx];have l:=(A9 s.d.E s.d.C (kp K) s.d.C.length).symm;exact⟨Y1,⟨rfl,rfl,⟨rfl,l⟩,Y1⟩,⟨l,W2 _ _⟩,Z5,Z5,Y1,H4,Y1,⟨rfl,A8⟩,⟨rfl,A8⟩,Z5⟩
def Sto.bxY(s:Sto)(v:Nat):Y4:=[pW (s.tn 1 6 7 4 5),u5 s.d.E,none,none,yV s.L,uV v s.fr s.fr.length,z9 s.d.C,u2 s.d.keep]
def c4v:Con:=.reff ⟨Sto×Nat,λx=>[.ref 0 0 0],λx=>x.1.bx x.2,λx=>.bool (U7 x.1.d).2,λx=>(x.1.sd ((U7 x.1.d).1)).bxY x.2,λx=>kT x.1.d/\cB x.1.d⟩
def c3j(s:Sto)(v:Nat):Nat->Ann
 |0=>.one (Up s.d.C.length) (λx=>⟨[(0,.ref 0 0 0),(19,.osl 2 0 s.d.C.length),(20,Ji s.d.C.length),(21,Ji x.1)],[pW (s.tn 1 2 3 4 5),some (.arr true 0 1 s.d.E.length (Z6 (zI s.d.E s.d.C (λ_=>true) x.1))),z9 s.d.C,u2 s.d.keep,yV s.L,uV v s.fr s.fr.length]⟩) (λx=>s.d.C.length-x.1) c1w c1w (λ_=>Y5)
 |_=>.none
theorem a9f:GK 69 c4v:=gk func69<|by
 rintro⟨s,v⟩ ⟨⟨i,g,h⟩,f⟩;dsimp only at i g h f;refine r9 (gC a30 (gC b3S gN)) func69 (c3j s v) [c1F,[.nilC 0 1 0 2,.box 0,.arr 1,.arr 2,.arr 3,.arr 4,.arr 5,.arr 6,.arr 3]] (α:=let l:=(Z2 (U7 s.d).1.C);let i:=(0=0/\0=0);let c:=(Z3 Z2 s.d.C s.d.C);let a:=(Y9 s.fr);let g:=(Z3 Z0 s.d.keep s.d.keep);let f:=(Z3 Y6 s.L s.L);let n:=(0=0/\s.d.C.length=s.d.C.length);let m:=(U7 s.d).1.E.length;let k:=(U7 s.d).1.keep.length;let z:=(U7 s.d).1.C.length;let r:=(s.d.C.length:Int);let p:=(v=v/\s.fr.length=s.fr.length/\V0 s.fr.length a a);br s.d.A (∃(x:(List Int)),let b:=x.length;(Le (0+s.d.keep.length) s.d.keep.length/\((Z3 Z0 s.d.keep x)/\True)/\b<=1048576)/\∃(X:(Sto×List Int×Nat)),let w:=(zI X.1.d.E X.1.d.C (kp X.2.1) X.1.d.C.length);((i/\(0=0/\b=X.2.1.length)/\True)/\(oM s X.1/\(Z3 Z6 s.d.E X.1.d.E)/\(Z3 Z2 s.d.C X.1.d.C)/\(Z3 Z0 s.d.keep X.1.d.keep)/\(Z3 Y6 s.L X.1.L)/\(v=X.2.2/\s.fr.length=X.1.fr.length/\V0 s.fr.length a (Y9 X.1.fr))/\(b=X.2.1.length/\Z7 (b) (Z0 x) (Z0 X.2.1))/\True)/\kT X.1.d/\cB X.1.d/\X.2.1.length<=1048576)/\(false=(U7 s.d).2/\True)/\(oo ((0=0/\w.length=m)/\(0=0/\0=z)/\false=(U7 s.d).1.A/\(0=0/\0=k)/\X.1.ep=s.ep/\(0=0/\X.1.L.length=s.L.length)/\X.1.S=s.S/\(0=0/\X.1.fr.length=s.fr.length)/\X.1.J=s.J/\True))/\(Z3 Z6 w (U7 s.d).1.E)/\True/\True/\(Z3 Y6 X.1.L s.L)/\(X.2.2=v/\X.1.fr.length=s.fr.length/\V0 X.1.fr.length (Y9 X.1.fr) a)/\(0=z/\Z7 0 (Z2 []) l)/\(0=k/\Z7 0 (Z0 []) (Z0 (U7 s.d).1.keep))/\True) ((∃(x:Up s.d.C.length),(i/\n/\r=r/\0=(x.1:Int)/\True)/\oM s s/\(s.d.E.length=s.d.E.length/\Z7 s.d.E.length (Z6 s.d.E) (Z6 (zI s.d.E s.d.C (λ(x:Nat)=>true) x.1)))/\c/\g/\f/\p/\True)/\∀(x:Up s.d.C.length),let t:=(λ(x:Nat)=>true);let j:=(Z6 (zI s.d.E s.d.C t x.1));let u:=(x.1:Int);let q:=(s.d.C.getD (0+u.toNat) dz);bd (u<r) (V3 u s.d.C.length/\Lt (0+u.toNat) s.d.C.length/\V3 q.at_ s.d.E.length/\Lt (0+q.at_.toNat) s.d.E.length/\Ri (u+1)/\∃(y:Up s.d.C.length),((i/\n/\r=r/\u+1=(y.1:Int)/\True)/\oM s s/\(s.d.E.length=s.d.E.length/\Z7 s.d.E.length (setRow j (0+q.at_.toNat) 0 [T.str q.d]) (Z6 (zI s.d.E s.d.C t y.1)))/\c/\g/\f/\p/\True)/\Lt (s.d.C.length-y.1) (s.d.C.length-x.1)) ((true=(U7 s.d).2/\True)/\(oo ((0=0/\s.d.E.length=m)/\(0=0/\0=z)/\s.d.A=(U7 s.d).1.A/\(0=0/\s.d.keep.length=k)/\s.ep=s.ep/\(0=0/\s.L.length=s.L.length)/\s.S=s.S/\(0=0/\s.fr.length=s.fr.length)/\s.J=s.J/\True))/\(s.d.E.length=m/\Z7 s.d.E.length j (Z6 (U7 s.d).1.E))/\True/\True/\f/\p/\(0=z/\Z7 0 (λ(x:Nat)=>[]) l)/\(Z3 Z0 s.d.keep (U7 s.d).1.keep)/\True))) ⟨λha=>?_,λha=>?_⟩
 ·have e:U7 s.d=(crD s.d s.d.keep,false):=by unfold U7;rw[if_pos ha]
  rw[e];exact⟨s.d.keep,⟨cM _,Y1,h⟩,(s,s.d.keep,v),⟨Y1,⟨Y1,Y1,Y1,Y1,Y1,H4,Y1,Z5⟩,⟨i,g,h⟩,f,h⟩,Y1,Y1,Y1,Z5,Z5,Y1,H4,⟨rfl,A8⟩,⟨rfl,A8⟩,Z5⟩
 ·have e:U7 s.d=(⟨zI s.d.E s.d.C (λ_=>true) s.d.C.length,[],s.d.A,s.d.keep⟩,true):=by unfold U7;rw[if_neg (by rw[ha];simp)]
  rw[e];refine⟨⟨⟨0,L8 _⟩,Y1,Y1,Y1,Y1,Y1,Y1,H4,Z5⟩,λx=>⟨λhc=>?_,λhc=>?_⟩⟩
  ·have hlt:=Y0 hc;rw[C8,show 0+x.1=x.1 by omega]
   have ha:=f x.1 hlt;exact⟨X9 hlt,hlt,ha,H3,Z1 Z9,⟨x.1+1,hlt⟩,⟨⟨Y1,Y1,rfl,W5,Z5⟩,Y1,⟨rfl,iP (Q:=λ_=>true) rfl⟩,Y1,Y1,Y1,H4,Z5⟩,V2.ext_lt hlt⟩
  ·have hx:x.1=s.d.C.length:=by have:=x.2;have:=X3 hc;omega
   rw[hx];have l:=(A9 s.d.E s.d.C (λ_=>true) s.d.C.length).symm
   exact⟨Y1,⟨rfl,rfl,⟨rfl,l⟩,Y1⟩,⟨l,W2 _ _⟩,Z5,Z5,Y1,H4,⟨rfl,A8⟩,Y1⟩
theorem c2o{hi lsn:Int}{s:RdSt}:∀n,(RdSt.go hi lsn s n).ok=true->s.ok=true
 |0,h=>h
 |n+1,h=>by
  refine c2o (hi:=hi) (lsn:=lsn) n ?_
  simp only[RdSt.go,RdSt.step,M1] at h;exact h.1.1
theorem b69{hi lsn:Int}{s:RdSt}:∀n,s.l.length<=(RdSt.go hi lsn s n).l.length+2*n
 |0=>by simp[RdSt.go]
 |n+1=>by
  have:=b69 (hi:=hi) (lsn:=lsn) (s:=s) n;simp only[RdSt.go,RdSt.step,List.length_drop];omega
theorem b6B{most lo hi lsn:Int}{l:Bz}{fl:Bool}(h:(N3 most lo hi lsn l fl).ok=true):(l.length:Int)<=(N3 most lo hi lsn l fl).l.length+2*most+1:=by
 have h1:=c2o _ h;have h2:=b69 (hi:=hi) (lsn:=lsn) (s:=uS most lo l fl) (numR l).toNat;have h3:numR l<=most:=B3 h1;have h4:=(r6 l).1;have h5:(uS most lo l fl).l.length=l.length-1:=by simp[uS]
 have h6:(N3 most lo hi lsn l fl).l.length=(RdSt.go hi lsn (uS most lo l fl) (numR l).toNat).l.length:=rfl;omega
theorem a1l{a:Bz}{lsn:Int}(h:a4E a lsn=true):a.length<=38:=by
 unfold a4E at h;simp only[M1] at h;have f:=b6B h.1.1.1;have d:=b6B h.1.2.1;have e:=List.isEmpty_iff.1 h.2.2;rw[e] at d;simp at d;omega
theorem a8q{r:Rec}(h:O9 r=true):a63 r:=by
 have h:=(R6 r).1 h;unfold D0 at h;obtain⟨_,_,_,_,_,_,_,_,_,_,_,_,_,_,B,f,e⟩:=h;refine⟨Z9,?_⟩
 by_cases d:r.k=6
 ·have:=a1l (f d).2.2.2.2.2.2;omega
 ·have:=(e d).2.2.1;omega
def qI(s:Sto)(i:Nat):Pend:=⟨9+(s.L.getD (s.S.toNat+i) dz).l-1,P0 (s.L.getD (s.S.toNat+i) dz)⟩
def qP(s:Sto)(n:Nat):Dsk:=⟨s.d.E,s.d.C++(List.range n).map (qI s),s.d.A,s.d.keep⟩
def L9(s:Sto)(lsn:Int):Nat:=lsn.toNat-s.S.toNat
def W7(s:Sto)(lsn:Int):Sto×Bool:=if lsn<=s.S then(s,true) else
 (⟨(U7 (qP s (L9 s lsn))).1,s.ep,s.L,if(U7 (qP s (L9 s lsn))).2=true then lsn else s.S,s.fr,s.J⟩,(U7 (qP s (L9 s lsn))).2)
def vD(s:Sto)(lsn:Int):Prop:=kT s.d/\s.d.C.length<=1000/\cB s.d/\s.d.E.length=69/\0<=s.S/\s.S<=s.L.length/\s.L.length<=60/\lsn<=s.L.length/\∀i,i<s.L.length->(s.L.getD i dz).l=(i:Int)+1/\a63 (s.L.getD i dz)
def b8K:Con:=.reff ⟨Sto×Int×Nat,λx=>[.ref 0 0 0,Ji x.2.1],λx=>x.1.bx x.2.2,λx=>.bool (W7 x.1 x.2.1).2,λx=>(W7 x.1 x.2.1).1.bxY x.2.2,λx=>vD x.1 x.2.1⟩
def c0A(s:Sto)(lsn:Int)(v:Nat):Nat->Ann
 |0=>.one (Up (L9 s lsn)) (λx=>⟨[(0,.ref 0 0 0),(1,Ji lsn),(22,.osl 4 s.S.toNat (L9 s lsn)),(23,Ji (L9 s lsn)),(24,Ji x.1)],(s.sd (qP s x.1)).bxC v⟩) (λx=>L9 s lsn-x.1) [.box 0,.arr 1,.arr 2,.arr 3,.arr 4,.arr 5,.arr 2] c1O (λ_=>Y5)
 |_=>.none
theorem o8{s:Sto}{lsn:Int}(h:lsn<=s.S):W7 s lsn=(s,true):=if_pos h
theorem m5{s:Sto}{lsn:Int}(h:¬lsn<=s.S):W7 s lsn=(⟨(U7 (qP s (L9 s lsn))).1,s.ep,s.L,if(U7 (qP s (L9 s lsn))).2=true then lsn else s.S,s.fr,s.J⟩,(U7 (qP s (L9 s lsn))).2):=if_neg h
theorem lN{s:Sto}{lsn:Int}{i:Nat}(h:vD s lsn)(hi:i<L9 s lsn):(qI s i).at_=9+s.S+i/\a63 (s.L.getD (s.S.toNat+i) dz)/\s.S+i<lsn:=by
 obtain⟨_,_,_,_,g,e,_,f,d⟩:=h;unfold L9 at hi;obtain⟨a,b⟩:=d (s.S.toNat+i) Z9
 refine⟨?_,b,Z9⟩
 unfold qI;dsimp only;rw[a];omega
theorem xE(s:Sto)(n:Nat):s.d.C++List.map (qI s) (List.range n)++[qI s n]=s.d.C++List.map (qI s) (List.range (n+1)):=by
 rw[List.range_succ,List.map_append,List.append_assoc];rfl
theorem a1g{s:Sto}{lsn:Int}(h:vD s lsn):kT (qP s (L9 s lsn))/\cB (qP s (L9 s lsn)):=by
 have n:=λi=>lN (i:=i) h
 obtain⟨⟨A,t,g⟩,l,f,h4,v,o,u,j,r⟩:=h;have N:L9 s lsn<=60:=by unfold L9;omega
 refine⟨⟨A,?_,g⟩,λi hi=>?_⟩
 ·show(s.d.C++List.map (qI s) (List.range _)).length<=1048576;simp only[J6,List.length_map,j_g];omega
 ·have hi:i<(s.d.C++List.map (qI s) (List.range (L9 s lsn))).length:=hi;show 0<=((s.d.C++List.map (qI s) (List.range (L9 s lsn))).getD i dz).at_/\((s.d.C++List.map (qI s) (List.range (L9 s lsn))).getD i dz).at_<(s.d.E.length:Int);rw[h4,Q8]
  by_cases hc:i<s.d.C.length
  ·rw[tI hc,←Q8]
   have:=f i hc;rw[h4] at this;exact this
  ·rw[tD Z9,←Q8]
   simp only[J6,List.length_map,j_g] at hi;rw[c1N _ Z9]
   obtain⟨e,_,q⟩:=n (i-s.d.C.length) Z9
   rw[e];omega
theorem a4D:GK 67 b8K:=gk func67<|by
 rintro⟨s,lsn,v⟩ h;dsimp only at h;have hn:=λi=>lN (i:=i) h
 have W:=a1g h;obtain⟨⟨u,z,A⟩,g,o,j,h5,r,n,h8,t⟩:=h;have N:L9 s lsn<=60:=by unfold L9;omega
 refine r9 (gC dF (gC a4X (gC a9f gN))) func67 (c0A s lsn v) [c1F,c10] (α:=let i:=(0=0/\0=0);let g:=(Y9 s.fr);let w:=(↑(L9 s lsn):Int);let p:=(W7 s lsn);let t:=p.1.d;bd (lsn<=s.S) ((true=p.2/\True)/\oM s p.1/\(Z3 Z6 s.d.E t.E)/\True/\True/\(Z3 Y6 s.L p.1.L)/\(v=v/\s.fr.length=p.1.fr.length/\V0 s.fr.length g (Y9 p.1.fr))/\(Z3 Z2 s.d.C t.C)/\(Z3 Z0 s.d.keep t.keep)/\True) (b0W s.S lsn s.L.length/\(∃(x:Up (L9 s lsn)),let m:=(s.d.C++List.map (qI s) (List.range x.1));(i/\lsn=lsn/\(0+s.S.toNat=s.S.toNat/\lsn.toNat-s.S.toNat=L9 s lsn)/\(↑(lsn.toNat-s.S.toNat):Int)=w/\0=(x.1:Int)/\True)/\(oo ((0=0/\s.d.E.length=s.d.E.length)/\(0=0/\s.d.C.length=m.length)/\s.d.A=s.d.A/\(0=0/\s.d.keep.length=s.d.keep.length)/\s.ep=s.ep/\(0=0/\s.L.length=s.L.length)/\s.S=s.S/\(0=0/\s.fr.length=s.fr.length)/\s.J=s.J/\True))/\(Z3 Z6 s.d.E s.d.E)/\True/\(Z3 Z0 s.d.keep s.d.keep)/\(Z3 Y6 s.L s.L)/\(v=v/\s.fr.length=s.fr.length/\V0 s.fr.length g g)/\(Z3 Z2 s.d.C m)/\True)/\∀(x:Up (L9 s lsn)),let j:=(x.1:Int);let pa:=(s.S.toNat+j.toNat);let r:=(s.d.C++List.map (qI s) (List.range x.1));let q:=(s.L.getD pa dz);bd (j<w) (V3 j (L9 s lsn)/\Lt pa s.L.length/\Ri (9+q.l)/\Ri (9+q.l-1)/\∃(X:Rec),(((EqR q X)/\True)/\a63 X)/\∃(f:(Sto×Int×Bz×Nat)),let a:=f.1.fr.length;let k:=f.1.d;let b:=(k.C++[Pend.mk f.2.1 f.2.2.1]);((i/\9+q.l-1=f.2.1/\P0 X=f.2.2.1/\True)/\((oo ((0=0/\s.d.E.length=k.E.length)/\(0=0/\r.length=k.C.length)/\s.d.A=k.A/\(0=0/\s.d.keep.length=k.keep.length)/\s.ep=f.1.ep/\(0=0/\s.L.length=f.1.L.length)/\s.S=f.1.S/\(0=0/\s.fr.length=a)/\s.J=f.1.J/\True))/\(Z3 Z6 s.d.E k.E)/\(Z3 Z2 r k.C)/\(Z3 Z0 s.d.keep k.keep)/\(Z3 Y6 s.L f.1.L)/\(v=f.2.2.2/\s.fr.length=a/\V0 s.fr.length g (Y9 f.1.fr))/\True)/\k.C.length<=1048576)/\Ri (j+1)/\∃(y:Up (L9 s lsn)),let n:=(s.d.C++List.map (qI s) (List.range y.1));((i/\lsn=lsn/\(s.S.toNat=s.S.toNat/\L9 s lsn=L9 s lsn)/\w=w/\j+1=(y.1:Int)/\True)/\(oo ((0=0/\k.E.length=s.d.E.length)/\(0=0/\b.length=n.length)/\k.A=s.d.A/\(0=0/\k.keep.length=s.d.keep.length)/\f.1.ep=s.ep/\(0=0/\f.1.L.length=s.L.length)/\f.1.S=s.S/\(0=0/\a=s.fr.length)/\f.1.J=s.J/\True))/\(Z3 Z6 k.E s.d.E)/\True/\(Z3 Z0 k.keep s.d.keep)/\(Z3 Y6 f.1.L s.L)/\(f.2.2.2=v/\a=s.fr.length/\V0 f.1.fr.length (Y9 f.1.fr) g)/\(Z3 Z2 b n)/\True)/\Lt (L9 s lsn-y.1) (L9 s lsn-x.1)) (∃(X:(Sto×Nat)),let pb:=(Z3 Y6 X.1.L p.1.L);let u:=(U7 X.1.d);let c:=(Z3 Z0 u.1.keep t.keep);let z:=(X.2=v/\X.1.fr.length=p.1.fr.length/\V0 X.1.fr.length (Y9 X.1.fr) (Y9 p.1.fr));((i/\True)/\((oo ((0=0/\s.d.E.length=X.1.d.E.length)/\(0=0/\r.length=X.1.d.C.length)/\s.d.A=X.1.d.A/\(0=0/\s.d.keep.length=X.1.d.keep.length)/\s.ep=X.1.ep/\(0=0/\s.L.length=X.1.L.length)/\s.S=X.1.S/\(0=0/\s.fr.length=X.1.fr.length)/\s.J=X.1.J/\True))/\(Z3 Z6 s.d.E X.1.d.E)/\(Z3 Z2 r X.1.d.C)/\(Z3 Z0 s.d.keep X.1.d.keep)/\(Z3 Y6 s.L X.1.L)/\(v=X.2/\s.fr.length=X.1.fr.length/\V0 s.fr.length g (Y9 X.1.fr))/\True)/\kT X.1.d/\cB X.1.d)/\br (! u.2) ((false=p.2/\True)/\oM {X.1 with d:=u.1} p.1/\(Z3 Z6 u.1.E t.E)/\True/\True/\pb/\z/\(Z3 Z2 u.1.C t.C)/\c/\True) ((true=p.2/\True)/\oM {X.1 with d:=u.1,S:=lsn} p.1/\(Z3 Z6 u.1.E t.E)/\True/\True/\pb/\z/\(Z3 Z2 u.1.C t.C)/\c/\True)))) ⟨λhc=>?_,λhc=>?_⟩
 ·rw[o8 (B3 hc)];exact⟨Y1,Y1,Y1,Z5,Z5,Y1,H4,Y1,Y1,Z5⟩
 ·have hc:=k5 hc;refine⟨⟨h5,Z9,h8⟩,⟨⟨0,L8 _⟩,⟨Y1,rfl,⟨D8 _,rfl⟩,Y1⟩,⟨rfl,rfl,Y1,⟨rfl,W6⟩,Y1⟩,Y1,Z5,Y1,Y1,H4,⟨W6,λi _=>W6⟩,Z5⟩,λx=>⟨λhx=>?_,λhx=>?_⟩⟩
  ·have hlt:=Y0 hx;obtain⟨e,hb,q⟩:=hn x.1 hlt;have e':9+(s.L.getD (s.S.toNat+x.1) dz).l-1=9+s.S+x.1:=e;rw[C8];refine⟨X9 hlt,H3,Z1 Z9,Z1 Z9,_,⟨Y1,hb⟩,(s.sd (qP s x.1),9+(s.L.getD (s.S.toNat+x.1) dz).l-1,P0 (s.L.getD (s.S.toNat+x.1) dz),v),⟨Y1,⟨Y1,Y1,Y1,Y1,Y1,H4,Z5⟩,?_⟩,Z1 Z9,⟨x.1+1,hlt⟩,⟨⟨Y1,rfl,Y1,rfl,W5,Z5⟩,⟨rfl,rfl,Y1,⟨rfl,congrArg List.length (xE s x.1)⟩,Y1⟩,Y1,Z5,Y1,Y1,H4,⟨congrArg List.length (xE s x.1),λi _=>congrArg (λL=>Z2 L i) (xE s x.1)⟩,Z5⟩,V2.ext_lt hlt⟩
   show(s.d.C++List.map (qI s) (List.range _)).length<=1048576;simp only[J6,List.length_map,j_g];omega
  ·have hx:x.1=L9 s lsn:=by have:=x.2;have:=X3 hx;omega
   rw[hx,m5 hc];refine⟨(s.sd (qP s (L9 s lsn)),v),⟨Y1,⟨Y1,Y1,Y1,Y1,Y1,H4,Z5⟩,W⟩,λY=>?_,λY=>?_⟩
   ·have Y:(U7 (qP s (L9 s lsn))).2=false:=(wG _).mp Y;exact⟨⟨Y.symm,Z5⟩,⟨rfl,rfl,Y1,Y1,rfl,Y1,rfl,Y1,(if_neg (by rw[Y];simp)).symm,⟨rfl,rfl⟩,rfl,Z5⟩,⟨rfl,W2 _ _⟩,Z5,Z5,⟨rfl,W2 _ _⟩,⟨rfl,rfl,jJ _⟩,⟨rfl,W2 _ _⟩,⟨rfl,W2 _ _⟩,Z5⟩
   ·have Y:(U7 (qP s (L9 s lsn))).2=true:=(yL _).mp Y;exact⟨⟨Y.symm,Z5⟩,⟨rfl,rfl,Y1,Y1,rfl,Y1,rfl,Y1,(if_pos Y).symm,Y1⟩,Y1,Z5,Z5,Y1,H4,Y1,Y1,Z5⟩
theorem yM{a b c:Int}(h:V8 a b c=true):b<=a/\a<=c:=by simpa[V8] using h
theorem a7B{a b c:Int}(h:(!V8 a b c)=false):b<=a/\a<=c:=yM F6
theorem c1b{s:Sto}{lsn:Int}(h:G2 s=true)(l:lsn<=s.L.length)(M:SmS s):vD s lsn:=by
 obtain⟨⟨f,e,d⟩,_⟩:=(J8 s).1 h;obtain⟨j,c2,_,_,C⟩:=(v9 s).1 f;obtain⟨_,_,n,_,_,_,g⟩:=j;have d:=yM d;refine⟨M.1,Z9,λi hi=>?_,c2,d.1,d.2,C,l,λi hi=>?_⟩
 ·have:=g i hi;unfold O4 at this;simp only[zY,yL] at this;have:=yM this.1;omega
 ·obtain⟨a,b⟩:=G9.1 e i hi;exact⟨b,a8q a⟩
theorem a9v{d:Dsk}(h:kT d):kT (U7 d).1:=by
 obtain⟨e,g,f⟩:=h;unfold U7;split
 ·exact⟨by unfold crD;dsimp only;rw[A9];exact e,Y1⟩
 ·exact⟨by dsimp only;rw[A9];exact e,L8 _,f⟩
theorem cV{s:Sto}{lsn:Int}(h:vD s lsn)(M:SmS s):SmS (W7 s lsn).1:=by
 by_cases l:lsn<=s.S
 ·rw[o8 l];exact M
 ·rw[m5 l];exact⟨a9v (a1g h).1,M.2.1,M.2.2.1,M.2.2.2⟩
def a8m:Con:=.rel ⟨Dsk×Int×Bz,λx=>[.agg x.1.ts,Ji x.2.1,.str x.2.2],λx=>.agg (wrD x.1 x.2.1 x.2.2).ts,λx=>x.1.C.length<=1048576⟩
theorem kK:GK 256 a8m:=gk func256<|by
 rintro⟨d,at_,t⟩ (h:d.C.length<=1048576);exact R1 gN func256 Y5 (α:=let r:=(d.C++[Pend.mk at_ t]);let q:=(0+d.C.length+1);let p:=(0+d.C.length);(Le 0 0/\U2 0 d.C.length 24)/\(Le 1 1/\Le p p/\U2 p 1 24)/\Le (0+q) q/\(Z3 Z6 d.E d.E)/\(0+d.C.length+1=r.length/\Z7 q (X6 (X6 (tk 2 []) 0 (Z2 d.C)) p (tk 2 [Ji at_,T.str t])) (Z2 r))/\d.A=d.A/\(Z3 Z0 d.keep d.keep)/\True) ⟨⟨U9 _,O6⟩,⟨U9 _,U9 _,O6⟩,C9,Y1,⟨W6,by rw[D8];exact a3O d.C ⟨at_,t⟩⟩,Y1⟩
def c1X(l:List T):Option Ob:=some (.arr false 1000000 4 1 λ_=>l)
def b0m(l:List T):Option Ob:=some (.arr true 1000000 4 1 λ_=>l)
def c6c:List T:=[.v (.slice none 0 0),.v (.slice none 0 0),.bool false,.v (.slice none 0 0)]
def a8C:Con:=.rel ⟨Dsk×List Int,λx=>[.agg x.1.ts,aX x.2],λx=>.agg (crD x.1 x.2).ts,λx=>kT x.1/\cB x.1⟩
def a7t(d:Dsk)(K:List Int):Nat->Ann
 |0=>.one (Up d.C.length) (λx=>⟨[(1,aX K),(2,.ref 0 0 0),(4,.ref 1 0 0),(5,.ref 2 0 0),(6,Ji x.1)],[b0m d.ts,b0m c6c,c1X (d.tm 3),some (.arr true 0 1 d.E.length (Z6 (zI d.E d.C (kp K) x.1))),z9 d.C,u2 d.keep]⟩) (λx=>d.C.length-x.1) c2q c2f (λ_=>Y5)
 |_=>.none
theorem P2{p:Prop}(h:p:=by repeat' first|exact trivial|exact rfl|exact W2 _ _|exact jJ _|exact A8|exact cM _|exact U9 _|exact L8 _|refine And.intro ?_ ?_):p:=h
theorem a3P:GK 263 a8C:=gk func263<|by
 rintro⟨d,K⟩ ⟨⟨l,f,g⟩,i⟩;dsimp only at l f g i;refine R1 (gC lX gN) func263 (a7t d K) (α:=let m:=(Z3 Z0 K K);let k:=(Z3 Z0 d.keep d.keep);let j:=(oo (zA d d));let w:=(zI d.E d.C (kp K) d.C.length);let z:=(0=0/\0=0);let r:=(oo ((0=0/\d.E.length=d.E.length)/\(0=0/\d.C.length=d.C.length)/\d.A=d.A/\(0=0/\d.keep.length=d.keep.length)/\True));let p:=(oo (Value.slice none 0 0=Value.slice none 0 0/\Value.slice none 0 0=Value.slice none 0 0/\false=false/\Value.slice none 0 0=Value.slice none 0 0/\True));∃(x:Dsk),(((zA d x)/\True)/\kT x)/\(∃(X:Up d.C.length),(m/\z/\z/\z/\0=(X.val:Int)/\True)/\j/\p/\(oo ((0=0/\x.E.length=d.E.length)/\(0=0/\x.C.length=d.C.length)/\x.A=d.A/\(0=0/\x.keep.length=d.keep.length)/\True))/\(x.E.length=d.E.length/\Z7 x.E.length (Z6 x.E) (Z6 (zI d.E d.C (kp K) X.val)))/\(Z3 Z2 x.C d.C)/\(Z3 Z0 x.keep d.keep)/\True)/\∀(x:Up d.C.length),let f:=(d.C.length-x.1);let v:=(Z6 (zI d.E d.C (kp K) x.1));let q:=(x.1:Int);let n:=(q<(K.length:Int));let u:=(d.C.getD q.toNat dz);bd (q<(d.C.length:Int)) ((decide n=true->V3 q K.length)/\br (decide n&&K.getD q.toNat (0:Int) !=0) (V3 q d.C.length/\V3 q d.C.length/\V3 u.at_ d.E.length/\Lt (0+u.at_.toNat) d.E.length/\Ri (q+1)/\∃(y:Up d.C.length),((m/\z/\z/\z/\q+1=(y.1:Int)/\True)/\j/\p/\r/\(d.E.length=d.E.length/\Z7 d.E.length (setRow v (0+u.at_.toNat) 0 [T.str u.d]) (Z6 (zI d.E d.C (kp K) y.1)))/\(Z3 Z2 d.C d.C)/\k/\True)/\Lt (d.C.length-y.1) f) (Ri (q+1)/\∃(y:Up d.C.length),((m/\z/\z/\z/\q+1=(y.1:Int)/\True)/\j/\p/\r/\(d.E.length=d.E.length/\Z7 d.E.length v (Z6 (zI d.E d.C (kp K) y.1)))/\(Z3 Z2 d.C d.C)/\k/\True)/\Lt (d.C.length-y.1) f)) ((Le (0+d.E.length) d.E.length/\Le 0 0/\Le 0 0)/\(d.E.length=w.length/\Z7 d.E.length v (Z6 w))/\(0=0/\Z7 0 (tk 2 []) (Z2 []))/\false=false/\(0=0/\Z7 0 (tk 1 []) (Z0 []))/\True)) ⟨d,⟨Y1,l,f,g⟩,⟨⟨0,L8 _⟩,P2⟩,λx=>⟨λhc=>?_,λhc=>?_⟩⟩
 ·have t:=Y0 hc;have n:(decide ((x.1:Int)<(K.length:Int))&&K.getD x.1 0 !=0)=kp K x.1:=by
   unfold kp;rw[show decide ((x.1:Int)<(K.length:Int))=decide (x.1<K.length) from decide_eq_decide.2 Z9]
  have A:=i x.1 t;rw[C8,n];refine⟨λh=>X9 (Y0 h),λe=>?_,λe=>?_⟩
  ·exact⟨X9 t,X9 t,A,H3,Z1 Z9,⟨x.1+1,t⟩,⟨⟨Y1,Y1,Y1,Y1,W5,Z5⟩,Y1,P2,P2,⟨rfl,iP e⟩,P2⟩,V2.ext_lt t⟩
  ·exact⟨Z1 Z9,⟨x.1+1,t⟩,⟨⟨Y1,Y1,Y1,Y1,W5,Z5⟩,Y1,P2,P2,⟨rfl,λj _=>by dsimp only;rw[c13 e]⟩,P2⟩,V2.ext_lt t⟩
 ·have hx:x.1=d.C.length:=by have:=x.2;have:=X3 hc;omega
  rw[hx];exact⟨P2,⟨(A9 _ _ _ _).symm,W2 _ _⟩,P2⟩
def b0Y:Con:=.rel ⟨Dsk,λd=>[.agg d.ts],λd=>.tup [.agg (U7 d).1.ts,.bool (U7 d).2],λd=>kT d/\cB d⟩
def b2r(d:Dsk):Nat->Ann
 |0=>.one (Up d.C.length) (λx=>⟨[(1,.ref 0 0 0),(2,.ref 1 0 0),(4,.ref 2 0 0),(5,Ji x.1)],[b0m d.ts,b0m c6c,c1X (d.tm 3),some (.arr true 0 1 d.E.length (Z6 (zI d.E d.C (λ_=>true) x.1))),z9 d.C,u2 d.keep]⟩) (λx=>d.C.length-x.1) c2q c2f (λ_=>Y5)
 |_=>.none
theorem dG:GK 255 b0Y:=gk func255<|by
 rintro(d:Dsk) ⟨⟨h1,h2,h3⟩,h4⟩;refine R1 (gC a3P (gC lX gN)) func255 (b2r d) (α:=let v:=(U7 d).1.C.length;let z:=(0=0/\0=0);let p:=(oo (Value.slice none 0 0=Value.slice none 0 0/\Value.slice none 0 0=Value.slice none 0 0/\false=false/\Value.slice none 0 0=Value.slice none 0 0/\True));br d.A (∃(x:(Dsk×List Int)),(((zA d x.1)/\(Z3 Z0 d.keep x.2)/\True)/\kT x.1/\cB x.1)/\((Z3 Z6 (zI x.1.E x.1.C (kp x.2) x.1.C.length) (U7 d).1.E)/\(0=v/\Z7 0 (Z2 []) (Z2 (U7 d).1.C))/\false=(U7 d).1.A/\(0=(U7 d).1.keep.length/\Z7 0 (Z0 []) (Z0 (U7 d).1.keep))/\True)/\false=(U7 d).2/\True) (∃(x:Dsk),(((zA d x)/\True)/\kT x)/\(∃(X:Up d.C.length),(z/\z/\z/\0=(X.val:Int)/\True)/\(oo (zA d d))/\p/\(oo ((0=0/\x.E.length=d.E.length)/\(0=0/\x.C.length=d.C.length)/\x.A=d.A/\(0=0/\x.keep.length=d.keep.length)/\True))/\(x.E.length=d.E.length/\Z7 x.E.length (Z6 x.E) (Z6 (zI d.E d.C (λ(x:Nat)=>true) X.val)))/\(Z3 Z2 x.C d.C)/\(Z3 Z0 x.keep d.keep)/\True)/\∀(x:Up d.C.length),let w:=(λ(x:Nat)=>true);let u:=(Z6 (zI d.E d.C w x.1));let r:=(x.1:Int);let q:=(d.C.getD r.toNat dz);bd (r<(d.C.length:Int)) (V3 r d.C.length/\V3 r d.C.length/\V3 q.at_ d.E.length/\Lt (0+q.at_.toNat) d.E.length/\Ri (r+1)/\∃(y:Up d.C.length),((z/\z/\z/\r+1=(y.1:Int)/\True)/\(oo (zA d d))/\p/\(oo ((0=0/\d.E.length=d.E.length)/\(0=0/\d.C.length=d.C.length)/\d.A=d.A/\(0=0/\d.keep.length=d.keep.length)/\True))/\(d.E.length=d.E.length/\Z7 d.E.length (setRow u (0+q.at_.toNat) 0 [T.str q.d]) (Z6 (zI d.E d.C w y.1)))/\(Z3 Z2 d.C d.C)/\(Z3 Z0 d.keep d.keep)/\True)/\Lt (d.C.length-y.1) (d.C.length-x.1)) ((Le (0+d.E.length) d.E.length/\Le 0 0/\Le (0+d.keep.length) d.keep.length)/\((d.E.length=(U7 d).1.E.length/\Z7 d.E.length u (Z6 (U7 d).1.E))/\(0=v/\Z7 0 (tk 2 []) (Z2 (U7 d).1.C))/\d.A=(U7 d).1.A/\(Z3 Z0 d.keep (U7 d).1.keep)/\True)/\true=(U7 d).2/\True))) ⟨λhd=>?_,λhd=>?_⟩
 ·have e:U7 d=(crD d d.keep,false):=by unfold U7;rw[if_pos hd]
  rw[e];exact⟨(d,d.keep),⟨Y1,⟨h1,h2,h3⟩,h4⟩,P2⟩
 ·have e:U7 d=(⟨zI d.E d.C (λ_=>true) d.C.length,[],d.A,d.keep⟩,true):=by unfold U7;rw[if_neg (by rw[hd];simp)]
  rw[e];refine⟨d,⟨Y1,h1,h2,h3⟩,⟨⟨0,L8 _⟩,P2⟩,λx=>⟨λhc=>?_,λhc=>?_⟩⟩
  ·have h:=Y0 hc;have A:=h4 x.1 h;rw[C8];exact⟨X9 h,X9 h,A,H3,Z1 Z9,⟨x.1+1,h⟩,⟨⟨Y1,Y1,Y1,W5,Z5⟩,Y1,P2,P2,⟨rfl,iP (Q:=λ_=>true) rfl⟩,P2⟩,V2.ext_lt h⟩
  ·have hx:x.1=d.C.length:=by have:=x.2;have:=X3 hc;omega
   rw[hx];exact⟨P2,⟨⟨(A9 _ _ _ _).symm,W2 _ _⟩,P2⟩,P2⟩
def c5Y(l:List T):Option Ob:=some (.arr true 1000000 9 1 λ_=>l)
def a6S:Con:=.rel ⟨Sto×Int,λx=>[.agg x.1.ts,Ji x.2],λx=>.tup [.agg (W7 x.1 x.2).1.ts,.bool (W7 x.1 x.2).2],λx=>vD x.1 x.2⟩
def a7p(s:Sto)(lsn:Int):Nat->Ann
 |0=>.one (Up (L9 s lsn)) (λx=>⟨[(1,Ji lsn),(2,.ref 0 0 0),(4,.ref 1 0 0),(6,Ji (s.S+x.1+1))],[c5Y (s.sd (qP s x.1)).ts,b4v]⟩) (λx=>L9 s lsn-x.1) xZ xZ (λ_=>Y5)
 |_=>.none
theorem a3Z:GK 254 a6S:=gk func254<|by
 rintro⟨s,lsn⟩ h;dsimp only at h;have n:=λi=>lN (i:=i) h
 have W:=a1g h;obtain⟨⟨A,t,C⟩,j,l,u,z,o,v,g,r⟩:=h;have N:L9 s lsn<=60:=by unfold L9;omega
 refine R1 (gC a45 (gC kK (gC dG gN))) func254 (a7p s lsn) (α:=let w:=(Z3 X2 s.fr s.fr);let u:=(0=0/\0=0);let z:=(W7 s lsn);let p:=(oo (Value.slice none 0 0=Value.slice none 0 0/\Value.slice none 0 0=Value.slice none 0 0/\false=false/\Value.slice none 0 0=Value.slice none 0 0/\(0:Int)=0/\Value.slice none 0 0=Value.slice none 0 0/\(0:Int)=0/\Value.slice none 0 0=Value.slice none 0 0/\(0:Int)=0/\True));bd (lsn<=s.S) ((yJ s z.1)/\true=z.2/\True) (Ri (s.S+1)/\(∃(x:Up (L9 s lsn)),(lsn=lsn/\u/\u/\s.S+1=s.S+(x.1:Int)+1/\True)/\(oo ((Z3 Z6 s.d.E s.d.E)/\(Z3 Z2 s.d.C (s.d.C++List.map (qI s) (List.range x.1)))/\s.d.A=s.d.A/\(Z3 Z0 s.d.keep s.d.keep)/\s.ep=s.ep/\(Z3 Y6 s.L s.L)/\s.S=s.S/\w/\s.J=s.J/\True))/\p/\True)/\∀(x:Up (L9 s lsn)),let r:=(s.d.C++List.map (qI s) (List.range x.1));let q:=(x.1:Int);let j:=(s.S+q+1);let v:=(s.S+q+1-1);bd (s.S+q+1<=lsn) (Ri (9+j)/\Ri (9+j-1)/\Ri v/\V3 v s.L.length/\∃(X:Rec),(((EqR (s.L.getD v.toNat dz) X)/\True)/\a63 X)/\∃(f:(Dsk×Int×Bz)),((((Z3 Z6 s.d.E f.1.E)/\(Z3 Z2 r f.1.C)/\s.d.A=f.1.A/\(Z3 Z0 s.d.keep f.1.keep)/\True)/\9+j-1=f.2.1/\P0 X=f.2.2/\True)/\f.1.C.length<=1048576)/\Ri (s.S+q+1+1)/\∃(y:Up (L9 s lsn)),((lsn=lsn/\u/\u/\s.S+q+1+1=s.S+(y.1:Int)+1/\True)/\(oo ((Z3 Z6 f.1.E s.d.E)/\(Z3 Z2 (f.1.C++[Pend.mk f.2.1 f.2.2]) (s.d.C++List.map (qI s) (List.range y.1)))/\f.1.A=s.d.A/\(Z3 Z0 f.1.keep s.d.keep)/\s.ep=s.ep/\(Z3 Y6 s.L s.L)/\s.S=s.S/\w/\s.J=s.J/\True))/\p/\True)/\Lt (L9 s lsn-y.1) (L9 s lsn-x.1)) (∃(X:Dsk),((((Z3 Z6 s.d.E X.E)/\(Z3 Z2 r X.C)/\s.d.A=X.A/\(Z3 Z0 s.d.keep X.keep)/\True)/\True)/\kT X/\cB X)/\br (U7 X).2 ((yJ {s with d:=(U7 X).1,S:=lsn} z.1)/\(U7 X).2=z.2/\True) ((yJ {s with d:=(U7 X).1} z.1)/\(U7 X).2=z.2/\True)))) ⟨λhc=>?_,λhc=>?_⟩
 ·rw[o8 (B3 hc)];exact P2
 ·have hc:=k5 hc;refine⟨Z1 Z9,⟨⟨0,L8 _⟩,⟨rfl,Y1,Y1,W5,Z5⟩,⟨rfl,rfl,Y1,⟨W6,λi _=>W6⟩,P2⟩,P2⟩,λx=>⟨λhx=>?_,λhx=>?_⟩⟩
  ·have hlt:x.1<L9 s lsn:=by have:=B3 hx;unfold L9;omega
   obtain⟨e,B,q⟩:=n x.1 hlt;rw[show(s.S+(x.1:Int)+1-1).toNat=s.S.toNat+x.1 by omega]
   refine⟨Z1 Z9,Z1 Z9,Z1 Z9,⟨Z9,Z9⟩,_,⟨Y1,B⟩,(qP s x.1,(qI s x.1).at_,P0 (s.L.getD (s.S.toNat+x.1) dz)),⟨⟨P2,by show _=(qI s x.1).at_;rw[e];omega,rfl,Z5⟩,?_⟩,Z1 Z9,⟨x.1+1,hlt⟩,⟨⟨rfl,⟨rfl,rfl⟩,⟨rfl,rfl⟩,W5,Z5⟩,⟨rfl,rfl,⟨rfl,W2 _ _⟩,⟨congrArg List.length (xE s x.1),λi _=>congrArg (λL=>Z2 L i) (xE s x.1)⟩,P2⟩,P2⟩,V2.ext_lt hlt⟩
   show(s.d.C++List.map (qI s) (List.range _)).length<=1048576;simp only[J6,List.length_map,j_g];omega
  ·have hx:x.1=L9 s lsn:=by have:=x.2;have:=k5 hx;unfold L9 at*;omega
   rw[hx,m5 hc];refine⟨qP s (L9 s lsn),⟨⟨P2,Z5⟩,W⟩,λY=>⟨⟨Y1,Y1,rfl,Y1,rfl,Y1,(if_pos Y).symm,P2⟩,P2⟩,λY=>⟨⟨Y1,Y1,rfl,Y1,rfl,Y1,(if_neg (by rw[Y];simp)).symm,P2⟩,P2⟩⟩
def b9a(l:Bz)(L:List (Bz)):Nat->Ann
 |0=>.one (Up L.length) (λx=>⟨[(0,.osl 1 0 (l++V6 L x.1).length),(13,yC L),(14,Ji L.length),(15,Ji x.1)],[none,some (.bys 5 (l++V6 L x.1))]⟩) (λx=>L.length-x.1) [.arr 0,.arr 2] [.arr 0,.at_ 0] (λ_=>Y5)
 |_=>.none
def a01:Con:=.reff ⟨Bz×List (Bz),λx=>[.osl 0 0 x.1.length,yC x.2],λx=>[some (.bys 5 x.1)],λx=>.osl 1 0 (x.1++R7 x.2).length,λx=>[none,some (.bys 5 (x.1++R7 x.2))],λx=>x.1.length<=1000/\k8 x.2⟩
theorem bP:GK 189 a01:=gk func189<|by
 rintro⟨l,L⟩ ⟨g,h,h3⟩;dsimp only at g h h3;have f:List.take l.length l++List.take 1 (List.drop 0 (List.map P9 [IntKind.u8.wrap (L.length:Int)]))=l++V6 L 0:=by rw[j_j];rfl
 refine r9 gN func189 (b9a l L) [[.arr 0,.arr 1]] (α:=let z:=(L.length:Int);O1 IntKind.u8 (IntKind.u8.wrap z)/\(Le 1 1/\Le l.length l.length/\U2 l.length 1 1)/\(∃(x:Up L.length),((0=0/\l.length+1=(l++V6 L x.1).length)/\(Z3 Z6 L L)/\z=z/\0=(x.1:Int)/\True)/\True/\List.take l.length l++List.take 1 (List.drop 0 (List.map P9 [IntKind.u8.wrap z]))=l++V6 L x.1/\True)/\∀(x:Up L.length),let u:=(x.1:Int);let q:=(L.getD u.toNat []).length;let p:=(l++V6 L x.1).length;let r:=(List.take p (l++V6 L x.1)++List.take 1 (List.drop 0 (List.map P9 [IntKind.u8.wrap (↑q:Int)])));bd (u<z) (V3 u L.length/\O1 IntKind.u8 (IntKind.u8.wrap (↑q:Int))/\(Le 1 1/\Le p p/\U2 p 1 1)/\(Le (p+1) r.length/\U2 (p+1) q 1)/\Ri (u+1)/\∃(y:Up L.length),(((0=0/\p+1+q=(l++V6 L y.1).length)/\(Z3 Z6 L L)/\z=z/\u+1=(y.1:Int)/\True)/\True/\List.take (p+1) r++L.getD u.toNat []=l++V6 L y.1/\True)/\Lt (L.length-y.1) (L.length-x.1)) (((0=0/\p=(l++R7 L).length)/\True)/\True/\l++V6 L x.1=l++R7 L/\True)) ⟨N9 _,⟨U9 _,U9 _,O6⟩,⟨⟨0,L8 _⟩,⟨⟨rfl,by simp[V6]⟩,⟨rfl,W2 _ _⟩,rfl,rfl,Z5⟩,Z5,f,Z5⟩,λx=>⟨λhc=>?_,λhc=>?_⟩⟩
 ·have hlt:=Y0 hc;have f1:=wE L h3 x.1 Z9
  have F:=h3 x.1 hlt;rw[C8];have i:(l++V6 L x.1).length<=1100000:=by rw[J6];omega
  have e:List.take (l++V6 L x.1).length (l++V6 L x.1)++List.take 1 (List.drop 0 (List.map P9 [IntKind.u8.wrap ((L.getD x.1 []).length:Int)]))=l++V6 L x.1++[zC (L.getD x.1 []).length]:=by
   rw[j_j];rfl
  rw[e];have d:(l++V6 L x.1++[zC (L.getD x.1 []).length]).length=(l++V6 L x.1).length+1:=by rw[J6];rfl
  refine⟨X9 hlt,N9 _,⟨U9 _,U9 _,O6⟩,⟨by rw[d];exact U9 _,O6⟩,Z1 Z9,⟨x.1+1,hlt⟩,⟨⟨⟨rfl,?_⟩,Y1,rfl,W5,Z5⟩,Z5,?_,Z5⟩,V2.ext_lt hlt⟩
  ·simp only[V6,J6,List.length_cons,List.length_nil];omega
  ·rw[←d,j_j];simp only[V6,List.append_assoc]
 ·have hx:x.1=L.length:=by have:=x.2;have:=X3 hc;omega
  rw[hx];exact Y1
def b2I:Con:=.reff ⟨Bz,λl=>[.osl 0 0 l.length],λl=>[some (.bys 5 l)],λl=>.osl 1 0 (l++z7 (j3 l)).length,λl=>[none,some (.bys 5 (l++z7 (j3 l)))],λl=>l.length<=1000000⟩
theorem a8a:GK 109 b2I:=gk func109<|by
 intro(l:Bz) (hl:l.length<=1000000);have e:(z7 (j3 l)).length=4:=rfl;have h:=a1Q l;refine r9 (gC oY (gC a2N gN)) func109 Y5 [[.arr 0,.arr 1]] (α:=∃(x:(uJ IntKind.u32).ι),(Le (0+l.length) l.length/\(List.take l.length (List.drop 0 l)=x/\True)/\v5 x)/\∃(X:Nat),((IntKind.i64.wrap (↑(j3 x):Int)=(X:Int)/\True)/\X<4294967296)/\(Le l.length l.length/\U2 l.length 4 1)/\((0=0/\l.length+4=(l++z7 (j3 l)).length)/\True)/\True/\List.take l.length l++z7 X=l++z7 (j3 l)/\True) ⟨l,⟨C9,⟨a0k,Z5⟩,a0v⟩,j3 l,⟨⟨?_,Z5⟩,h⟩,⟨U9 _,O6⟩,⟨⟨rfl,by rw[J6,e]⟩,Z5⟩,Z5,by rw[j_j],Z5⟩
 rw[IntKind.wrap_i64];omega
def a5e:Con:=.rmk ⟨Int×Pg,λx=>[Ji x.1,.agg x.2.ts],λ_=>[],λx=>.osl 0 0 (S3 x.1 x.2).length,λx=>[some (.bys 5 (S3 x.1 x.2))],λx=>PgP x.2⟩
theorem a2u:GK 188 a5e:=gk func188<|by
 rintro⟨no,p⟩ ⟨j,g,l,d⟩;dsimp only at j g l d;have f:k8 p.sl:=⟨Z9,λi hi=>Nat.le_trans (d i hi) U4⟩
 have h:=wE p.sl f.2 p.sl.length (U9 _);have h:(R7 p.sl).length<=5000:=by unfold R7;omega
 have e:List.map P9 [(112:Int),IntKind.u8.wrap no,IntKind.u8.wrap (p.Q.fdiv 256),IntKind.u8.wrap p.Q]=[P9 112,zC no]++wZ p.Q.toNat:=by
  unfold wZ;rw[show((p.Q.toNat:Nat):Int)=p.Q by omega,Int.fdiv_one]
  rfl
 refine⟨r9 (gC bP (gC a8a gN)) func188 Y5 [[.arr 3]] (α:=let q:=(p.Q.fdiv (256:Int));Nn (8:Int)/\(O1 IntKind.u8 (112:Int)/\O1 IntKind.u8 (IntKind.u8.wrap no)/\O1 IntKind.u8 (IntKind.u8.wrap q)/\O1 IntKind.u8 (IntKind.u8.wrap p.Q))/\∃(x:(Bz×List (Bz))),(((0=0/\4=x.1.length)/\(Z3 Z6 p.sl x.2)/\True)/\(List.map P9 [(112:Int),IntKind.u8.wrap no,IntKind.u8.wrap q,IntKind.u8.wrap p.Q]=x.1/\True)/\x.1.length<=1000/\k8 x.2)/\∃(X:(Bz)),(((0=0/\(x.1++R7 x.2).length=X.length)/\True)/\(x.1++R7 x.2=X/\True)/\X.length<=1000000)/\((0=0/\(X++z7 (j3 X)).length=(S3 no p).length)/\True)/\X++z7 (j3 X)=S3 no p/\True) ⟨tJ,⟨(i8 _).2 Z9,N9 _,N9 _,N9 _⟩,([P9 112,zC no]++wZ p.Q.toNat,p.sl),⟨Y1,⟨e,Z5⟩,by simp[wZ],f⟩,sT no p,⟨⟨⟨rfl,rfl⟩,Z5⟩,⟨rfl,Z5⟩,?_⟩,⟨⟨rfl,rfl⟩,Z5⟩,rfl,Z5⟩,rfl,B1 trivial v8⟩
 unfold sT;rw[J6,J6];have n:(wZ p.Q.toNat).length=2:=rfl;simp only[List.length_cons,List.length_nil];omega
def a76:Con:=.rmk ⟨Unit,λ_=>[],λ_=>[],λ_=>.agg (Pg.tm ⟨0,[[],[],[],[]]⟩ 0),λ_=>[u5 [[],[],[],[]]],λ_=>True⟩
theorem a5P(h:
  (Nn (4:Int)/\LeI (4:Int) (4:Int)/\mB 16 4 140737488355328/\Lt 4 9223372036854775808)/\(((0:Int)=0/\(0=0/\4=4)/\True)/\True)/\(4=4/\Z7 4 (λ(x:Nat)=>[T.str []]) (Z6 [[],[],[], []]))/\True):
  G8 prog 168 [] [] (.agg (Pg.tm ⟨0,[[],[],[],[]]⟩ 0)) [u5 [[],[],[],[]]]:=
 r9 gN func168 Y5 [[.arr 1]] h
theorem a5q:GK 168 a76:=gk func168<|λ_ _=>⟨a5P ⟨⟨tJ,a9Z,a5n,H3⟩,Y1,⟨rfl,hV⟩,Z5⟩,rfl,i7 _⟩
def b2t:Con:=.reff ⟨Bz×Bool,λ_=>[.ref 0 0 0],λx=>[rdr x.1 x.2],λx=>.osl 1 0 (T4 x.1 x.2).out.length,λx=>[rdr (T4 x.1 x.2).l (T4 x.1 x.2).fl,u5 (T4 x.1 x.2).out],λ_=>True⟩
theorem a6j:GK 202 b2t:=gk func202<|by
 rintro⟨l,fl⟩ _;have n:=r6 l;refine r9 (gC eR (gC rD gN)) func202 (a5d l fl) [a5O] (α:=let w:=(T4 l fl);(∃(x:Up ((numR l).toNat)),let q:=(F3 l fl x.1);((0=0/\0=0)/\(0=0/\0=q.out.length)/\numR l=numR l/\0=(x.1:Int)/\True)/\(oo (List.drop 1 l=q.l/\(fl||l.isEmpty)=q.fl/\True))/\(0=q.out.length/\Z7 0 (tk 1 []) (Z6 q.out))/\True)/\∀(x:Up ((numR l).toNat)),let j:=(x.1:Int);let p:=(F3 l fl x.1);let v:=(numR p.l);let u:=(List.drop 1 p.l);let z:=p.out.length;bd (j<numR l) (r8 v/\(Le 1 1/\Le p.out.length z/\U2 p.out.length 1 16)/\Ri (j+1)/\∃(y:Up ((numR l).toNat)),let r:=(F3 l fl y.1);(((0=0/\0=0)/\(0=0/\z+1=r.out.length)/\numR l=numR l/\j+1=(y.1:Int)/\True)/\(oo (Q3 u v=r.l/\(p.fl||p.l.isEmpty||big u v)=r.fl/\True))/\(z+1=r.out.length/\Z7 (z+1) (X6 (Z6 p.out) p.out.length (tk 1 [T.str (S7 u v)])) (Z6 r.out))/\True)/\Lt ((numR l).toNat-y.1) ((numR l).toNat-x.1)) (((0=0/\z=w.out.length)/\True)/\(oo (p.l=w.l/\p.fl=w.fl/\True))/\(Z3 Z6 p.out w.out)/\True)) ⟨⟨⟨0,L8 _⟩,Y1,Y1,⟨rfl,qN _ _⟩,Z5⟩,λx=>⟨λhc=>?_,λhc=>?_⟩⟩
 ·have t:(x.1:Int)<numR l:=B3 hc;have h:=uR l fl x.1;have M:=r6 (F3 l fl x.1).l;exact⟨⟨M.1,Z9⟩,⟨U9 _,U9 _,Z9,Z9⟩,Z1 Z9,⟨x.1+1,Z9⟩,⟨⟨Y1,⟨rfl,(congrArg (· +1) h).trans (uR l fl (x.1+1)).symm⟩,rfl,D9,Z5⟩,Y1,⟨(congrArg (· +1) h).trans (uR l fl (x.1+1)).symm,a2B _ _⟩,Z5⟩,mY⟩
 ·have hge:¬ (x.1:Int)<numR l:=k5 hc;have hx:=x.2;have he:x.1=(numR l).toNat:=by omega
  rw[he];exact Y1
def a48:Con:=.rmk ⟨Int×Bz,λx=>[Ji x.1,.bys x.2],λ_=>[],λx=>.tup [.agg ((O2 x.1 x.2).tm 0),Ji (J4 x.1 x.2)],λx=>[u5 (O2 x.1 x.2).sl],λx=>RdB x.2⟩
theorem a2L:GK 169 a48:=gk func169<|by
 rintro⟨no,b⟩ (hb:b.length<=1000);have L:∀(x:Bz),(S7 x 4).length=4:=λx=>by
  unfold S7;split
  ·exact List.length_replicate
  ·rename_i h;have:¬4>(x.length:Int):=by simpa[big] using h
   rw[List.length_take,show(4:Int).toNat=4 from rfl]
   omega
 refine⟨r9 (gC sW (gC rD (gC a2E (gC a6j (gC rK (gC pR gN)))))) func169 Y5 [[.nilS 0 [0,1] 0 1,.arr 4],[.arr 2],[.nilS 0 [0,1] 0 1,.arr 1]] (α:=let w:=(O2 no b);let r:=w.sl.length;let u:=(0=w.Q/\(0=0/\0=r)/\True);bd ((b.length:Int)>65536) (((u/\2=J4 no b/\True)/\True)/\(0=r/\Z7 0 (λ(x:Nat)=>[]) (Z6 w.sl))/\True) (∃(x:tR.ι),let y:=(0=r/\Z7 0 (λ(x:Nat)=>[]) (Z6 w.sl));let p:=(S7 (X0 x) (4:Int));let j:=(↑(p.getD 1 (0:UInt8)).toNat:Int);let z:=(↑(p.getD 0 (0:UInt8)).toNat:Int);((b=x/\True)/\v5 x)/\br (!R3 x) (((u/\8=J4 no b/\True)/\True)/\y/\True) (r8 (4:Int)/\lY (2:Int) p.length/\∃(e:a5A.ι),((List.drop 2 p=e/\True)/\mX e)/\∃(X:(Bz×Bool)),let v:=(T4 X.1 X.2);let k:=v.out.length;let q:=(! v.fl&&v.l.isEmpty);(((0=0/\0=0)/\True)/\((1=1/\Z7 1 (λ(d:Nat)=>[T.bys (Q3 (X0 x) (4:Int)),T.bool (false||big (X0 x) (4:Int))]) λ(x:Nat)=>[T.bys X.1,T.bool X.2])/\True)/\True)/\((! q)=false->V3 (0:Int) p.length)/\((! q||z !=112)=false->V3 (1:Int) p.length)/\∃(d:xG.ι),((! q||z !=112||IntKind.i64.wrap j !=no)=false->Le (0+k) k/\(((↑(be e):Int)=d.Q/\(Z3 Z6 v.out d.sl)/\True)/\True)/\PgB d)/\br (! q||z !=112||IntKind.i64.wrap j !=no|| !j8 d) (((u/\3=J4 no b/\True)/\True)/\y/\True) (((((↑(be e):Int)=w.Q/\(0=0/\k=r)/\True)/\0=J4 no b/\True)/\True)/\(Z3 Z6 v.out w.sl)/\True)))) ⟨λh=>?_,λ_=>⟨b,⟨Y1,Nat.le_trans hb U4⟩,λh=>?_,λh=>⟨⟨Z9,Z9⟩,⟨Z9,a0l⟩,(S7 (X0 b) 4).drop 2,⟨Y1,by unfold mX;rw[List.length_drop,L];omega⟩,
  (Q3 (X0 b) 4,false||big (X0 b) 4),P2,λ_=>⟨Z9,a0l⟩,λ_=>⟨Z9,a0l⟩,rpQ (X0 b),λ_=>⟨cM _,Y1,?_⟩,λg=>?_,λg=>?_⟩⟩⟩,rfl,i7 _⟩
 ·have:=B3 h;omega
 ·have hu:R3 b=false:=by simpa using h
  have f:(E8 no b).2=false:=by unfold E8;rw[hu];rfl
  have i:O2 no b=⟨0,[]⟩:=by unfold O2;rw[f];rfl
  have j:J4 no b=8:=by unfold J4;rw[hu];rfl
  rw[i,j];exact P2
 ·show(T4 (Q3 (X0 b) 4) (false||big (X0 b) 4)).out.length<1000000000000;unfold T4;rw[uR];have:=r6 (Q3 (X0 b) 4);omega
 ·have hu:R3 b=true:=by simpa using h
  have q:=(a9E no b hu).1;have f:(E8 no b).2=false:=by
   have g:(nE no (X0 b)|| !j8 (rpQ (X0 b)))=true:=g;rw[g] at q;exact(wG _).mp q.symm
  have i:O2 no b=⟨0,[]⟩:=by unfold O2;rw[f];rfl
  have j:J4 no b=3:=by unfold J4;rw[hu,f];rfl
  rw[i,j];exact P2
 ·have hu:R3 b=true:=by simpa using h
  have q:=a9E no b hu;have f:(E8 no b).2=true:=by
   have g:(nE no (X0 b)|| !j8 (rpQ (X0 b)))=false:=g;rw[g] at q;exact(yL _).mp q.1.symm
  have i:O2 no b=rpQ (X0 b):=by unfold O2;rw[f,q.2 f];rfl
  have j:J4 no b=0:=by unfold J4;rw[hu,f];rfl
  rw[i,j];exact P2
def DkB(x:Dsk×Nat):Prop:=1+x.2<x.1.E.length/\x.1.E.length<=1048576/\x.1.C.length<=1048576/\(U1 x.1 (1+x.2)).length<=1000
def b5u:Con:=.rmk ⟨Dsk×Nat,λx=>[.bref x.1.ts,Ji x.2],λ_=>[],λx=>.tup [.agg ((S4 x.1 x.2).1.tm 0),.bool (S4 x.1 x.2).2],λx=>[u5 (S4 x.1 x.2).1.sl],DkB⟩
theorem aQ:GK 100 b5u:=gk func100<|by
 rintro⟨d,no⟩ ⟨g,i,j,f⟩;dsimp only at g i j f;refine⟨r9 (gC dM (gC a5q (gC a2L gN))) func100 Y5 [[.arr 1]] (α:=let p:=(S4 d no);let q:=p.1.sl.length;Ri (1+(no:Int))/\∃(x:oO.ι),(((zA d x.1)/\1+(no:Int)=(x.2:Int)/\True)/\AtB x)/\br (U1 x.1 x.2==[]) (∃(x:Unit),(True/\True)/\(((0=p.1.Q/\(0=0/\4=q)/\True)/\true=p.2/\True)/\True)/\(4=q/\Z7 4 (Z6 [[],[],[],[]]) (Z6 p.1.sl))/\True) (Lt (U1 x.1 x.2).length 140737488355329/\∃(X:(Int×Bz)),let r:=(O2 X.1 X.2);(((no:Int)=X.1/\U1 x.1 x.2=X.2/\True)/\RdB X.2)/\(((r.Q=p.1.Q/\(0=0/\r.sl.length=q)/\True)/\(J4 X.1 X.2==0)=p.2/\True)/\True)/\(Z3 Z6 r.sl p.1.sl)/\True)) ⟨Z1 Z9,(d,1+no),⟨⟨eqD _,D9,Z5⟩,g,D9⟩,λh=>⟨(),Y1,?_⟩,λh=>⟨mY,((no:Int),U1 d (1+no)),⟨Y1,f⟩,?_⟩⟩,rfl,i7 _⟩
 ·have h:U1 d (1+no)=[]:=by simpa using h
  have e:S4 d no=(⟨0,[[],[],[],[]]⟩,true):=by unfold S4;rw[if_pos h]
  rw[e];exact P2
 ·have h:U1 d (1+no)≠[]:=by simpa using h
  have e:S4 d no=(O2 no (U1 d (1+no)),(E8 no (U1 d (1+no))).2):=by unfold S4;rw[if_neg h]
  rw[e];exact⟨⟨⟨P2,a0A _ _,Z5⟩,Z5⟩,Y1⟩
structure SInv(s:Sto):Prop where
 sm:SmS s
 c:s.d.C.length<=500
 pd:cB s.d
 n69:s.d.E.length=69
 su:0<=s.S/\s.S<=s.L.length
 l60:s.L.length<=60
 rc:zO s.L=true
 fr3:s.fr.length<=3
 frp:∀i,i<s.fr.length->0<=(s.fr.getD i dz).no/\(s.fr.getD i dz).no<=7/\PgP (s.fr.getD i dz).pg/\(s.fr.getD i dz).pg.Q<=s.L.length
 hd:0<=s.J/\s.J<=2
 pg:∀no,no<8->(V1 s.d no).2=true/\(U1 s.d (1+no)).length<=1000
theorem SInv.flu{s:Sto}(h:SInv s){lsn:Int}(l:lsn<=s.L.length):vD s lsn:=
 ⟨h.sm.1,by have:=h.c;omega,h.pd,h.n69,h.su.1,h.su.2,h.l60,l,λi hi=>by
  obtain⟨a,b⟩:=G9.1 h.rc i hi;exact⟨b,a8q a⟩⟩
theorem a8N{s:Sto}(h:G2 s=true)(M:SmS s):SInv s:=by
 obtain⟨⟨q,l,e⟩,_,o,j,g⟩:=(J8 s).1 h;obtain⟨c1,c2,_,_,C⟩:=(v9 s).1 q;have F:=c1b (lsn:=0) h Z9 M
 have e:=yM e;have g:=yM g;unfold yZ at j;simp only[M1,wG,P8,g7] at j;refine⟨M,c1.2.2.1,F.2.2.1,c2,e,C,l,Z9,λi hi=>?_,g,λno n=>⟨?_,?_⟩⟩
 ·have B:=j.1 i hi;unfold yU at B;simp only[zY,yL,qW] at B;obtain⟨⟨⟨⟨⟨d,_⟩,f⟩,r⟩,_⟩,_⟩:=B;have d:=yM d;have f:PgP (s.fr.getD i dz).pg:=B3 f;exact⟨d.1,d.2,f,Z9⟩
 ·have B:=o no n;unfold zN at B;simp only[zY,yL] at B;exact B.1
 ·have:=mK c1 (at_:=1+no) Z9
  omega
def B9(d:Dsk):Dsk×Bool:=if 500<=d.C.length then U7 d else(d,true)
def jY(f:Frm):Frm:=⟨f.no,f.pg,false,0⟩
def wrF(a:Sto)(k:Nat):Sto:=⟨wrD a.d (1+(a.fr.getD k dz).no) (S3 (a.fr.getD k dz).no (a.fr.getD k dz).pg),a.ep,a.L,a.S,a.fr.set k (jY (a.fr.getD k dz)),a.J⟩
def X5(s:Sto)(k:Nat):Sto×Bool:=if(s.fr.getD k dz).D=true then
  if(W7 s (s.fr.getD k dz).pg.Q).2=true then
   if(B9 (W7 s (s.fr.getD k dz).pg.Q).1.d).2=true then(wrF ((W7 s (s.fr.getD k dz).pg.Q).1.sd (B9 (W7 s (s.fr.getD k dz).pg.Q).1.d).1) k,true)
   else((W7 s (s.fr.getD k dz).pg.Q).1.sd (B9 (W7 s (s.fr.getD k dz).pg.Q).1.d).1,false)
  else((W7 s (s.fr.getD k dz).pg.Q).1,false)
 else(s,true)
def b5m:Con:=.reff ⟨Sto×Nat×Nat,λx=>[.ref 0 0 0,Ji x.2.1],λx=>x.1.bx x.2.2,λx=>.bool (X5 x.1 x.2.1).2,λx=>(X5 x.1 x.2.1).1.bxY x.2.2,λx=>SInv x.1/\x.2.1<x.1.fr.length⟩
theorem a06(s:Sto)(l:Int):(W7 s l).1.fr=s.fr:=by
 by_cases h:l<=s.S
 ·rw[o8 h]
 ·rw[m5 h]
theorem g8(d:Dsk):(U7 d).1.C=[]:=by
 unfold U7;split<;>rfl
theorem b7V{d:Dsk}(h:d.C=[]):cB d:=λi hi=>by rw[h] at hi;exact absurd hi (J2 _)
theorem a12{s:Sto}{l:Int}(h:cB s.d):cB (W7 s l).1.d:=by
 by_cases L:l<=s.S
 ·rw[o8 L];exact h
 ·rw[m5 L];exact b7V (g8 _)
theorem a3R{s:Sto}{l:Int}(h:s.d.C.length<=500):(W7 s l).1.d.C.length<=500:=by
 by_cases L:l<=s.S
 ·rw[o8 L];exact h
 ·rw[m5 L];dsimp only;rw[g8];exact L8 _
theorem b9{s:Sto}{k:Nat}(h:(s.fr.getD k dz).D=false):X5 s k=(s,true):=by
 unfold X5;rw[if_neg gD]
theorem sJ{s:Sto}{k:Nat}(h:(s.fr.getD k dz).D=true)(u:(W7 s (s.fr.getD k dz).pg.Q).2=false):X5 s k=((W7 s (s.fr.getD k dz).pg.Q).1,false):=by
 unfold X5;rw[if_pos h,if_neg (by rw[u];simp)]
theorem nF{s:Sto}{k:Nat}(h:(s.fr.getD k dz).D=true)(u:(W7 s (s.fr.getD k dz).pg.Q).2=true)(B:(B9 (W7 s (s.fr.getD k dz).pg.Q).1.d).2=false):X5 s k=((W7 s (s.fr.getD k dz).pg.Q).1.sd (B9 (W7 s (s.fr.getD k dz).pg.Q).1.d).1,false):=by
 unfold X5;rw[if_pos h,if_pos u,if_neg (by rw[B];simp)]
theorem pD{s:Sto}{k:Nat}(h:(s.fr.getD k dz).D=true)(u:(W7 s (s.fr.getD k dz).pg.Q).2=true)(B:(B9 (W7 s (s.fr.getD k dz).pg.Q).1.d).2=true):X5 s k=(wrF ((W7 s (s.fr.getD k dz).pg.Q).1.sd (B9 (W7 s (s.fr.getD k dz).pg.Q).1.d).1) k,true):=by
 unfold X5;rw[if_pos h,if_pos u,if_pos B]
theorem sA{d:Dsk}(h:500<=d.C.length):B9 d=U7 d:=if_pos h
theorem pM{d:Dsk}(h:¬500<=d.C.length):B9 d=(d,true):=if_neg h
theorem b7G{L:List Frm}{k:Nat}(hk:k<L.length):V0 L.length (setRow (setRow (Y9 L) k 3 [T.bool false]) k 4 [T.int IntKind.i64 0]) (Y9 (L.set k (jY (L.getD k dz)))):=a6H λi _=>by
 have l:∀j,(Y9 L j).length=5:=λ_=>rfl
 by_cases h:i=k
 ·subst h;have e:(L.set i (jY (L.getD i dz))).getD i dz=jY (L.getD i dz):=by rw[Q8,j_k hk];rfl
  unfold setRow;rw[gA rfl];unfold Y9;rw[e];rfl
 ·have e:(L.set k (jY (L.getD k dz))).getD i dz=L.getD i dz:=by rw[Q8,bI (Ne.symm h),←Q8]
  rw[K6 (by rw[T2 (by rw[l];decide),l];decide) h,K6 (by rw[l];decide) h]
  unfold Y9;rw[e]
theorem a8Y{p:Prop}(h:p:=by rw[sA hc];exact hb):p:=h
theorem a0Z:GK 123 b5m:=gk func123<|by
 rintro⟨s,k,v⟩ ⟨h,g⟩;dsimp only at h g;have i:=h.frp k g;have F:=h.flu i.2.2.2;have r:=a06 s (s.fr.getD k dz).pg.Q;have u:=cV F h.sm;have t:=a12 (l:=(s.fr.getD k dz).pg.Q) h.pd;have q:=a3R (l:=(s.fr.getD k dz).pg.Q) h.c;have j:= @sJ s k;have O:= @nF s k;have o:= @pD s k;refine r9 (gC a4D (gC a9f (gC a2u (gC a4X gN)))) func123 Y5 [[.box 0,.arr 1,.arr 2,.arr 3,.arr 4,.arr 5,.arr 11,.arr 9],[.box 0,.arr 1,.arr 2,.arr 3,.arr 4,.arr 5,.arr 9,.arr 7],[.box 0,.arr 1,.arr 2,.arr 3,.arr 4,.arr 5,.arr 8,.arr 9],[.box 0,.arr 1,.arr 2,.arr 3,.arr 4,.arr 5,.arr 6,.arr 7],c10] (α:=let pn:=(X5 s k).1.L.length;let pk:=(X5 s k).1.d.C.length;let pj:=(X5 s k).1.d.E.length;let ph:=(X5 s k).1.d.keep.length;let pf:=(false=(X5 s k).2/\True);let pe:=(0=0/\0=0);let i:=(X5 s k).1.L;let c:=(true=(X5 s k).2/\True);let a:=(X5 s k).1.d.C;let g:=(X5 s k).1.d.E;let n:=(X5 s k).1.d.keep;let j:=(Y9 (X5 s k).1.fr);let z:=(X5 s k).1.fr.length;let p:=(0+(k:Int).toNat);let pd:=(s.fr.getD p dz);V3 (k:Int) s.fr.length/\Lt p s.fr.length/\((! pd.D)=true->c/\oM s (X5 s k).1/\(Z3 Z6 s.d.E g)/\True/\True/\(Z3 Y6 s.L i)/\(v=v/\s.fr.length=z/\V0 s.fr.length (Y9 s.fr) j)/\(Z3 Z2 s.d.C a)/\(Z3 Z0 s.d.keep n)/\True)/\((! pd.D)=false->Lt p s.fr.length/\∃(x:(Sto×Int×Nat)),let q:=(W7 x.1 x.2.1);let pc:=q.1.fr.length;let y:=(q.1.fr.getD p dz);let r:=((↑q.1.d.C.length:Int)≥(500:Int));((pe/\pd.pg.Q=x.2.1/\True)/\(LnS (v) (x.2.2) s x.1)/\vD x.1 x.2.1)/\∃(e:(Sto×Nat)),let pm:=e.1.fr;let b:=pm.length;let m:=(U7 e.1.d);let w:=(! q.2||decide r&& ! m.2);let u:=(pm.getD p dz);((! q.2)=false->decide r=true->(pe/\True)/\(LnS (x.2.2) (e.2) q.1 e.1)/\kT e.1.d/\cB e.1.d)/\((! q.2)=false->decide r=true->(w=true->pf/\oM {e.1 with d:=m.1} (X5 s k).1/\(Z3 Z6 m.1.E g)/\True/\True/\(Z3 Y6 e.1.L i)/\(e.2=v/\b=z/\V0 pm.length (Y9 pm) j)/\(Z3 Z2 m.1.C a)/\(Z3 Z0 m.1.keep n)/\True)/\(w=false->Lt p b/\O1 .i64 (1+u.no)/\Lt p b/\Lt p b/\∃(x:(Int×Pg)),let l:=(S3 x.1 x.2).length;(PoB e.2 e.2 p pm.length u.pg.sl.length u.pg.sl.length/\(u.no=x.1/\(u.pg.Q=x.2.Q/\(Z3 Z6 u.pg.sl x.2.sl)/\True)/\True)/\PgP x.2)/\Le (0+l) l/\∃(X:(Sto×Int×Bz×Nat)),let pa:=(X.1.d.C++[Pend.mk X.2.1 X.2.2.1]);((pe/\1+u.no=X.2.1/\List.take l (List.drop 0 (S3 x.1 x.2))=X.2.2.1/\True)/\(oM {e.1 with d:=m.1} X.1/\(Z3 Z6 m.1.E X.1.d.E)/\(Z3 Z2 m.1.C X.1.d.C)/\(Z3 Z0 m.1.keep X.1.d.keep)/\(Z3 Y6 e.1.L X.1.L)/\(e.2=X.2.2.2/\b=X.1.fr.length/\V0 pm.length (Y9 pm) (Y9 X.1.fr))/\True)/\X.1.d.C.length<=1048576)/\a1C p X.1.fr.length [T.bool (X.1.fr.getD p dz).D]/\a1C p X.1.fr.length [Ji (X.1.fr.getD p dz).first]/\c/\(1=1/\1=1/\(0=0/\X.1.d.E.length=pj)/\(0=0/\pa.length=pk)/\X.1.d.A=(X5 s k).1.d.A/\(0=0/\X.1.d.keep.length=ph)/\X.1.ep=(X5 s k).1.ep/\(0=0/\X.1.L.length=pn)/\X.1.S=(X5 s k).1.S/\(0=0/\X.1.fr.length=z)/\X.1.J=(X5 s k).1.J/\True)/\(Z3 Z6 X.1.d.E g)/\True/\True/\(Z3 Y6 X.1.L i)/\(X.2.2.2=v/\X.1.fr.length=z/\V0 X.1.fr.length (setRow (setRow (Y9 X.1.fr) p 3 [T.bool false]) p 4 [Ji 0]) j)/\(Z3 Z2 pa a)/\(Z3 Z0 X.1.d.keep n)/\True))/\(((! q.2)=false->decide r=true->False)->(w=true->pf/\oM q.1 (X5 s k).1/\(Z3 Z6 q.1.d.E g)/\True/\True/\(Z3 Y6 q.1.L i)/\(x.2.2=v/\pc=z/\V0 q.1.fr.length (Y9 q.1.fr) j)/\(Z3 Z2 q.1.d.C a)/\(Z3 Z0 q.1.d.keep n)/\True)/\(w=false->Lt p pc/\O1 .i64 (1+y.no)/\Lt p pc/\Lt p pc/\∃(X:(Int×Pg)),let t:=(S3 X.1 X.2).length;(PoB x.2.2 x.2.2 p q.1.fr.length y.pg.sl.length y.pg.sl.length/\(y.no=X.1/\(y.pg.Q=X.2.Q/\(Z3 Z6 y.pg.sl X.2.sl)/\True)/\True)/\PgP X.2)/\Le (0+t) t/\∃(f:(Sto×Int×Bz×Nat)),let pi:=f.1.fr;let pb:=(f.1.d.C++[Pend.mk f.2.1 f.2.2.1]);((pe/\1+y.no=f.2.1/\List.take t (List.drop 0 (S3 X.1 X.2))=f.2.2.1/\True)/\(LnS (x.2.2) (f.2.2.2) q.1 f.1)/\f.1.d.C.length<=1048576)/\a1C p pi.length [T.bool (pi.getD p dz).D]/\a1C p pi.length [Ji (pi.getD p dz).first]/\c/\(1=1/\1=1/\(0=0/\f.1.d.E.length=pj)/\(0=0/\pb.length=pk)/\f.1.d.A=(X5 s k).1.d.A/\(0=0/\f.1.d.keep.length=ph)/\f.1.ep=(X5 s k).1.ep/\(0=0/\f.1.L.length=pn)/\f.1.S=(X5 s k).1.S/\(0=0/\pi.length=z)/\f.1.J=(X5 s k).1.J/\True)/\(Z3 Z6 f.1.d.E g)/\True/\True/\(Z3 Y6 f.1.L i)/\(f.2.2.2=v/\pi.length=z/\V0 pi.length (setRow (setRow (Y9 pi) p 3 [T.bool false]) p 4 [Ji 0]) j)/\(Z3 Z2 pb a)/\(Z3 Z0 f.1.d.keep n)/\True)))) ?_
 rw[C8,show 0+k=k from D8 k]
 refine⟨X9 g,g,λhd=>?_,λhd=>⟨g,(s,(s.fr.getD k dz).pg.Q,v),⟨Y1,⟨Y1,Y1,Y1,Y1,Y1,H4,Z5⟩,F⟩,((W7 s (s.fr.getD k dz).pg.Q).1,v),λ_ _=>⟨P2,⟨Y1,Y1,Y1,Y1,Y1,H4,Z5⟩,u.1,t⟩,λhu hc=>⟨λhb=>?_,λhb=>?_⟩,λn=>⟨λhb=>?_,λhb=>?_⟩⟩⟩
 ·rw[b9 nC]
  exact⟨Y1,Y1,Y1,Z5,Z5,Y1,H4,Y1,Y1,Z5⟩
 all_goals
  have hd:(s.fr.getD k dz).D=true:=nC
  replace j:=j hd;replace O:=O hd;replace o:=o hd;dsimp only at*;generalize W7 s (s.fr.getD k dz).pg.Q=A at*;obtain⟨a,up⟩:=A;dsimp only at*;rw[←r] at g i
 ·have hu:up=true:=(yL _).mp hu;subst hu;have hc:500<=a.d.C.length:=by have:=B3 hc;omega
  have hb:(U7 a.d).2=false:=by simp at hb;exact hb.2
  rw[O rfl a8Y,sA hc]
  exact⟨Y1,Y1,Y1,Z5,Z5,Y1,H4,Y1,Y1,Z5⟩
 ·have hu:up=true:=(yL _).mp hu;subst hu;have hb:(U7 a.d).2=true:=by rw[hc] at hb;simpa using hb
  have hc:500<=a.d.C.length:=by have:=B3 hc;omega
  rw[o rfl a8Y,sA hc]
  exact⟨g,Z1 Z9,g,g,((a.fr.getD k dz).no,(a.fr.getD k dz).pg),⟨⟨rfl,g,U9 _⟩,Y1,i.2.2.1⟩,cM _,(a.sd (U7 a.d).1,1+(a.fr.getD k dz).no,S3 (a.fr.getD k dz).no (a.fr.getD k dz).pg,v),⟨⟨Y1,rfl,a0k,Z5⟩,⟨Y1,Y1,Y1,Y1,Y1,H4,Z5⟩,by show(U7 a.d).1.C.length<=_;rw[g8];exact L8 _⟩,⟨g,rfl⟩,⟨g,rfl⟩,Y1,⟨rfl,rfl,Y1,Y1,rfl,Y1,rfl,Y1,rfl,⟨rfl,w6.symm⟩,Y1⟩,Y1,Z5,Z5,Y1,⟨rfl,w6.symm,b7G g⟩,Y1⟩
 ·cases up with
  |false=>
   rw[j rfl];exact⟨Y1,Y1,Y1,Z5,Z5,Y1,H4,Y1,Y1,Z5⟩
  |true=>
   have:decide ((a.d.C.length:Int)≥500)=false:=by
    cases hd:decide ((a.d.C.length:Int)≥500) with
    |false=>rfl
    |true=>exact(n rfl hd).elim
   rw[this] at hb;simp at hb
 ·have hu:up=true:=by cases up<;>simp at hb ⊢
  subst hu;have hc:¬500<=a.d.C.length:=λhc=>n rfl (pH Z9)
  rw[o rfl (by rw[pM hc]),pM hc]
  exact⟨g,Z1 Z9,g,g,((a.fr.getD k dz).no,(a.fr.getD k dz).pg),⟨⟨rfl,g,U9 _⟩,Y1,i.2.2.1⟩,cM _,(a,1+(a.fr.getD k dz).no,S3 (a.fr.getD k dz).no (a.fr.getD k dz).pg,v),⟨⟨Y1,rfl,a0k,Z5⟩,⟨Y1,Y1,Y1,Y1,Y1,H4,Z5⟩,by show a.d.C.length<=_;omega⟩,⟨g,rfl⟩,⟨g,rfl⟩,⟨rfl,Z5⟩,⟨rfl,rfl,⟨rfl,rfl⟩,⟨rfl,rfl⟩,rfl,⟨rfl,rfl⟩,rfl,⟨rfl,rfl⟩,rfl,⟨rfl,w6.symm⟩,rfl,Z5⟩,⟨rfl,W2 _ _⟩,Z5,Z5,⟨rfl,W2 _ _⟩,⟨rfl,w6.symm,b7G g⟩,⟨rfl,W2 _ _⟩,⟨rfl,W2 _ _⟩,Z5⟩
theorem fT(L D:List Pend)(a:Int):∀i,i<=L.length->I3 (L++D) a i=I3 L a i
 |0,_=>rfl
 |i+1,h=>by
  unfold I3;rw[show(L++D).getD i dz=L.getD i dz by rw[Q8,tI Z9,←Q8],fT L D a i Z9]
theorem lI(d:Dsk)(a:Int)(t:Bz)(n:Nat):U1 (wrD d a t) n=if a=n then t else U1 d n:=by
 have e:(d.C++[(⟨a,t⟩:Pend)]).getD d.C.length dz=⟨a,t⟩:=by rw[Q8,tD (U9 _)];simp
 have g:I3 (d.C++[(⟨a,t⟩:Pend)]) n (d.C.length+1)=if a=n then some t else I3 d.C n d.C.length:=by
  conv=>lhs;unfold I3
  rw[e,fT _ _ _ _ (U9 _)]
 have f:U1 (wrD d a t) n=(I3 (d.C++[(⟨a,t⟩:Pend)]) n (d.C.length+1)).getD (d.E.getD n []):=by
  unfold U1 wrD;dsimp only;rw[show(d.C++[(⟨a,t⟩:Pend)]).length=d.C.length+1 by simp]
 rw[f,g];split<;>rfl
theorem b6k{s:Sto}{l:Int}(h:vD s l){n:Nat}(N:n<9):∀i,i<=L9 s l->U1 (qP s i) n=U1 s.d n
 |0,_=>by
  have:qP s 0=s.d:=by unfold qP;simp
  rw[this]
 |i+1,hi=>by
  have e:qP s (i+1)=wrD (qP s i) (qI s i).at_ (qI s i).d:=by
   unfold qP wrD;dsimp only;rw[←xE]
  obtain⟨f,_,_⟩:=lN h (i:=i) Z9
  have g:=h.2.2.2.2.1;rw[e,lI,if_neg (by rw[f];omega),b6k h N i Z9]
theorem b0o{sec:List (Bz)}{C:List Pend}{n:Nat}(hn:n<sec.length)(hp:∀i,i<C.length->0<=(C.getD i dz).at_):∀i,i<=C.length->(zI sec C (λ_=>true) i).getD n []=(I3 C n i).getD (sec.getD n [])
 |0,_=>rfl
 |i+1,hi=>by
  have I:=b0o hn hp i Z9
  have d:=hp i Z9
  rw[c1S rfl];unfold I3;by_cases h:(C.getD i dz).at_=n
  ·rw[if_pos h,show(C.getD i dz).at_.toNat=n by omega,Q8,j_k (by rw[A9];exact hn)]
   rfl
  ·rw[if_neg h,Q8,bI Z9,←Q8,I]
theorem c11{d:Dsk}(h:(U7 d).2=true):U7 d=(⟨zI d.E d.C (λ_=>true) d.C.length,[],d.A,d.keep⟩,true):=by
 unfold U7 at h ⊢;split at h
 ·cases h
 ·rw[if_neg (by assumption)]
theorem a6q{d:Dsk}{n:Nat}(h:(U7 d).2=true)(hp:cB d)(N:n<d.E.length):U1 (U7 d).1 n=U1 d n:=by
 rw[c11 h];exact b0o N (λi hi=>(hp i hi).1) _ (U9 _)
theorem c5t{s:Sto}{l:Int}(h:vD s l)(u:(W7 s l).2=true){n:Nat}(N:n<9):U1 (W7 s l).1.d n=U1 s.d n:=by
 by_cases L:l<=s.S
 ·rw[o8 L]
 ·rw[m5 L] at u ⊢;have:=h.2.2.2.1;rw[a6q u (a1g h).2 (show n<s.d.E.length by omega),b6k h N _ (U9 _)]
theorem b8m{d:Dsk}{n:Nat}(h:(B9 d).2=true)(hp:cB d)(N:n<d.E.length):U1 (B9 d).1 n=U1 d n:=by
 by_cases C:500<=d.C.length
 ·rw[sA C] at h ⊢;exact a6q h hp N
 ·rw[pM C]
theorem a2m(d:Dsk):(U7 d).1.E.length=d.E.length:=by
 unfold U7;split
 ·exact A9 _ _ _ _
 ·exact A9 _ _ _ _
theorem b0n(s:Sto)(l:Int):(W7 s l).1.d.E.length=s.d.E.length:=by
 by_cases h:l<=s.S
 ·rw[o8 h]
 ·rw[m5 h];exact a2m _
theorem vC(s:Sto)(l:Int):(W7 s l).1.fr=s.fr/\(W7 s l).1.J=s.J/\(W7 s l).1.L=s.L/\(W7 s l).1.ep=s.ep:=by
 by_cases h:l<=s.S
 ·rw[o8 h];exact Y1
 ·rw[m5 h];exact Y1
theorem a4t(d:Dsk):(B9 d).1.E.length=d.E.length:=by
 unfold B9;split
 ·exact a2m d
 ·rfl
theorem a7J{d:Dsk}(h:d.C.length<=500):(B9 d).1.C.length<=499:=by
 unfold B9;split
 ·rw[g8];exact L8 _
 ·dsimp only;omega
theorem s7(s:Sto)(k:Nat):(X5 s k).1.fr.length=s.fr.length/\(X5 s k).1.J=s.J/\(X5 s k).1.L=s.L/\(X5 s k).1.ep=s.ep/\(X5 s k).1.d.E.length=s.d.E.length:=by
 obtain⟨h,g,f,i⟩:=vC s (s.fr.getD k dz).pg.Q;have e:=b0n s (s.fr.getD k dz).pg.Q;unfold X5;split
 ·split
  ·split
   ·exact⟨by show(List.set _ _ _).length=_;rw[w6];exact congrArg List.length h,g,f,i,by show(B9 _).1.E.length=_;rw[a4t,e]⟩
   ·exact⟨congrArg List.length h,g,f,i,by show(B9 _).1.E.length=_;rw[a4t,e]⟩
  ·exact⟨congrArg List.length h,g,f,i,e⟩
 ·exact Y1
theorem a42{s:Sto}{k no:Nat}(h:SInv s)(e:k<s.fr.length)(o:no<8)(i:(s.fr.getD k dz).no≠no)(hu:(X5 s k).2=true):U1 (X5 s k).1.d (1+no)=U1 s.d (1+no)/\(X5 s k).1.d.C.length<=500:=by
 have f:=h.flu (h.frp k e).2.2.2;have j:=(h.frp k e).1;have hfr:=a06 s (s.fr.getD k dz).pg.Q;have C:=a3R (l:=(s.fr.getD k dz).pg.Q) h.c;have hp:=a12 (l:=(s.fr.getD k dz).pg.Q) h.pd;have n:=b0n s (s.fr.getD k dz).pg.Q;have g:=h.n69;by_cases hd:(s.fr.getD k dz).D=true
 ·by_cases hf2:(W7 s (s.fr.getD k dz).pg.Q).2=true
  ·by_cases h5:(B9 (W7 s (s.fr.getD k dz).pg.Q).1.d).2=true
   ·rw[pD hd hf2 h5];refine⟨?_,?_⟩
    ·show U1 (wrD _ (1+((W7 s _).1.fr.getD k dz).no) _) (1+no)=_;rw[hfr,lI,if_neg Z9]
     exact(b8m h5 hp Z9).trans (c5t f hf2 Z9)
    ·have:=a7J C;show((B9 _).1.C++[_]).length<=500;rw[J6];simp only[List.length_cons,List.length_nil];omega
   ·rw[nF hd hf2 (by simpa using h5)] at hu
    cases hu
  ·rw[sJ hd (by simpa using hf2)] at hu
   cases hu
 ·rw[b9 nC]
  exact⟨rfl,h.c⟩
theorem uF{L:List Frm}{no:Int}(h:0<=frAt L no):(frAt L no).toNat<L.length:=by
 unfold frAt S5 at h ⊢;split at h
 ·rename_i i hi;have:=List.mem_range.1 (List.mem_of_find?_eq_some hi)
  simpa using this
 ·omega
theorem nO{L:List Frm}{no:Int}(h:¬0<=frAt L no){i:Nat}(hi:i<L.length):(L.getD i dz).no≠no:=by
 have e:=C5 L.length (lJ L no);rw[show S5 L.length (lJ L no)=frAt L no from rfl,tH h] at e
 have:=P8.1 e.symm i hi;unfold lJ at this
 simpa using this
theorem w7{d d':Dsk}{no:Nat}(h:U1 d (1+no)=U1 d' (1+no)):V1 d no=V1 d' no/\S4 d no=S4 d' no:=by
 unfold V1 S4;rw[h];exact Y1
def G0(no:Nat)(p:Pg):Frm:=⟨no,p,false,0⟩
def a9Q(a:Sto)(k no:Nat):Sto:=⟨a.d,a.ep,a.L,a.S,a.fr.set k (G0 no (V1 a.d no).1),(a.J+1).tmod 3⟩
def c0a(a:Sto)(no:Nat):Sto:=⟨a.d,a.ep,a.L,a.S,a.fr++[G0 no (V1 a.d no).1],a.J⟩
def Y7(s:Sto)(no:Nat):Sto×Nat×Bool:=if 0<=frAt s.fr no then(s,(frAt s.fr no).toNat,true)
 else if s.fr.length=3 then
  if(X5 s s.J.toNat).2=true then(a9Q (X5 s s.J.toNat).1 s.J.toNat no,s.J.toNat,true) else((X5 s s.J.toNat).1,0,false)
 else(c0a s no,s.fr.length,true)
def M9(s:Sto)(no v:Nat):Nat:=if 0<=frAt s.fr no then v
 else if s.fr.length=3 then
  if(X5 s s.J.toNat).2=true then v+1 else v
 else 1
def Sto.bxF(s:Sto)(v:Nat):Y4:=[pW (s.tn 1 6 7 4 8),u5 s.d.E,none,none,yV s.L,none,z9 s.d.C,u2 s.d.keep,uV v s.fr s.fr.length]
def bF(s:Sto)(no:Nat):Prop:=SInv s/\no<8
def b6c:Con:=.reff ⟨Sto×Nat×Nat,λx=>[.ref 0 0 0,Ji x.2.1],λx=>x.1.bx x.2.2,λx=>.ref 8 (Y7 x.1 x.2.1).2.1 0,λx=>(Y7 x.1 x.2.1).1.bxF (M9 x.1 x.2.1 x.2.2),λx=>bF x.1 x.2.1/\(Y7 x.1 x.2.1).2.2=true⟩
def b67:Con:=.reff ⟨Sto×Nat×Nat,λx=>[.ref 0 0 0,Ji x.2.1],λx=>x.1.bx x.2.2,λ_=>.v (.pointer none),λx=>(Y7 x.1 x.2.1).1.bxF (M9 x.1 x.2.1 x.2.2),λx=>bF x.1 x.2.1/\(Y7 x.1 x.2.1).2.2=false⟩
theorem b8r{L:List Frm}{k:Nat}(f:Frm)(d:k<L.length):V0 L.length (setRow (Y9 L) (0+k) 0 [T.int IntKind.i64 f.no,T.int IntKind.i64 f.pg.Q,T.own 0 1 f.pg.sl.length (Z6 f.pg.sl),T.bool f.D,T.int IntKind.i64 f.first]) (Y9 (L.set k f)):=a6H λi _=>by
 have l:∀j,(Y9 L j).length=5:=λ_=>rfl
 rw[D8,zQ (by rw[l];rfl)]
 by_cases h:i=k
 ·subst h;rw[gA rfl];unfold Y9;rw[show(L.set i f).getD i dz=f by rw[Q8,j_k d];rfl]
 ·rw[b6z h];unfold Y9;rw[show(L.set k f).getD i dz=L.getD i dz by rw[Q8,bI (Ne.symm h),←Q8]]
theorem c0E{L:List Frm}(f:Frm)(r:Nat->List T)(R:(r 0).length=5):V0 (L.length+1) (setRow (X6 (Y9 L) L.length r) (0+(L.length:Int).toNat) 0 [T.int IntKind.i64 f.no,T.int IntKind.i64 f.pg.Q,T.own 0 1 f.pg.sl.length (Z6 f.pg.sl),T.bool f.D,T.int IntKind.i64 f.first]) (Y9 (L++[f])):=a6H λi hi=>by
 rw[C8,D8];have l:(X6 (Y9 L) L.length r i).length=5:=by
  unfold X6;by_cases h:i<L.length
  ·rw[sN h];rfl
  ·rw[mT h,show i-L.length=0 by omega]
   exact R
 rw[zQ (by rw[l];rfl)]
 by_cases h:i=L.length
 ·subst h;rw[gA rfl];unfold Y9;rw[show(L++[f]).getD L.length dz=f by rw[Q8,tD (U9 _)];simp]
 ·rw[b6z h];unfold X6;rw[sN Z9]
  unfold Y9;rw[show(L++[f]).getD i dz=L.getD i dz by rw[Q8,tI Z9,←Q8]]
theorem m4{s:Sto}{no:Nat}(v:Nat)(h:0<=frAt s.fr no):Y7 s no=(s,(frAt s.fr no).toNat,true)/\M9 s no v=v:=⟨if_pos h,if_pos h⟩
theorem x4{s:Sto}{no:Nat}(v:Nat)(h:¬0<=frAt s.fr no)(d:s.fr.length=3)(u:(X5 s s.J.toNat).2=true):Y7 s no=(a9Q (X5 s s.J.toNat).1 s.J.toNat no,s.J.toNat,true)/\M9 s no v=v+1:=by
 unfold Y7 M9;rw[if_neg h,if_pos d,if_pos u,if_neg h,if_pos d,if_pos u];exact Y1
theorem l8{s:Sto}{no:Nat}(v:Nat)(h:¬0<=frAt s.fr no)(d:s.fr.length=3)(u:(X5 s s.J.toNat).2=false):Y7 s no=((X5 s s.J.toNat).1,0,false)/\M9 s no v=v:=by
 have u:¬ (X5 s s.J.toNat).2=true:=by rw[u];simp
 unfold Y7 M9;rw[if_neg h,if_pos d,if_neg u,if_neg h,if_pos d,if_neg u];exact Y1
theorem k7{s:Sto}{no:Nat}(v:Nat)(h:¬0<=frAt s.fr no)(d:¬s.fr.length=3):Y7 s no=(c0a s no,s.fr.length,true)/\M9 s no v=1:=by
 unfold Y7 M9;rw[if_neg h,if_neg d,if_neg h,if_neg d];exact Y1
theorem a03{s:Sto}{no:Nat}(h:SInv s)(o:no<8)(l:¬0<=frAt s.fr no)(r:s.fr.length=3)(u:(X5 s s.J.toNat).2=true):DkB ((X5 s s.J.toNat).1.d,no)/\S4 (X5 s s.J.toNat).1.d no=V1 (X5 s s.J.toNat).1.d no/\(V1 (X5 s s.J.toNat).1.d no).2=true:=by
 have n:=h.hd;have f:s.J.toNat<s.fr.length:=Z9
 obtain⟨e,q⟩:=a42 h f o (nO l f) u;obtain⟨_,_,_,_,R⟩:=s7 s s.J.toNat;have j:=h.n69;obtain⟨g,i⟩:=h.pg no o;obtain⟨C,c2⟩:=w7 e;refine⟨⟨W5,W5,W5,by show(U1 _ _).length<=_;rw[e];exact i⟩,?_,by rw[C];exact g⟩
 rw[C,c2];exact(eY s.d no).2 g
theorem a9F{s:Sto}{no:Nat}(h:SInv s)(o:no<8):DkB (s.d,no)/\S4 s.d no=V1 s.d no:=by
 have f:=h.n69;have C:=h.c;obtain⟨e,g⟩:=h.pg no o;exact⟨⟨W5,W5,W5,g⟩,(eY s.d no).2 e⟩
theorem a8W{p:Prop}(h:p:=by unfold c0a;simp):p:=h
theorem lR:GK 62 b6c:=gk func62<|by
 rintro⟨s,no,v⟩ ⟨⟨h,hno⟩,f⟩;dsimp only at h hno f;have L:M3 s.fr.length:=by have:=h.fr3;unfold M3;omega
 refine r9 (gC pP (gC a0Z (gC aQ gN))) func62 Y5 c1T (α:=let z:=(s.fr.length+1);let r:=(s.fr.length:Int);let q:=(Y7 s no);let m:=(Y9 q.1.fr);let j:=q.1.fr.length;let u:=q.1.d;let f:=(Z3 Z0 s.d.keep u.keep);∃(x:rM.ι),let t:=(frAt x.1.fr x.2);((LeS s)/\((EqF s x.1)/\(no:Int)=x.2/\True)/\M3 x.1.fr.length)/\bd (frAt x.1.fr x.2≥(0:Int)) (V3 t s.fr.length/\((0+t.toNat=q.2.1/\0=0)/\True)/\oM s q.1/\(Z3 Z6 s.d.E u.E)/\True/\True/\(Z3 Y6 s.L q.1.L)/\True/\(Z3 Z2 s.d.C u.C)/\f/\(v=M9 s no v/\s.fr.length=j/\V0 s.fr.length (Y9 s.fr) m)/\True) (br (r==3) (∃(x:(Sto×Nat×Nat)),let p:=(X5 x.1 x.2.1);let l:=p.1.fr;let i:=(Z3 Z2 p.1.d.C u.C);let c:=(Z3 Y6 p.1.L q.1.L);let b:=(Z3 Z6 p.1.d.E u.E);let n:=(Z3 Z0 p.1.d.keep u.keep);let k:=l.length;(((0=0/\0=0)/\s.J=(x.2.1:Int)/\True)/\(LnS (v) (x.2.2) s x.1)/\SInv x.1/\x.2.1<x.1.fr.length)/\br (! p.2) ((K4 (m8 [some 0,some 1,some 2,some 3,some 4,some 5,some 6,some 7,some 5]) (T.v (Value.pointer none)) (T.ref 8 q.2.1 0)/\True)/\oM p.1 q.1/\b/\True/\True/\c/\True/\i/\n/\(x.2.2=M9 s no v/\k=j/\V0 l.length (Y9 l) m)/\True) (Ri (p.1.J+1)/\Nz (3:Int)/\∃(X:(Dsk×Nat)),let g:=(S4 X.1 X.2);let y:=g.1.sl.length;((LeS p.1)/\((zA p.1.d X.1)/\(no:Int)=(X.2:Int)/\True)/\DkB X)/\V3 s.J k/\(0+s.J.toNat<k/\Le y y)/\V3 s.J k/\((0+s.J.toNat=q.2.1/\0=0)/\True)/\oM {p.1 with J:=((p.1.J+1).tmod (3:Int))} q.1/\b/\True/\True/\c/\True/\i/\n/\(x.2.2+1=M9 s no v/\k=j/\V0 l.length (setRow (Y9 l) (0+s.J.toNat) 0 [Ji (no:Int),Ji g.1.Q,T.own 0 1 y (Z6 g.1.sl),T.bool false,Ji 0]) m)/\True)) ((Le 1 1/\Le s.fr.length s.fr.length/\U2 s.fr.length 1 56)/\∃(x:(Dsk×Nat)),let a:=(S4 x.1 x.2);let w:=a.1.sl.length;((Le (0+s.d.E.length) s.d.E.length/\Le (0+s.d.C.length) s.d.C.length/\Le (0+s.d.keep.length) s.d.keep.length/\Le (0+s.L.length) s.L.length/\Le (0+z) z)/\((zA s.d x.1)/\(no:Int)=(x.2:Int)/\True)/\DkB x)/\V3 r z/\(0+r.toNat<s.fr.length+1/\Le w w)/\V3 r z/\((0+r.toNat=q.2.1/\0=0)/\True)/\(oo ((0=0/\s.d.E.length=u.E.length)/\(0=0/\s.d.C.length=u.C.length)/\s.d.A=u.A/\(0=0/\s.d.keep.length=u.keep.length)/\s.ep=q.1.ep/\(0=0/\s.L.length=q.1.L.length)/\s.S=q.1.S/\(0=0/\s.fr.length+1=j)/\s.J=q.1.J/\True))/\(Z3 Z6 s.d.E u.E)/\True/\True/\(Z3 Y6 s.L q.1.L)/\True/\(Z3 Z2 s.d.C u.C)/\f/\(1=M9 s no v/\s.fr.length+1=j/\V0 z (setRow (X6 (Y9 s.fr) s.fr.length (tk 5 [Ji 0,Ji 0,T.v (Value.slice none 0 0),T.bool false,Ji 0])) (0+r.toNat) 0 [Ji (no:Int),Ji a.1.Q,T.own 0 1 w (Z6 a.1.sl),T.bool false,Ji 0]) m)/\True))) ⟨(s,(no:Int)),⟨Y1,Y1,L⟩,λhc=>?_,λhc=>⟨λh3=>?_,λh3=>?_⟩⟩
 ·have hc:0<=frAt s.fr no:=B3 hc;obtain⟨e1,e2⟩:=m4 v hc;rw[e1,e2];exact⟨⟨hc,by have:=uF hc;show frAt s.fr no<_;omega⟩,⟨⟨D8 _,rfl⟩,Z5⟩,⟨rfl,rfl,⟨rfl,rfl⟩,⟨rfl,rfl⟩,rfl,⟨rfl,rfl⟩,rfl,⟨rfl,rfl⟩,rfl,⟨rfl,rfl⟩,rfl,Z5⟩,⟨rfl,W2 _ _⟩,Z5,Z5,⟨rfl,W2 _ _⟩,Z5,⟨rfl,W2 _ _⟩,⟨rfl,W2 _ _⟩,⟨rfl,rfl,jJ _⟩,Z5⟩
 ·have hc:¬0<=frAt s.fr no:=k5 hc;have h3:s.fr.length=3:=by have:=beq_iff_eq.1 h3;omega
  have i:=h.hd;have g:s.J.toNat<s.fr.length:=Z9
  obtain⟨r,R,_⟩:=s7 s s.J.toNat;refine⟨(s,s.J.toNat,v),⟨⟨Y1,W5,Z5⟩,⟨Y1,Y1,Y1,Y1,Y1,H4,Z5⟩,h,g⟩,λhu=>?_,λhu=>?_⟩
  ·have hu:(X5 s s.J.toNat).2=false:=(wG _).mp hu;rw[(l8 v hc h3 hu).1] at f;cases f
  ·have hu:(X5 s s.J.toNat).2=true:=(yL _).mp hu;obtain⟨e1,e2⟩:=x4 v hc h3 hu;obtain⟨d1,d2,_⟩:=a03 h hno hc h3 hu;rw[e1,e2];refine⟨Z1 W5,kJ,((X5 s s.J.toNat).1.d,no),⟨Y1,Y1,d1⟩,⟨Z9,W5⟩,⟨W5,U9 _⟩,⟨Z9,W5⟩,⟨⟨D8 _,rfl⟩,Z5⟩,⟨rfl,rfl,Y1,Y1,rfl,Y1,rfl,Y1,rfl,⟨rfl,w6.symm⟩,Y1⟩,Y1,Z5,Z5,Y1,Z5,Y1,Y1,⟨rfl,w6.symm,?_⟩,Z5⟩
   dsimp only;rw[d2];exact b8r (G0 no (V1 (X5 s s.J.toNat).1.d no).1) Z9
 ·have hc:¬0<=frAt s.fr no:=k5 hc;have h3:¬s.fr.length=3:=λe=>by rw[e] at h3;simp at h3
  have l:=h.fr3;obtain⟨e1,e2⟩:=k7 v hc h3;obtain⟨d1,d2⟩:=a9F h hno;rw[e1,e2];refine⟨⟨U9 _,U9 _,O6⟩,(s.d,no),⟨Y1,Y1,d1⟩,⟨Z9,Z9⟩,⟨Z9,U9 _⟩,⟨Z9,Z9⟩,⟨⟨W5,rfl⟩,Z5⟩,⟨rfl,rfl,Y1,Y1,rfl,Y1,rfl,Y1,rfl,⟨rfl,a8W⟩,Y1⟩,Y1,Z5,Z5,Y1,Z5,Y1,Y1,⟨rfl,a8W,?_⟩,Z5⟩
  dsimp only;rw[d2];exact c0E (G0 no (V1 s.d no).1) _ rfl
theorem lS:GK 62 b67:=gk func62<|by
 rintro⟨s,no,v⟩ ⟨⟨h,o⟩,f⟩;dsimp only at h o f;have L:M3 s.fr.length:=by have:=h.fr3;unfold M3;omega
 refine r9 (gC pP (gC a0Z (gC aQ gN))) func62 Y5 c1T (α:=let u:=(T.v (Value.pointer none));let z:=(s.fr.length+1);let r:=(s.fr.length:Int);let q:=(Y7 s no);let n:=(Y9 q.1.fr);let k:=q.1.fr.length;let y:=q.1.d;let g:=(Z3 Z0 s.d.keep y.keep);∃(x:rM.ι),((LeS s)/\((EqF s x.1)/\(no:Int)=x.2/\True)/\M3 x.1.fr.length)/\bd (frAt x.1.fr x.2≥(0:Int)) (V3 (frAt x.1.fr x.2) s.fr.length/\(K4 (m8 [some 0,some 1,some 2,some 3,some 4,some 5,some 2,some 3,some 5]) (T.ref 5 (0+(frAt x.1.fr x.2).toNat) 0) u/\True)/\oM s q.1/\(Z3 Z6 s.d.E y.E)/\True/\True/\(Z3 Y6 s.L q.1.L)/\True/\(Z3 Z2 s.d.C y.C)/\g/\(v=M9 s no v/\s.fr.length=k/\V0 s.fr.length (Y9 s.fr) n)/\True) (br (r==3) (∃(x:(Sto×Nat×Nat)),let p:=(X5 x.1 x.2.1);let t:=p.1.fr;let l:=(Z3 Z2 p.1.d.C y.C);let i:=(Z3 Y6 p.1.L q.1.L);let c:=(Z3 Z6 p.1.d.E y.E);let f:=(Z3 Z0 p.1.d.keep y.keep);let m:=t.length;(((0=0/\0=0)/\s.J=(x.2.1:Int)/\True)/\(LnS (v) (x.2.2) s x.1)/\SInv x.1/\x.2.1<x.1.fr.length)/\br (! p.2) ((Value.pointer none=Value.pointer none/\True)/\oM p.1 q.1/\c/\True/\True/\i/\True/\l/\f/\(x.2.2=M9 s no v/\m=k/\V0 t.length (Y9 t) n)/\True) (Ri (p.1.J+1)/\Nz (3:Int)/\∃(X:(Dsk×Nat)),let a:=(S4 X.1 X.2);let w:=a.1.sl.length;((LeS p.1)/\((zA p.1.d X.1)/\(no:Int)=(X.2:Int)/\True)/\DkB X)/\V3 s.J m/\(0+s.J.toNat<m/\Le w w)/\V3 s.J m/\(K4 (m8 [some 0,some 1,some 2,some 3,some 4,some 5,some 6,some 7,some 5]) (T.ref 5 (0+s.J.toNat) 0) u/\True)/\oM {p.1 with J:=((p.1.J+1).tmod (3:Int))} q.1/\c/\True/\True/\i/\True/\l/\f/\(x.2.2+1=M9 s no v/\m=k/\V0 t.length (setRow (Y9 t) (0+s.J.toNat) 0 [Ji (no:Int),Ji a.1.Q,T.own 0 1 w (Z6 a.1.sl),T.bool false,Ji 0]) n)/\True)) ((Le 1 1/\Le s.fr.length s.fr.length/\U2 s.fr.length 1 56)/\∃(x:(Dsk×Nat)),let b:=(S4 x.1 x.2);let j:=b.1.sl.length;((Le (0+s.d.E.length) s.d.E.length/\Le (0+s.d.C.length) s.d.C.length/\Le (0+s.d.keep.length) s.d.keep.length/\Le (0+s.L.length) s.L.length/\Le (0+z) z)/\((zA s.d x.1)/\(no:Int)=(x.2:Int)/\True)/\DkB x)/\V3 r z/\(0+r.toNat<s.fr.length+1/\Le j j)/\V3 r z/\(K4 (m8 [some 0,some 1,some 2,some 3,some 4,some 5,some 2,some 3,some 7]) (T.ref 7 (0+r.toNat) 0) u/\True)/\(oo ((0=0/\s.d.E.length=y.E.length)/\(0=0/\s.d.C.length=y.C.length)/\s.d.A=y.A/\(0=0/\s.d.keep.length=y.keep.length)/\s.ep=q.1.ep/\(0=0/\s.L.length=q.1.L.length)/\s.S=q.1.S/\(0=0/\s.fr.length+1=k)/\s.J=q.1.J/\True))/\(Z3 Z6 s.d.E y.E)/\True/\True/\(Z3 Y6 s.L q.1.L)/\True/\(Z3 Z2 s.d.C y.C)/\g/\(1=M9 s no v/\s.fr.length+1=k/\V0 z (setRow (X6 (Y9 s.fr) s.fr.length (tk 5 [Ji 0,Ji 0,T.v (Value.slice none 0 0),T.bool false,Ji 0])) (0+r.toNat) 0 [Ji (no:Int),Ji b.1.Q,T.own 0 1 j (Z6 b.1.sl),T.bool false,Ji 0]) n)/\True))) ⟨(s,(no:Int)),⟨Y1,Y1,L⟩,λhc=>?_,λhc=>⟨λh3=>?_,λh3=>?_⟩⟩
 ·have hc:0<=frAt s.fr no:=B3 hc;rw[(m4 v hc).1] at f;cases f
 ·have hc:¬0<=frAt s.fr no:=k5 hc;have h3:s.fr.length=3:=by have:=beq_iff_eq.1 h3;omega
  have l:=h.hd;have g:s.J.toNat<s.fr.length:=Z9
  refine⟨(s,s.J.toNat,v),⟨⟨Y1,W5,Z5⟩,⟨Y1,Y1,Y1,Y1,Y1,H4,Z5⟩,h,g⟩,λu=>?_,λu=>?_⟩
  ·have u:(X5 s s.J.toNat).2=false:=(wG _).mp u;obtain⟨i,j⟩:=l8 v hc h3 u;rw[i,j];exact⟨Y1,Y1,Y1,Z5,Z5,Y1,Z5,Y1,Y1,H4,Z5⟩
  ·have u:(X5 s s.J.toNat).2=true:=(yL _).mp u;rw[(x4 v hc h3 u).1] at f;cases f
 ·have hc:¬0<=frAt s.fr no:=k5 hc;have h3:¬s.fr.length=3:=λe=>by rw[e] at h3;simp at h3
  rw[(k7 v hc h3).1] at f;cases f
theorem nB{d:Dsk}{no:Nat}(h:(V1 d no).2=true):PgP (V1 d no).1:=by
 unfold V1 at h ⊢;by_cases hr:U1 d (1+no)=[]
 ·rw[if_pos hr];refine⟨Int.le_refl _,U4,rfl,λi hi=>?_⟩
  match i,hi with
  |0,_=>exact L8 _
  |1,_=>exact L8 _
  |2,_=>exact L8 _
  |3,_=>exact L8 _
 ·rw[if_neg hr] at h ⊢;unfold E8 at h ⊢;split at h
  ·rename_i C;rw[if_pos C];simp only[M1] at h;exact B3 h.2
  ·cases h
theorem oX{s:Sto}{no:Nat}(h:SInv s)(o:no<8)(u:(Y7 s no).2.2=true):(Y7 s no).2.1<(Y7 s no).1.fr.length/\PgP ((Y7 s no).1.fr.getD (Y7 s no).2.1 dz).pg:=by
 by_cases hc:0<=frAt s.fr no
 ·rw[(m4 0 hc).1];exact⟨uF hc,(h.frp _ (uF hc)).2.2.1⟩
 ·by_cases h3:s.fr.length=3
  ·cases ho:(X5 s s.J.toNat).2 with
   |false=>
    rw[(l8 0 hc h3 ho).1] at u;cases u
   |true=>
    rw[(x4 0 hc h3 ho).1];have d:=h.hd;have l:=(s7 s s.J.toNat).1;have hp:=(a03 h o hc h3 ho).2.2;unfold a9Q;dsimp only;rw[w6,Q8,j_k Z9]
    exact⟨Z9,nB hp⟩
  ·rw[(k7 0 hc h3).1];unfold c0a;dsimp only;rw[Q8,tD (U9 _),J6]
   simp only[j_i,List.getElem?_cons_zero,Option.getD_some,List.length_cons,List.length_nil]
   exact⟨Z9,nB (h.pg no o).1⟩
def vL(f:Frm)(r:Rec):Frm:=⟨f.no,⟨r.l,f.pg.sl.set r.s.toNat r.a⟩,true,if f.D=true then f.first else r.l⟩
def b11(a:Sto)(k:Nat)(r:Rec):Sto:=⟨a.d,a.ep,a.L,a.S,a.fr.set k (vL (a.fr.getD k dz) r),a.J⟩
def T7(s:Sto)(r:Rec):Sto×Bool:=if(Y7 s r.g.toNat).2.2=true then(b11 (Y7 s r.g.toNat).1 (Y7 s r.g.toNat).2.1 r,true) else((Y7 s r.g.toNat).1,false)
def mP(s:Sto)(r:Rec):Prop:=SInv s/\0<=r.g/\r.g<8/\0<=r.s/\r.s<4
def c0p:Con:=.reff ⟨Sto×Rec×Nat,λx=>[.ref 0 0 0,.agg x.2.1.ts],λx=>x.1.bx x.2.2,λx=>.bool (T7 x.1 x.2.1).2,λx=>(T7 x.1 x.2.1).1.bxF (M9 x.1 x.2.1.g.toNat x.2.2),λx=>mP x.1 x.2.1⟩
theorem b7E{L:List Frm}{k i:Nat}(f:Frm)(h:i≠k):b4x (Y9 L i) (Y9 (L.set k f) i):=by
 rw[show Y9 (L.set k f) i=Y9 L i by unfold Y9;rw[show(L.set k f).getD i dz=L.getD i dz by rw[Q8,bI (Ne.symm h),←Q8]]]
 exact lG _
theorem sD{L:List Frm}{k:Nat}(f:Frm)(h:k<L.length):(L.set k f).getD k dz=f:=by rw[Q8,j_k h];rfl
theorem a1p{L:List (Bz)}{j:Nat}(t:Bz):L.length=(L.set j t).length/\Z7 L.length (setRow (Z6 L) j 0 [T.str t]) (Z6 (L.set j t)):=⟨w6.symm,λi hi=>iZ i hi⟩
theorem b8t{L:List Frm}{k:Nat}{r:Rec}(d:k<L.length)(hd:(L.getD k dz).D=true):V0 L.length (setRow (setRow (Y9 L) k 2 [T.own 0 1 (L.getD k dz).pg.sl.length (setRow (Z6 (L.getD k dz).pg.sl) r.s.toNat 0 [T.str r.a])]) k 1 [T.int IntKind.i64 r.l]) (Y9 (L.set k (vL (L.getD k dz) r))):=λi hi=>by
 have l5:∀j,(Y9 L j).length=5:=λ_=>rfl
 by_cases h:i=k
 ·subst h;unfold setRow;rw[gA rfl];have e:Y9 (L.set i (vL (L.getD i dz) r)) i=[Ji (L.getD i dz).no,Ji r.l,.own 0 1 ((L.getD i dz).pg.sl.set r.s.toNat r.a).length (Z6 ((L.getD i dz).pg.sl.set r.s.toNat r.a)),.bool (L.getD i dz).D,Ji (L.getD i dz).first]:=by
   unfold Y9;rw[sD _ hi];unfold vL;dsimp only;rw[if_pos hd,hd]
  rw[e];exact⟨rfl,rfl,⟨rfl,(a1p r.a).1,(a1p r.a).2⟩,Y1⟩
 ·rw[K6 (by rw[T2 a9T,l5];exact yQ rfl) h,K6 a9T h]
  exact b7E _ h
theorem b4X{L:List Frm}{k:Nat}{r:Rec}(d:k<L.length)(hd:(L.getD k dz).D=false):V0 L.length (setRow (setRow (setRow (setRow (Y9 L) k 2 [T.own 0 1 (L.getD k dz).pg.sl.length (setRow (Z6 (L.getD k dz).pg.sl) r.s.toNat 0 [T.str r.a])]) k 1 [T.int IntKind.i64 r.l]) k 3 [T.bool true]) k 4 [T.int IntKind.i64 r.l]) (Y9 (L.set k (vL (L.getD k dz) r))):=λi hi=>by
 have l5:∀j,(Y9 L j).length=5:=λ_=>rfl
 by_cases h:i=k
 ·subst h;unfold setRow;rw[gA rfl];have e:Y9 (L.set i (vL (L.getD i dz) r)) i=[Ji (L.getD i dz).no,Ji r.l,.own 0 1 ((L.getD i dz).pg.sl.set r.s.toNat r.a).length (Z6 ((L.getD i dz).pg.sl.set r.s.toNat r.a)),.bool true,Ji r.l]:=by
   unfold Y9;rw[sD _ hi];unfold vL;dsimp only;rw[if_neg (by rw[hd];simp)]
  rw[e];exact⟨rfl,rfl,⟨rfl,(a1p r.a).1,(a1p r.a).2⟩,Y1⟩
 ·have a1:(setRow (Y9 L) k 2 [T.own 0 1 (L.getD k dz).pg.sl.length (setRow (Z6 (L.getD k dz).pg.sl) r.s.toNat 0 [T.str r.a])] i).length=5:=by rw[T2 a9T,l5]
  have A:(setRow (setRow (Y9 L) k 2 [T.own 0 1 (L.getD k dz).pg.sl.length (setRow (Z6 (L.getD k dz).pg.sl) r.s.toNat 0 [T.str r.a])]) k 1 [T.int IntKind.i64 r.l] i).length=5:=by rw[T2 b0g,a1]
  rw[K6 (by rw[T2 (by rw[A];exact yQ rfl),A];exact yQ rfl) h,K6 (by rw[A];exact yQ rfl) h,K6 b0g h,K6 a9T h]
  exact b7E _ h
theorem a46:GK 63 c0p:=gk func63<|by
 rintro⟨s,r,v⟩ ⟨h,n,o,i,j⟩;dsimp only at h n o i j;have hno:r.g.toNat<8:=Z9
 by_cases hu:(Y7 s r.g.toNat).2.2=true
 ·have hf:=oX h hno hu;have e:T7 s r=(b11 (Y7 s r.g.toNat).1 (Y7 s r.g.toNat).2.1 r,true):=if_pos hu;refine r9 (gC lR gN) func63 Y5 c1U (α:=let i:=(T7 s r).1;let b:=(true=(T7 s r).2/\True);let n:=(Y9 (T7 s r).1.fr);let m:=(T7 s r).1.fr.length;∃(x:(Sto×Nat×Nat)),let c:=(M9 x.1 x.2.1 x.2.2);let p:=(Y7 x.1 x.2.1);let k:=(Z3 Y6 p.1.L (T7 s r).1.L);let j:=p.1.fr;let f:=j.length;let w:=(Z3 Z2 p.1.d.C (T7 s r).1.d.C);let y:=(Z3 Z6 p.1.d.E (T7 s r).1.d.E);let u:=(Z3 Z0 p.1.d.keep (T7 s r).1.d.keep);let z:=(j.getD p.2.1 dz);let t:=z.pg.sl;let q:=(setRow (setRow (Y9 j) p.2.1 2 [T.own (0:TypeId) 1 t.length (setRow (Z6 t) r.s.toNat 0 [T.str r.a])]) p.2.1 1 [Ji r.l]);(((0=0/\0=0)/\r.g=(x.2.1:Int)/\True)/\(LnS (v) (x.2.2) s x.1)/\bF x.1 x.2.1/\p.2.2=true)/\br false ((false=(T7 s r).2/\True)/\oM p.1 i/\y/\True/\True/\k/\True/\w/\u/\(M9 x.1 x.2.1 x.2.2=M9 s r.g.toNat v/\f=m/\V0 j.length (Y9 j) n)/\True) (Lt p.2.1 f/\V3 r.s t.length/\PfB c c p.2.1 j.length r.s.toNat t.length/\a1C p.2.1 j.length [Ji z.pg.Q]/\Lt p.2.1 f/\br (! z.D) (a1C p.2.1 j.length [T.bool z.D]/\a1C p.2.1 j.length [Ji z.first]/\b/\oM p.1 i/\y/\True/\True/\k/\True/\w/\u/\(M9 x.1 x.2.1 x.2.2=M9 s r.g.toNat v/\f=m/\V0 j.length (setRow (setRow q p.2.1 3 [T.bool true]) p.2.1 4 [Ji r.l]) n)/\True) (b/\oM p.1 i/\y/\True/\True/\k/\True/\w/\u/\(M9 x.1 x.2.1 x.2.2=M9 s r.g.toNat v/\f=m/\V0 j.length q n)/\True))) ⟨(s,r.g.toNat,v),⟨⟨Y1,W5,Z5⟩,⟨Y1,Y1,Y1,Y1,Y1,H4,Z5⟩,⟨h,hno⟩,hu⟩,λhb=>(by cases hb),λ_=>?_⟩
  rw[e];dsimp only;generalize M9 s r.g.toNat v=w;generalize Y7 s r.g.toNat=A at*;obtain⟨a,k,up⟩:=A;dsimp only at*;obtain⟨f,u,z,q,t⟩:=hf;refine⟨f,⟨i,Z9⟩,⟨rfl,f,Z9⟩,⟨f,rfl⟩,f,λhd=>?_,λhd=>?_⟩
  ·exact⟨⟨f,rfl⟩,⟨f,rfl⟩,Y1,⟨rfl,rfl,Y1,Y1,rfl,Y1,rfl,Y1,rfl,⟨rfl,w6.symm⟩,Y1⟩,Y1,Z5,Z5,Y1,Z5,Y1,Y1,⟨rfl,w6.symm,b4X f nC⟩,Z5⟩
  ·exact⟨Y1,⟨rfl,rfl,Y1,Y1,rfl,Y1,rfl,Y1,rfl,⟨rfl,w6.symm⟩,Y1⟩,Y1,Z5,Z5,Y1,Z5,Y1,Y1,⟨rfl,w6.symm,b8t f nC⟩,Z5⟩
 ·have e:T7 s r=((Y7 s r.g.toNat).1,false):=if_neg hu;refine r9 (gC lS gN) func63 Y5 c1U (α:=∃(x:(Sto×Nat×Nat)),let p:=(Y7 x.1 x.2.1);(((0=0/\0=0)/\r.g=(x.2.1:Int)/\True)/\(LnS (v) (x.2.2) s x.1)/\bF x.1 x.2.1/\p.2.2=false)/\br true ((false=(T7 s r).2/\True)/\oM p.1 (T7 s r).1/\(Z3 Z6 p.1.d.E (T7 s r).1.d.E)/\True/\True/\(Z3 Y6 p.1.L (T7 s r).1.L)/\True/\(Z3 Z2 p.1.d.C (T7 s r).1.d.C)/\(Z3 Z0 p.1.d.keep (T7 s r).1.d.keep)/\(M9 x.1 x.2.1 x.2.2=M9 s r.g.toNat v/\p.1.fr.length=(T7 s r).1.fr.length/\V0 p.1.fr.length (Y9 p.1.fr) (Y9 (T7 s r).1.fr))/\True) False) ⟨(s,r.g.toNat,v),⟨⟨Y1,W5,Z5⟩,⟨Y1,Y1,Y1,Y1,Y1,H4,Z5⟩,⟨h,hno⟩,a4W⟩,λ_=>?_,λhb=>(by cases hb)⟩
  rw[e];exact⟨Y1,Y1,Y1,Z5,Z5,Y1,Z5,Y1,Y1,H4,Z5⟩
theorem a6K{L:List Frm}{k:Nat}{f:Frm}(h:∀i,i<L.length->SmF (L.getD i dz))(F:SmF f):∀i,i<(L.set k f).length->SmF ((L.set k f).getD i dz):=λi hi=>by
 rw[w6] at hi;by_cases e:i=k
 ·subst e;rw[sD _ hi];exact F
 ·rw[Q8,bI (Ne.symm e),←Q8]
  exact h i hi
theorem c0r{d:Dsk}(h:kT d):kT (B9 d).1:=by
 unfold B9;split
 ·exact a9v h
 ·exact h
theorem c5k{s:Sto}{d:Dsk}(h:SmS s)(hd:kT d):SmS (s.sd d):=⟨hd,h.2⟩
theorem a9h{s:Sto}{k:Nat}(h:SInv s)(d:k<s.fr.length):SmS (X5 s k).1:=by
 have f:=h.flu (h.frp k d).2.2.2;have hS:=cV f h.sm;have C:=a3R (l:=(s.fr.getD k dz).pg.Q) h.c;have h5:=c0r hS.1;unfold X5;split
 ·split
  ·split
   ·refine⟨⟨h5.1,?_,h5.2.2⟩,hS.2.1,?_,?_⟩
    ·have:=a7J C;show((B9 _).1.C++[_]).length<=_;rw[J6];simp only[List.length_cons,List.length_nil];omega
    ·show(List.set _ _ _).length<=_;rw[w6];exact hS.2.2.1
    ·refine a6K hS.2.2.2 ?_
     have:=hS.2.2.2 k (by rw[a06];exact d)
     exact this
   ·exact c5k hS h5
  ·exact hS
 ·exact h.sm
theorem c2w{d:Dsk}{no:Nat}(h:(V1 d no).2=true):SmF (G0 no (V1 d no).1):=by
 have:=(nB h).2.2.1;show(V1 d no).1.sl.length<=1048576;omega
theorem a9k{s:Sto}{no:Nat}(h:SInv s)(o:no<8):SmS (Y7 s no).1:=by
 by_cases hc:0<=frAt s.fr no
 ·rw[(m4 0 hc).1];exact h.sm
 ·by_cases h3:s.fr.length=3
  ·have hh:=h.hd;have ho:=a9h h (k:=s.J.toNat) Z9
   cases u:(X5 s s.J.toNat).2 with
   |false=>
    rw[(l8 0 hc h3 u).1];exact ho
   |true=>
    rw[(x4 0 hc h3 u).1];refine⟨ho.1,ho.2.1,?_,?_⟩
    ·show(List.set _ _ _).length<=_;rw[w6];exact ho.2.2.1
    ·exact a6K ho.2.2.2 (c2w (a03 h o hc h3 u).2.2)
  ·rw[(k7 0 hc h3).1];have hl:=h.fr3;refine⟨h.sm.1,h.sm.2.1,?_,λi hi=>?_⟩
   ·show(s.fr++[_]).length<=_;rw[J6];simp only[List.length_cons,List.length_nil];omega
   ·have hi:i<(s.fr++[G0 no (V1 s.d no).1]).length:=hi;show SmF ((s.fr++[G0 no (V1 s.d no).1]).getD i dz);by_cases e:i<s.fr.length
    ·rw[Q8,tI e,←Q8]
     exact h.sm.2.2.2 i e
    ·have:i=s.fr.length:=by rw[J6] at hi;simp only[List.length_cons,List.length_nil] at hi;omega
     subst this;rw[Q8,tD (U9 _)]
     simp only[j_i,List.getElem?_cons_zero,Option.getD_some]
     exact c2w (h.pg no o).1
theorem c0F{s:Sto}{r:Rec}(h:mP s r):SmS (T7 s r).1:=by
 obtain⟨h,f,e,i,d⟩:=h;have hno:r.g.toNat<8:=Z9
 have hS:=a9k h hno;unfold T7;split
 ·rename_i hu;have hf:=oX h hno hu;refine⟨hS.1,hS.2.1,?_,?_⟩
  ·show(List.set _ _ _).length<=_;rw[w6];exact hS.2.2.1
  ·refine a6K hS.2.2.2 ?_
   have:=hf.2.2.2.1;show(List.set _ _ _).length<=_;rw[w6];omega
 ·exact hS
theorem c0P{s:Sto}{lsn:Int}(h:SInv s)(f:1<=lsn)(e:lsn<=s.L.length):mP s (s.L.getD (lsn-1).toNat dz)/\(s.L.getD (lsn-1).toNat dz).l=lsn:=by
 obtain⟨a,b⟩:=G9.1 h.rc (lsn-1).toNat Z9
 have a:=(R6 _).1 a;obtain⟨_,_,_,_,_,_,_,_,_,_,q,g,Q,d,_⟩:=a;exact⟨⟨h,q,Z9,Q,Z9⟩,Z9⟩
def a6a:Con:=.rel ⟨Dsk×Nat,λx=>[.agg x.1.ts,Ji x.2],λx=>.tup [.agg (V1 x.1 x.2).1.ts,.bool (V1 x.1 x.2).2],DkB⟩
theorem a5o:GK 142 a6a:=gk func142<|by
 rintro⟨d,no⟩ ⟨g,i,j,f⟩;dsimp only at g i j f;refine a0t d no ⟨Z1 Z9,(d,1+no),⟨⟨eqD _,D9,Z5⟩,g,D9⟩,λh=>⟨(),Y1,?_⟩,λh=>⟨((no:Int),U1 d (1+no)),⟨Y1,f⟩,?_⟩⟩
 ·have h:U1 d (1+no)=[]:=by simpa using h
  have e:V1 d no=(⟨0,[[],[],[],[]]⟩,true):=by unfold V1;rw[if_pos h]
  rw[e];exact Y1
 ·have h:U1 d (1+no)≠[]:=by simpa using h
  have e:V1 d no=E8 no (U1 d (1+no)):=by unfold V1;rw[if_neg h]
  rw[e];exact Y1
def b6O:Con:=.rel ⟨Pg×Int×Bz×Int,λx=>[.agg x.1.ts,Ji x.2.1,.str x.2.2.1,Ji x.2.2.2],λx=>.agg (Pg.ts ⟨x.2.2.2,x.1.sl.set x.2.1.toNat x.2.2.1⟩),λx=>x.1.sl.length=4/\0<=x.2.1/\x.2.1<4⟩
theorem b2u:GK 217 b6O:=gk func217<|by
 rintro⟨p,j,t,l⟩ ⟨d,h,e⟩;dsimp only at d h e;exact R1 (gC a0q gN) func217 Y5 (α:=let r:=(p.sl.set j.toNat t);∃(x:Pg),let q:=x.sl.length;(((p.Q=x.Q/\(Z3 Z6 p.sl x.sl)/\True)/\True)/\q<=1048576)/\V3 j q/\Lt (0+j.toNat) q/\Le (0+q) q/\l=l/\(q=r.length/\Z7 x.sl.length (setRow (Z6 x.sl) (0+j.toNat) 0 [T.str t]) (Z6 r))/\True) ⟨p,⟨P2,Z9⟩,⟨h,Z9⟩,H3,cM _,rfl,⟨w6.symm,λi hi=>by rw[D8];exact iZ i hi⟩,Z5⟩
theorem aY{f row:Nat->List T}:X6 f 0 row=row:=funext λ_=>rfl
theorem c0x{L:List Frm}{k:Nat}(f:Frm)(d:k<L.length):Z7 L.length (setRow (X2 L) k 0 f.ts) (X2 (L.set k f)):=λi _=>by
 have l:∀j,(X2 L j).length=5:=λ_=>rfl
 rw[zQ (by rw[l];rfl)]
 unfold X2;by_cases h:i=k
 ·subst h;rw[gA rfl,sD _ d]
 ·rw[b6z h,show(L.set k f).getD i dz=L.getD i dz by rw[Q8,bI (Ne.symm h),←Q8]]
theorem b5E{L:List Frm}{k:Nat}(d:k<L.length):Z7 L.length (setRow (setRow (X2 L) k 3 [T.bool false]) k 4 [T.int IntKind.i64 0]) (X2 (L.set k (jY (L.getD k dz)))):=λi hi=>by
 have hl:∀j,(X2 L j).length=5:=λ_=>rfl
 by_cases h:i=k
 ·subst h;unfold setRow;rw[gA rfl];unfold X2;rw[sD _ d];rfl
 ·rw[K6 (by rw[T2 (by rw[hl];decide),hl];decide) h,K6 (by rw[hl];decide) h]
  unfold X2;rw[show(L.set k (jY (L.getD k dz))).getD i dz=L.getD i dz by rw[Q8,bI (Ne.symm h),←Q8]]
theorem b9j{L:List Frm}(f:Frm)(r:Nat->List T)(R:(r 0).length=5):Z7 (L.length+1) (setRow (X6 (X2 L) L.length r) L.length 0 f.ts) (X2 (L++[f])):=λi hi=>by
 have l:(X6 (X2 L) L.length r i).length=5:=by
  unfold X6;by_cases h:i<L.length
  ·rw[sN h];rfl
  ·rw[mT h,show i-L.length=0 by omega]
   exact R
 rw[zQ (by rw[l];rfl)]
 by_cases h:i=L.length
 ·subst h;rw[gA rfl];unfold X2;rw[show(L++[f]).getD L.length dz=f by rw[Q8,tD (U9 _)];simp]
 ·rw[b6z h];unfold X6;rw[sN Z9]
  unfold X2;rw[show(L++[f]).getD i dz=L.getD i dz by rw[Q8,tI Z9,←Q8]]
def b6T:Con:=.rel ⟨Sto×Nat,λx=>[.agg x.1.ts,Ji x.2],λx=>.tup [.agg (X5 x.1 x.2).1.ts,.bool (X5 x.1 x.2).2],λx=>SInv x.1/\x.2<x.1.fr.length⟩
theorem b2N:GK 245 b6T:=gk func245<|by
 rintro⟨s,k⟩ ⟨h,j⟩;dsimp only at h j;have i:=h.frp k j;have F:=h.flu i.2.2.2;have r:=a06 s (s.fr.getD k dz).pg.Q;have u:=cV F h.sm;have t:=a12 (l:=(s.fr.getD k dz).pg.Q) h.pd;have q:=a3R (l:=(s.fr.getD k dz).pg.Q) h.c;have n:=h.fr3;have o:= @sJ s k;have o2:= @nF s k;have o3:= @pD s k;refine R1 (gC a3Z (gC dG (gC a4n (gC kK gN)))) func245 Y5 (α:=let n:=(X5 s k).1.d.keep;let m:=(X5 s k).1;let v:=(X5 s k).2;let u:=(0+(k:Int).toNat);let q:=(s.fr.getD (k:Int).toNat dz);V3 (k:Int) s.fr.length/\((! q.D)=true->(yJ s m)/\true=v/\True)/\((! q.D)=false->∃(x:(Sto×Int)),let z:=(W7 x.1 x.2);let w:=(Z3 Y6 z.1.L (X5 s k).1.L);let y:=((↑z.1.d.C.length:Int)==500);let p:=z.1.fr.length;let j:=(Le 0 0/\U2 0 p 56);let r:=(0+p=(X5 s k).1.fr.length/\Z7 (0+p) (setRow (setRow (X6 (tk 5 []) 0 (X2 z.1.fr)) u 3 [T.bool false]) u 4 [Ji 0]) (X2 (X5 s k).1.fr));(((yJ s x.1)/\q.pg.Q=x.2/\True)/\vD x.1 x.2)/\((! z.2)=true->(yJ z.1 m)/\false=v/\True)/\((! z.2)=false->(y=true->∃(f:Dsk),(((zA z.1.d f)/\True)/\kT f/\cB f)/\((!(U7 f).2)=true->(yJ {z.1 with d:=(U7 f).1} m)/\false=v/\True)/\((!(U7 f).2)=false->O1 .i64 (1+q.no)/\∃(X:oS.ι),((q.no=X.1/\(q.pg.Q=X.2.Q/\(Z3 Z6 q.pg.sl X.2.sl)/\True)/\True)/\PgP X.2)/\∃(g:(Dsk×Int×Bz)),(((zA (U7 f).1 g.1)/\1+q.no=g.2.1/\S3 X.1 X.2=g.2.2/\True)/\g.1.C.length<=1048576)/\j/\V3 (k:Int) (0+p)/\Lt u (0+p)/\V3 (k:Int) (0+p)/\Lt u (0+p)/\Le (0+(0+p)) (0+p)/\((Z3 Z6 g.1.E (X5 s k).1.d.E)/\(Z3 Z2 (g.1.C++[Pend.mk g.2.1 g.2.2]) (X5 s k).1.d.C)/\g.1.A=(X5 s k).1.d.A/\(Z3 Z0 g.1.keep n)/\z.1.ep=(X5 s k).1.ep/\w/\z.1.S=(X5 s k).1.S/\r/\z.1.J=(X5 s k).1.J/\True)/\true=v/\True))/\(y=false->O1 .i64 (1+q.no)/\∃(f:oS.ι),((q.no=f.1/\(q.pg.Q=f.2.Q/\(Z3 Z6 q.pg.sl f.2.sl)/\True)/\True)/\PgP f.2)/\∃(X:(Dsk×Int×Bz)),(((zA z.1.d X.1)/\1+q.no=X.2.1/\S3 f.1 f.2=X.2.2/\True)/\X.1.C.length<=1048576)/\j/\V3 (k:Int) (0+p)/\Lt u (0+p)/\V3 (k:Int) (0+p)/\Lt u (0+p)/\Le (0+(0+p)) (0+p)/\((Z3 Z6 X.1.E (X5 s k).1.d.E)/\(Z3 Z2 (X.1.C++[Pend.mk X.2.1 X.2.2]) (X5 s k).1.d.C)/\X.1.A=(X5 s k).1.d.A/\(Z3 Z0 X.1.keep n)/\z.1.ep=(X5 s k).1.ep/\w/\z.1.S=(X5 s k).1.S/\r/\z.1.J=(X5 s k).1.J/\True)/\true=v/\True)))) ?_
 rw[C8];refine⟨X9 j,λhd=>?_,λhd=>⟨(s,(s.fr.getD k dz).pg.Q),⟨Y1,F⟩,λhu=>?_,λhu=>⟨λhc=>?_,λhc=>?_⟩⟩⟩
 ·rw[b9 nC]
  exact Y1
 all_goals
  have hd:(s.fr.getD k dz).D=true:=nC
  replace o:=o hd;replace o2:=o2 hd;replace o3:=o3 hd;dsimp only at*;generalize W7 s (s.fr.getD k dz).pg.Q=A at*;obtain⟨a,up⟩:=A;dsimp only at*;rw[←r] at j i n
 ·have hu:up=false:=(wG _).mp hu;subst hu;rw[o rfl];exact Y1
 ·have hu:up=true:=(yL _).mp hu;subst hu;have hc:500<=a.d.C.length:=by have:=beq_iff_eq.1 hc;omega
  rw[←r];refine⟨a.d,⟨Y1,u.1,t⟩,λhb=>?_,λhb=>?_⟩
  ·have hb:(U7 a.d).2=false:=(wG _).mp hb;rw[o2 rfl a8Y,sA hc]
   exact P2
  ·have hb:(U7 a.d).2=true:=(yL _).mp hb;rw[o3 rfl a8Y,sA hc]
   exact⟨Z1 Z9,((a.fr.getD k dz).no,(a.fr.getD k dz).pg),⟨P2,i.2.2.1⟩,((U7 a.d).1,1+(a.fr.getD k dz).no,S3 (a.fr.getD k dz).no (a.fr.getD k dz).pg),⟨P2,by show(U7 a.d).1.C.length<=_;rw[g8];exact L8 _⟩,⟨U9 _,O6⟩,⟨Z9,Z9⟩,H3,⟨Z9,Z9⟩,H3,C9,⟨Y1,Y1,rfl,Y1,rfl,Y1,rfl,⟨a5G,by rw[D8,D8,aY];exact b5E j⟩,Y1⟩,Y1⟩
 ·have hu:up=true:=(yL _).mp hu;subst hu;have hc:¬500<=a.d.C.length:=λe=>by have e:(a.d.C.length:Int)=500:=Z9;rw[e] at hc;simp at hc
  rw[←r,o3 rfl (by rw[pM hc]),pM hc]
  exact⟨Z1 Z9,((a.fr.getD k dz).no,(a.fr.getD k dz).pg),⟨P2,i.2.2.1⟩,(a.d,1+(a.fr.getD k dz).no,S3 (a.fr.getD k dz).no (a.fr.getD k dz).pg),⟨P2,W5⟩,⟨U9 _,O6⟩,⟨Z9,Z9⟩,H3,⟨Z9,Z9⟩,H3,C9,⟨Y1,Y1,rfl,Y1,rfl,Y1,rfl,⟨a5G,by rw[D8,D8,aY];exact b5E j⟩,Y1⟩,Y1⟩
def a6r:Con:=.rel ⟨Sto×Nat,λx=>[.agg x.1.ts,Ji x.2],λx=>.tup [.agg (Y7 x.1 x.2).1.ts,Ji (Y7 x.1 x.2).2.1,.bool (Y7 x.1 x.2).2.2],λx=>bF x.1 x.2⟩
theorem a4d:GK 216 a6r:=gk func216<|by
 rintro⟨s,no⟩ ⟨h,o⟩;dsimp only at h o;have L:M3 s.fr.length:=by have:=h.fr3;unfold M3;omega
 have g:=h.fr3;refine R1 (gC sR (gC b2N (gC a5o gN))) func216 Y5 (α:=let n:=(tk 5 []);let y:=(0+s.fr.length);let z:=(s.fr.length:Int);let r:=(0+s.fr.length+1);let p:=(Y7 s no);let j:=p.1.d;let w:=(↑p.2.1:Int);∃(x:uN.ι),(((yJ s x.1)/\(no:Int)=x.2/\True)/\M3 x.1.fr.length)/\bd (frAt x.1.fr x.2≥(0:Int)) ((yJ s p.1)/\frAt x.1.fr x.2=w/\true=p.2.2/\True) (br (z==3) (∃(x:(Sto×Nat)),let q:=(X5 x.1 x.2);let u:=(0+q.1.fr.length);(((yJ s x.1)/\s.J=(x.2:Int)/\True)/\SInv x.1/\x.2<x.1.fr.length)/\br (! q.2) ((yJ q.1 p.1)/\0=w/\false=p.2.2/\True) (Ri (q.1.J+1)/\Nz (3:Int)/\∃(X:(Dsk×Nat)),let k:=(V1 X.1 X.2);(((zA q.1.d X.1)/\(no:Int)=(X.2:Int)/\True)/\DkB X)/\(Le 0 0/\U2 0 q.1.fr.length 56)/\V3 s.J u/\Lt (0+s.J.toNat) u/\Le (0+u) u/\((Z3 Z6 q.1.d.E j.E)/\(Z3 Z2 q.1.d.C j.C)/\q.1.d.A=j.A/\(Z3 Z0 q.1.d.keep j.keep)/\q.1.ep=p.1.ep/\(Z3 Y6 q.1.L p.1.L)/\q.1.S=p.1.S/\(0+q.1.fr.length=p.1.fr.length/\Z7 u (setRow (X6 n 0 (X2 q.1.fr)) (0+s.J.toNat) 0 [Ji (no:Int),Ji k.1.Q,T.sl 1 k.1.sl.length (Z6 k.1.sl),T.bool false,Ji 0]) (X2 p.1.fr))/\(q.1.J+1).tmod (3:Int)=p.1.J/\True)/\s.J=w/\true=p.2.2/\True)) ((Le 0 0/\U2 0 s.fr.length 56)/\(Le 1 1/\Le y y/\U2 y 1 56)/\∃(x:(Dsk×Nat)),let m:=(V1 x.1 x.2);(((zA s.d x.1)/\(no:Int)=(x.2:Int)/\True)/\DkB x)/\(Le (0+r) r/\Le 0 0/\U2 0 r 56)/\V3 z (0+r)/\Lt (0+z.toNat) (0+r)/\Le (0+(0+r)) (0+r)/\((Z3 Z6 s.d.E j.E)/\(Z3 Z2 s.d.C j.C)/\s.d.A=j.A/\(Z3 Z0 s.d.keep j.keep)/\s.ep=p.1.ep/\(Z3 Y6 s.L p.1.L)/\s.S=p.1.S/\(0+r=p.1.fr.length/\Z7 (0+r) (setRow (X6 n 0 (X6 (X6 n 0 (X2 s.fr)) y (tk 5 [Ji 0,Ji 0,T.v (Value.slice none 0 0),T.bool false,Ji 0]))) (0+z.toNat) 0 [Ji (no:Int),Ji m.1.Q,T.sl 1 m.1.sl.length (Z6 m.1.sl),T.bool false,Ji 0]) (X2 p.1.fr))/\s.J=p.1.J/\True)/\z=w/\true=p.2.2/\True))) ⟨(s,(no:Int)),⟨Y1,L⟩,λhc=>?_,λhc=>⟨λh3=>?_,λh3=>?_⟩⟩
 ·have hc:0<=frAt s.fr no:=B3 hc;rw[(m4 0 hc).1];exact⟨iT _,W5,Y1⟩
 ·have hc:¬0<=frAt s.fr no:=k5 hc;have h3:s.fr.length=3:=by have:=beq_iff_eq.1 h3;omega
  have i:=h.hd;have f:s.J.toNat<s.fr.length:=Z9
  obtain⟨r,R,_⟩:=s7 s s.J.toNat;refine⟨(s,s.J.toNat),⟨⟨iT _,W5,Z5⟩,h,f⟩,λu=>?_,λu=>?_⟩
  ·have u:(X5 s s.J.toNat).2=false:=(wG _).mp u;rw[(l8 0 hc h3 u).1];exact Y1
  ·have u:(X5 s s.J.toNat).2=true:=(yL _).mp u;obtain⟨d1,_⟩:=a03 h o hc h3 u;rw[(x4 0 hc h3 u).1];exact⟨Z1 W5,kJ,((X5 s s.J.toNat).1.d,no),⟨Y1,d1⟩,⟨U9 _,by unfold U2;dsimp only;omega⟩,⟨Z9,W5⟩,D1,by unfold Le;dsimp only;omega,⟨⟨rfl,W2 _ _⟩,⟨rfl,W2 _ _⟩,rfl,⟨rfl,W2 _ _⟩,rfl,⟨rfl,W2 _ _⟩,rfl,⟨a5G,by rw[D8,D8,aY];exact c0x (G0 no (V1 (X5 s s.J.toNat).1.d no).1) (by rw[r];exact f)⟩,Y1⟩,W5,Y1⟩
 ·have hc:¬0<=frAt s.fr no:=k5 hc;have h3:¬s.fr.length=3:=λe=>by rw[e] at h3;simp at h3
  obtain⟨d1,_⟩:=a9F h o;rw[(k7 0 hc h3).1];exact⟨⟨U9 _,O6⟩,⟨U9 _,C9,O6⟩,(s.d,no),⟨Y1,d1⟩,⟨C9,U9 _,O6⟩,⟨Z9,Z9⟩,H3,C9,⟨Y1,Y1,rfl,Y1,rfl,Y1,rfl,⟨a8W,by rw[C8,D8,D8,aY,aY];exact b9j (G0 no (V1 s.d no).1) _ rfl⟩,Y1⟩,Y1⟩
def a6M:Con:=.rel ⟨Sto×Int,λx=>[.agg x.1.ts,Ji x.2],λx=>.tup [.agg (T7 x.1 (x.1.L.getD (x.2-1).toNat dz)).1.ts,.bool (T7 x.1 (x.1.L.getD (x.2-1).toNat dz)).2],λx=>SInv x.1/\1<=x.2/\x.2<=x.1.L.length⟩
theorem b4A{L:List Frm}{k i:Nat}(f:Frm)(h:i≠k):X2 L i=X2 (L.set k f) i:=by
 unfold X2;rw[show(L.set k f).getD i dz=L.getD i dz by rw[Q8,bI (Ne.symm h),←Q8]]
theorem b8y{L:List Frm}{k:Nat}{r:Rec}(d:k<L.length)(hd:(L.getD k dz).D=true):Z7 L.length (setRow (X2 L) k 1 [T.int IntKind.i64 r.l,T.sl 1 ((L.getD k dz).pg.sl.set r.s.toNat r.a).length (Z6 ((L.getD k dz).pg.sl.set r.s.toNat r.a))]) (X2 (L.set k (vL (L.getD k dz) r))):=λi hi=>by
 have hl:∀j,(X2 L j).length=5:=λ_=>rfl
 by_cases h:i=k
 ·subst h;unfold setRow;rw[gA rfl];unfold X2;rw[sD _ d];unfold vL Frm.ts;dsimp only;rw[if_pos hd,hd];rfl
 ·rw[K6 b5q h]
  exact b4A _ h
theorem b3P{L:List Frm}{k:Nat}{r:Rec}(hk:k<L.length)(hd:(L.getD k dz).D=false):Z7 L.length (setRow (setRow (setRow (X2 L) k 1 [T.int IntKind.i64 r.l,T.sl 1 ((L.getD k dz).pg.sl.set r.s.toNat r.a).length (Z6 ((L.getD k dz).pg.sl.set r.s.toNat r.a))]) k 3 [T.bool true]) k 4 [T.int IntKind.i64 r.l]) (X2 (L.set k (vL (L.getD k dz) r))):=λi hi=>by
 have hl:∀j,(X2 L j).length=5:=λ_=>rfl
 by_cases h:i=k
 ·subst h;unfold setRow;rw[gA rfl];unfold X2;rw[sD _ hk];unfold vL Frm.ts;dsimp only;rw[if_neg (by rw[hd];simp)]
  rfl
 ·have a1:(setRow (X2 L) k 1 [T.int IntKind.i64 r.l,T.sl 1 ((L.getD k dz).pg.sl.set r.s.toNat r.a).length (Z6 ((L.getD k dz).pg.sl.set r.s.toNat r.a))] i).length=5:=by rw[T2 b5q,hl]
  rw[K6 (by rw[T2 b0g,a1];exact yQ rfl) h,K6 b0g h,K6 b5q h]
  exact b4A _ h
theorem b3Y(s:Sto)(no:Nat):(Y7 s no).1.L=s.L/\((Y7 s no).1.fr.length<=s.fr.length∨((Y7 s no).1.fr.length=s.fr.length+1/\s.fr.length≠3)):=by
 obtain⟨R,_,r,_⟩:=s7 s s.J.toNat;unfold Y7;split
 ·exact⟨rfl,.inl (U9 _)⟩
 ·split
  ·split
   ·exact⟨r,.inl (by unfold a9Q;dsimp only;rw[w6];omega)⟩
   ·exact⟨r,.inl W5⟩
  ·rename_i h;exact⟨rfl,.inr ⟨a8W,h⟩⟩
theorem a4S:GK 156 a6M:=gk func156<|by
 rintro⟨s,lsn⟩ ⟨h,f,e⟩;dsimp only at h f e;obtain⟨⟨_,u,z,t,j⟩,l⟩:=c0P h f e;have i:=h.l60;have v:=h.fr3;have o:(s.L.getD (lsn-1).toNat dz).g.toNat<8:=Z9
 have n:=(b3Y s (s.L.getD (lsn-1).toNat dz).g.toNat).2;have hf:=oX h o;have e1:(Y7 s (s.L.getD (lsn-1).toNat dz).g.toNat).2.2=true->T7 s (s.L.getD (lsn-1).toNat dz)=(b11 (Y7 s (s.L.getD (lsn-1).toNat dz).g.toNat).1 (Y7 s (s.L.getD (lsn-1).toNat dz).g.toNat).2.1 (s.L.getD (lsn-1).toNat dz),true):=λhu=>if_pos hu
 have q:(Y7 s (s.L.getD (lsn-1).toNat dz).g.toNat).2.2=false->T7 s (s.L.getD (lsn-1).toNat dz)=((Y7 s (s.L.getD (lsn-1).toNat dz).g.toNat).1,false):=λhu=>if_neg (by rw[hu];simp)
 refine R1 (gC a4d (gC b2u gN)) func156 Y5 (α:=let v:=(s.L.getD (lsn-1).toNat dz);let p:=(T7 s v);Ri (lsn-1)/\V3 (lsn-1) s.L.length/\∃(x:(Sto×Nat)),let q:=(Y7 x.1 x.2);let f:=(Z3 Y6 q.1.L p.1.L);let n:=(Z3 Z2 q.1.d.C p.1.d.C);let m:=(Z3 Z6 q.1.d.E p.1.d.E);let k:=q.1.fr.length;let j:=(Z3 Z0 q.1.d.keep p.1.d.keep);let z:=(0+k);let r:=(↑q.2.1:Int).toNat;let y:=(q.1.fr.getD (0+r-0) dz);(((yJ s x.1)/\v.g=(x.2:Int)/\True)/\bF x.1 x.2)/\br (! q.2.2) ((yJ q.1 p.1)/\false=p.2/\True) ((Le 0 0/\U2 0 q.1.fr.length 56)/\V3 (↑q.2.1:Int) z/\Lt (0+r) z/\∃(X:(Pg×Int×Bz×Int)),let w:=(X.1.sl.set X.2.1.toNat X.2.2.1);let u:=(setRow (X6 (tk 5 []) 0 (X2 q.1.fr)) (0+r) 1 [Ji X.2.2.2,T.sl 1 w.length (Z6 w)]);(((y.pg.Q=X.1.Q/\(Z3 Z6 y.pg.sl X.1.sl)/\True)/\v.s=X.2.1/\v.a=X.2.2.1/\lsn=X.2.2.2/\True)/\X.1.sl.length=4/\0<=X.2.1/\X.2.1<(4:Int))/\Lt (0+r) z/\Lt (0+r) z/\br (! y.D) (Lt (0+r) z/\Lt (0+r) z/\Le (0+z) z/\(m/\n/\q.1.d.A=p.1.d.A/\j/\q.1.ep=p.1.ep/\f/\q.1.S=p.1.S/\(0+k=p.1.fr.length/\Z7 z (setRow (setRow u (0+r) 3 [T.bool true]) (0+r) 4 [Ji lsn]) (X2 p.1.fr))/\q.1.J=p.1.J/\True)/\true=p.2/\True) (Le (0+z) z/\(m/\n/\q.1.d.A=p.1.d.A/\j/\q.1.ep=p.1.ep/\f/\q.1.S=p.1.S/\(0+k=p.1.fr.length/\Z7 z u (X2 p.1.fr))/\q.1.J=p.1.J/\True)/\true=p.2/\True))) ⟨Z1 Z9,⟨Z9,Z9⟩,(s,(s.L.getD (lsn-1).toNat dz).g.toNat),⟨⟨iT _,W5,Z5⟩,h,o⟩,λhu=>?_,λhu=>?_⟩
 ·rw[q ((wG _).mp hu)];exact Y1
 ·have hu:=(yL _).mp hu;replace e1:=e1 hu;replace hf:=hf hu;rw[e1];dsimp only at*;generalize s.L.getD (lsn-1).toNat dz=r at*;generalize Y7 s r.g.toNat=A at*;obtain⟨a,k,up⟩:=A;dsimp only at*;obtain⟨hk,p1,p2,p3,p4⟩:=hf;rw[C8,show 0+k=k from D8 k,Nat.sub_zero]
  refine⟨⟨U9 _,O6⟩,⟨Z9,Z9⟩,H3,((a.fr.getD k dz).pg,r.s,r.a,lsn),⟨⟨P2,Y1⟩,p3,t,j⟩,H3,H3,λhd=>?_,λhd=>?_⟩
  ·refine⟨H3,H3,C9,⟨Y1,Y1,rfl,Y1,rfl,Y1,rfl,⟨a5G,?_⟩,Y1⟩,Y1⟩
   rw[D8,aY,←l];exact b3P hk nC
  ·refine⟨C9,⟨Y1,Y1,rfl,Y1,rfl,Y1,rfl,⟨a5G,?_⟩,Y1⟩,Y1⟩
   rw[D8,aY,←l];exact b8y hk nC
end
end Go.Proofs.YtcobnbfhkpbokaaGreat
