/- A part of the proof. -/
import Derived.Test.YtlbmgnomkjmafaaGreatE4
namespace Go.Proofs.YtlbmgnomkjmafaaGreat
set_option maxRecDepth 100000
open Go.SS Go.Proofs.Tryz
noncomputable section
theorem y0:D6 []:=λk ob h=>by simp[Z1] at h
theorem C3{o:Ob}{H:Y4}(h:a1O o)(k:D6 H):D6 (some o::H):=λi ob hi=>by
 cases i with
 |zero=>
  simp only[Z1,List.getElem?_cons_zero,Option.bind_some,id,X2] at hi
  rw[←hi];exact h
 |succ i=>exact k i ob (by simpa[Z1] using hi)
theorem x9{row row':Nat->List T}{n:Nat}:Z7 (0+n) (X7 row 0 row') row':=λi _=>rfl
def B4(L:List Pend):Option Ob:=some (.arr true 0 2 L.length (Y6 L))
def z6(L:List Int):Option Ob:=some (.arr true 0 1 L.length (Y8 L))
def xW(L:List Rec):Option Ob:=some (.arr true 0 10 L.length (Y0 L))
theorem l8(L:List (Bz)):D6 [x4 L]:=C3 (λi _ t h=>by simp only[Z5,List.mem_singleton] at h;rw[h];rfl) y0
theorem dJ(L:List Pend):D6 [B4 L]:=C3 (λi _ t h=>by
 simp only[Y6,Pend.ts,vT,j_h,or_false] at h;rcases h with rfl|rfl<;>rfl) y0
theorem aK(L:List Int):D6 [z6 L]:=C3 (λi _ t h=>by simp only[Y8,List.mem_singleton] at h;rw[h];rfl) y0
theorem a0q(L:List Rec):D6 [xW L]:=C3 (λi _ t h=>by
 simp only[Y0,Rec.ts,vT,j_h,or_false] at h;rcases h with rfl|rfl|rfl|rfl|rfl|rfl|rfl|rfl|rfl|rfl<;>rfl) y0
def b89:Con:=.rmk ⟨List (Bz),λL=>[zA L],λ_=>[],λL=>.osl 0 0 L.length,λL=>[x4 L],λL=>L.length<=1048576⟩
theorem b9n(L:List (Bz))(h:
  ∀(b:Bool),(b=true->L.length=0)->br b (((0=0/\0=L.length)/\True)/\(0=L.length/\Z7 0 (λ(x:Nat)=>[]) (Z5 L))/\True) ((Le 0 0/\U9 0 L.length 16)/\((0=0/\0+L.length=L.length)/\True)/\(0+L.length=L.length/\Z7 (0+L.length) (X7 (tk 1 []) 0 (Z5 L)) (Z5 L))/\True)):
  H6 prog 181 [zA L] [] (.osl 0 0 L.length) [x4 L]:=
 r5 gN func181 Y9 [[.arr 1],[.nilS 0 [] 0 1,.arr 0]] h
theorem a38:GK 181 b89:=gk func181<|λ(L:List (Bz)) (hL:L.length<=1048576)=>
 ⟨b9n L (λb B=>⟨λh=>⟨⟨⟨rfl,(B h).symm⟩,Z6⟩,⟨(B h).symm,λi hi=>absurd hi (J5 _)⟩,Z6⟩,λ_=>⟨⟨V8 _,R1⟩,⟨⟨rfl,Z9⟩,Z6⟩,⟨Z9,x9⟩,Z6⟩⟩),rfl,l8 L⟩
def b3B:Con:=.rmk ⟨List Pend,λL=>[qC L],λ_=>[],λL=>.osl 0 0 L.length,λL=>[B4 L],λL=>L.length<=1048576⟩
theorem b38(L:List Pend)(h:
  ∀(b:Bool),(b=true->L.length=0)->br b (((0=0/\0=L.length)/\True)/\(0=L.length/\Z7 0 (λ(x:Nat)=>[]) (Y6 L))/\True) ((Le 0 0/\U9 0 L.length 24)/\((0=0/\0+L.length=L.length)/\True)/\(0+L.length=L.length/\Z7 (0+L.length) (X7 (tk 2 []) 0 (Y6 L)) (Y6 L))/\True)):
  H6 prog 182 [qC L] [] (.osl 0 0 L.length) [B4 L]:=
 r5 gN func182 Y9 b6U h
theorem b1c:GK 182 b3B:=gk func182<|λ(L:List Pend) (hL:L.length<=1048576)=>
 ⟨b38 L (λb B=>⟨λh=>⟨⟨⟨rfl,(B h).symm⟩,Z6⟩,⟨(B h).symm,λi hi=>absurd hi (J5 _)⟩,Z6⟩,λ_=>⟨⟨V8 _,R1⟩,⟨⟨rfl,Z9⟩,Z6⟩,⟨Z9,x9⟩,Z6⟩⟩),rfl,dJ L⟩
def b8Z:Con:=.rmk ⟨List Int,λL=>[bY L],λ_=>[],λL=>.osl 0 0 L.length,λL=>[z6 L],λL=>L.length<=1048576⟩
theorem c0d(L:List Int)(h:
  ∀(b:Bool),(b=true->L.length=0)->br b (((0=0/\0=L.length)/\True)/\(0=L.length/\Z7 0 (λ(x:Nat)=>[]) (Y8 L))/\True) ((Le 0 0/\U9 0 L.length 8)/\((0=0/\0+L.length=L.length)/\True)/\(0+L.length=L.length/\Z7 (0+L.length) (X7 (tk 1 []) 0 (Y8 L)) (Y8 L))/\True)):
  H6 prog 183 [bY L] [] (.osl 0 0 L.length) [z6 L]:=
 r5 gN func183 Y9 [[.arr 1],[.nilS 0 [] 0 1,.arr 0]] h
theorem a3N:GK 183 b8Z:=gk func183<|λ(L:List Int) (hL:L.length<=1048576)=>
 ⟨c0d L (λb B=>⟨λh=>⟨⟨⟨rfl,(B h).symm⟩,Z6⟩,⟨(B h).symm,λi hi=>absurd hi (J5 _)⟩,Z6⟩,λ_=>⟨⟨V8 _,R1⟩,⟨⟨rfl,Z9⟩,Z6⟩,⟨Z9,x9⟩,Z6⟩⟩),rfl,aK L⟩
def b8h:Con:=.rmk ⟨List Rec,λL=>[pG L],λ_=>[],λL=>.osl 0 0 L.length,λL=>[xW L],λL=>L.length<=1048576⟩
theorem b9V(L:List Rec)(h:
  ∀(b:Bool),(b=true->L.length=0)->br b (((0=0/\0=L.length)/\True)/\(0=L.length/\Z7 0 (λ(x:Nat)=>[]) (Y0 L))/\True) ((Le 0 0/\U9 0 L.length 96)/\((0=0/\0+L.length=L.length)/\True)/\(0+L.length=L.length/\Z7 (0+L.length) (X7 (tk 10 []) 0 (Y0 L)) (Y0 L))/\True)):
  H6 prog 106 [pG L] [] (.osl 0 0 L.length) [xW L]:=
 r5 gN func106 Y9 [[.arr 1],[.nilS 0 [] 0 10,.arr 0]] h
theorem b5O:GK 106 b8h:=gk func106<|λ(L:List Rec) (hL:L.length<=1048576)=>
 ⟨b9V L (λb B=>⟨λh=>⟨⟨⟨rfl,(B h).symm⟩,Z6⟩,⟨(B h).symm,λi hi=>absurd hi (J5 _)⟩,Z6⟩,λ_=>⟨⟨V8 _,R1⟩,⟨⟨rfl,Z9⟩,Z6⟩,⟨Z9,x9⟩,Z6⟩⟩),rfl,a0q L⟩
def Dsk.tm(d:Dsk)(b:Nat):List T:=[.osl b 0 d.E.length,.osl (b+1) 0 d.C.length,.bool d.A,.osl (b+2) 0 d.keep.length]
def Dsk.hp(d:Dsk):Y4:=[x4 d.E,B4 d.C,z6 d.keep]
theorem k6{H K:Y4}(h:D6 H)(k:D6 K):D6 (H++K):=λi ob hi=>by
 unfold Z1 at hi;rw[List.getElem?_append] at hi
 split at hi
 ·exact h i ob hi
 ·exact k _ ob hi
theorem rB(d:Dsk):D6 d.hp:=k6 (l8 _) (k6 (dJ _) (aK _))
def b8D:Con:=.rmk ⟨Dsk,λd=>[.agg d.ts],λ_=>[],λd=>.agg (d.tm 0),λd=>d.hp,dU⟩
theorem b5g:GK 105 b8D:=gk func105<|by
 rintro(d:Dsk) ⟨h1,h2,h3⟩;exact⟨r5 (gC a38 (gC b1c (gC a3N gN))) func105 Y9 [[.arr 2,.arr 3,.arr 4]] (α:=∃(x:(List (Bz))),let p:=x.length;(((Z2 Z5 d.E x)/\True)/\p<=1048576)/\∃(X:(List Pend)),(((Z2 Y6 d.C X)/\True)/\X.length<=1048576)/\∃(e:(List Int)),let q:=e.length;(((Z2 Y8 d.keep e)/\True)/\q<=1048576)/\(((0=0/\p=d.E.length)/\(0=0/\X.length=d.C.length)/\d.A=d.A/\(0=0/\q=d.keep.length)/\True)/\True)/\(p=d.E.length/\Z7 (p) (Z5 x) (Z5 d.E))/\(X.length=d.C.length/\Z7 (X.length) (Y6 X) (Y6 d.C))/\(q=d.keep.length/\Z7 (q) (Y8 e) (Y8 d.keep))/\True) ⟨d.E,⟨Y2,h1⟩,d.C,⟨Y2,h2⟩,d.keep,⟨Y2,h3⟩,Y2⟩,rfl,rB d⟩
def Pg.tm(p:Pg)(b:Nat):List T:=[Ji p.Q,.osl b 0 p.sl.length]
def c4E:Con:=.rmk ⟨Pg,λp=>[.agg p.ts],λ_=>[],λp=>.agg (p.tm 0),λp=>[x4 p.sl],λp=>p.sl.length<=1048576⟩
theorem b8M:GK 107 c4E:=gk func107<|by
 intro(p:Pg) (h1:p.sl.length<=1048576);exact⟨r5 (gC a38 gN) func107 Y9 [[.arr 2]] (α:=∃(x:(List (Bz))),let q:=x.length;(((Z2 Z5 p.sl x)/\True)/\q<=1048576)/\((p.Q=p.Q/\(0=0/\q=p.sl.length)/\True)/\True)/\(q=p.sl.length/\Z7 (q) (Z5 x) (Z5 p.sl))/\True) ⟨p.sl,⟨Y2,h1⟩,Y2⟩,rfl,l8 _⟩
def Z0(L:List Frm)(i:Nat):List T:=[Ji (L.getD i dz).no,Ji (L.getD i dz).pg.Q,.own 0 1 (L.getD i dz).pg.sl.length (Z5 (L.getD i dz).pg.sl),.bool (L.getD i dz).D,Ji (L.getD i dz).first]
def vE(v:Nat)(L:List Frm)(n:Nat):Option Ob:=some (.fam v 0 5 n (Z0 L))
def Sto.tm(s:Sto)(b:Nat):List T:=[.osl b 0 s.d.E.length,.osl (b+1) 0 s.d.C.length,.bool s.d.A,.osl (b+2) 0 s.d.keep.length,Ji s.ep,.osl (b+3) 0 s.L.length,Ji s.S,.osl (b+4) 0 s.fr.length,Ji s.J]
def Sto.hp(s:Sto)(v:Nat):Y4:=[x4 s.d.E,B4 s.d.C,z6 s.d.keep,xW s.L,vE v s.fr s.fr.length]
def c7Z:List T:=[.v (.slice none 0 0),.v (.slice none 0 0),.bool false,.v (.slice none 0 0),Ji 0,.v (.slice none 0 0),Ji 0,.v (.slice none 0 0),Ji 0]
def b4B:Option Ob:=some (.arr true 1000000 9 1 λ_=>c7Z)
def pY(l:List T):Option Ob:=some (.arr false 1000000 9 1 λ_=>l)
abbrev EqF(a b:Sto):Prop:=Z2 Z5 a.d.E b.d.E/\Z2 Y6 a.d.C b.d.C/\a.d.A=b.d.A/\Z2 Y8 a.d.keep b.d.keep/\a.ep=b.ep/\Z2 Y0 a.L b.L/\a.S=b.S/\(a.fr.length=b.fr.length/\Z7 a.fr.length (a6C (Z0 a.fr)) (V2 b.fr))/\a.J=b.J/\True
abbrev EqC(a b:Sto):Prop:=((0:Nat)=0/\a.d.E.length=b.d.E.length)/\((0:Nat)=0/\a.d.C.length=b.d.C.length)/\a.d.A=b.d.A/\((0:Nat)=0/\a.d.keep.length=b.d.keep.length)/\a.ep=b.ep/\((0:Nat)=0/\a.L.length=b.L.length)/\a.S=b.S/\((0:Nat)=0/\a.fr.length=b.fr.length)/\a.J=b.J/\True
abbrev EqH(v u:Nat)(a b:Sto):Prop:=Z2 Z5 a.d.E b.d.E/\Z2 Y6 a.d.C b.d.C/\Z2 Y8 a.d.keep b.d.keep/\Z2 Y0 a.L b.L/\(v=u/\a.fr.length=b.fr.length/\U7 a.fr.length (Z0 a.fr) (Z0 b.fr))/\True
abbrev mQ(a b:Sto):Prop:=(1:Nat)=1/\(1:Nat)=1/\EqC a b
abbrev LnS(v u:Nat)(a b:Sto):Prop:=mQ a b/\EqH v u a b
abbrev LeS(a:Sto):Prop:=Le (0+a.d.E.length) a.d.E.length/\Le (0+a.d.C.length) a.d.C.length/\Le (0+a.d.keep.length) a.d.keep.length/\Le (0+a.L.length) a.L.length/\Le (0+a.fr.length) a.fr.length
abbrev EqR(a b:Rec):Prop:=a.e=b.e/\a.l=b.l/\a.t=b.t/\a.k=b.k/\a.p=b.p/\a.n=b.n/\a.g=b.g/\a.s=b.s/\a.b=b.b/\a.a=b.a/\True
theorem gV{L:List Frm}(n:Nat):U7 n (Z0 L) (Z0 L):=λi _=>by
 refine⟨?_,?_,Y2,?_,?_,Z6⟩<;>rfl
theorem I0{q r:Sort _}{v:q}{a:r}{n:Nat}{L:List Frm}:v=v/\a=a/\U7 n (Z0 L) (Z0 L):=⟨rfl,rfl,gV _⟩
theorem Z8{p:Prop}(h:p:=by repeat' first|exact rfl|exact gV _|exact trivial|refine And.intro ?_ ?_|exact λ_ _=>rfl|exact V8 _|exact O3 _|exact λi hi=>absurd hi (J5 i)|(unfold Le;omega)):p:=h
theorem tL{i n:Nat}(h:i<n):Nat.blt i n=true:=Nat.ble_eq_true_of_le h
theorem qH{i n:Nat}(h:¬i<n):Nat.blt i n=false:=by
 cases B:Nat.blt i n with
 |false=>rfl
 |true=>exact absurd (zP B) h
theorem a8O{L:List Frm}{i:Nat}:U7 (i+1) (X7 (Z0 L) i λ_=>Z0 L i) (Z0 L):=λj J=>by
 have:X7 (Z0 L) i (λ_=>Z0 L i) j=Z0 L j:=by
  unfold X7;by_cases h:j<i
  ·rw[tL h]
  ·rw[qH h,show i=j by omega]
 rw[this];exact gV (j+1) j (Nat.lt_succ_self j)
theorem b1R(v:Nat)(L:List Frm)(n:Nat):D6 [vE v L n]:=C3 (λi _ t h=>by
 simp only[Z0,vT,j_h,or_false] at h;rcases h with rfl|rfl|rfl|rfl|rfl
 ·rfl
 ·rfl
 ·intro j _ t h;simp only[Z5,List.mem_singleton] at h;rw[h];rfl
 ·rfl
 ·rfl) y0
theorem mF(s:Sto)(v:Nat):D6 (s.hp v):=k6 (H:=s.d.hp) (rB _) (k6 (a0q _) (b1R _ _ _))
theorem lR:∀l:List T,b4C l l
 | []=>trivial
 |a::r=>⟨by cases a<;>first|rfl|exact⟨rfl,rfl,W2 _ _⟩,lR r⟩
theorem a6q{n:Nat}{f g:Nat->List T}(h:∀i,i<n->f i=g i):U7 n f g:=λi hi=>by rw[h i hi];exact lR _
def b9r:Con:=.rmk ⟨Sto,λs=>[.agg s.ts],λ_=>[],λs=>.agg (s.tm 0),λs=>s.hp 0,SmS⟩
def c0D(s:Sto):Nat->Ann
 |0=>.one (Up s.fr.length) (λx=>⟨[(1,.ref 0 0 0),(2,.ref 1 0 0),(17,a5V s.fr),(18,Ji s.fr.length),(19,Ji x.1)],[pY [.osl 2 0 s.d.E.length,.osl 3 0 s.d.C.length,.bool s.d.A,.osl 4 0 s.d.keep.length,Ji s.ep,.osl 5 0 s.L.length,Ji s.S,.osl 6 0 x.1,Ji s.J],b4B,x4 s.d.E,B4 s.d.C,z6 s.d.keep,xW s.L,vE 0 s.fr x.1]⟩) (λx=>s.fr.length-x.1) [.nilC 0 7 0 5,.fam 6,.box 0,.box 1,.arr 2,.arr 3,.arr 4,.arr 5,.arr 6] [.box 0,.box 1,.arr 2,.arr 3,.arr 4,.arr 5,.at_ 31] (λ_=>Y9)
 |_=>.none
theorem b3C:GK 49 b9r:=gk func49<|by
 rintro(s:Sto) ⟨h1,h2,h3,h4⟩;refine⟨r5 (gC b5g (gC b5O (gC b8M gN))) func49 (c0D s) [c13] (α:=let c:=(Z2 V2 s.fr s.fr);let b:=(Z2 Y6 s.d.C s.d.C);let a:=(Z2 Z5 s.d.E s.d.E);let n:=(Z2 Y8 s.d.keep s.d.keep);let m:=(0=0/\0=0);let k:=(0=0/\s.L.length=s.L.length);let j:=(Z0 s.fr);let w:=(0=0/\s.d.C.length=s.d.C.length);let v:=(0=0/\s.d.E.length=s.d.E.length);let u:=(0=0/\s.d.keep.length=s.d.keep.length);let r:=(s.fr.length:Int);let p:=(oo (Value.slice none 0 0=Value.slice none 0 0/\Value.slice none 0 0=Value.slice none 0 0/\false=false/\Value.slice none 0 0=Value.slice none 0 0/\(0:Int)=0/\Value.slice none 0 0=Value.slice none 0 0/\(0:Int)=0/\Value.slice none 0 0=Value.slice none 0 0/\(0:Int)=0/\True));∃(x:Dsk),(((xP s.d x)/\True)/\dU x)/\∃(e:(List Rec)),let g:=e.length;(((Z2 Y0 s.L e)/\True)/\g<=1048576)/\(∃(X:Up s.fr.length),(m/\m/\c/\r=r/\0=(X.val:Int)/\True)/\(oo ((0=0/\x.E.length=s.d.E.length)/\(0=0/\x.C.length=s.d.C.length)/\x.A=s.d.A/\(0=0/\x.keep.length=s.d.keep.length)/\s.ep=s.ep/\(0=0/\g=s.L.length)/\s.S=s.S/\(0=0/\0=X.val)/\s.J=s.J/\True))/\p/\(Z2 Z5 x.E s.d.E)/\(Z2 Y6 x.C s.d.C)/\(Z2 Y8 x.keep s.d.keep)/\(g=s.L.length/\Z7 (g) (Y0 e) (Y0 s.L))/\(0=0/\0=X.val/\U7 0 (λ(x:Nat)=>[]) j)/\True)/\∀(x:Up s.fr.length),let f:=x.1;let z:=(f:Int);let q:=(s.fr.getD z.toNat dz);bd (z<r) (V7 z s.fr.length/\∃(X:Pg),(((q.pg.Q=X.Q/\(Z2 Z5 q.pg.sl X.sl)/\True)/\True)/\X.sl.length<=1048576)/\(Le X.sl.length X.sl.length/\Le x.1 f/\U9 x.1 1 56)/\Ri (z+1)/\∃(y:Up s.fr.length),((m/\m/\c/\r=r/\z+1=(y.1:Int)/\True)/\(oo (v/\w/\s.d.A=s.d.A/\u/\s.ep=s.ep/\k/\s.S=s.S/\(0=0/\f+1=y.1)/\s.J=s.J/\True))/\p/\a/\b/\n/\(Z2 Y0 s.L s.L)/\(0=0/\f+1=y.1/\U7 (f+1) (X7 j x.1 λ(x_3:Nat)=>[Ji q.no,Ji X.Q,T.own 0 1 X.sl.length (Z5 X.sl),T.bool q.D,Ji q.first]) j)/\True)/\Lt (s.fr.length-y.1) (s.fr.length-f)) (((v/\w/\s.d.A=s.d.A/\u/\s.ep=s.ep/\k/\s.S=s.S/\(0=0/\f=s.fr.length)/\s.J=s.J/\True)/\True)/\a/\b/\n/\(Z2 Y0 s.L s.L)/\(0=0/\f=s.fr.length/\U7 x.1 j j)/\True)) ⟨s.d,⟨Y2,h1⟩,s.L,⟨Y2,h2⟩,⟨⟨0,O3 _⟩,Y2,Y2,Y2,Y2,Y2,Y2,Y2,⟨rfl,rfl,λi hi=>absurd hi (J5 _)⟩,Z6⟩,λx=>⟨λhc=>?_,λhc=>?_⟩⟩,rfl,?_⟩
 ·have h:=Y1 hc;rw[G2];exact⟨Y3 h,(s.fr.getD x.1 dz).pg,⟨Y2,h4 _ h⟩,⟨V8 _,V8 _,R1⟩,Z3 Z9,⟨x.1+1,h⟩,⟨⟨Y2,Y2,Y2,rfl,X0,Z6⟩,Y2,Y2,Y2,Y2,Y2,Y2,⟨rfl,rfl,a8O⟩,Z6⟩,U8.ext_lt h⟩
 ·have hx:x.1=s.fr.length:=by have:=x.2;have:=X6 hc;omega
  rw[hx];exact⟨Y2,Y2,Y2,Y2,Y2,I0,Z6⟩
 ·exact mF s 0
def Sto.tn(s:Sto)(a b c d e:Nat):List T:=[.osl a 0 s.d.E.length,.osl b 0 s.d.C.length,.bool s.d.A,.osl c 0 s.d.keep.length,Ji s.ep,.osl d 0 s.L.length,Ji s.S,.osl e 0 s.fr.length,Ji s.J]
def Sto.bx(s:Sto)(v:Nat):Y4:=[pY (s.tn 1 2 3 4 5),x4 s.d.E,B4 s.d.C,z6 s.d.keep,xW s.L,vE v s.fr s.fr.length]
def Sto.bxL(s:Sto)(v:Nat):Y4:=[pY (s.tn 1 2 3 6 5),x4 s.d.E,B4 s.d.C,z6 s.d.keep,none,vE v s.fr s.fr.length,xW s.L]
def T1(s:Sto)(r:Rec):Rec:=⟨s.ep,(s.L.length:Int)+1,r.t,r.k,r.p,r.n,r.g,r.s,r.b,r.a⟩
def P9(s:Sto)(r:Rec):Sto:=if L9 (T1 s r)=true then{s with L:=s.L++[T1 s r]} else s
def SmR(r:Rec):Prop:=r.b.length<=1048576/\r.a.length<=1048576
def a4H:Rle:=⟨Sto×Rec×Nat,λx=>[.ref 0 0 0,.agg x.2.1.ts],λx=>x.1.bx x.2.2,λx=>.bool (L9 (T1 x.1 x.2.1)),λx=>(P9 x.1 x.2.1).bxL x.2.2,λx=>x.1.L.length<=60/\SmR x.2.1⟩
def b5X:Con:=.reff a4H
theorem a1W(L:List Rec)(r:Rec):Z7 (L.length+1) (X7 (Y0 L) L.length λk=>List.take 10 (List.drop (k*10) r.ts)) (Y0 (L++[r])):=by
 intro i hi;unfold X7 Y0;by_cases h:i<L.length
 ·rw[tL h,R2,R2,uW h]
 ·have:i=L.length:=by omega
  subst this;rw[qH h];have:(L++[r]).getD L.length dz=r:=by rw[R2,tG (V8 _)];simp
  rw[this];simp[Rec.ts]
theorem kZ:GK 111 b5X:=gk func111<|by
 rintro⟨s,r,v⟩ ⟨f,j,i⟩;dsimp only at f j i;refine r5 (gC mS gN) func111 Y9 [c2x,[.box 0,.arr 1,.arr 2,.arr 3,.arr 4,.arr 5,.arr 4]] (α:=let m:=(P9 s r).L.length;let j:=(P9 s r).fr.length;let w:=(Z2 Y6 s.d.C (P9 s r).d.C);let y:=(Z2 Z5 s.d.E (P9 s r).d.E);let u:=(Z2 Y8 s.d.keep (P9 s r).d.keep);let z:=((s.L.length:Int)+1);let q:=(v=v/\s.fr.length=j/\U7 s.fr.length (Z0 s.fr) (Z0 (P9 s r).fr));Ri z/\c0k r.a/\br (!L9 (Rec.mk s.ep z r.t r.k r.p r.n r.g r.s r.b r.a)) ((false=L9 (T1 s r)/\True)/\mQ s (P9 s r)/\y/\w/\u/\True/\q/\(Z2 Y0 s.L (P9 s r).L)/\True) ((Le 1 1/\Le s.L.length s.L.length/\U9 s.L.length 1 96)/\(true=L9 (T1 s r)/\True)/\(oo ((0=0/\s.d.E.length=(P9 s r).d.E.length)/\(0=0/\s.d.C.length=(P9 s r).d.C.length)/\s.d.A=(P9 s r).d.A/\(0=0/\s.d.keep.length=(P9 s r).d.keep.length)/\s.ep=(P9 s r).ep/\(0=0/\s.L.length+1=m)/\s.S=(P9 s r).S/\(0=0/\s.fr.length=j)/\s.J=(P9 s r).J/\True))/\y/\w/\u/\True/\q/\(s.L.length+1=m/\Z7 (s.L.length+1) (X7 (Y0 s.L) s.L.length (tk 10 [Ji s.ep,Ji z,Ji r.t,Ji r.k,Ji r.p,Ji r.n,Ji r.g,Ji r.s,T.str r.b,T.str r.a])) (Y0 (P9 s r).L))/\True)) ⟨Z3 Z9,by unfold c0k;omega,λh=>?_,λh=>?_⟩
 ·have hr:L9 (T1 s r)=false:=by simpa[T1] using h
  have e:P9 s r=s:=by unfold P9;rw[if_neg (by rw[hr];simp)]
  rw[e,hr];exact⟨Y2,Y2,Y2,Y2,Y2,Z6,I0,Y2,Z6⟩
 ·have hr:L9 (T1 s r)=true:=by simpa[T1] using h
  have e:P9 s r={s with L:=s.L++[T1 s r]}:=by unfold P9;rw[if_pos hr]
  rw[e,hr];have hl:s.L.length+1=(s.L++[T1 s r]).length:=W8
  exact⟨⟨V8 _,V8 _,R1⟩,Y2,⟨rfl,rfl,Y2,Y2,rfl,Y2,rfl,⟨rfl,hl⟩,Y2⟩,Y2,Y2,Y2,Z6,I0,⟨hl,a1W s.L (T1 s r)⟩,Z6⟩
def c7E:Sto:=⟨⟨[],[],false,[]⟩,0,[],0,[],0⟩
theorem aU(n:Nat):Le (0+n) n:=Nat.le_of_eq (C9 n)
theorem K8{row row':Nat->List T}:Z7 0 row row':=λi hi=>absurd hi (J5 _)
def b5T:Con:=.rmk ⟨Dsk,λd=>[.agg d.ts],λ_=>[],λd=>.agg (d.tm 0),λd=>d.hp,dU⟩
theorem mG:GK 144 b5T:=gk func144<|by
 rintro(d:Dsk) ⟨h1,h2,h3⟩;exact⟨r5 gN func144 Y9 [[.arr 3,.arr 5,.arr 7]] (α:=(Le 0 0/\U9 0 d.E.length 16)/\(Le 0 0/\U9 0 d.C.length 24)/\(Le 0 0/\U9 0 d.keep.length 8)/\(((0=0/\0+d.E.length=d.E.length)/\(0=0/\0+d.C.length=d.C.length)/\d.A=d.A/\(0=0/\0+d.keep.length=d.keep.length)/\True)/\True)/\(0+d.E.length=d.E.length/\Z7 (0+d.E.length) (X7 (tk 1 []) 0 (Z5 d.E)) (Z5 d.E))/\(0+d.C.length=d.C.length/\Z7 (0+d.C.length) (X7 (tk 2 []) 0 (Y6 d.C)) (Y6 d.C))/\(0+d.keep.length=d.keep.length/\Z7 (0+d.keep.length) (X7 (tk 1 []) 0 (Y8 d.keep)) (Y8 d.keep))/\True) ⟨⟨V8 _,R1⟩,⟨V8 _,R1⟩,⟨V8 _,R1⟩,⟨⟨⟨rfl,Z9⟩,⟨rfl,Z9⟩,rfl,⟨rfl,Z9⟩,Z6⟩,Z6⟩,⟨Z9,x9⟩,⟨Z9,x9⟩,⟨Z9,x9⟩,Z6⟩,rfl,rB d⟩
def b4g:Con:=.rmk ⟨Pg,λp=>[.agg p.ts],λ_=>[],λp=>.agg (p.tm 0),λp=>[x4 p.sl],λp=>p.sl.length<=1048576⟩
theorem aA:GK 145 b4g:=gk func145<|by
 intro(p:Pg) (h1:p.sl.length<=1048576);exact⟨r5 gN func145 Y9 [[.arr 3]] (α:=(Le 0 0/\U9 0 p.sl.length 16)/\((p.Q=p.Q/\(0=0/\0+p.sl.length=p.sl.length)/\True)/\True)/\(0+p.sl.length=p.sl.length/\Z7 (0+p.sl.length) (X7 (tk 1 []) 0 (Z5 p.sl)) (Z5 p.sl))/\True) ⟨⟨V8 _,R1⟩,⟨⟨rfl,⟨rfl,Z9⟩,Z6⟩,Z6⟩,⟨Z9,x9⟩,Z6⟩,rfl,l8 _⟩
def b7w:Con:=.rmk ⟨Sto,λs=>[.agg s.ts],λ_=>[],λs=>.agg (s.tm 0),λs=>s.hp 0,SmS⟩
def b56(s:Sto):Nat->Ann
 |0=>.one (Up s.fr.length) (λx=>⟨[(1,.ref 0 0 0),(2,.ref 1 0 0),(3,.osl 6 0 x.1),(4,Ji x.1)],[pY [.osl 2 0 s.d.E.length,.osl 3 0 s.d.C.length,.bool s.d.A,.osl 4 0 s.d.keep.length,Ji s.ep,.osl 5 0 s.L.length,Ji s.S,a5V s.fr,Ji s.J],b4B,x4 s.d.E,B4 s.d.C,z6 s.d.keep,xW s.L,vE 0 s.fr x.1]⟩) (λx=>s.fr.length-x.1) [.fam 7,.box 0,.box 1,.arr 2,.arr 3,.arr 4,.arr 6,.arr 7] [.box 0,.box 1,.arr 2,.arr 3,.arr 4,.arr 5,.at_ 3] (λ_=>Y9)
 |_=>.none
theorem b1v:GK 78 b7w:=gk func78<|by
 rintro(s:Sto) ⟨h1,h2,h3,h4⟩;refine⟨r5 (gC mG (gC aA gN)) func78 (b56 s) [c13] (α:=let a:=(Z2 V2 s.fr s.fr);let g:=(Z2 Y6 s.d.C s.d.C);let f:=(Z2 Z5 s.d.E s.d.E);let m:=(Z2 Y8 s.d.keep s.d.keep);let k:=(0=0/\0=0);let j:=(0=0/\s.L.length=s.L.length);let w:=(Z0 s.fr);let v:=(0=0/\s.d.C.length=s.d.C.length);let u:=(0=0/\s.d.E.length=s.d.E.length);let z:=(0=0/\s.d.keep.length=s.d.keep.length);let p:=(oo (Value.slice none 0 0=Value.slice none 0 0/\Value.slice none 0 0=Value.slice none 0 0/\false=false/\Value.slice none 0 0=Value.slice none 0 0/\(0:Int)=0/\Value.slice none 0 0=Value.slice none 0 0/\(0:Int)=0/\Value.slice none 0 0=Value.slice none 0 0/\(0:Int)=0/\True));∃(x:Dsk),(((xP s.d x)/\True)/\dU x)/\(Le 0 0/\U9 0 s.L.length 96)/\(∃(X:Up s.fr.length),(k/\k/\(0=0/\0=X.val)/\0=(X.val:Int)/\True)/\(oo ((0=0/\x.E.length=s.d.E.length)/\(0=0/\x.C.length=s.d.C.length)/\x.A=s.d.A/\(0=0/\x.keep.length=s.d.keep.length)/\s.ep=s.ep/\(0=0/\0+s.L.length=s.L.length)/\s.S=s.S/\a/\s.J=s.J/\True))/\p/\(Z2 Z5 x.E s.d.E)/\(Z2 Y6 x.C s.d.C)/\(Z2 Y8 x.keep s.d.keep)/\(0+s.L.length=s.L.length/\Z7 (0+s.L.length) (X7 (tk 10 []) 0 (Y0 s.L)) (Y0 s.L))/\(0=0/\0=X.val/\U7 0 (tk 5 []) w)/\True)/\∀(x:Up s.fr.length),let n:=x.1;let r:=(n:Int);let q:=(s.fr.getD r.toNat dz);bd (r<(s.fr.length:Int)) (V7 r s.fr.length/\∃(X:Pg),(((q.pg.Q=X.Q/\(Z2 Z5 q.pg.sl X.sl)/\True)/\True)/\X.sl.length<=1048576)/\(Le X.sl.length X.sl.length/\Le x.1 n/\U9 x.1 1 56)/\Ri (r+1)/\∃(y:Up s.fr.length),((k/\k/\(0=0/\n+1=y.1)/\r+1=(y.1:Int)/\True)/\(oo (u/\v/\s.d.A=s.d.A/\z/\s.ep=s.ep/\j/\s.S=s.S/\a/\s.J=s.J/\True))/\p/\f/\g/\m/\(Z2 Y0 s.L s.L)/\(0=0/\n+1=y.1/\U7 (n+1) (X7 w x.1 λ(x_2:Nat)=>[Ji q.no,Ji X.Q,T.own 0 1 X.sl.length (Z5 X.sl),T.bool q.D,Ji q.first]) w)/\True)/\Lt (s.fr.length-y.1) (s.fr.length-n)) (((u/\v/\s.d.A=s.d.A/\z/\s.ep=s.ep/\j/\s.S=s.S/\(0=0/\n=s.fr.length)/\s.J=s.J/\True)/\True)/\f/\g/\m/\(Z2 Y0 s.L s.L)/\(0=0/\n=s.fr.length/\U7 x.1 w w)/\True)) ⟨s.d,⟨Y2,h1⟩,⟨V8 _,R1⟩,⟨⟨0,O3 _⟩,Y2,⟨rfl,rfl,Y2,Y2,rfl,Y2,rfl,⟨rfl,Z9⟩,Y2⟩,Y2,Y2,Y2,Y2,⟨Z9,x9⟩,⟨rfl,rfl,λi hi=>absurd hi (J5 _)⟩,Z6⟩,λx=>⟨λhc=>?_,λhc=>?_⟩⟩,rfl,mF s 0⟩
 ·have h:=Y1 hc;rw[G2];exact⟨Y3 h,(s.fr.getD x.1 dz).pg,⟨Y2,h4 _ h⟩,⟨V8 _,V8 _,R1⟩,Z3 Z9,⟨x.1+1,h⟩,⟨⟨Y2,Y2,Y2,X0,Z6⟩,Y2,Y2,Y2,Y2,Y2,Y2,⟨rfl,rfl,a8O⟩,Z6⟩,U8.ext_lt h⟩
 ·have hx:x.1=s.fr.length:=by have:=x.2;have:=X6 hc;omega
  rw[hx];exact⟨Y2,Y2,Y2,Y2,Y2,I0,Z6⟩
def Frm.tm(f:Frm)(b:Nat):List T:=[Ji f.no,Ji f.pg.Q,.osl b 0 f.pg.sl.length,.bool f.D,Ji f.first]
theorem b6F{a b:Nat}(h:a≠b):Nat.beq a b=false:=by
 cases B:Nat.beq a b with
 |false=>rfl
 |true=>exact absurd (G1 B) h
theorem gL{a b:Nat}(h:a=b):Nat.beq a b=true:=by subst h;exact Nat.beq_refl a
theorem c1P{α:Type}(f:Nat->α){n i:Nat}(h:i<n)(d:α):((List.range n).map f).getD i d=f i:=by
 rw[R2,pW,List.getElem?_range h]
 rfl
theorem K7{row:Nat->List T}{i j k:Nat}{cs:List T}(h:j+cs.length<=(row k).length)(d:k≠i):setRow row i j cs k=row k:=by
 rw[j6 h,b6F d]
theorem gY{row:Nat->List T}{i j:Nat}{t:T}(h:j<(row i).length):setRow row i j [t] i=(row i).set j t:=by
 rw[j6 H4,gL rfl]
 rw[List.set_eq_take_append_cons_drop,if_pos h];simp
def c6V(ln:Nat->Nat)(k:Nat):Nat->Nat
 |0=>k
 |i+1=>c6V ln k i+(ln i+4)
def c7L(L:List Frm)(i:Nat):Nat:=(L.getD i dz).pg.sl.length
def c75(d:Dsk)(k:Nat):Nat:=k+d.E.length+2*d.C.length+d.keep.length
def bV(s:Sto)(k:Nat):Nat:=c6V (c7L s.fr) (c75 s.d k+10*s.L.length) s.fr.length
def c4u(l:Bz)(L:List (Bz)):Nat->Ann
 |0=>.one (Up L.length) (λx=>⟨[(0,.osl 2 0 (l++W1 L x.1).length),(13,.osl 1 0 L.length),(14,Ji L.length),(15,Ji x.1)],[none,x4 L,some (.bys 5 (l++W1 L x.1))]⟩) (λx=>L.length-x.1) [.arr 0,.arr 1,.arr 3] [.arr 0,.arr 1,.at_ 0] (λ_=>Y9)
 |_=>.none
def a3c:Con:=.reff ⟨Bz×List (Bz),λx=>[.osl 0 0 x.1.length,.osl 1 0 x.2.length],λx=>[some (.bys 5 x.1),x4 x.2],λx=>.osl 2 0 (x.1++S0 x.2).length,λx=>[none,x4 x.2,some (.bys 5 (x.1++S0 x.2))],λx=>x.1.length<=1000/\o8 x.2⟩
theorem a11:GK 192 a3c:=gk func192<|by
 rintro⟨l,L⟩ ⟨g,h,h3⟩;dsimp only at g h h3;have f:List.take l.length l++List.take 1 (List.drop 0 (List.map Q8 [IntKind.u8.wrap (L.length:Int)]))=l++W1 L 0:=by rw[cH];rfl
 refine r5 gN func192 (c4u l L) [[.arr 0,.arr 1,.arr 2]] (α:=let w:=(Z2 Z5 L L);let v:=(0=0/\L.length=L.length);let z:=(L.length:Int);O7 IntKind.u8 (IntKind.u8.wrap z)/\(Le 1 1/\Le l.length l.length/\U9 l.length 1 1)/\(∃(x:Up L.length),((0=0/\l.length+1=(l++W1 L x.1).length)/\v/\z=z/\0=(x.1:Int)/\True)/\True/\w/\List.take l.length l++List.take 1 (List.drop 0 (List.map Q8 [IntKind.u8.wrap z]))=l++W1 L x.1/\True)/\∀(x:Up L.length),let u:=(x.1:Int);let j:=(0+u.toNat);let q:=(L.getD j []).length;let p:=(l++W1 L x.1).length;let r:=(List.take p (l++W1 L x.1)++List.take 1 (List.drop 0 (List.map Q8 [IntKind.u8.wrap (↑q:Int)])));bd (u<z) (V7 u L.length/\Lt j L.length/\O7 IntKind.u8 (IntKind.u8.wrap (↑q:Int))/\(Le 1 1/\Le p p/\U9 p 1 1)/\(Le (p+1) r.length/\U9 (p+1) q 1)/\Ri (u+1)/\∃(y:Up L.length),(((0=0/\p+1+q=(l++W1 L y.1).length)/\v/\z=z/\u+1=(y.1:Int)/\True)/\True/\w/\List.take (p+1) r++L.getD j []=l++W1 L y.1/\True)/\Lt (L.length-y.1) (L.length-x.1)) (((0=0/\p=(l++S0 L).length)/\True)/\True/\w/\l++W1 L x.1=l++S0 L/\True)) ⟨O2 _,⟨V8 _,V8 _,R1⟩,⟨⟨0,O3 _⟩,⟨⟨rfl,by simp[W1]⟩,⟨rfl,rfl⟩,rfl,rfl,Z6⟩,Z6,⟨rfl,W2 _ _⟩,f,Z6⟩,λx=>⟨λhc=>?_,λhc=>?_⟩⟩
 ·have hlt:=Y1 hc;have f1:=wU L h3 x.1 Z9
  have F:=h3 x.1 hlt;rw[G2,C9];have hl:(l++W1 L x.1).length<=1100000:=by rw[K2];omega
  have e:List.take (l++W1 L x.1).length (l++W1 L x.1)++List.take 1 (List.drop 0 (List.map Q8 [IntKind.u8.wrap ((L.getD x.1 []).length:Int)]))=l++W1 L x.1++[zW (L.getD x.1 []).length]:=by
   rw[cH];rfl
  rw[e];have d:(l++W1 L x.1++[zW (L.getD x.1 []).length]).length=(l++W1 L x.1).length+1:=by rw[K2];rfl
  refine⟨Y3 hlt,H9,O2 _,⟨V8 _,V8 _,R1⟩,⟨by rw[d];exact V8 _,R1⟩,Z3 Z9,⟨x.1+1,hlt⟩,⟨⟨⟨rfl,?_⟩,Y2,rfl,X0,Z6⟩,Z6,Y2,?_,Z6⟩,U8.ext_lt hlt⟩
  ·simp only[W1,K2,List.length_cons,List.length_nil];omega
  ·rw[←d,cH];simp only[W1,List.append_assoc]
 ·have hx:x.1=L.length:=by have:=x.2;have:=X6 hc;omega
  rw[hx];exact Y2
def c3x:Con:=.rel ⟨Nat,λn=>[Ji n],λn=>.bys (F8 n),λn=>n<4294967296⟩
theorem a2w:GK 148 c3x:=gk func148<|by
 intro(n:Nat) hn;have h:Nn 8:=by unfold Nn;omega
 exact S1 gN func148 Y9 (α:=let p:=(n:Int).fdiv;let q:=(p (16777216:Int));Nn (24:Int)/\Nn (16:Int)/\Nn (8:Int)/\(O7 IntKind.u8 (IntKind.u8.wrap q)/\O7 IntKind.u8 (IntKind.u8.wrap (p (65536:Int)))/\O7 IntKind.u8 (IntKind.u8.wrap (p (256:Int)))/\O7 IntKind.u8 (IntKind.u8.wrap (n:Int)))/\Le 4 4/\List.take 4 (List.drop 0 (List.map Q8 [IntKind.u8.wrap q,IntKind.u8.wrap (p (65536:Int)),IntKind.u8.wrap (p (256:Int)),IntKind.u8.wrap (n:Int)]))=F8 n) ⟨tI,tI,h,⟨O2 _,O2 _,O2 _,O2 _⟩,V8 _,by unfold F8;rw[show(n:Int).fdiv 1=n by rw[Int.fdiv_one]];rfl⟩
def b3F:Con:=.eff wR
theorem b2G:GK 104 b3F:=gk func104<|by
 intro args H res H' p h hp;unfold wR at h;split at h
 case h_2=>cases h
 rename_i k off n ty l;split at h
 ·skip
  simp only[X2,U0] at h;obtain⟨rfl,rfl,rfl⟩:=h;obtain⟨rfl,hl⟩:zJ n l:=hp;have e4:(F8 (m0 l)).length=4:=rfl;have hc:=a1B l;refine vcE (gC pE (gC a2w gN)) func104 Y9 (bs:=[false]) (α:=∃(x:(uO IntKind.u32).ι),(Le (0+l.length) l.length/\(List.take l.length (List.drop 0 l)=x/\True)/\w2 x)/\∃(x_1:Nat),let p:=(List.take l.length l++F8 x_1);((IntKind.i64.wrap (↑(m0 x):Int)=(x_1:Int)/\True)/\x_1<4294967296)/\(Le l.length l.length/\U9 l.length 4 1)/\Le (0+(l.length+4)) p.length/\List.take (l.length+4) (List.drop 0 p)=l++F8 (m0 l)/\True/\True) ⟨l,⟨L6,⟨dR,Z6⟩,a3C⟩,m0 l,⟨⟨?_,Z6⟩,hc⟩,⟨V8 _,R1⟩,?_,?_,Y2⟩
  ·rw[IntKind.wrap_i64];omega
  ·unfold Le;rw[cH,K2,e4,C9];exact V8 _
  ·rw[cH,List.drop_zero];exact List.take_of_length_le (by rw[K2,e4];exact V8 _)
 ·cases h
def a49(r:Rec):Bz:=[Q8 108,zW r.e,zW r.l,zW r.t,zW r.k,zW r.p,zW r.n,zW r.g,zW r.s]++S0 [r.b,r.a]
def P2(r:Rec):Bz:=a49 r++F8 (m0 (a49 r))
def a6S(r:Rec):Prop:=r.b.length<=1000/\r.a.length<=1000
theorem pU(a b:Bz):Z7 2 (λk=>List.take 1 (List.drop (k*1) [T.str a,T.str b])) (Z5 [a,b]):=λi hi=>by
 match i,hi with
 |0,_=>rfl
 |1,_=>rfl
theorem fs2{a b:Bz}(h:a.length<=1000)(d:b.length<=1000):o8 [a,b]:=⟨W8,λi hi=>by
 match i,hi with
 |0,_=>exact h
 |1,_=>exact d⟩
theorem b6f{r:Rec}(f:o8 [r.b,r.a]):(a49 r).length<=1000000:=by
 have hl:=wU [r.b,r.a] f.2 2 (V8 _);have hl:(S0 [r.b,r.a]).length<=2003:=hl;unfold a49;rw[K2];simp only[List.length_cons,List.length_nil];omega
def cZ:Con:=.rel ⟨Rec,λr=>[.agg r.ts],λr=>.bys (P2 r),a6S⟩
theorem dX:GK 121 cZ:=gk func121<|by
 rintro(r:Rec) ⟨h1,h2⟩;have f:=fs2 h1 h2;exact S1 (gC a11 (gC b2G gN)) func121 (b7j 9) (α:=let pr:=(1+1+1+1);let pg:=(List.map Q8 [(108:Int)]);let pf:=(1+1+1+1+1);let pd:=(1+1+1+1+1+1+1+1);let pa:=(1+1+1+1+1+1+1);let i:=(1+1+1+1+1+1);let d:=(List.drop 0 (List.map Q8 [IntKind.u8.wrap r.g]));let c:=(List.drop 0 (List.map Q8 [IntKind.u8.wrap r.p]));let f:=(List.drop 0 (List.map Q8 [IntKind.u8.wrap r.t]));let m:=(List.drop 0 (List.map Q8 [IntKind.u8.wrap r.e]));let j:=(List.drop 0 (List.map Q8 [IntKind.u8.wrap r.n]));let w:=(List.drop 0 (List.map Q8 [IntKind.u8.wrap r.k]));let y:=(List.drop 0 (List.map Q8 [IntKind.u8.wrap r.l]));let v:=(List.take 1 pg++List.take 1 m);let pc:=(List.take (1+1) v++List.take 1 y);let u:=(tk 1 [T.str r.b,T.str r.a]);let q:=(List.take (1+1+1) pc++List.take 1 f);let pb:=(List.take pr q++List.take 1 w);let z:=(List.take pf pb++List.take 1 c);let pe:=(List.take i z++List.take 1 j);O7 IntKind.u8 (108:Int)/\br true (V7 (0:Int) 8/\O7 IntKind.u8 (IntKind.u8.wrap r.e)/\(Le 1 1/\Le 1 1/\U9 1 1 1)/\Ri (1:Int)/\br true (V7 (1:Int) 8/\O7 IntKind.u8 (IntKind.u8.wrap r.l)/\(Le 1 1/\Le (1+1) 2/\U9 (1+1) 1 1)/\Ri (2:Int)/\br true (V7 (2:Int) 8/\O7 IntKind.u8 (IntKind.u8.wrap r.t)/\(Le 1 1/\Le (1+1+1) 3/\U9 (1+1+1) 1 1)/\Ri (3:Int)/\br true (V7 (3:Int) 8/\O7 IntKind.u8 (IntKind.u8.wrap r.k)/\(Le 1 1/\Le pr 4/\U9 pr 1 1)/\Ri (4:Int)/\br true (V7 (4:Int) 8/\O7 IntKind.u8 (IntKind.u8.wrap r.p)/\(Le 1 1/\Le pf 5/\U9 pf 1 1)/\Ri (5:Int)/\br true (V7 (5:Int) 8/\O7 IntKind.u8 (IntKind.u8.wrap r.n)/\(Le 1 1/\Le i 6/\U9 i 1 1)/\Ri (6:Int)/\br true (V7 (6:Int) 8/\O7 IntKind.u8 (IntKind.u8.wrap r.g)/\(Le 1 1/\Le pa 7/\U9 pa 1 1)/\Ri (7:Int)/\br true (V7 (7:Int) 8/\O7 IntKind.u8 (IntKind.u8.wrap r.s)/\(Le 1 1/\Le pd 8/\U9 pd 1 1)/\Ri (8:Int)/\br false False (∃(x:(Bz×List (Bz))),let ph:=(x.1++S0 x.2);(((0=0/\1+1+1+1+1+1+1+1+1=x.1.length)/\(0=0/\2=x.2.length)/\True)/\(List.take pd (List.take pa pe++List.take 1 d)++List.take 1 (List.drop 0 (List.map Q8 [IntKind.u8.wrap r.s]))=x.1/\(2=x.2.length/\Z7 2 u (Z5 x.2))/\True)/\x.1.length<=1000/\o8 x.2)/\zJ ph.length ph/\x.1++S0 x.2++F8 (m0 ph)=P2 r)) (∃(x:(Bz×List (Bz))),let pi:=(x.1++S0 x.2);(((0=0/\1+1+1+1+1+1+1+1=x.1.length)/\(0=0/\2=x.2.length)/\True)/\(List.take pa pe++List.take 1 d=x.1/\(2=x.2.length/\Z7 2 u (Z5 x.2))/\True)/\x.1.length<=1000/\o8 x.2)/\zJ pi.length pi/\x.1++S0 x.2++F8 (m0 pi)=P2 r)) (∃(x:(Bz×List (Bz))),let pj:=(x.1++S0 x.2);(((0=0/\1+1+1+1+1+1+1=x.1.length)/\(0=0/\2=x.2.length)/\True)/\(List.take i z++List.take 1 j=x.1/\(2=x.2.length/\Z7 2 u (Z5 x.2))/\True)/\x.1.length<=1000/\o8 x.2)/\zJ pj.length pj/\x.1++S0 x.2++F8 (m0 pj)=P2 r)) (∃(x:(Bz×List (Bz))),let pk:=(x.1++S0 x.2);(((0=0/\1+1+1+1+1+1=x.1.length)/\(0=0/\2=x.2.length)/\True)/\(List.take pf pb++List.take 1 c=x.1/\(2=x.2.length/\Z7 2 u (Z5 x.2))/\True)/\x.1.length<=1000/\o8 x.2)/\zJ pk.length pk/\x.1++S0 x.2++F8 (m0 pk)=P2 r)) (∃(x:(Bz×List (Bz))),let pm:=(x.1++S0 x.2);(((0=0/\1+1+1+1+1=x.1.length)/\(0=0/\2=x.2.length)/\True)/\(List.take pr q++List.take 1 w=x.1/\(2=x.2.length/\Z7 2 u (Z5 x.2))/\True)/\x.1.length<=1000/\o8 x.2)/\zJ pm.length pm/\x.1++S0 x.2++F8 (m0 pm)=P2 r)) (∃(x:(Bz×List (Bz))),let pn:=(x.1++S0 x.2);(((0=0/\1+1+1+1=x.1.length)/\(0=0/\2=x.2.length)/\True)/\(List.take (1+1+1) pc++List.take 1 f=x.1/\(2=x.2.length/\Z7 2 u (Z5 x.2))/\True)/\x.1.length<=1000/\o8 x.2)/\zJ pn.length pn/\x.1++S0 x.2++F8 (m0 pn)=P2 r)) (∃(x:(Bz×List (Bz))),let po:=(x.1++S0 x.2);(((0=0/\1+1+1=x.1.length)/\(0=0/\2=x.2.length)/\True)/\(List.take (1+1) v++List.take 1 y=x.1/\(2=x.2.length/\Z7 2 u (Z5 x.2))/\True)/\x.1.length<=1000/\o8 x.2)/\zJ po.length po/\x.1++S0 x.2++F8 (m0 po)=P2 r)) (∃(x:(Bz×List (Bz))),let pp:=(x.1++S0 x.2);(((0=0/\1+1=x.1.length)/\(0=0/\2=x.2.length)/\True)/\(List.take 1 pg++List.take 1 m=x.1/\(2=x.2.length/\Z7 2 u (Z5 x.2))/\True)/\x.1.length<=1000/\o8 x.2)/\zJ pp.length pp/\x.1++S0 x.2++F8 (m0 pp)=P2 r)) (∃(x:(Bz×List (Bz))),let pq:=(x.1++S0 x.2);(((0=0/\1=x.1.length)/\(0=0/\2=x.2.length)/\True)/\(List.map Q8 [(108:Int)]=x.1/\(2=x.2.length/\Z7 2 u (Z5 x.2))/\True)/\x.1.length<=1000/\o8 x.2)/\zJ pq.length pq/\x.1++S0 x.2++F8 (m0 pq)=P2 r)) ⟨(sX _).2 Z9,λ_=>⟨jY,O2 _,⟨V8 _,V8 _,R1⟩,Z3 Z9,λ_=>⟨jY,O2 _,⟨V8 _,V8 _,R1⟩,Z3 Z9,λ_=>⟨jY,O2 _,⟨V8 _,V8 _,R1⟩,Z3 Z9,λ_=>⟨jY,O2 _,⟨V8 _,V8 _,R1⟩,Z3 Z9,λ_=>⟨jY,O2 _,⟨V8 _,V8 _,R1⟩,Z3 Z9,λ_=>⟨jY,O2 _,⟨V8 _,V8 _,R1⟩,Z3 Z9,λ_=>⟨jY,O2 _,⟨V8 _,V8 _,R1⟩,Z3 Z9,λ_=>⟨jY,O2 _,⟨V8 _,V8 _,R1⟩,Z3 Z9,(λh=>J6),λ_=>⟨([Q8 108,zW r.e,zW r.l,zW r.t,zW r.k,zW r.p,zW r.n,zW r.g,zW r.s],[r.b,r.a]),⟨Y2,⟨rfl,⟨rfl,pU _ _⟩,Z6⟩,W8,f⟩,⟨rfl,b6f f⟩,rfl⟩⟩,λh=>J6⟩,λh=>J6⟩,λh=>J6⟩,λh=>J6⟩,λh=>J6⟩,λh=>J6⟩,λh=>J6⟩,λh=>J6⟩
def a1A:Con:=.rfz wT
theorem cI:GK 270 a1A:=gk func270<|l01Fields_ok.1
def a68:Con:=.rel ⟨Rec,λr=>[.agg r.ts],λr=>.bys (P2 r),a6S⟩
theorem a4F:GK 225 a68:=gk func225<|by
 rintro(r:Rec) ⟨h1,h2⟩;have f:=fs2 h1 h2;have hl:=wU [r.b,r.a] f.2 2 (V8 _);have hl:(S0 [r.b,r.a]).length<=2003:=hl;refine S1 (gC cI (gC uH gN)) func225 Y9 (α:=let q:=(List.map Q8 [(108:Int),IntKind.u8.wrap r.e,IntKind.u8.wrap r.l,IntKind.u8.wrap r.t,IntKind.u8.wrap r.k,IntKind.u8.wrap r.p,IntKind.u8.wrap r.n,IntKind.u8.wrap r.g,IntKind.u8.wrap r.s]);(O7 IntKind.u8 (108:Int)/\O7 IntKind.u8 (IntKind.u8.wrap r.e)/\O7 IntKind.u8 (IntKind.u8.wrap r.l)/\O7 IntKind.u8 (IntKind.u8.wrap r.t)/\O7 IntKind.u8 (IntKind.u8.wrap r.k)/\O7 IntKind.u8 (IntKind.u8.wrap r.p)/\O7 IntKind.u8 (IntKind.u8.wrap r.n)/\O7 IntKind.u8 (IntKind.u8.wrap r.g)/\O7 IntKind.u8 (IntKind.u8.wrap r.s))/\∃(x:wT.ι),let z:=(List.take 9 q++S0 x);(Le 2 2/\((2=x.length/\Z7 2 (tk 1 [T.str r.b,T.str r.a]) (Z5 x))/\True)/\o8 x)/\(Le 9 9/\U9 9 (S0 x).length 1)/\zJ (9+(S0 x).length) z/\List.take 9 q++S0 x++F8 (m0 z)=P2 r) ⟨⟨(sX _).2 Z9,O2 _,O2 _,O2 _,O2 _,O2 _,O2 _,O2 _,O2 _⟩,[r.b,r.a],⟨V8 _,⟨⟨rfl,pU _ _⟩,Z6⟩,f⟩,⟨V8 _,R1⟩,?_,?_⟩
 ·exact⟨by rw[K2];rfl,b6f f⟩
 ·rfl
def b5(sec:List (Bz))(C:List Pend)(Q:Nat->Bool):Nat->List (Bz)
 |0=>sec
 |i+1=>if Q i=true then(b5 sec C Q i).set (C.getD i dz).at_.toNat (C.getD i dz).d else b5 sec C Q i
theorem C1(sec:List (Bz))(C:List Pend)(Q:Nat->Bool):∀i,(b5 sec C Q i).length=sec.length
 |0=>rfl
 |i+1=>by
  unfold b5;split
  ·rw[yT,C1 sec C Q i]
  ·exact C1 sec C Q i
theorem c1S{sec:List (Bz)}{C:List Pend}{Q:Nat->Bool}{i:Nat}(h:Q i=true):b5 sec C Q (i+1)=(b5 sec C Q i).set (C.getD i dz).at_.toNat (C.getD i dz).d:=by
 conv=>lhs;unfold b5
 rw[if_pos h]
theorem c16{sec:List (Bz)}{C:List Pend}{Q:Nat->Bool}{i:Nat}(h:Q i=false):b5 sec C Q (i+1)=b5 sec C Q i:=by
 conv=>lhs;unfold b5
 rw[if_neg (by rw[h];simp)]
def kp(K:List Int)(i:Nat):Bool:=decide (i<K.length)&&(K.getD i 0 !=0)
def wrD(d:Dsk)(at_:Int)(t:Bz):Dsk:=⟨d.E,d.C++[⟨at_,t⟩],d.A,d.keep⟩
def Sto.sd(s:Sto)(d:Dsk):Sto:=⟨d,s.ep,s.L,s.S,s.fr,s.J⟩
def crD(d:Dsk)(K:List Int):Dsk:=⟨b5 d.E d.C (kp K) d.C.length,[],false,[]⟩
def U6(d:Dsk):Dsk×Bool:=if d.A=true then(crD d d.keep,false) else(⟨b5 d.E d.C (λ_=>true) d.C.length,[],d.A,d.keep⟩,true)
def bG(d:Dsk):Prop:=∀i,i<d.C.length->0<=(d.C.getD i dz).at_/\(d.C.getD i dz).at_<d.E.length
theorem a3A(L:List Pend)(p:Pend):Z7 (L.length+1) (X7 (Y6 L) L.length λk=>List.take 2 (List.drop (k*2) p.ts)) (Y6 (L++[p])):=by
 intro i hi;unfold X7 Y6;by_cases h:i<L.length
 ·rw[tL h,R2,R2,uW h]
 ·have:i=L.length:=by omega
  subst this;rw[qH h];have:(L++[p]).getD L.length dz=p:=by rw[R2,tG (V8 _)];simp
  rw[this];simp[Pend.ts]
theorem jG{L:List (Bz)}{n:Nat}{t:Bz}(j:Nat)(J:j<L.length):setRow (Z5 L) n 0 [.str t] j=Z5 (L.set n t) j:=by
 by_cases h:j=n
 ·subst h;rw[gY (by simp[Z5])]
  simp[Z5,j_j J]
 ·rw[K7 (by simp[Z5]) h]
  simp[Z5,j_k (Ne.symm h)]
theorem iW{sec:List (Bz)}{C:List Pend}{Q:Nat->Bool}{i:Nat}(h:Q i=true):Z7 sec.length (setRow (Z5 (b5 sec C Q i)) (0+(C.getD i dz).at_.toNat) 0 [.str (C.getD i dz).d]) (Z5 (b5 sec C Q (i+1))):=λj J=>by
 rw[c1S h,C9];exact jG j (by rw[C1];exact J)
def Sto.bxC(s:Sto)(v:Nat):Y4:=[pY (s.tn 1 6 3 4 5),x4 s.d.E,none,z6 s.d.keep,xW s.L,vE v s.fr s.fr.length,B4 s.d.C]
def c04:Con:=.reff ⟨Sto×Int×Bz×Nat,λx=>[.ref 0 0 0,Ji x.2.1,.str x.2.2.1],λx=>x.1.bx x.2.2.2,λ_=>.tup [],λx=>(x.1.sd (wrD x.1.d x.2.1 x.2.2.1)).bxC x.2.2.2,λx=>x.1.d.C.length<=1048576⟩
theorem a4z:GK 120 c04:=gk func120<|by
 rintro⟨s,at_,t,v⟩ (h:s.d.C.length<=1048576);have hl:s.d.C.length+1=(s.d.C++[(⟨at_,t⟩:Pend)]).length:=W8
 exact r5 gN func120 Y9 [[.box 0,.arr 1,.arr 2,.arr 3,.arr 4,.arr 5,.arr 7]] (α:=let p:=(s.d.C++[Pend.mk at_ t]);(Le 1 1/\Le s.d.C.length s.d.C.length/\U9 s.d.C.length 1 24)/\(True/\True)/\(oo ((0=0/\s.d.E.length=s.d.E.length)/\(0=0/\s.d.C.length+1=p.length)/\s.d.A=s.d.A/\(0=0/\s.d.keep.length=s.d.keep.length)/\s.ep=s.ep/\(0=0/\s.L.length=s.L.length)/\s.S=s.S/\(0=0/\s.fr.length=s.fr.length)/\s.J=s.J/\True))/\(Z2 Z5 s.d.E s.d.E)/\True/\(Z2 Y8 s.d.keep s.d.keep)/\(Z2 Y0 s.L s.L)/\(v=v/\s.fr.length=s.fr.length/\U7 s.fr.length (Z0 s.fr) (Z0 s.fr))/\(s.d.C.length+1=p.length/\Z7 (s.d.C.length+1) (X7 (Y6 s.d.C) s.d.C.length (tk 2 [Ji at_,T.str t])) (Y6 p))/\True) ⟨⟨V8 _,V8 _,R1⟩,Y2,⟨rfl,rfl,Y2,⟨rfl,hl⟩,Y2⟩,Y2,Z6,Y2,Y2,I0,⟨hl,a3A s.d.C ⟨at_,t⟩⟩,Z6⟩
def Sto.bxX(s:Sto)(v:Nat)(K:List Int):Y4:=[pY (s.tn 1 7 8 4 5),x4 s.d.E,none,none,xW s.L,vE v s.fr s.fr.length,z6 K,B4 s.d.C,z6 s.d.keep]
def b8B:Con:=.reff ⟨Sto×List Int×Nat,λx=>[.ref 0 0 0,.osl 6 0 x.2.1.length],λx=>x.1.bx x.2.2++[z6 x.2.1],λ_=>.tup [],λx=>(x.1.sd (crD x.1.d x.2.1)).bxX x.2.2 x.2.1,λx=>dU x.1.d/\bG x.1.d/\x.2.1.length<=1048576⟩
def b9k(s:Sto)(K:List Int)(v:Nat):Nat->Ann
 |0=>.one (Up s.d.C.length) (λx=>⟨[(0,.ref 0 0 0),(1,.osl 6 0 K.length),(9,.osl 2 0 s.d.C.length),(10,Ji s.d.C.length),(11,Ji x.1)],[pY (s.tn 1 2 3 4 5),some (.arr true 0 1 s.d.E.length (Z5 (b5 s.d.E s.d.C (kp K) x.1))),B4 s.d.C,z6 s.d.keep,xW s.L,vE v s.fr s.fr.length,z6 K]⟩) (λx=>s.d.C.length-x.1) c2j c2j (λ_=>Y9)
 |_=>.none
theorem b3W:GK 193 b8B:=gk func193<|by
 rintro⟨s,K,v⟩ ⟨⟨n,g,i⟩,f,o⟩;dsimp only at n g i f o;refine r5 gN func193 (b9k s K v) [[.nilC 0 1 0 2,.nilC 0 3 0 1,.box 0,.arr 1,.arr 2,.arr 3,.arr 4,.arr 5,.arr 6,.arr 7,.arr 8]] (α:=let b:=(Z2 Y8 K K);let g:=(0=0/\0=0);let f:=(Z2 Y6 s.d.C s.d.C);let n:=(Z2 Y0 s.L s.L);let m:=(0=0/\K.length=K.length);let k:=(Z2 Y8 s.d.keep s.d.keep);let j:=(0=0/\s.d.C.length=s.d.C.length);let u:=(b5 s.d.E s.d.C (kp K) s.d.C.length);let r:=(s.d.C.length:Int);let p:=(v=v/\s.fr.length=s.fr.length/\U7 s.fr.length (Z0 s.fr) (Z0 s.fr));(∃(x:Up s.d.C.length),(g/\m/\j/\r=r/\0=(x.1:Int)/\True)/\mQ s s/\(s.d.E.length=s.d.E.length/\Z7 s.d.E.length (Z5 s.d.E) (Z5 (b5 s.d.E s.d.C (kp K) x.1)))/\f/\k/\n/\p/\b/\True)/\∀(x:Up s.d.C.length),let i:=(s.d.C.length-x.1);let w:=(Z5 (b5 s.d.E s.d.C (kp K) x.1));let q:=(x.1:Int);let c:=(0+q.toNat);let a:=(q<(K.length:Int));let z:=(s.d.C.getD c dz);bd (q<r) (V7 q s.d.C.length/\Lt c s.d.C.length/\(decide a=true->V7 q K.length)/\(decide a=true->Lt c K.length)/\br (decide a&&K.getD c (0:Int) !=0) (V7 z.at_ s.d.E.length/\Lt (0+z.at_.toNat) s.d.E.length/\Ri (q+1)/\∃(y:Up s.d.C.length),((g/\m/\j/\r=r/\q+1=(y.1:Int)/\True)/\mQ s s/\(s.d.E.length=s.d.E.length/\Z7 s.d.E.length (setRow w (0+z.at_.toNat) 0 [T.str z.d]) (Z5 (b5 s.d.E s.d.C (kp K) y.1)))/\f/\k/\n/\p/\b/\True)/\Lt (s.d.C.length-y.1) i) (Ri (q+1)/\∃(y:Up s.d.C.length),((g/\m/\j/\r=r/\q+1=(y.1:Int)/\True)/\mQ s s/\(s.d.E.length=s.d.E.length/\Z7 s.d.E.length w (Z5 (b5 s.d.E s.d.C (kp K) y.1)))/\f/\k/\n/\p/\b/\True)/\Lt (s.d.C.length-y.1) i)) ((True/\True)/\(oo ((0=0/\s.d.E.length=u.length)/\g/\false=false/\g/\s.ep=s.ep/\(0=0/\s.L.length=s.L.length)/\s.S=s.S/\(0=0/\s.fr.length=s.fr.length)/\s.J=s.J/\True))/\(s.d.E.length=u.length/\Z7 s.d.E.length w (Z5 u))/\True/\True/\n/\p/\b/\(0=0/\Z7 0 (λ(x:Nat)=>[]) (Y6 []))/\(0=0/\Z7 0 (λ(x:Nat)=>[]) (Y8 []))/\True)) ⟨⟨⟨0,O3 _⟩,Y2,Y2,Y2,Y2,Y2,Y2,I0,Y2,Z6⟩,λx=>⟨λhc=>?_,λhc=>?_⟩⟩
 ·have t:=Y1 hc;have l:(decide ((x.1:Int)<(K.length:Int))&&K.getD x.1 0 !=0)=kp K x.1:=by
   unfold kp;rw[show decide ((x.1:Int)<(K.length:Int))=decide (x.1<K.length) from decide_eq_decide.2 Z9]
  rw[G2,show 0+x.1=x.1 by omega,l]
  have A:=f x.1 t;refine⟨Y3 t,t,λh=>Y3 (Y1 h),λh=>Y1 h,λe=>?_,λe=>?_⟩
  ·exact⟨A,H9,Z3 Z9,⟨x.1+1,t⟩,⟨⟨Y2,Y2,Y2,rfl,X0,Z6⟩,Y2,⟨rfl,iW e⟩,Y2,Y2,Y2,I0,Y2,Z6⟩,U8.ext_lt t⟩
  ·exact⟨Z3 Z9,⟨x.1+1,t⟩,⟨⟨Y2,Y2,Y2,rfl,X0,Z6⟩,Y2,⟨rfl,λj _=>by dsimp only;rw[c16 e]⟩,⟨rfl,W2 _ _⟩,⟨rfl,W2 _ _⟩,⟨rfl,W2 _ _⟩,⟨rfl,rfl,gV _⟩,⟨rfl,W2 _ _⟩,Z6⟩,U8.ext_lt t⟩
 ·have hx:x.1=s.d.C.length:=by have:=x.2;have:=X6 hc;omega
  rw[hx];have hl:=(C1 s.d.E s.d.C (kp K) s.d.C.length).symm;exact⟨Y2,⟨rfl,rfl,⟨rfl,hl⟩,Y2⟩,⟨hl,W2 _ _⟩,Z6,Z6,Y2,I0,Y2,⟨rfl,K8⟩,⟨rfl,K8⟩,Z6⟩
def Sto.bxY(s:Sto)(v:Nat):Y4:=[pY (s.tn 1 6 7 4 5),x4 s.d.E,none,none,xW s.L,vE v s.fr s.fr.length,B4 s.d.C,z6 s.d.keep]
def c4y:Con:=.reff ⟨Sto×Nat,λx=>[.ref 0 0 0],λx=>x.1.bx x.2,λx=>.bool (U6 x.1.d).2,λx=>(x.1.sd ((U6 x.1.d).1)).bxY x.2,λx=>dU x.1.d/\bG x.1.d⟩
def c3r(s:Sto)(v:Nat):Nat->Ann
 |0=>.one (Up s.d.C.length) (λx=>⟨[(0,.ref 0 0 0),(19,.osl 2 0 s.d.C.length),(20,Ji s.d.C.length),(21,Ji x.1)],[pY (s.tn 1 2 3 4 5),some (.arr true 0 1 s.d.E.length (Z5 (b5 s.d.E s.d.C (λ_=>true) x.1))),B4 s.d.C,z6 s.d.keep,xW s.L,vE v s.fr s.fr.length]⟩) (λx=>s.d.C.length-x.1) c1T c1T (λ_=>Y9)
 |_=>.none
theorem a89:GK 122 c4y:=gk func122<|by
 rintro⟨s,v⟩ ⟨⟨i,g,h⟩,f⟩;dsimp only at i g h f;refine r5 (gC a3N (gC b3W gN)) func122 (c3r s v) [c12,[.nilC 0 1 0 2,.box 0,.arr 1,.arr 2,.arr 3,.arr 4,.arr 5,.arr 6,.arr 3]] (α:=let l:=(Y6 (U6 s.d).1.C);let i:=(0=0/\0=0);let c:=(Z2 Y6 s.d.C s.d.C);let a:=(Z0 s.fr);let g:=(Z2 Y8 s.d.keep s.d.keep);let f:=(Z2 Y0 s.L s.L);let n:=(0=0/\s.d.C.length=s.d.C.length);let m:=(U6 s.d).1.E.length;let k:=(U6 s.d).1.keep.length;let z:=(U6 s.d).1.C.length;let r:=(s.d.C.length:Int);let p:=(v=v/\s.fr.length=s.fr.length/\U7 s.fr.length a a);br s.d.A (∃(x:(List Int)),let b:=x.length;(Le (0+s.d.keep.length) s.d.keep.length/\((Z2 Y8 s.d.keep x)/\True)/\b<=1048576)/\∃(X:(Sto×List Int×Nat)),let w:=(b5 X.1.d.E X.1.d.C (kp X.2.1) X.1.d.C.length);((i/\(0=0/\b=X.2.1.length)/\True)/\(mQ s X.1/\(Z2 Z5 s.d.E X.1.d.E)/\(Z2 Y6 s.d.C X.1.d.C)/\(Z2 Y8 s.d.keep X.1.d.keep)/\(Z2 Y0 s.L X.1.L)/\(v=X.2.2/\s.fr.length=X.1.fr.length/\U7 s.fr.length a (Z0 X.1.fr))/\(b=X.2.1.length/\Z7 (b) (Y8 x) (Y8 X.2.1))/\True)/\dU X.1.d/\bG X.1.d/\X.2.1.length<=1048576)/\(false=(U6 s.d).2/\True)/\(oo ((0=0/\w.length=m)/\(0=0/\0=z)/\false=(U6 s.d).1.A/\(0=0/\0=k)/\X.1.ep=s.ep/\(0=0/\X.1.L.length=s.L.length)/\X.1.S=s.S/\(0=0/\X.1.fr.length=s.fr.length)/\X.1.J=s.J/\True))/\(Z2 Z5 w (U6 s.d).1.E)/\True/\True/\(Z2 Y0 X.1.L s.L)/\(X.2.2=v/\X.1.fr.length=s.fr.length/\U7 X.1.fr.length (Z0 X.1.fr) a)/\(0=z/\Z7 0 (Y6 []) l)/\(0=k/\Z7 0 (Y8 []) (Y8 (U6 s.d).1.keep))/\True) ((∃(x:Up s.d.C.length),(i/\n/\r=r/\0=(x.1:Int)/\True)/\mQ s s/\(s.d.E.length=s.d.E.length/\Z7 s.d.E.length (Z5 s.d.E) (Z5 (b5 s.d.E s.d.C (λ(x:Nat)=>true) x.1)))/\c/\g/\f/\p/\True)/\∀(x:Up s.d.C.length),let t:=(λ(x:Nat)=>true);let j:=(Z5 (b5 s.d.E s.d.C t x.1));let u:=(x.1:Int);let q:=(s.d.C.getD (0+u.toNat) dz);bd (u<r) (V7 u s.d.C.length/\Lt (0+u.toNat) s.d.C.length/\V7 q.at_ s.d.E.length/\Lt (0+q.at_.toNat) s.d.E.length/\Ri (u+1)/\∃(y:Up s.d.C.length),((i/\n/\r=r/\u+1=(y.1:Int)/\True)/\mQ s s/\(s.d.E.length=s.d.E.length/\Z7 s.d.E.length (setRow j (0+q.at_.toNat) 0 [T.str q.d]) (Z5 (b5 s.d.E s.d.C t y.1)))/\c/\g/\f/\p/\True)/\Lt (s.d.C.length-y.1) (s.d.C.length-x.1)) ((true=(U6 s.d).2/\True)/\(oo ((0=0/\s.d.E.length=m)/\(0=0/\0=z)/\s.d.A=(U6 s.d).1.A/\(0=0/\s.d.keep.length=k)/\s.ep=s.ep/\(0=0/\s.L.length=s.L.length)/\s.S=s.S/\(0=0/\s.fr.length=s.fr.length)/\s.J=s.J/\True))/\(s.d.E.length=m/\Z7 s.d.E.length j (Z5 (U6 s.d).1.E))/\True/\True/\f/\p/\(0=z/\Z7 0 (λ(x:Nat)=>[]) l)/\(Z2 Y8 s.d.keep (U6 s.d).1.keep)/\True))) ⟨λha=>?_,λha=>?_⟩
 ·have e:U6 s.d=(crD s.d s.d.keep,false):=by unfold U6;rw[if_pos ha]
  rw[e];exact⟨s.d.keep,⟨aU _,Y2,h⟩,(s,s.d.keep,v),⟨Y2,⟨Y2,Y2,Y2,Y2,Y2,I0,Y2,Z6⟩,⟨i,g,h⟩,f,h⟩,Y2,Y2,Y2,Z6,Z6,Y2,I0,⟨rfl,K8⟩,⟨rfl,K8⟩,Z6⟩
 ·have e:U6 s.d=(⟨b5 s.d.E s.d.C (λ_=>true) s.d.C.length,[],s.d.A,s.d.keep⟩,true):=by unfold U6;rw[if_neg (by rw[ha];simp)]
  rw[e];refine⟨⟨⟨0,O3 _⟩,Y2,Y2,Y2,Y2,Y2,Y2,I0,Z6⟩,λx=>⟨λhc=>?_,λhc=>?_⟩⟩
  ·have hlt:=Y1 hc;rw[G2,show 0+x.1=x.1 by omega]
   have ha:=f x.1 hlt;exact⟨Y3 hlt,hlt,ha,H9,Z3 Z9,⟨x.1+1,hlt⟩,⟨⟨Y2,Y2,rfl,X0,Z6⟩,Y2,⟨rfl,iW (Q:=λ_=>true) rfl⟩,Y2,Y2,Y2,I0,Z6⟩,U8.ext_lt hlt⟩
  ·have hx:x.1=s.d.C.length:=by have:=x.2;have:=X6 hc;omega
   rw[hx];have hl:=(C1 s.d.E s.d.C (λ_=>true) s.d.C.length).symm
   exact⟨Y2,⟨rfl,rfl,⟨rfl,hl⟩,Y2⟩,⟨hl,W2 _ _⟩,Z6,Z6,Y2,I0,⟨rfl,K8⟩,Y2⟩
theorem c2v{hi lsn:Int}{s:RdSt}:∀n,(RdSt.go hi lsn s n).ok=true->s.ok=true
 |0,h=>h
 |n+1,h=>by
  refine c2v (hi:=hi) (lsn:=lsn) n ?_
  simp only[RdSt.go,RdSt.step,O4] at h;exact h.1.1
theorem b7m{hi lsn:Int}{s:RdSt}:∀n,s.l.length<=(RdSt.go hi lsn s n).l.length+2*n
 |0=>by simp[RdSt.go]
 |n+1=>by
  have:=b7m (hi:=hi) (lsn:=lsn) (s:=s) n;simp only[RdSt.go,RdSt.step,List.length_drop];omega
theorem b6G{most lo hi lsn:Int}{l:Bz}{fl:Bool}(h:(M9 most lo hi lsn l fl).ok=true):(l.length:Int)<=(M9 most lo hi lsn l fl).l.length+2*most+1:=by
 have h1:=c2v _ h;have h2:=b7m (hi:=hi) (lsn:=lsn) (s:=vA most lo l fl) (numR l).toNat;have h3:numR l<=most:=E4 h1;have h4:=(u6 l).1;have h5:(vA most lo l fl).l.length=l.length-1:=by simp[vA]
 have h6:(M9 most lo hi lsn l fl).l.length=(RdSt.go hi lsn (vA most lo l fl) (numR l).toNat).l.length:=rfl;omega
theorem a05{a:Bz}{lsn:Int}(h:a4h a lsn=true):a.length<=38:=by
 unfold a4h at h;simp only[O4] at h;have f:=b6G h.1.1.1;have d:=b6G h.1.2.1;have e:=List.isEmpty_iff.1 h.2.2;rw[e] at d;simp at d;omega
theorem a8l{r:Rec}(h:L9 r=true):a6S r:=by
 have h:=(Q6 r).1 h;unfold C8 at h;obtain⟨_,_,_,_,_,_,_,_,_,_,_,_,_,_,B,f,e⟩:=h;refine⟨Z9,?_⟩
 by_cases d:r.k=6
 ·have:=a05 (f d).2.2.2.2.2.2;omega
 ·have:=(e d).2.2.1;omega
def qI(s:Sto)(i:Nat):Pend:=⟨9+(s.L.getD (s.S.toNat+i) dz).l-1,P2 (s.L.getD (s.S.toNat+i) dz)⟩
def qQ(s:Sto)(n:Nat):Dsk:=⟨s.d.E,s.d.C++(List.range n).map (qI s),s.d.A,s.d.keep⟩
def M3(s:Sto)(lsn:Int):Nat:=lsn.toNat-s.S.toNat
def W4(s:Sto)(lsn:Int):Sto×Bool:=if lsn<=s.S then(s,true) else
 (⟨(U6 (qQ s (M3 s lsn))).1,s.ep,s.L,if(U6 (qQ s (M3 s lsn))).2=true then lsn else s.S,s.fr,s.J⟩,(U6 (qQ s (M3 s lsn))).2)
def uF(s:Sto)(lsn:Int):Prop:=dU s.d/\s.d.C.length<=1000/\bG s.d/\s.d.E.length=69/\0<=s.S/\s.S<=s.L.length/\s.L.length<=60/\lsn<=s.L.length/\∀i,i<s.L.length->(s.L.getD i dz).l=(i:Int)+1/\a6S (s.L.getD i dz)
def b8I:Con:=.reff ⟨Sto×Int×Nat,λx=>[.ref 0 0 0,Ji x.2.1],λx=>x.1.bx x.2.2,λx=>.bool (W4 x.1 x.2.1).2,λx=>(W4 x.1 x.2.1).1.bxY x.2.2,λx=>uF x.1 x.2.1⟩
def c0E(s:Sto)(lsn:Int)(v:Nat):Nat->Ann
 |0=>.one (Up (M3 s lsn)) (λx=>⟨[(0,.ref 0 0 0),(1,Ji lsn),(22,.osl 4 s.S.toNat (M3 s lsn)),(23,Ji (M3 s lsn)),(24,Ji x.1)],(s.sd (qQ s x.1)).bxC v⟩) (λx=>M3 s lsn-x.1) [.box 0,.arr 1,.arr 2,.arr 3,.arr 4,.arr 5,.arr 2] c2x (λ_=>Y9)
 |_=>.none
theorem k5{s:Sto}{lsn:Int}(h:lsn<=s.S):W4 s lsn=(s,true):=if_pos h
theorem zX{s:Sto}{lsn:Int}(h:¬lsn<=s.S):W4 s lsn=(⟨(U6 (qQ s (M3 s lsn))).1,s.ep,s.L,if(U6 (qQ s (M3 s lsn))).2=true then lsn else s.S,s.fr,s.J⟩,(U6 (qQ s (M3 s lsn))).2):=if_neg h
theorem lY{s:Sto}{lsn:Int}{i:Nat}(h:uF s lsn)(hi:i<M3 s lsn):(qI s i).at_=9+s.S+i/\a6S (s.L.getD (s.S.toNat+i) dz)/\s.S+i<lsn:=by
 obtain⟨_,_,_,_,g,e,_,f,d⟩:=h;unfold M3 at hi;obtain⟨a,b⟩:=d (s.S.toNat+i) Z9
 refine⟨?_,b,Z9⟩
 unfold qI;dsimp only;rw[a];omega
theorem xT(s:Sto)(n:Nat):s.d.C++List.map (qI s) (List.range n)++[qI s n]=s.d.C++List.map (qI s) (List.range (n+1)):=by
 rw[List.range_succ,List.map_append,List.append_assoc];rfl
theorem a0W{s:Sto}{lsn:Int}(h:uF s lsn):dU (qQ s (M3 s lsn))/\bG (qQ s (M3 s lsn)):=by
 have n:=λi=>lY (i:=i) h
 obtain⟨⟨A,t,g⟩,l,f,h4,v,o,u,j,r⟩:=h;have N:M3 s lsn<=60:=by unfold M3;omega
 refine⟨⟨A,?_,g⟩,λi hi=>?_⟩
 ·show(s.d.C++List.map (qI s) (List.range _)).length<=1048576;simp only[K2,List.length_map,j_g];omega
 ·have hi:i<(s.d.C++List.map (qI s) (List.range (M3 s lsn))).length:=hi;show 0<=((s.d.C++List.map (qI s) (List.range (M3 s lsn))).getD i dz).at_/\((s.d.C++List.map (qI s) (List.range (M3 s lsn))).getD i dz).at_<(s.d.E.length:Int);rw[h4,R2]
  by_cases hc:i<s.d.C.length
  ·rw[uW hc,←R2]
   have:=f i hc;rw[h4] at this;exact this
  ·rw[tG Z9,←R2]
   simp only[K2,List.length_map,j_g] at hi;rw[c1P _ Z9]
   obtain⟨e,_,q⟩:=n (i-s.d.C.length) Z9
   rw[e];omega
theorem b6y:GK 65 b8I:=gk func65<|by
 rintro⟨s,lsn,v⟩ h;dsimp only at h;have hn:=λi=>lY (i:=i) h
 have W:=a0W h;obtain⟨⟨u,z,A⟩,g,o,j,h5,r,n,h8,t⟩:=h;have N:M3 s lsn<=60:=by unfold M3;omega
 refine r5 (gC dX (gC a4z (gC a89 gN))) func65 (c0E s lsn v) [c12,c1D] (α:=let i:=(0=0/\0=0);let g:=(Z0 s.fr);let w:=(↑(M3 s lsn):Int);let p:=(W4 s lsn);let t:=p.1.d;bd (lsn<=s.S) ((true=p.2/\True)/\mQ s p.1/\(Z2 Z5 s.d.E t.E)/\True/\True/\(Z2 Y0 s.L p.1.L)/\(v=v/\s.fr.length=p.1.fr.length/\U7 s.fr.length g (Z0 p.1.fr))/\(Z2 Y6 s.d.C t.C)/\(Z2 Y8 s.d.keep t.keep)/\True) (b00 s.S lsn s.L.length/\(∃(x:Up (M3 s lsn)),let m:=(s.d.C++List.map (qI s) (List.range x.1));(i/\lsn=lsn/\(0+s.S.toNat=s.S.toNat/\lsn.toNat-s.S.toNat=M3 s lsn)/\(↑(lsn.toNat-s.S.toNat):Int)=w/\0=(x.1:Int)/\True)/\(oo ((0=0/\s.d.E.length=s.d.E.length)/\(0=0/\s.d.C.length=m.length)/\s.d.A=s.d.A/\(0=0/\s.d.keep.length=s.d.keep.length)/\s.ep=s.ep/\(0=0/\s.L.length=s.L.length)/\s.S=s.S/\(0=0/\s.fr.length=s.fr.length)/\s.J=s.J/\True))/\(Z2 Z5 s.d.E s.d.E)/\True/\(Z2 Y8 s.d.keep s.d.keep)/\(Z2 Y0 s.L s.L)/\(v=v/\s.fr.length=s.fr.length/\U7 s.fr.length g g)/\(Z2 Y6 s.d.C m)/\True)/\∀(x:Up (M3 s lsn)),let j:=(x.1:Int);let pa:=(s.S.toNat+j.toNat);let r:=(s.d.C++List.map (qI s) (List.range x.1));let q:=(s.L.getD pa dz);bd (j<w) (V7 j (M3 s lsn)/\Lt pa s.L.length/\Ri (9+q.l)/\Ri (9+q.l-1)/\∃(X:Rec),(((EqR q X)/\True)/\a6S X)/\∃(f:(Sto×Int×Bz×Nat)),let a:=f.1.fr.length;let k:=f.1.d;let b:=(k.C++[Pend.mk f.2.1 f.2.2.1]);((i/\9+q.l-1=f.2.1/\P2 X=f.2.2.1/\True)/\((oo ((0=0/\s.d.E.length=k.E.length)/\(0=0/\r.length=k.C.length)/\s.d.A=k.A/\(0=0/\s.d.keep.length=k.keep.length)/\s.ep=f.1.ep/\(0=0/\s.L.length=f.1.L.length)/\s.S=f.1.S/\(0=0/\s.fr.length=a)/\s.J=f.1.J/\True))/\(Z2 Z5 s.d.E k.E)/\(Z2 Y6 r k.C)/\(Z2 Y8 s.d.keep k.keep)/\(Z2 Y0 s.L f.1.L)/\(v=f.2.2.2/\s.fr.length=a/\U7 s.fr.length g (Z0 f.1.fr))/\True)/\k.C.length<=1048576)/\Ri (j+1)/\∃(y:Up (M3 s lsn)),let n:=(s.d.C++List.map (qI s) (List.range y.1));((i/\lsn=lsn/\(s.S.toNat=s.S.toNat/\M3 s lsn=M3 s lsn)/\w=w/\j+1=(y.1:Int)/\True)/\(oo ((0=0/\k.E.length=s.d.E.length)/\(0=0/\b.length=n.length)/\k.A=s.d.A/\(0=0/\k.keep.length=s.d.keep.length)/\f.1.ep=s.ep/\(0=0/\f.1.L.length=s.L.length)/\f.1.S=s.S/\(0=0/\a=s.fr.length)/\f.1.J=s.J/\True))/\(Z2 Z5 k.E s.d.E)/\True/\(Z2 Y8 k.keep s.d.keep)/\(Z2 Y0 f.1.L s.L)/\(f.2.2.2=v/\a=s.fr.length/\U7 f.1.fr.length (Z0 f.1.fr) g)/\(Z2 Y6 b n)/\True)/\Lt (M3 s lsn-y.1) (M3 s lsn-x.1)) (∃(X:(Sto×Nat)),let pb:=(Z2 Y0 X.1.L p.1.L);let u:=(U6 X.1.d);let c:=(Z2 Y8 u.1.keep t.keep);let z:=(X.2=v/\X.1.fr.length=p.1.fr.length/\U7 X.1.fr.length (Z0 X.1.fr) (Z0 p.1.fr));((i/\True)/\((oo ((0=0/\s.d.E.length=X.1.d.E.length)/\(0=0/\r.length=X.1.d.C.length)/\s.d.A=X.1.d.A/\(0=0/\s.d.keep.length=X.1.d.keep.length)/\s.ep=X.1.ep/\(0=0/\s.L.length=X.1.L.length)/\s.S=X.1.S/\(0=0/\s.fr.length=X.1.fr.length)/\s.J=X.1.J/\True))/\(Z2 Z5 s.d.E X.1.d.E)/\(Z2 Y6 r X.1.d.C)/\(Z2 Y8 s.d.keep X.1.d.keep)/\(Z2 Y0 s.L X.1.L)/\(v=X.2/\s.fr.length=X.1.fr.length/\U7 s.fr.length g (Z0 X.1.fr))/\True)/\dU X.1.d/\bG X.1.d)/\br (! u.2) ((false=p.2/\True)/\mQ {X.1 with d:=u.1} p.1/\(Z2 Z5 u.1.E t.E)/\True/\True/\pb/\z/\(Z2 Y6 u.1.C t.C)/\c/\True) ((true=p.2/\True)/\mQ {X.1 with d:=u.1,S:=lsn} p.1/\(Z2 Z5 u.1.E t.E)/\True/\True/\pb/\z/\(Z2 Y6 u.1.C t.C)/\c/\True)))) ⟨λhc=>?_,λhc=>?_⟩
 ·rw[k5 (E4 hc)];exact⟨Y2,Y2,Y2,Z6,Z6,Y2,I0,Y2,Y2,Z6⟩
 ·have hc:=s6 hc;refine⟨⟨h5,Z9,h8⟩,⟨⟨0,O3 _⟩,⟨Y2,rfl,⟨C9 _,rfl⟩,Y2⟩,⟨rfl,rfl,Y2,⟨rfl,W8⟩,Y2⟩,Y2,Z6,Y2,Y2,I0,⟨W8,λi _=>W8⟩,Z6⟩,λx=>⟨λhx=>?_,λhx=>?_⟩⟩
  ·have hlt:=Y1 hx;obtain⟨e,hb,q⟩:=hn x.1 hlt;have e':9+(s.L.getD (s.S.toNat+x.1) dz).l-1=9+s.S+x.1:=e;rw[G2];refine⟨Y3 hlt,H9,Z3 Z9,Z3 Z9,_,⟨Y2,hb⟩,(s.sd (qQ s x.1),9+(s.L.getD (s.S.toNat+x.1) dz).l-1,P2 (s.L.getD (s.S.toNat+x.1) dz),v),⟨Y2,⟨Y2,Y2,Y2,Y2,Y2,I0,Z6⟩,?_⟩,Z3 Z9,⟨x.1+1,hlt⟩,⟨⟨Y2,rfl,Y2,rfl,X0,Z6⟩,⟨rfl,rfl,Y2,⟨rfl,congrArg List.length (xT s x.1)⟩,Y2⟩,Y2,Z6,Y2,Y2,I0,⟨congrArg List.length (xT s x.1),λi _=>congrArg (λL=>Y6 L i) (xT s x.1)⟩,Z6⟩,U8.ext_lt hlt⟩
   show(s.d.C++List.map (qI s) (List.range _)).length<=1048576;simp only[K2,List.length_map,j_g];omega
  ·have hx:x.1=M3 s lsn:=by have:=x.2;have:=X6 hx;omega
   rw[hx,zX hc];refine⟨(s.sd (qQ s (M3 s lsn)),v),⟨Y2,⟨Y2,Y2,Y2,Y2,Y2,I0,Z6⟩,W⟩,λY=>?_,λY=>?_⟩
   ·have Y:(U6 (qQ s (M3 s lsn))).2=false:=(xV _).mp Y;exact⟨⟨Y.symm,Z6⟩,⟨rfl,rfl,Y2,Y2,rfl,Y2,rfl,Y2,(if_neg (by rw[Y];simp)).symm,⟨rfl,rfl⟩,rfl,Z6⟩,⟨rfl,W2 _ _⟩,Z6,Z6,⟨rfl,W2 _ _⟩,⟨rfl,rfl,gV _⟩,⟨rfl,W2 _ _⟩,⟨rfl,W2 _ _⟩,Z6⟩
   ·have Y:(U6 (qQ s (M3 s lsn))).2=true:=(zF _).mp Y;exact⟨⟨Y.symm,Z6⟩,⟨rfl,rfl,Y2,Y2,rfl,Y2,rfl,Y2,(if_pos Y).symm,Y2⟩,Y2,Z6,Z6,Y2,I0,Y2,Y2,Z6⟩
theorem tJ{a b c:Int}(h:V9 a b c=true):b<=a/\a<=c:=by simpa[V9] using h
theorem c4G{a b c:Int}(h:(!V9 a b c)=false):b<=a/\a<=c:=tJ A8
theorem c1g{s:Sto}{lsn:Int}(h:G6 s=true)(hl:lsn<=s.L.length)(M:SmS s):uF s lsn:=by
 obtain⟨⟨f,e,d⟩,_⟩:=(J8 s).1 h;obtain⟨j,c2,_,_,C⟩:=(y6 s).1 f;obtain⟨_,_,l,_,_,_,g⟩:=j;have d:=tJ d;refine⟨M.1,Z9,λi hi=>?_,c2,d.1,d.2,C,hl,λi hi=>?_⟩
 ·have:=g i hi;unfold O1 at this;simp only[zV,zF] at this;have:=tJ this.1;omega
 ·obtain⟨a,b⟩:=D2.1 e i hi;exact⟨b,a8l a⟩
theorem b9q{d:Dsk}(h:dU d):dU (U6 d).1:=by
 obtain⟨e,g,f⟩:=h;unfold U6;split
 ·exact⟨by unfold crD;dsimp only;rw[C1];exact e,Y2⟩
 ·exact⟨by dsimp only;rw[C1];exact e,O3 _,f⟩
theorem a5c{s:Sto}{lsn:Int}(h:uF s lsn)(M:SmS s):SmS (W4 s lsn).1:=by
 by_cases hl:lsn<=s.S
 ·rw[k5 hl];exact M
 ·rw[zX hl];exact⟨b9q (a0W h).1,M.2.1,M.2.2.1,M.2.2.2⟩
def a8i:Con:=.rel ⟨Dsk×Int×Bz,λx=>[.agg x.1.ts,Ji x.2.1,.str x.2.2],λx=>.agg (wrD x.1 x.2.1 x.2.2).ts,λx=>x.1.C.length<=1048576⟩
theorem kT:GK 224 a8i:=gk func224<|by
 rintro⟨d,at_,t⟩ (h:d.C.length<=1048576);exact S1 gN func224 Y9 (α:=(Le 0 0/\U9 0 d.C.length 24)/\(Le 1 1/\Le (0+d.C.length) (0+d.C.length)/\U9 (0+d.C.length) 1 24)/\Le (0+(0+d.C.length+1)) (0+d.C.length+1)/\(Z2 Z5 d.E d.E)/\(0+d.C.length+1=(d.C++[Pend.mk at_ t]).length/\Z7 (0+d.C.length+1) (X7 (X7 (tk 2 []) 0 (Y6 d.C)) (0+d.C.length) (tk 2 [Ji at_,T.str t])) (Y6 (d.C++[Pend.mk at_ t])))/\d.A=d.A/\(Z2 Y8 d.keep d.keep)/\True) ⟨⟨V8 _,R1⟩,⟨V8 _,V8 _,R1⟩,L6,Y2,⟨W8,by rw[C9];exact a3A d.C ⟨at_,t⟩⟩,Y2⟩
def c11(l:List T):Option Ob:=some (.arr false 1000000 4 1 λ_=>l)
def b0k(l:List T):Option Ob:=some (.arr true 1000000 4 1 λ_=>l)
def c6q:List T:=[.v (.slice none 0 0),.v (.slice none 0 0),.bool false,.v (.slice none 0 0)]
def a8y:Con:=.rel ⟨Dsk×List Int,λx=>[.agg x.1.ts,bY x.2],λx=>.agg (crD x.1 x.2).ts,λx=>dU x.1/\bG x.1⟩
def a7j(d:Dsk)(K:List Int):Nat->Ann
 |0=>.one (Up d.C.length) (λx=>⟨[(1,bY K),(2,.ref 0 0 0),(4,.ref 1 0 0),(5,.ref 2 0 0),(6,Ji x.1)],[b0k d.ts,b0k c6q,c11 (d.tm 3),some (.arr true 0 1 d.E.length (Z5 (b5 d.E d.C (kp K) x.1))),B4 d.C,z6 d.keep]⟩) (λx=>d.C.length-x.1) c2k c1W (λ_=>Y9)
 |_=>.none
theorem P5{p:Prop}(h:p:=by repeat' first|exact trivial|exact rfl|exact W2 _ _|exact gV _|exact K8|exact aU _|exact V8 _|exact O3 _|refine And.intro ?_ ?_):p:=h
theorem a3B:GK 271 a8y:=gk func271<|by
 rintro⟨d,K⟩ ⟨⟨l,f,g⟩,i⟩;dsimp only at l f g i;refine S1 (gC mG gN) func271 (a7j d K) (α:=let m:=(Z2 Y8 K K);let k:=(Z2 Y8 d.keep d.keep);let j:=(oo (xP d d));let w:=(b5 d.E d.C (kp K) d.C.length);let z:=(0=0/\0=0);let r:=(oo ((0=0/\d.E.length=d.E.length)/\(0=0/\d.C.length=d.C.length)/\d.A=d.A/\(0=0/\d.keep.length=d.keep.length)/\True));let p:=(oo (Value.slice none 0 0=Value.slice none 0 0/\Value.slice none 0 0=Value.slice none 0 0/\false=false/\Value.slice none 0 0=Value.slice none 0 0/\True));∃(x:Dsk),(((xP d x)/\True)/\dU x)/\(∃(X:Up d.C.length),(m/\z/\z/\z/\0=(X.val:Int)/\True)/\j/\p/\(oo ((0=0/\x.E.length=d.E.length)/\(0=0/\x.C.length=d.C.length)/\x.A=d.A/\(0=0/\x.keep.length=d.keep.length)/\True))/\(x.E.length=d.E.length/\Z7 x.E.length (Z5 x.E) (Z5 (b5 d.E d.C (kp K) X.val)))/\(Z2 Y6 x.C d.C)/\(Z2 Y8 x.keep d.keep)/\True)/\∀(x:Up d.C.length),let f:=(d.C.length-x.1);let v:=(Z5 (b5 d.E d.C (kp K) x.1));let q:=(x.1:Int);let n:=(q<(K.length:Int));let u:=(d.C.getD q.toNat dz);bd (q<(d.C.length:Int)) ((decide n=true->V7 q K.length)/\br (decide n&&K.getD q.toNat (0:Int) !=0) (V7 q d.C.length/\V7 q d.C.length/\V7 u.at_ d.E.length/\Lt (0+u.at_.toNat) d.E.length/\Ri (q+1)/\∃(y:Up d.C.length),((m/\z/\z/\z/\q+1=(y.1:Int)/\True)/\j/\p/\r/\(d.E.length=d.E.length/\Z7 d.E.length (setRow v (0+u.at_.toNat) 0 [T.str u.d]) (Z5 (b5 d.E d.C (kp K) y.1)))/\(Z2 Y6 d.C d.C)/\k/\True)/\Lt (d.C.length-y.1) f) (Ri (q+1)/\∃(y:Up d.C.length),((m/\z/\z/\z/\q+1=(y.1:Int)/\True)/\j/\p/\r/\(d.E.length=d.E.length/\Z7 d.E.length v (Z5 (b5 d.E d.C (kp K) y.1)))/\(Z2 Y6 d.C d.C)/\k/\True)/\Lt (d.C.length-y.1) f)) ((Le (0+d.E.length) d.E.length/\Le 0 0/\Le 0 0)/\(d.E.length=w.length/\Z7 d.E.length v (Z5 w))/\(0=0/\Z7 0 (tk 2 []) (Y6 []))/\false=false/\(0=0/\Z7 0 (tk 1 []) (Y8 []))/\True)) ⟨d,⟨Y2,l,f,g⟩,⟨⟨0,O3 _⟩,P5⟩,λx=>⟨λhc=>?_,λhc=>?_⟩⟩
 ·have t:=Y1 hc;have n:(decide ((x.1:Int)<(K.length:Int))&&K.getD x.1 0 !=0)=kp K x.1:=by
   unfold kp;rw[show decide ((x.1:Int)<(K.length:Int))=decide (x.1<K.length) from decide_eq_decide.2 Z9]
  have A:=i x.1 t;rw[G2,n];refine⟨λh=>Y3 (Y1 h),λe=>?_,λe=>?_⟩
  ·exact⟨Y3 t,Y3 t,A,H9,Z3 Z9,⟨x.1+1,t⟩,⟨⟨Y2,Y2,Y2,Y2,X0,Z6⟩,Y2,P5,P5,⟨rfl,iW e⟩,P5⟩,U8.ext_lt t⟩
  ·exact⟨Z3 Z9,⟨x.1+1,t⟩,⟨⟨Y2,Y2,Y2,Y2,X0,Z6⟩,Y2,P5,P5,⟨rfl,λj _=>by dsimp only;rw[c16 e]⟩,P5⟩,U8.ext_lt t⟩
 ·have hx:x.1=d.C.length:=by have:=x.2;have:=X6 hc;omega
  rw[hx];exact⟨P5,⟨(C1 _ _ _ _).symm,W2 _ _⟩,P5⟩
def b02:Con:=.rel ⟨Dsk,λd=>[.agg d.ts],λd=>.tup [.agg (U6 d).1.ts,.bool (U6 d).2],λd=>dU d/\bG d⟩
def b2p(d:Dsk):Nat->Ann
 |0=>.one (Up d.C.length) (λx=>⟨[(1,.ref 0 0 0),(2,.ref 1 0 0),(4,.ref 2 0 0),(5,Ji x.1)],[b0k d.ts,b0k c6q,c11 (d.tm 3),some (.arr true 0 1 d.E.length (Z5 (b5 d.E d.C (λ_=>true) x.1))),B4 d.C,z6 d.keep]⟩) (λx=>d.C.length-x.1) c2k c1W (λ_=>Y9)
 |_=>.none
theorem dY:GK 226 b02:=gk func226<|by
 rintro(d:Dsk) ⟨⟨h1,h2,h3⟩,h4⟩;refine S1 (gC a3B (gC mG gN)) func226 (b2p d) (α:=let v:=(U6 d).1.C.length;let z:=(0=0/\0=0);let p:=(oo (Value.slice none 0 0=Value.slice none 0 0/\Value.slice none 0 0=Value.slice none 0 0/\false=false/\Value.slice none 0 0=Value.slice none 0 0/\True));br d.A (∃(x:(Dsk×List Int)),(((xP d x.1)/\(Z2 Y8 d.keep x.2)/\True)/\dU x.1/\bG x.1)/\((Z2 Z5 (b5 x.1.E x.1.C (kp x.2) x.1.C.length) (U6 d).1.E)/\(0=v/\Z7 0 (Y6 []) (Y6 (U6 d).1.C))/\false=(U6 d).1.A/\(0=(U6 d).1.keep.length/\Z7 0 (Y8 []) (Y8 (U6 d).1.keep))/\True)/\false=(U6 d).2/\True) (∃(x:Dsk),(((xP d x)/\True)/\dU x)/\(∃(X:Up d.C.length),(z/\z/\z/\0=(X.val:Int)/\True)/\(oo (xP d d))/\p/\(oo ((0=0/\x.E.length=d.E.length)/\(0=0/\x.C.length=d.C.length)/\x.A=d.A/\(0=0/\x.keep.length=d.keep.length)/\True))/\(x.E.length=d.E.length/\Z7 x.E.length (Z5 x.E) (Z5 (b5 d.E d.C (λ(x:Nat)=>true) X.val)))/\(Z2 Y6 x.C d.C)/\(Z2 Y8 x.keep d.keep)/\True)/\∀(x:Up d.C.length),let w:=(λ(x:Nat)=>true);let u:=(Z5 (b5 d.E d.C w x.1));let r:=(x.1:Int);let q:=(d.C.getD r.toNat dz);bd (r<(d.C.length:Int)) (V7 r d.C.length/\V7 r d.C.length/\V7 q.at_ d.E.length/\Lt (0+q.at_.toNat) d.E.length/\Ri (r+1)/\∃(y:Up d.C.length),((z/\z/\z/\r+1=(y.1:Int)/\True)/\(oo (xP d d))/\p/\(oo ((0=0/\d.E.length=d.E.length)/\(0=0/\d.C.length=d.C.length)/\d.A=d.A/\(0=0/\d.keep.length=d.keep.length)/\True))/\(d.E.length=d.E.length/\Z7 d.E.length (setRow u (0+q.at_.toNat) 0 [T.str q.d]) (Z5 (b5 d.E d.C w y.1)))/\(Z2 Y6 d.C d.C)/\(Z2 Y8 d.keep d.keep)/\True)/\Lt (d.C.length-y.1) (d.C.length-x.1)) ((Le (0+d.E.length) d.E.length/\Le 0 0/\Le (0+d.keep.length) d.keep.length)/\((d.E.length=(U6 d).1.E.length/\Z7 d.E.length u (Z5 (U6 d).1.E))/\(0=v/\Z7 0 (tk 2 []) (Y6 (U6 d).1.C))/\d.A=(U6 d).1.A/\(Z2 Y8 d.keep (U6 d).1.keep)/\True)/\true=(U6 d).2/\True))) ⟨λhd=>?_,λhd=>?_⟩
 ·have e:U6 d=(crD d d.keep,false):=by unfold U6;rw[if_pos hd]
  rw[e];exact⟨(d,d.keep),⟨Y2,⟨h1,h2,h3⟩,h4⟩,P5⟩
 ·have e:U6 d=(⟨b5 d.E d.C (λ_=>true) d.C.length,[],d.A,d.keep⟩,true):=by unfold U6;rw[if_neg (by rw[hd];simp)]
  rw[e];refine⟨d,⟨Y2,h1,h2,h3⟩,⟨⟨0,O3 _⟩,P5⟩,λx=>⟨λhc=>?_,λhc=>?_⟩⟩
  ·have h:=Y1 hc;have A:=h4 x.1 h;rw[G2];exact⟨Y3 h,Y3 h,A,H9,Z3 Z9,⟨x.1+1,h⟩,⟨⟨Y2,Y2,Y2,X0,Z6⟩,Y2,P5,P5,⟨rfl,iW (Q:=λ_=>true) rfl⟩,P5⟩,U8.ext_lt h⟩
  ·have hx:x.1=d.C.length:=by have:=x.2;have:=X6 hc;omega
   rw[hx];exact⟨P5,⟨⟨(C1 _ _ _ _).symm,W2 _ _⟩,P5⟩,P5⟩
def c58(l:List T):Option Ob:=some (.arr true 1000000 9 1 λ_=>l)
def a6G:Con:=.rel ⟨Sto×Int,λx=>[.agg x.1.ts,Ji x.2],λx=>.tup [.agg (W4 x.1 x.2).1.ts,.bool (W4 x.1 x.2).2],λx=>uF x.1 x.2⟩
def a7f(s:Sto)(lsn:Int):Nat->Ann
 |0=>.one (Up (M3 s lsn)) (λx=>⟨[(1,Ji lsn),(2,.ref 0 0 0),(4,.ref 1 0 0),(6,Ji (s.S+x.1+1))],[c58 (s.sd (qQ s x.1)).ts,b4B]⟩) (λx=>M3 s lsn-x.1) uY uY (λ_=>Y9)
 |_=>.none
theorem kK:GK 156 a6G:=gk func156<|by
 rintro⟨s,lsn⟩ h;dsimp only at h;have n:=λi=>lY (i:=i) h
 have W:=a0W h;obtain⟨⟨A,t,C⟩,j,l,u,z,o,v,g,r⟩:=h;have N:M3 s lsn<=60:=by unfold M3;omega
 refine S1 (gC a4F (gC kT (gC dY gN))) func156 (a7f s lsn) (α:=let w:=(Z2 V2 s.fr s.fr);let u:=(0=0/\0=0);let z:=(W4 s lsn);let p:=(oo (Value.slice none 0 0=Value.slice none 0 0/\Value.slice none 0 0=Value.slice none 0 0/\false=false/\Value.slice none 0 0=Value.slice none 0 0/\(0:Int)=0/\Value.slice none 0 0=Value.slice none 0 0/\(0:Int)=0/\Value.slice none 0 0=Value.slice none 0 0/\(0:Int)=0/\True));bd (lsn<=s.S) ((o6 s z.1)/\true=z.2/\True) (Ri (s.S+1)/\(∃(x:Up (M3 s lsn)),(lsn=lsn/\u/\u/\s.S+1=s.S+(x.1:Int)+1/\True)/\(oo ((Z2 Z5 s.d.E s.d.E)/\(Z2 Y6 s.d.C (s.d.C++List.map (qI s) (List.range x.1)))/\s.d.A=s.d.A/\(Z2 Y8 s.d.keep s.d.keep)/\s.ep=s.ep/\(Z2 Y0 s.L s.L)/\s.S=s.S/\w/\s.J=s.J/\True))/\p/\True)/\∀(x:Up (M3 s lsn)),let r:=(s.d.C++List.map (qI s) (List.range x.1));let q:=(x.1:Int);let j:=(s.S+q+1);let v:=(s.S+q+1-1);bd (s.S+q+1<=lsn) (Ri (9+j)/\Ri (9+j-1)/\Ri v/\V7 v s.L.length/\∃(X:Rec),(((EqR (s.L.getD v.toNat dz) X)/\True)/\a6S X)/\∃(f:(Dsk×Int×Bz)),((((Z2 Z5 s.d.E f.1.E)/\(Z2 Y6 r f.1.C)/\s.d.A=f.1.A/\(Z2 Y8 s.d.keep f.1.keep)/\True)/\9+j-1=f.2.1/\P2 X=f.2.2/\True)/\f.1.C.length<=1048576)/\Ri (s.S+q+1+1)/\∃(y:Up (M3 s lsn)),((lsn=lsn/\u/\u/\s.S+q+1+1=s.S+(y.1:Int)+1/\True)/\(oo ((Z2 Z5 f.1.E s.d.E)/\(Z2 Y6 (f.1.C++[Pend.mk f.2.1 f.2.2]) (s.d.C++List.map (qI s) (List.range y.1)))/\f.1.A=s.d.A/\(Z2 Y8 f.1.keep s.d.keep)/\s.ep=s.ep/\(Z2 Y0 s.L s.L)/\s.S=s.S/\w/\s.J=s.J/\True))/\p/\True)/\Lt (M3 s lsn-y.1) (M3 s lsn-x.1)) (∃(X:Dsk),((((Z2 Z5 s.d.E X.E)/\(Z2 Y6 r X.C)/\s.d.A=X.A/\(Z2 Y8 s.d.keep X.keep)/\True)/\True)/\dU X/\bG X)/\br (U6 X).2 ((o6 {s with d:=(U6 X).1,S:=lsn} z.1)/\(U6 X).2=z.2/\True) ((o6 {s with d:=(U6 X).1} z.1)/\(U6 X).2=z.2/\True)))) ⟨λhc=>?_,λhc=>?_⟩
 ·rw[k5 (E4 hc)];exact P5
 ·have hc:=s6 hc;refine⟨Z3 Z9,⟨⟨0,O3 _⟩,⟨rfl,Y2,Y2,X0,Z6⟩,⟨rfl,rfl,Y2,⟨W8,λi _=>W8⟩,P5⟩,P5⟩,λx=>⟨λhx=>?_,λhx=>?_⟩⟩
  ·have hlt:x.1<M3 s lsn:=by have:=E4 hx;unfold M3;omega
   obtain⟨e,B,q⟩:=n x.1 hlt;rw[show(s.S+(x.1:Int)+1-1).toNat=s.S.toNat+x.1 by omega]
   refine⟨Z3 Z9,Z3 Z9,Z3 Z9,⟨Z9,Z9⟩,_,⟨Y2,B⟩,(qQ s x.1,(qI s x.1).at_,P2 (s.L.getD (s.S.toNat+x.1) dz)),⟨⟨P5,by show _=(qI s x.1).at_;rw[e];omega,rfl,Z6⟩,?_⟩,Z3 Z9,⟨x.1+1,hlt⟩,⟨⟨rfl,⟨rfl,rfl⟩,⟨rfl,rfl⟩,X0,Z6⟩,⟨rfl,rfl,⟨rfl,W2 _ _⟩,⟨congrArg List.length (xT s x.1),λi _=>congrArg (λL=>Y6 L i) (xT s x.1)⟩,P5⟩,P5⟩,U8.ext_lt hlt⟩
   show(s.d.C++List.map (qI s) (List.range _)).length<=1048576;simp only[K2,List.length_map,j_g];omega
  ·have hx:x.1=M3 s lsn:=by have:=x.2;have:=s6 hx;unfold M3 at*;omega
   rw[hx,zX hc];refine⟨qQ s (M3 s lsn),⟨⟨P5,Z6⟩,W⟩,λY=>⟨⟨Y2,Y2,rfl,Y2,rfl,Y2,(if_pos Y).symm,P5⟩,P5⟩,λY=>⟨⟨Y2,Y2,rfl,Y2,rfl,Y2,(if_neg (by rw[Y];simp)).symm,P5⟩,P5⟩⟩
def b87(l:Bz)(L:List (Bz)):Nat->Ann
 |0=>.one (Up L.length) (λx=>⟨[(0,.osl 1 0 (l++W1 L x.1).length),(13,zA L),(14,Ji L.length),(15,Ji x.1)],[none,some (.bys 5 (l++W1 L x.1))]⟩) (λx=>L.length-x.1) [.arr 0,.arr 2] [.arr 0,.at_ 0] (λ_=>Y9)
 |_=>.none
def a0H:Con:=.reff ⟨Bz×List (Bz),λx=>[.osl 0 0 x.1.length,zA x.2],λx=>[some (.bys 5 x.1)],λx=>.osl 1 0 (x.1++S0 x.2).length,λx=>[none,some (.bys 5 (x.1++S0 x.2))],λx=>x.1.length<=1000/\o8 x.2⟩
theorem cL:GK 192 a0H:=gk func192<|by
 rintro⟨l,L⟩ ⟨g,h,h3⟩;dsimp only at g h h3;have f:List.take l.length l++List.take 1 (List.drop 0 (List.map Q8 [IntKind.u8.wrap (L.length:Int)]))=l++W1 L 0:=by rw[cH];rfl
 refine r5 gN func192 (b87 l L) [[.arr 0,.arr 1]] (α:=let z:=(L.length:Int);O7 IntKind.u8 (IntKind.u8.wrap z)/\(Le 1 1/\Le l.length l.length/\U9 l.length 1 1)/\(∃(x:Up L.length),((0=0/\l.length+1=(l++W1 L x.1).length)/\(Z2 Z5 L L)/\z=z/\0=(x.1:Int)/\True)/\True/\List.take l.length l++List.take 1 (List.drop 0 (List.map Q8 [IntKind.u8.wrap z]))=l++W1 L x.1/\True)/\∀(x:Up L.length),let u:=(x.1:Int);let q:=(L.getD u.toNat []).length;let p:=(l++W1 L x.1).length;let r:=(List.take p (l++W1 L x.1)++List.take 1 (List.drop 0 (List.map Q8 [IntKind.u8.wrap (↑q:Int)])));bd (u<z) (V7 u L.length/\O7 IntKind.u8 (IntKind.u8.wrap (↑q:Int))/\(Le 1 1/\Le p p/\U9 p 1 1)/\(Le (p+1) r.length/\U9 (p+1) q 1)/\Ri (u+1)/\∃(y:Up L.length),(((0=0/\p+1+q=(l++W1 L y.1).length)/\(Z2 Z5 L L)/\z=z/\u+1=(y.1:Int)/\True)/\True/\List.take (p+1) r++L.getD u.toNat []=l++W1 L y.1/\True)/\Lt (L.length-y.1) (L.length-x.1)) (((0=0/\p=(l++S0 L).length)/\True)/\True/\l++W1 L x.1=l++S0 L/\True)) ⟨O2 _,⟨V8 _,V8 _,R1⟩,⟨⟨0,O3 _⟩,⟨⟨rfl,by simp[W1]⟩,⟨rfl,W2 _ _⟩,rfl,rfl,Z6⟩,Z6,f,Z6⟩,λx=>⟨λhc=>?_,λhc=>?_⟩⟩
 ·have hlt:=Y1 hc;have f1:=wU L h3 x.1 Z9
  have F:=h3 x.1 hlt;rw[G2];have hl:(l++W1 L x.1).length<=1100000:=by rw[K2];omega
  have e:List.take (l++W1 L x.1).length (l++W1 L x.1)++List.take 1 (List.drop 0 (List.map Q8 [IntKind.u8.wrap ((L.getD x.1 []).length:Int)]))=l++W1 L x.1++[zW (L.getD x.1 []).length]:=by
   rw[cH];rfl
  rw[e];have d:(l++W1 L x.1++[zW (L.getD x.1 []).length]).length=(l++W1 L x.1).length+1:=by rw[K2];rfl
  refine⟨Y3 hlt,O2 _,⟨V8 _,V8 _,R1⟩,⟨by rw[d];exact V8 _,R1⟩,Z3 Z9,⟨x.1+1,hlt⟩,⟨⟨⟨rfl,?_⟩,Y2,rfl,X0,Z6⟩,Z6,?_,Z6⟩,U8.ext_lt hlt⟩
  ·simp only[W1,K2,List.length_cons,List.length_nil];omega
  ·rw[←d,cH];simp only[W1,List.append_assoc]
 ·have hx:x.1=L.length:=by have:=x.2;have:=X6 hc;omega
  rw[hx];exact Y2
def b2I:Con:=.reff ⟨Bz,λl=>[.osl 0 0 l.length],λl=>[some (.bys 5 l)],λl=>.osl 1 0 (l++F8 (m0 l)).length,λl=>[none,some (.bys 5 (l++F8 (m0 l)))],λl=>l.length<=1000000⟩
theorem a73:GK 104 b2I:=gk func104<|by
 intro(l:Bz) (hl:l.length<=1000000);have e:(F8 (m0 l)).length=4:=rfl;have h:=a1B l;refine r5 (gC pE (gC a2w gN)) func104 Y9 [[.arr 0,.arr 1]] (α:=∃(x:(uO IntKind.u32).ι),(Le (0+l.length) l.length/\(List.take l.length (List.drop 0 l)=x/\True)/\w2 x)/\∃(X:Nat),((IntKind.i64.wrap (↑(m0 x):Int)=(X:Int)/\True)/\X<4294967296)/\(Le l.length l.length/\U9 l.length 4 1)/\((0=0/\l.length+4=(l++F8 (m0 l)).length)/\True)/\True/\List.take l.length l++F8 X=l++F8 (m0 l)/\True) ⟨l,⟨L6,⟨dR,Z6⟩,a3C⟩,m0 l,⟨⟨?_,Z6⟩,h⟩,⟨V8 _,R1⟩,⟨⟨rfl,by rw[K2,e]⟩,Z6⟩,Z6,by rw[cH],Z6⟩
 rw[IntKind.wrap_i64];omega
def a4N:Con:=.rmk ⟨Int×Pg,λx=>[Ji x.1,.agg x.2.ts],λ_=>[],λx=>.osl 0 0 (P3 x.1 x.2).length,λx=>[some (.bys 5 (P3 x.1 x.2))],λx=>PgP x.2⟩
theorem a2h:GK 191 a4N:=gk func191<|by
 rintro⟨no,p⟩ ⟨j,g,l,d⟩;dsimp only at j g l d;have f:o8 p.sl:=⟨Z9,λi hi=>Nat.le_trans (d i hi) X1⟩
 have h:=wU p.sl f.2 p.sl.length (V8 _);have h:(S0 p.sl).length<=5000:=by unfold S0;omega
 have e:List.map Q8 [(112:Int),IntKind.u8.wrap no,IntKind.u8.wrap (p.Q.fdiv 256),IntKind.u8.wrap p.Q]=[Q8 112,zW no]++zQ p.Q.toNat:=by
  unfold zQ;rw[show((p.Q.toNat:Nat):Int)=p.Q by omega,Int.fdiv_one]
  rfl
 refine⟨r5 (gC cL (gC a73 gN)) func191 Y9 [[.arr 3]] (α:=let q:=(p.Q.fdiv (256:Int));Nn (8:Int)/\(O7 IntKind.u8 (112:Int)/\O7 IntKind.u8 (IntKind.u8.wrap no)/\O7 IntKind.u8 (IntKind.u8.wrap q)/\O7 IntKind.u8 (IntKind.u8.wrap p.Q))/\∃(x:(Bz×List (Bz))),(((0=0/\4=x.1.length)/\(Z2 Z5 p.sl x.2)/\True)/\(List.map Q8 [(112:Int),IntKind.u8.wrap no,IntKind.u8.wrap q,IntKind.u8.wrap p.Q]=x.1/\True)/\x.1.length<=1000/\o8 x.2)/\∃(X:(Bz)),(((0=0/\(x.1++S0 x.2).length=X.length)/\True)/\(x.1++S0 x.2=X/\True)/\X.length<=1000000)/\((0=0/\(X++F8 (m0 X)).length=(P3 no p).length)/\True)/\X++F8 (m0 X)=P3 no p/\True) ⟨tI,⟨(sX _).2 Z9,O2 _,O2 _,O2 _⟩,([Q8 112,zW no]++zQ p.Q.toNat,p.sl),⟨Y2,⟨e,Z6⟩,by simp[zQ],f⟩,sT no p,⟨⟨⟨rfl,rfl⟩,Z6⟩,⟨rfl,Z6⟩,?_⟩,⟨⟨rfl,rfl⟩,Z6⟩,rfl,Z6⟩,rfl,C3 trivial y0⟩
 unfold sT;rw[K2,K2];have n:(zQ p.Q.toNat).length=2:=rfl;simp only[List.length_cons,List.length_nil];omega
def a7X:Con:=.rmk ⟨Unit,λ_=>[],λ_=>[],λ_=>.agg (Pg.tm ⟨0,[[],[],[],[]]⟩ 0),λ_=>[x4 [[],[],[],[]]],λ_=>True⟩
theorem a5u(h:
  (Nn (4:Int)/\LeI (4:Int) (4:Int)/\mK 16 4 140737488355328/\Lt 4 9223372036854775808)/\(((0:Int)=0/\(0=0/\4=4)/\True)/\True)/\(4=4/\Z7 4 (λ(x:Nat)=>[T.str []]) (Z5 [[],[],[], []]))/\True):
  H6 prog 167 [] [] (.agg (Pg.tm ⟨0,[[],[],[],[]]⟩ 0)) [x4 [[],[],[],[]]]:=
 r5 gN func167 Y9 [[.arr 1]] h
theorem a40:GK 167 a7X:=gk func167<|λ_ _=>⟨a5u ⟨⟨tI,b0e,a5m,H9⟩,Y2,⟨rfl,iG⟩,Z6⟩,rfl,l8 _⟩
def b2r:Con:=.reff ⟨Bz×Bool,λ_=>[.ref 0 0 0],λx=>[rdr x.1 x.2],λx=>.osl 1 0 (S2 x.1 x.2).out.length,λx=>[rdr (S2 x.1 x.2).l (S2 x.1 x.2).fl,x4 (S2 x.1 x.2).out],λ_=>True⟩
theorem a5X:GK 234 b2r:=gk func234<|by
 rintro⟨l,fl⟩ _;have n:=u6 l;refine r5 (gC a1x (gC rA gN)) func234 (a4M l fl) [b9M] (α:=let w:=(S2 l fl);(∃(x:Up ((numR l).toNat)),let q:=(F9 l fl x.1);((0=0/\0=0)/\(0=0/\0=q.out.length)/\numR l=numR l/\0=(x.1:Int)/\True)/\(oo (List.drop 1 l=q.l/\(fl||l.isEmpty)=q.fl/\True))/\(0=q.out.length/\Z7 0 (tk 1 []) (Z5 q.out))/\True)/\∀(x:Up ((numR l).toNat)),let j:=(x.1:Int);let p:=(F9 l fl x.1);let v:=(numR p.l);let u:=(List.drop 1 p.l);let z:=p.out.length;bd (j<numR l) (v6 v/\(Le 1 1/\Le p.out.length z/\U9 p.out.length 1 16)/\Ri (j+1)/\∃(y:Up ((numR l).toNat)),let r:=(F9 l fl y.1);(((0=0/\0=0)/\(0=0/\z+1=r.out.length)/\numR l=numR l/\j+1=(y.1:Int)/\True)/\(oo (R0 u v=r.l/\(p.fl||p.l.isEmpty||big u v)=r.fl/\True))/\(z+1=r.out.length/\Z7 (z+1) (X7 (Z5 p.out) p.out.length (tk 1 [T.str (T7 u v)])) (Z5 r.out))/\True)/\Lt ((numR l).toNat-y.1) ((numR l).toNat-x.1)) (((0=0/\z=w.out.length)/\True)/\(oo (p.l=w.l/\p.fl=w.fl/\True))/\(Z2 Z5 p.out w.out)/\True)) ⟨⟨⟨0,O3 _⟩,Y2,Y2,⟨rfl,nY _ _⟩,Z6⟩,λx=>⟨λhc=>?_,λhc=>?_⟩⟩
 ·have t:(x.1:Int)<numR l:=E4 hc;have h:=uV l fl x.1;have M:=u6 (F9 l fl x.1).l;exact⟨⟨M.1,Z9⟩,⟨V8 _,V8 _,Z9,Z9⟩,Z3 Z9,⟨x.1+1,Z9⟩,⟨⟨Y2,⟨rfl,(congrArg (· +1) h).trans (uV l fl (x.1+1)).symm⟩,rfl,F3,Z6⟩,Y2,⟨(congrArg (· +1) h).trans (uV l fl (x.1+1)).symm,a2m _ _⟩,Z6⟩,mL⟩
 ·have hge:¬ (x.1:Int)<numR l:=s6 hc;have hx:=x.2;have he:x.1=(numR l).toNat:=by omega
  rw[he];exact Y2
def a4I:Con:=.rmk ⟨Int×Bz,λx=>[Ji x.1,.bys x.2],λ_=>[],λx=>.tup [.agg ((O5 x.1 x.2).tm 0),Ji (J2 x.1 x.2)],λx=>[x4 (O5 x.1 x.2).sl],λx=>RdB x.2⟩
theorem a2u:GK 168 a4I:=gk func168<|by
 rintro⟨no,b⟩ (hb:b.length<=1000);have hl:∀(x:Bz),(T7 x 4).length=4:=λx=>by
  unfold T7;split
  ·exact List.length_replicate
  ·rename_i h;have:¬4>(x.length:Int):=by simpa[big] using h
   rw[List.length_take,show(4:Int).toNat=4 from rfl]
   omega
 refine⟨r5 (gC kW (gC rA (gC a2o (gC a5X (gC lK (gC pR gN)))))) func168 Y9 [[.nilS 0 [0,1] 0 1,.arr 4],[.arr 2],[.nilS 0 [0,1] 0 1,.arr 1]] (α:=let w:=(O5 no b);let r:=w.sl.length;let u:=(0=w.Q/\(0=0/\0=r)/\True);bd ((b.length:Int)>65536) (((u/\2=J2 no b/\True)/\True)/\(0=r/\Z7 0 (λ(x:Nat)=>[]) (Z5 w.sl))/\True) (∃(x:oS.ι),let y:=(0=r/\Z7 0 (λ(x:Nat)=>[]) (Z5 w.sl));let p:=(T7 (W6 x) (4:Int));let j:=(↑(p.getD 1 (0:UInt8)).toNat:Int);let z:=(↑(p.getD 0 (0:UInt8)).toNat:Int);((b=x/\True)/\w2 x)/\br (!R3 x) (((u/\8=J2 no b/\True)/\True)/\y/\True) (v6 (4:Int)/\jH (2:Int) p.length/\∃(e:a5f.ι),((List.drop 2 p=e/\True)/\nH e)/\∃(X:(Bz×Bool)),let v:=(S2 X.1 X.2);let k:=v.out.length;let q:=(! v.fl&&v.l.isEmpty);(((0=0/\0=0)/\True)/\((1=1/\Z7 1 (λ(d:Nat)=>[T.bys (R0 (W6 x) (4:Int)),T.bool (false||big (W6 x) (4:Int))]) λ(x:Nat)=>[T.bys X.1,T.bool X.2])/\True)/\True)/\((! q)=false->V7 (0:Int) p.length)/\((! q||z !=112)=false->V7 (1:Int) p.length)/\∃(d:xY.ι),((! q||z !=112||IntKind.i64.wrap j !=no)=false->Le (0+k) k/\(((↑(be e):Int)=d.Q/\(Z2 Z5 v.out d.sl)/\True)/\True)/\PgB d)/\br (! q||z !=112||IntKind.i64.wrap j !=no|| !o4 d) (((u/\3=J2 no b/\True)/\True)/\y/\True) (((((↑(be e):Int)=w.Q/\(0=0/\k=r)/\True)/\0=J2 no b/\True)/\True)/\(Z2 Z5 v.out w.sl)/\True)))) ⟨λh=>?_,λ_=>⟨b,⟨Y2,Nat.le_trans hb X1⟩,λh=>?_,λh=>⟨⟨Z9,Z9⟩,⟨Z9,a0z⟩,(T7 (W6 b) 4).drop 2,⟨Y2,by unfold nH;rw[List.length_drop,hl];omega⟩,
  (R0 (W6 b) 4,false||big (W6 b) 4),P5,λ_=>⟨Z9,a0z⟩,λ_=>⟨Z9,a0z⟩,rpQ (W6 b),λ_=>⟨aU _,Y2,?_⟩,λg=>?_,λg=>?_⟩⟩⟩,rfl,l8 _⟩
 ·have:=E4 h;omega
 ·have hu:R3 b=false:=by simpa using h
  have f:(F5 no b).2=false:=by unfold F5;rw[hu];rfl
  have i:O5 no b=⟨0,[]⟩:=by unfold O5;rw[f];rfl
  have j:J2 no b=8:=by unfold J2;rw[hu];rfl
  rw[i,j];exact P5
 ·show(S2 (R0 (W6 b) 4) (false||big (W6 b) 4)).out.length<1000000000000;unfold S2;rw[uV];have:=u6 (R0 (W6 b) 4);omega
 ·have hu:R3 b=true:=by simpa using h
  have q:=(a9w no b hu).1;have f:(F5 no b).2=false:=by
   have g:(nN no (W6 b)|| !o4 (rpQ (W6 b)))=true:=g;rw[g] at q;exact(xV _).mp q.symm
  have i:O5 no b=⟨0,[]⟩:=by unfold O5;rw[f];rfl
  have j:J2 no b=3:=by unfold J2;rw[hu,f];rfl
  rw[i,j];exact P5
 ·have hu:R3 b=true:=by simpa using h
  have q:=a9w no b hu;have f:(F5 no b).2=true:=by
   have g:(nN no (W6 b)|| !o4 (rpQ (W6 b)))=false:=g;rw[g] at q;exact(zF _).mp q.1.symm
  have i:O5 no b=rpQ (W6 b):=by unfold O5;rw[f,q.2 f];rfl
  have j:J2 no b=0:=by unfold J2;rw[hu,f];rfl
  rw[i,j];exact P5
def DkB(x:Dsk×Nat):Prop:=1+x.2<x.1.E.length/\x.1.E.length<=1048576/\x.1.C.length<=1048576/\(U1 x.1 (1+x.2)).length<=1000
def b5A:Con:=.rmk ⟨Dsk×Nat,λx=>[.bref x.1.ts,Ji x.2],λ_=>[],λx=>.tup [.agg ((S9 x.1 x.2).1.tm 0),.bool (S9 x.1 x.2).2],λx=>[x4 (S9 x.1 x.2).1.sl],DkB⟩
theorem bM:GK 94 b5A:=gk func94<|by
 rintro⟨d,no⟩ ⟨g,i,j,f⟩;dsimp only at g i j f;refine⟨r5 (gC a4G (gC a40 (gC a2u gN))) func94 Y9 [[.arr 1]] (α:=let p:=(S9 d no);let q:=p.1.sl.length;Ri (1+(no:Int))/\∃(x:lH.ι),(((xP d x.1)/\1+(no:Int)=(x.2:Int)/\True)/\AtB x)/\br (U1 x.1 x.2==[]) (∃(x:Unit),(True/\True)/\(((0=p.1.Q/\(0=0/\4=q)/\True)/\true=p.2/\True)/\True)/\(4=q/\Z7 4 (Z5 [[],[],[],[]]) (Z5 p.1.sl))/\True) (Lt (U1 x.1 x.2).length 140737488355329/\∃(X:(Int×Bz)),let r:=(O5 X.1 X.2);(((no:Int)=X.1/\U1 x.1 x.2=X.2/\True)/\RdB X.2)/\(((r.Q=p.1.Q/\(0=0/\r.sl.length=q)/\True)/\(J2 X.1 X.2==0)=p.2/\True)/\True)/\(Z2 Z5 r.sl p.1.sl)/\True)) ⟨Z3 Z9,(d,1+no),⟨⟨eqD _,F3,Z6⟩,g,F3⟩,λh=>⟨(),Y2,?_⟩,λh=>⟨mL,((no:Int),U1 d (1+no)),⟨Y2,f⟩,?_⟩⟩,rfl,l8 _⟩
 ·have h:U1 d (1+no)=[]:=by simpa using h
  have e:S9 d no=(⟨0,[[],[],[],[]]⟩,true):=by unfold S9;rw[if_pos h]
  rw[e];exact P5
 ·have h:U1 d (1+no)≠[]:=by simpa using h
  have e:S9 d no=(O5 no (U1 d (1+no)),(F5 no (U1 d (1+no))).2):=by unfold S9;rw[if_neg h]
  rw[e];exact⟨⟨⟨P5,a0j _ _,Z6⟩,Z6⟩,Y2⟩
structure SInv(s:Sto):Prop where
 sm:SmS s
 c:s.d.C.length<=500
 pd:bG s.d
 n69:s.d.E.length=69
 su:0<=s.S/\s.S<=s.L.length
 l60:s.L.length<=60
 rc:g7 s.L=true
 fr3:s.fr.length<=3
 frp:∀i,i<s.fr.length->0<=(s.fr.getD i dz).no/\(s.fr.getD i dz).no<=7/\PgP (s.fr.getD i dz).pg/\(s.fr.getD i dz).pg.Q<=s.L.length
 hd:0<=s.J/\s.J<=2
 pg:∀no,no<8->(U2 s.d no).2=true/\(U1 s.d (1+no)).length<=1000
theorem SInv.flu{s:Sto}(h:SInv s){lsn:Int}(hl:lsn<=s.L.length):uF s lsn:=
 ⟨h.sm.1,by have:=h.c;omega,h.pd,h.n69,h.su.1,h.su.2,h.l60,hl,λi hi=>by
  obtain⟨a,b⟩:=D2.1 h.rc i hi;exact⟨b,a8l a⟩⟩
theorem a8E{s:Sto}(h:G6 s=true)(M:SmS s):SInv s:=by
 obtain⟨⟨q,l,e⟩,_,o,j,g⟩:=(J8 s).1 h;obtain⟨c1,c2,_,_,C⟩:=(y6 s).1 q;have F:=c1g (lsn:=0) h Z9 M
 have e:=tJ e;have g:=tJ g;unfold zU at j;simp only[O4,xV,R8,r8] at j;refine⟨M,c1.2.2.1,F.2.2.1,c2,e,C,l,Z9,λi hi=>?_,g,λno n=>⟨?_,?_⟩⟩
 ·have B:=j.1 i hi;unfold zR at B;simp only[zV,zF,qN] at B;obtain⟨⟨⟨⟨⟨d,_⟩,f⟩,r⟩,_⟩,_⟩:=B;have d:=tJ d;have f:PgP (s.fr.getD i dz).pg:=E4 f;exact⟨d.1,d.2,f,Z9⟩
 ·have B:=o no n;unfold c9 at B;simp only[zV,zF] at B;exact B.1
 ·have:=iU c1 (at_:=1+no) Z9
  omega
def xX(d:Dsk):Dsk×Bool:=if 500<=d.C.length then U6 d else(d,true)
def iQ(f:Frm):Frm:=⟨f.no,f.pg,false,0⟩
def wrF(a:Sto)(k:Nat):Sto:=⟨wrD a.d (1+(a.fr.getD k dz).no) (P3 (a.fr.getD k dz).no (a.fr.getD k dz).pg),a.ep,a.L,a.S,a.fr.set k (iQ (a.fr.getD k dz)),a.J⟩
def X3(s:Sto)(k:Nat):Sto×Bool:=if(s.fr.getD k dz).D=true then
  if(W4 s (s.fr.getD k dz).pg.Q).2=true then
   if(xX (W4 s (s.fr.getD k dz).pg.Q).1.d).2=true then(wrF ((W4 s (s.fr.getD k dz).pg.Q).1.sd (xX (W4 s (s.fr.getD k dz).pg.Q).1.d).1) k,true)
   else((W4 s (s.fr.getD k dz).pg.Q).1.sd (xX (W4 s (s.fr.getD k dz).pg.Q).1.d).1,false)
  else((W4 s (s.fr.getD k dz).pg.Q).1,false)
 else(s,true)
def b5q:Con:=.reff ⟨Sto×Nat×Nat,λx=>[.ref 0 0 0,Ji x.2.1],λx=>x.1.bx x.2.2,λx=>.bool (X3 x.1 x.2.1).2,λx=>(X3 x.1 x.2.1).1.bxY x.2.2,λx=>SInv x.1/\x.2.1<x.1.fr.length⟩
theorem a5y(s:Sto)(l:Int):(W4 s l).1.fr=s.fr:=by
 by_cases h:l<=s.S
 ·rw[k5 h]
 ·rw[zX h]
theorem yS(d:Dsk):(U6 d).1.C=[]:=by
 unfold U6;split<;>rfl
theorem c5y{d:Dsk}(h:d.C=[]):bG d:=λi hi=>by rw[h] at hi;exact absurd hi (J5 _)
theorem a7p{s:Sto}{l:Int}(h:bG s.d):bG (W4 s l).1.d:=by
 by_cases hl:l<=s.S
 ·rw[k5 hl];exact h
 ·rw[zX hl];exact c5y (yS _)
theorem a9n{s:Sto}{l:Int}(h:s.d.C.length<=500):(W4 s l).1.d.C.length<=500:=by
 by_cases hl:l<=s.S
 ·rw[k5 hl];exact h
 ·rw[zX hl];dsimp only;rw[yS];exact O3 _
theorem uX{s:Sto}{k:Nat}(h:(s.fr.getD k dz).D=false):X3 s k=(s,true):=by
 unfold X3;rw[if_neg (by rw[h];simp)]
theorem fE{s:Sto}{k:Nat}(h:(s.fr.getD k dz).D=true)(u:(W4 s (s.fr.getD k dz).pg.Q).2=false):X3 s k=((W4 s (s.fr.getD k dz).pg.Q).1,false):=by
 unfold X3;rw[if_pos h,if_neg (by rw[u];simp)]
theorem a00{s:Sto}{k:Nat}(h:(s.fr.getD k dz).D=true)(u:(W4 s (s.fr.getD k dz).pg.Q).2=true)(B:(xX (W4 s (s.fr.getD k dz).pg.Q).1.d).2=false):X3 s k=((W4 s (s.fr.getD k dz).pg.Q).1.sd (xX (W4 s (s.fr.getD k dz).pg.Q).1.d).1,false):=by
 unfold X3;rw[if_pos h,if_pos u,if_neg (by rw[B];simp)]
theorem fT{s:Sto}{k:Nat}(h:(s.fr.getD k dz).D=true)(u:(W4 s (s.fr.getD k dz).pg.Q).2=true)(B:(xX (W4 s (s.fr.getD k dz).pg.Q).1.d).2=true):X3 s k=(wrF ((W4 s (s.fr.getD k dz).pg.Q).1.sd (xX (W4 s (s.fr.getD k dz).pg.Q).1.d).1) k,true):=by
 unfold X3;rw[if_pos h,if_pos u,if_pos B]
theorem sA{d:Dsk}(h:500<=d.C.length):xX d=U6 d:=if_pos h
theorem pL{d:Dsk}(h:¬500<=d.C.length):xX d=(d,true):=if_neg h
theorem b7M{L:List Frm}{k:Nat}(hk:k<L.length):U7 L.length (setRow (setRow (Z0 L) k 3 [T.bool false]) k 4 [T.int IntKind.i64 0]) (Z0 (L.set k (iQ (L.getD k dz)))):=a6q λi _=>by
 have hl:∀j,(Z0 L j).length=5:=λ_=>rfl
 by_cases h:i=k
 ·subst h;have e:(L.set i (iQ (L.getD i dz))).getD i dz=iQ (L.getD i dz):=by rw[R2,j_j hk];rfl
  unfold setRow;rw[gL rfl];unfold Z0;rw[e];rfl
 ·have e:(L.set k (iQ (L.getD k dz))).getD i dz=L.getD i dz:=by rw[R2,j_k (Ne.symm h),←R2]
  rw[K7 (by rw[T6 (by rw[hl];decide),hl];decide) h,K7 (by rw[hl];decide) h]
  unfold Z0;rw[e]
theorem a9b{p:Prop}(h:p:=by rw[sA hc];exact hb):p:=h
theorem a0G:GK 118 b5q:=gk func118<|by
 rintro⟨s,k,v⟩ ⟨h,g⟩;dsimp only at h g;have i:=h.frp k g;have F:=h.flu i.2.2.2;have r:=a5y s (s.fr.getD k dz).pg.Q;have u:=a5c F h.sm;have t:=a7p (l:=(s.fr.getD k dz).pg.Q) h.pd;have q:=a9n (l:=(s.fr.getD k dz).pg.Q) h.c;have j:= @fE s k;have O:= @a00 s k;have o:= @fT s k;refine r5 (gC b6y (gC a89 (gC a2h (gC a4z gN)))) func118 Y9 [[.box 0,.arr 1,.arr 2,.arr 3,.arr 4,.arr 5,.arr 11,.arr 9],[.box 0,.arr 1,.arr 2,.arr 3,.arr 4,.arr 5,.arr 9,.arr 7],[.box 0,.arr 1,.arr 2,.arr 3,.arr 4,.arr 5,.arr 8,.arr 9],[.box 0,.arr 1,.arr 2,.arr 3,.arr 4,.arr 5,.arr 6,.arr 7],c1D] (α:=let pn:=(X3 s k).1.L.length;let pk:=(X3 s k).1.d.C.length;let pj:=(X3 s k).1.d.E.length;let ph:=(X3 s k).1.d.keep.length;let pf:=(false=(X3 s k).2/\True);let pe:=(0=0/\0=0);let i:=(X3 s k).1.L;let c:=(true=(X3 s k).2/\True);let a:=(X3 s k).1.d.C;let g:=(X3 s k).1.d.E;let n:=(X3 s k).1.d.keep;let j:=(Z0 (X3 s k).1.fr);let z:=(X3 s k).1.fr.length;let p:=(0+(k:Int).toNat);let pd:=(s.fr.getD p dz);V7 (k:Int) s.fr.length/\Lt p s.fr.length/\((! pd.D)=true->c/\mQ s (X3 s k).1/\(Z2 Z5 s.d.E g)/\True/\True/\(Z2 Y0 s.L i)/\(v=v/\s.fr.length=z/\U7 s.fr.length (Z0 s.fr) j)/\(Z2 Y6 s.d.C a)/\(Z2 Y8 s.d.keep n)/\True)/\((! pd.D)=false->Lt p s.fr.length/\∃(x:(Sto×Int×Nat)),let q:=(W4 x.1 x.2.1);let pc:=q.1.fr.length;let y:=(q.1.fr.getD p dz);let r:=((↑q.1.d.C.length:Int)≥(500:Int));((pe/\pd.pg.Q=x.2.1/\True)/\(LnS (v) (x.2.2) s x.1)/\uF x.1 x.2.1)/\∃(e:(Sto×Nat)),let pm:=e.1.fr;let b:=pm.length;let m:=(U6 e.1.d);let w:=(! q.2||decide r&& ! m.2);let u:=(pm.getD p dz);((! q.2)=false->decide r=true->(pe/\True)/\(LnS (x.2.2) (e.2) q.1 e.1)/\dU e.1.d/\bG e.1.d)/\((! q.2)=false->decide r=true->(w=true->pf/\mQ {e.1 with d:=m.1} (X3 s k).1/\(Z2 Z5 m.1.E g)/\True/\True/\(Z2 Y0 e.1.L i)/\(e.2=v/\b=z/\U7 pm.length (Z0 pm) j)/\(Z2 Y6 m.1.C a)/\(Z2 Y8 m.1.keep n)/\True)/\(w=false->Lt p b/\O7 .i64 (1+u.no)/\Lt p b/\Lt p b/\∃(x:(Int×Pg)),let l:=(P3 x.1 x.2).length;(PoB e.2 e.2 p pm.length u.pg.sl.length u.pg.sl.length/\(u.no=x.1/\(u.pg.Q=x.2.Q/\(Z2 Z5 u.pg.sl x.2.sl)/\True)/\True)/\PgP x.2)/\Le (0+l) l/\∃(X:(Sto×Int×Bz×Nat)),let pa:=(X.1.d.C++[Pend.mk X.2.1 X.2.2.1]);((pe/\1+u.no=X.2.1/\List.take l (List.drop 0 (P3 x.1 x.2))=X.2.2.1/\True)/\(mQ {e.1 with d:=m.1} X.1/\(Z2 Z5 m.1.E X.1.d.E)/\(Z2 Y6 m.1.C X.1.d.C)/\(Z2 Y8 m.1.keep X.1.d.keep)/\(Z2 Y0 e.1.L X.1.L)/\(e.2=X.2.2.2/\b=X.1.fr.length/\U7 pm.length (Z0 pm) (Z0 X.1.fr))/\True)/\X.1.d.C.length<=1048576)/\a1o p X.1.fr.length [T.bool (X.1.fr.getD p dz).D]/\a1o p X.1.fr.length [Ji (X.1.fr.getD p dz).first]/\c/\(1=1/\1=1/\(0=0/\X.1.d.E.length=pj)/\(0=0/\pa.length=pk)/\X.1.d.A=(X3 s k).1.d.A/\(0=0/\X.1.d.keep.length=ph)/\X.1.ep=(X3 s k).1.ep/\(0=0/\X.1.L.length=pn)/\X.1.S=(X3 s k).1.S/\(0=0/\X.1.fr.length=z)/\X.1.J=(X3 s k).1.J/\True)/\(Z2 Z5 X.1.d.E g)/\True/\True/\(Z2 Y0 X.1.L i)/\(X.2.2.2=v/\X.1.fr.length=z/\U7 X.1.fr.length (setRow (setRow (Z0 X.1.fr) p 3 [T.bool false]) p 4 [Ji 0]) j)/\(Z2 Y6 pa a)/\(Z2 Y8 X.1.d.keep n)/\True))/\(((! q.2)=false->decide r=true->False)->(w=true->pf/\mQ q.1 (X3 s k).1/\(Z2 Z5 q.1.d.E g)/\True/\True/\(Z2 Y0 q.1.L i)/\(x.2.2=v/\pc=z/\U7 q.1.fr.length (Z0 q.1.fr) j)/\(Z2 Y6 q.1.d.C a)/\(Z2 Y8 q.1.d.keep n)/\True)/\(w=false->Lt p pc/\O7 .i64 (1+y.no)/\Lt p pc/\Lt p pc/\∃(X:(Int×Pg)),let t:=(P3 X.1 X.2).length;(PoB x.2.2 x.2.2 p q.1.fr.length y.pg.sl.length y.pg.sl.length/\(y.no=X.1/\(y.pg.Q=X.2.Q/\(Z2 Z5 y.pg.sl X.2.sl)/\True)/\True)/\PgP X.2)/\Le (0+t) t/\∃(f:(Sto×Int×Bz×Nat)),let pi:=f.1.fr;let pb:=(f.1.d.C++[Pend.mk f.2.1 f.2.2.1]);((pe/\1+y.no=f.2.1/\List.take t (List.drop 0 (P3 X.1 X.2))=f.2.2.1/\True)/\(LnS (x.2.2) (f.2.2.2) q.1 f.1)/\f.1.d.C.length<=1048576)/\a1o p pi.length [T.bool (pi.getD p dz).D]/\a1o p pi.length [Ji (pi.getD p dz).first]/\c/\(1=1/\1=1/\(0=0/\f.1.d.E.length=pj)/\(0=0/\pb.length=pk)/\f.1.d.A=(X3 s k).1.d.A/\(0=0/\f.1.d.keep.length=ph)/\f.1.ep=(X3 s k).1.ep/\(0=0/\f.1.L.length=pn)/\f.1.S=(X3 s k).1.S/\(0=0/\pi.length=z)/\f.1.J=(X3 s k).1.J/\True)/\(Z2 Z5 f.1.d.E g)/\True/\True/\(Z2 Y0 f.1.L i)/\(f.2.2.2=v/\pi.length=z/\U7 pi.length (setRow (setRow (Z0 pi) p 3 [T.bool false]) p 4 [Ji 0]) j)/\(Z2 Y6 pb a)/\(Z2 Y8 f.1.d.keep n)/\True)))) ?_
 rw[G2,show 0+k=k from C9 k]
 refine⟨Y3 g,g,λhd=>?_,λhd=>⟨g,(s,(s.fr.getD k dz).pg.Q,v),⟨Y2,⟨Y2,Y2,Y2,Y2,Y2,I0,Z6⟩,F⟩,((W4 s (s.fr.getD k dz).pg.Q).1,v),λ_ _=>⟨P5,⟨Y2,Y2,Y2,Y2,Y2,I0,Z6⟩,u.1,t⟩,λhu hc=>⟨λhb=>?_,λhb=>?_⟩,λn=>⟨λhb=>?_,λhb=>?_⟩⟩⟩
 ·rw[uX nW]
  exact⟨Y2,Y2,Y2,Z6,Z6,Y2,I0,Y2,Y2,Z6⟩
 all_goals
  have hd:(s.fr.getD k dz).D=true:=nW
  replace j:=j hd;replace O:=O hd;replace o:=o hd;dsimp only at*;generalize W4 s (s.fr.getD k dz).pg.Q=A at*;obtain⟨a,up⟩:=A;dsimp only at*;rw[←r] at g i
 ·have hu:up=true:=(zF _).mp hu;subst hu;have hc:500<=a.d.C.length:=by have:=E4 hc;omega
  have hb:(U6 a.d).2=false:=by simp at hb;exact hb.2
  rw[O rfl a9b,sA hc]
  exact⟨Y2,Y2,Y2,Z6,Z6,Y2,I0,Y2,Y2,Z6⟩
 ·have hu:up=true:=(zF _).mp hu;subst hu;have hb:(U6 a.d).2=true:=by rw[hc] at hb;simpa using hb
  have hc:500<=a.d.C.length:=by have:=E4 hc;omega
  rw[o rfl a9b,sA hc]
  exact⟨g,Z3 Z9,g,g,((a.fr.getD k dz).no,(a.fr.getD k dz).pg),⟨⟨rfl,g,V8 _⟩,Y2,i.2.2.1⟩,aU _,(a.sd (U6 a.d).1,1+(a.fr.getD k dz).no,P3 (a.fr.getD k dz).no (a.fr.getD k dz).pg,v),⟨⟨Y2,rfl,dR,Z6⟩,⟨Y2,Y2,Y2,Y2,Y2,I0,Z6⟩,by show(U6 a.d).1.C.length<=_;rw[yS];exact O3 _⟩,⟨g,rfl⟩,⟨g,rfl⟩,Y2,⟨rfl,rfl,Y2,Y2,rfl,Y2,rfl,Y2,rfl,⟨rfl,yT.symm⟩,Y2⟩,Y2,Z6,Z6,Y2,⟨rfl,yT.symm,b7M g⟩,Y2⟩
 ·cases up with
  |false=>
   rw[j rfl];exact⟨Y2,Y2,Y2,Z6,Z6,Y2,I0,Y2,Y2,Z6⟩
  |true=>
   have:decide ((a.d.C.length:Int)≥500)=false:=by
    cases hd:decide ((a.d.C.length:Int)≥500) with
    |false=>rfl
    |true=>exact(n rfl hd).elim
   rw[this] at hb;simp at hb
 ·have hu:up=true:=by cases up<;>simp at hb ⊢
  subst hu;have hc:¬500<=a.d.C.length:=λhc=>n rfl (qK Z9)
  rw[o rfl (by rw[pL hc]),pL hc]
  exact⟨g,Z3 Z9,g,g,((a.fr.getD k dz).no,(a.fr.getD k dz).pg),⟨⟨rfl,g,V8 _⟩,Y2,i.2.2.1⟩,aU _,(a,1+(a.fr.getD k dz).no,P3 (a.fr.getD k dz).no (a.fr.getD k dz).pg,v),⟨⟨Y2,rfl,dR,Z6⟩,⟨Y2,Y2,Y2,Y2,Y2,I0,Z6⟩,by show a.d.C.length<=_;omega⟩,⟨g,rfl⟩,⟨g,rfl⟩,⟨rfl,Z6⟩,⟨rfl,rfl,⟨rfl,rfl⟩,⟨rfl,rfl⟩,rfl,⟨rfl,rfl⟩,rfl,⟨rfl,rfl⟩,rfl,⟨rfl,yT.symm⟩,rfl,Z6⟩,⟨rfl,W2 _ _⟩,Z6,Z6,⟨rfl,W2 _ _⟩,⟨rfl,yT.symm,b7M g⟩,⟨rfl,W2 _ _⟩,⟨rfl,W2 _ _⟩,Z6⟩
theorem gF(L D:List Pend)(a:Int):∀i,i<=L.length->I6 (L++D) a i=I6 L a i
 |0,_=>rfl
 |i+1,h=>by
  unfold I6;rw[show(L++D).getD i dz=L.getD i dz by rw[R2,uW Z9,←R2],gF L D a i Z9]
theorem gJ(d:Dsk)(a:Int)(t:Bz)(n:Nat):U1 (wrD d a t) n=if a=n then t else U1 d n:=by
 have e:(d.C++[(⟨a,t⟩:Pend)]).getD d.C.length dz=⟨a,t⟩:=by rw[R2,tG (V8 _)];simp
 have g:I6 (d.C++[(⟨a,t⟩:Pend)]) n (d.C.length+1)=if a=n then some t else I6 d.C n d.C.length:=by
  conv=>lhs;unfold I6
  rw[e,gF _ _ _ _ (V8 _)]
 have f:U1 (wrD d a t) n=(I6 (d.C++[(⟨a,t⟩:Pend)]) n (d.C.length+1)).getD (d.E.getD n []):=by
  unfold U1 wrD;dsimp only;rw[show(d.C++[(⟨a,t⟩:Pend)]).length=d.C.length+1 by simp]
 rw[f,g];split<;>rfl
theorem b6o{s:Sto}{l:Int}(h:uF s l){n:Nat}(N:n<9):∀i,i<=M3 s l->U1 (qQ s i) n=U1 s.d n
 |0,_=>by
  have:qQ s 0=s.d:=by unfold qQ;simp
  rw[this]
 |i+1,hi=>by
  have e:qQ s (i+1)=wrD (qQ s i) (qI s i).at_ (qI s i).d:=by
   unfold qQ wrD;dsimp only;rw[←xT]
  obtain⟨f,_,_⟩:=lY h (i:=i) Z9
  have g:=h.2.2.2.2.1;rw[e,gJ,if_neg (by rw[f];omega),b6o h N i Z9]
theorem b0m{sec:List (Bz)}{C:List Pend}{n:Nat}(hn:n<sec.length)(hp:∀i,i<C.length->0<=(C.getD i dz).at_):∀i,i<=C.length->(b5 sec C (λ_=>true) i).getD n []=(I6 C n i).getD (sec.getD n [])
 |0,_=>rfl
 |i+1,hi=>by
  have I:=b0m hn hp i Z9
  have d:=hp i Z9
  rw[c1S rfl];unfold I6;by_cases h:(C.getD i dz).at_=n
  ·rw[if_pos h,show(C.getD i dz).at_.toNat=n by omega,R2,j_j (by rw[C1];exact hn)]
   rfl
  ·rw[if_neg h,R2,j_k Z9,←R2,I]
theorem c15{d:Dsk}(h:(U6 d).2=true):U6 d=(⟨b5 d.E d.C (λ_=>true) d.C.length,[],d.A,d.keep⟩,true):=by
 unfold U6 at h ⊢;split at h
 ·cases h
 ·rw[if_neg (by assumption)]
theorem a57{d:Dsk}{n:Nat}(h:(U6 d).2=true)(hp:bG d)(N:n<d.E.length):U1 (U6 d).1 n=U1 d n:=by
 rw[c15 h];exact b0m N (λi hi=>(hp i hi).1) _ (V8 _)
theorem c5x{s:Sto}{l:Int}(h:uF s l)(u:(W4 s l).2=true){n:Nat}(N:n<9):U1 (W4 s l).1.d n=U1 s.d n:=by
 by_cases hl:l<=s.S
 ·rw[k5 hl]
 ·rw[zX hl] at u ⊢;have:=h.2.2.2.1;rw[a57 u (a0W h).2 (show n<s.d.E.length by omega),b6o h N _ (V8 _)]
theorem b8n{d:Dsk}{n:Nat}(h:(xX d).2=true)(hp:bG d)(N:n<d.E.length):U1 (xX d).1 n=U1 d n:=by
 by_cases C:500<=d.C.length
 ·rw[sA C] at h ⊢;exact a57 h hp N
 ·rw[pL C]
theorem a19(d:Dsk):(U6 d).1.E.length=d.E.length:=by
 unfold U6;split
 ·exact C1 _ _ _ _
 ·exact C1 _ _ _ _
theorem b0l(s:Sto)(l:Int):(W4 s l).1.d.E.length=s.d.E.length:=by
 by_cases hl:l<=s.S
 ·rw[k5 hl]
 ·rw[zX hl];exact a19 _
theorem vJ(s:Sto)(l:Int):(W4 s l).1.fr=s.fr/\(W4 s l).1.J=s.J/\(W4 s l).1.L=s.L/\(W4 s l).1.ep=s.ep:=by
 by_cases h:l<=s.S
 ·rw[k5 h];exact Y2
 ·rw[zX h];exact Y2
theorem a35(d:Dsk):(xX d).1.E.length=d.E.length:=by
 unfold xX;split
 ·exact a19 d
 ·rfl
theorem b6X{d:Dsk}(h:d.C.length<=500):(xX d).1.C.length<=499:=by
 unfold xX;split
 ·rw[yS];exact O3 _
 ·dsimp only;omega
theorem sE(s:Sto)(k:Nat):(X3 s k).1.fr.length=s.fr.length/\(X3 s k).1.J=s.J/\(X3 s k).1.L=s.L/\(X3 s k).1.ep=s.ep/\(X3 s k).1.d.E.length=s.d.E.length:=by
 obtain⟨h,g,f,i⟩:=vJ s (s.fr.getD k dz).pg.Q;have e:=b0l s (s.fr.getD k dz).pg.Q;unfold X3;split
 ·split
  ·split
   ·exact⟨by show(List.set _ _ _).length=_;rw[yT];exact congrArg List.length h,g,f,i,by show(xX _).1.E.length=_;rw[a35,e]⟩
   ·exact⟨congrArg List.length h,g,f,i,by show(xX _).1.E.length=_;rw[a35,e]⟩
  ·exact⟨congrArg List.length h,g,f,i,e⟩
 ·exact Y2
theorem b7g{s:Sto}{k no:Nat}(h:SInv s)(e:k<s.fr.length)(o:no<8)(i:(s.fr.getD k dz).no≠no)(hu:(X3 s k).2=true):U1 (X3 s k).1.d (1+no)=U1 s.d (1+no)/\(X3 s k).1.d.C.length<=500:=by
 have f:=h.flu (h.frp k e).2.2.2;have j:=(h.frp k e).1;have hfr:=a5y s (s.fr.getD k dz).pg.Q;have C:=a9n (l:=(s.fr.getD k dz).pg.Q) h.c;have hp:=a7p (l:=(s.fr.getD k dz).pg.Q) h.pd;have n:=b0l s (s.fr.getD k dz).pg.Q;have g:=h.n69;by_cases hd:(s.fr.getD k dz).D=true
 ·by_cases hf2:(W4 s (s.fr.getD k dz).pg.Q).2=true
  ·by_cases h5:(xX (W4 s (s.fr.getD k dz).pg.Q).1.d).2=true
   ·rw[fT hd hf2 h5];refine⟨?_,?_⟩
    ·show U1 (wrD _ (1+((W4 s _).1.fr.getD k dz).no) _) (1+no)=_;rw[hfr,gJ,if_neg Z9]
     exact(b8n h5 hp Z9).trans (c5x f hf2 Z9)
    ·have:=b6X C;show((xX _).1.C++[_]).length<=500;rw[K2];simp only[List.length_cons,List.length_nil];omega
   ·rw[a00 hd hf2 (by simpa using h5)] at hu
    cases hu
  ·rw[fE hd (by simpa using hf2)] at hu
   cases hu
 ·rw[uX nW]
  exact⟨rfl,h.c⟩
theorem uK{L:List Frm}{no:Int}(h:0<=frAt L no):(frAt L no).toNat<L.length:=by
 unfold frAt Q9 at h ⊢;split at h
 ·rename_i i hi;have:=List.mem_range.1 (List.mem_of_find?_eq_some hi)
  simpa using this
 ·omega
theorem nV{L:List Frm}{no:Int}(h:¬0<=frAt L no){i:Nat}(hi:i<L.length):(L.getD i dz).no≠no:=by
 have e:=F6 L.length (lT L no);rw[show Q9 L.length (lT L no)=frAt L no from rfl,uG h] at e
 have:=R8.1 e.symm i hi;unfold lT at this
 simpa using this
theorem y8{d e:Dsk}{no:Nat}(h:U1 d (1+no)=U1 e (1+no)):U2 d no=U2 e no/\S9 d no=S9 e no:=by
 unfold U2 S9;rw[h];exact Y2
def B1(no:Nat)(p:Pg):Frm:=⟨no,p,false,0⟩
def a9J(a:Sto)(k no:Nat):Sto:=⟨a.d,a.ep,a.L,a.S,a.fr.set k (B1 no (U2 a.d no).1),(a.J+1).tmod 3⟩
def b92(a:Sto)(no:Nat):Sto:=⟨a.d,a.ep,a.L,a.S,a.fr++[B1 no (U2 a.d no).1],a.J⟩
def Z4(s:Sto)(no:Nat):Sto×Nat×Bool:=if 0<=frAt s.fr no then(s,(frAt s.fr no).toNat,true)
 else if s.fr.length=3 then
  if(X3 s s.J.toNat).2=true then(a9J (X3 s s.J.toNat).1 s.J.toNat no,s.J.toNat,true) else((X3 s s.J.toNat).1,0,false)
 else(b92 s no,s.fr.length,true)
def P4(s:Sto)(no v:Nat):Nat:=if 0<=frAt s.fr no then v
 else if s.fr.length=3 then
  if(X3 s s.J.toNat).2=true then v+1 else v
 else 1
def Sto.bxF(s:Sto)(v:Nat):Y4:=[pY (s.tn 1 6 7 4 8),x4 s.d.E,none,none,xW s.L,none,B4 s.d.C,z6 s.d.keep,vE v s.fr s.fr.length]
def lG(s:Sto)(no:Nat):Prop:=SInv s/\no<8
def b6g:Con:=.reff ⟨Sto×Nat×Nat,λx=>[.ref 0 0 0,Ji x.2.1],λx=>x.1.bx x.2.2,λx=>.ref 8 (Z4 x.1 x.2.1).2.1 0,λx=>(Z4 x.1 x.2.1).1.bxF (P4 x.1 x.2.1 x.2.2),λx=>lG x.1 x.2.1/\(Z4 x.1 x.2.1).2.2=true⟩
def b7k:Con:=.reff ⟨Sto×Nat×Nat,λx=>[.ref 0 0 0,Ji x.2.1],λx=>x.1.bx x.2.2,λ_=>.v (.pointer none),λx=>(Z4 x.1 x.2.1).1.bxF (P4 x.1 x.2.1 x.2.2),λx=>lG x.1 x.2.1/\(Z4 x.1 x.2.1).2.2=false⟩
theorem b8s{L:List Frm}{k:Nat}(f:Frm)(d:k<L.length):U7 L.length (setRow (Z0 L) (0+k) 0 [T.int IntKind.i64 f.no,T.int IntKind.i64 f.pg.Q,T.own 0 1 f.pg.sl.length (Z5 f.pg.sl),T.bool f.D,T.int IntKind.i64 f.first]) (Z0 (L.set k f)):=a6q λi _=>by
 have hl:∀j,(Z0 L j).length=5:=λ_=>rfl
 rw[C9,h9 (by rw[hl];rfl)]
 by_cases h:i=k
 ·subst h;rw[gL rfl];unfold Z0;rw[show(L.set i f).getD i dz=f by rw[R2,j_j d];rfl]
 ·rw[b6F h];unfold Z0;rw[show(L.set k f).getD i dz=L.getD i dz by rw[R2,j_k (Ne.symm h),←R2]]
theorem c0I{L:List Frm}(f:Frm)(r:Nat->List T)(R:(r 0).length=5):U7 (L.length+1) (setRow (X7 (Z0 L) L.length r) (0+(L.length:Int).toNat) 0 [T.int IntKind.i64 f.no,T.int IntKind.i64 f.pg.Q,T.own 0 1 f.pg.sl.length (Z5 f.pg.sl),T.bool f.D,T.int IntKind.i64 f.first]) (Z0 (L++[f])):=a6q λi hi=>by
 rw[G2,C9];have hl:(X7 (Z0 L) L.length r i).length=5:=by
  unfold X7;by_cases h:i<L.length
  ·rw[tL h];rfl
  ·rw[qH h,show i-L.length=0 by omega]
   exact R
 rw[h9 (by rw[hl];rfl)]
 by_cases h:i=L.length
 ·subst h;rw[gL rfl];unfold Z0;rw[show(L++[f]).getD L.length dz=f by rw[R2,tG (V8 _)];simp]
 ·rw[b6F h];unfold X7;rw[tL Z9]
  unfold Z0;rw[show(L++[f]).getD i dz=L.getD i dz by rw[R2,uW Z9,←R2]]
theorem rS{s:Sto}{no:Nat}(v:Nat)(h:0<=frAt s.fr no):Z4 s no=(s,(frAt s.fr no).toNat,true)/\P4 s no v=v:=⟨if_pos h,if_pos h⟩
theorem vR{s:Sto}{no:Nat}(v:Nat)(h:¬0<=frAt s.fr no)(d:s.fr.length=3)(u:(X3 s s.J.toNat).2=true):Z4 s no=(a9J (X3 s s.J.toNat).1 s.J.toNat no,s.J.toNat,true)/\P4 s no v=v+1:=by
 unfold Z4 P4;rw[if_neg h,if_pos d,if_pos u,if_neg h,if_pos d,if_pos u];exact Y2
theorem nG{s:Sto}{no:Nat}(v:Nat)(h:¬0<=frAt s.fr no)(d:s.fr.length=3)(u:(X3 s s.J.toNat).2=false):Z4 s no=((X3 s s.J.toNat).1,0,false)/\P4 s no v=v:=by
 have u:¬ (X3 s s.J.toNat).2=true:=by rw[u];simp
 unfold Z4 P4;rw[if_neg h,if_pos d,if_neg u,if_neg h,if_pos d,if_neg u];exact Y2
theorem qY{s:Sto}{no:Nat}(v:Nat)(h:¬0<=frAt s.fr no)(d:¬s.fr.length=3):Z4 s no=(b92 s no,s.fr.length,true)/\P4 s no v=1:=by
 unfold Z4 P4;rw[if_neg h,if_neg d,if_neg h,if_neg d];exact Y2
theorem a5v{s:Sto}{no:Nat}(h:SInv s)(o:no<8)(l:¬0<=frAt s.fr no)(r:s.fr.length=3)(u:(X3 s s.J.toNat).2=true):DkB ((X3 s s.J.toNat).1.d,no)/\S9 (X3 s s.J.toNat).1.d no=U2 (X3 s s.J.toNat).1.d no/\(U2 (X3 s s.J.toNat).1.d no).2=true:=by
 have n:=h.hd;have f:s.J.toNat<s.fr.length:=Z9
 obtain⟨e,q⟩:=b7g h f o (nV l f) u;obtain⟨_,_,_,_,R⟩:=sE s s.J.toNat;have j:=h.n69;obtain⟨g,i⟩:=h.pg no o;obtain⟨C,c2⟩:=y8 e;refine⟨⟨X0,X0,X0,by show(U1 _ _).length<=_;rw[e];exact i⟩,?_,by rw[C];exact g⟩
 rw[C,c2];exact(fO s.d no).2 g
theorem a9y{s:Sto}{no:Nat}(h:SInv s)(o:no<8):DkB (s.d,no)/\S9 s.d no=U2 s.d no:=by
 have f:=h.n69;have C:=h.c;obtain⟨e,g⟩:=h.pg no o;exact⟨⟨X0,X0,X0,g⟩,(fO s.d no).2 e⟩
theorem a9v{p:Prop}(h:p:=by unfold b92;simp):p:=h
theorem vY:GK 59 b6g:=gk func59<|by
 rintro⟨s,no,v⟩ ⟨⟨h,hno⟩,f⟩;dsimp only at h hno f;have L:M1 s.fr.length:=by have:=h.fr3;unfold M1;omega
 refine r5 (gC pO (gC a0G (gC bM gN))) func59 Y9 c1E (α:=let z:=(s.fr.length+1);let r:=(s.fr.length:Int);let q:=(Z4 s no);let m:=(Z0 q.1.fr);let j:=q.1.fr.length;let u:=q.1.d;let f:=(Z2 Y8 s.d.keep u.keep);∃(x:rI.ι),let t:=(frAt x.1.fr x.2);((LeS s)/\((EqF s x.1)/\(no:Int)=x.2/\True)/\M1 x.1.fr.length)/\bd (frAt x.1.fr x.2≥(0:Int)) (V7 t s.fr.length/\((0+t.toNat=q.2.1/\0=0)/\True)/\mQ s q.1/\(Z2 Z5 s.d.E u.E)/\True/\True/\(Z2 Y0 s.L q.1.L)/\True/\(Z2 Y6 s.d.C u.C)/\f/\(v=P4 s no v/\s.fr.length=j/\U7 s.fr.length (Z0 s.fr) m)/\True) (br (r==3) (∃(x:(Sto×Nat×Nat)),let p:=(X3 x.1 x.2.1);let l:=p.1.fr;let i:=(Z2 Y6 p.1.d.C u.C);let c:=(Z2 Y0 p.1.L q.1.L);let b:=(Z2 Z5 p.1.d.E u.E);let n:=(Z2 Y8 p.1.d.keep u.keep);let k:=l.length;(((0=0/\0=0)/\s.J=(x.2.1:Int)/\True)/\(LnS (v) (x.2.2) s x.1)/\SInv x.1/\x.2.1<x.1.fr.length)/\br (! p.2) ((K4 (u7 [some 0,some 1,some 2,some 3,some 4,some 5,some 6,some 7,some 5]) (T.v (Value.pointer none)) (T.ref 8 q.2.1 0)/\True)/\mQ p.1 q.1/\b/\True/\True/\c/\True/\i/\n/\(x.2.2=P4 s no v/\k=j/\U7 l.length (Z0 l) m)/\True) (Ri (p.1.J+1)/\Nz (3:Int)/\∃(X:(Dsk×Nat)),let g:=(S9 X.1 X.2);let y:=g.1.sl.length;((LeS p.1)/\((xP p.1.d X.1)/\(no:Int)=(X.2:Int)/\True)/\DkB X)/\V7 s.J k/\(0+s.J.toNat<k/\Le y y)/\V7 s.J k/\((0+s.J.toNat=q.2.1/\0=0)/\True)/\mQ {p.1 with J:=((p.1.J+1).tmod (3:Int))} q.1/\b/\True/\True/\c/\True/\i/\n/\(x.2.2+1=P4 s no v/\k=j/\U7 l.length (setRow (Z0 l) (0+s.J.toNat) 0 [Ji (no:Int),Ji g.1.Q,T.own 0 1 y (Z5 g.1.sl),T.bool false,Ji 0]) m)/\True)) ((Le 1 1/\Le s.fr.length s.fr.length/\U9 s.fr.length 1 56)/\∃(x:(Dsk×Nat)),let a:=(S9 x.1 x.2);let w:=a.1.sl.length;((Le (0+s.d.E.length) s.d.E.length/\Le (0+s.d.C.length) s.d.C.length/\Le (0+s.d.keep.length) s.d.keep.length/\Le (0+s.L.length) s.L.length/\Le (0+z) z)/\((xP s.d x.1)/\(no:Int)=(x.2:Int)/\True)/\DkB x)/\V7 r z/\(0+r.toNat<s.fr.length+1/\Le w w)/\V7 r z/\((0+r.toNat=q.2.1/\0=0)/\True)/\(oo ((0=0/\s.d.E.length=u.E.length)/\(0=0/\s.d.C.length=u.C.length)/\s.d.A=u.A/\(0=0/\s.d.keep.length=u.keep.length)/\s.ep=q.1.ep/\(0=0/\s.L.length=q.1.L.length)/\s.S=q.1.S/\(0=0/\s.fr.length+1=j)/\s.J=q.1.J/\True))/\(Z2 Z5 s.d.E u.E)/\True/\True/\(Z2 Y0 s.L q.1.L)/\True/\(Z2 Y6 s.d.C u.C)/\f/\(1=P4 s no v/\s.fr.length+1=j/\U7 z (setRow (X7 (Z0 s.fr) s.fr.length (tk 5 [Ji 0,Ji 0,T.v (Value.slice none 0 0),T.bool false,Ji 0])) (0+r.toNat) 0 [Ji (no:Int),Ji a.1.Q,T.own 0 1 w (Z5 a.1.sl),T.bool false,Ji 0]) m)/\True))) ⟨(s,(no:Int)),⟨Y2,Y2,L⟩,λhc=>?_,λhc=>⟨λh3=>?_,λh3=>?_⟩⟩
 ·have hc:0<=frAt s.fr no:=E4 hc;obtain⟨e1,e2⟩:=rS v hc;rw[e1,e2];exact⟨⟨hc,by have:=uK hc;show frAt s.fr no<_;omega⟩,⟨⟨C9 _,rfl⟩,Z6⟩,⟨rfl,rfl,⟨rfl,rfl⟩,⟨rfl,rfl⟩,rfl,⟨rfl,rfl⟩,rfl,⟨rfl,rfl⟩,rfl,⟨rfl,rfl⟩,rfl,Z6⟩,⟨rfl,W2 _ _⟩,Z6,Z6,⟨rfl,W2 _ _⟩,Z6,⟨rfl,W2 _ _⟩,⟨rfl,W2 _ _⟩,⟨rfl,rfl,gV _⟩,Z6⟩
 ·have hc:¬0<=frAt s.fr no:=s6 hc;have h3:s.fr.length=3:=by have:=beq_iff_eq.1 h3;omega
  have i:=h.hd;have g:s.J.toNat<s.fr.length:=Z9
  obtain⟨r,R,_⟩:=sE s s.J.toNat;refine⟨(s,s.J.toNat,v),⟨⟨Y2,X0,Z6⟩,⟨Y2,Y2,Y2,Y2,Y2,I0,Z6⟩,h,g⟩,λhu=>?_,λhu=>?_⟩
  ·have hu:(X3 s s.J.toNat).2=false:=(xV _).mp hu;rw[(nG v hc h3 hu).1] at f;cases f
  ·have hu:(X3 s s.J.toNat).2=true:=(zF _).mp hu;obtain⟨e1,e2⟩:=vR v hc h3 hu;obtain⟨d1,d2,_⟩:=a5v h hno hc h3 hu;rw[e1,e2];refine⟨Z3 X0,by unfold Nz;omega,((X3 s s.J.toNat).1.d,no),⟨Y2,Y2,d1⟩,⟨Z9,X0⟩,⟨X0,V8 _⟩,⟨Z9,X0⟩,⟨⟨C9 _,rfl⟩,Z6⟩,⟨rfl,rfl,Y2,Y2,rfl,Y2,rfl,Y2,rfl,⟨rfl,yT.symm⟩,Y2⟩,Y2,Z6,Z6,Y2,Z6,Y2,Y2,⟨rfl,yT.symm,?_⟩,Z6⟩
   dsimp only;rw[d2];exact b8s (B1 no (U2 (X3 s s.J.toNat).1.d no).1) Z9
 ·have hc:¬0<=frAt s.fr no:=s6 hc;have h3:¬s.fr.length=3:=λe=>by rw[e] at h3;simp at h3
  have hl:=h.fr3;obtain⟨e1,e2⟩:=qY v hc h3;obtain⟨d1,d2⟩:=a9y h hno;rw[e1,e2];refine⟨⟨V8 _,V8 _,R1⟩,(s.d,no),⟨Y2,Y2,d1⟩,⟨Z9,Z9⟩,⟨Z9,V8 _⟩,⟨Z9,Z9⟩,⟨⟨X0,rfl⟩,Z6⟩,⟨rfl,rfl,Y2,Y2,rfl,Y2,rfl,Y2,rfl,⟨rfl,a9v⟩,Y2⟩,Y2,Z6,Z6,Y2,Z6,Y2,Y2,⟨rfl,a9v,?_⟩,Z6⟩
  dsimp only;rw[d2];exact c0I (B1 no (U2 s.d no).1) _ rfl
theorem b05:GK 59 b7k:=gk func59<|by
 rintro⟨s,no,v⟩ ⟨⟨h,o⟩,f⟩;dsimp only at h o f;have L:M1 s.fr.length:=by have:=h.fr3;unfold M1;omega
 refine r5 (gC pO (gC a0G (gC bM gN))) func59 Y9 c1E (α:=let u:=(T.v (Value.pointer none));let z:=(s.fr.length+1);let r:=(s.fr.length:Int);let q:=(Z4 s no);let n:=(Z0 q.1.fr);let k:=q.1.fr.length;let y:=q.1.d;let g:=(Z2 Y8 s.d.keep y.keep);∃(x:rI.ι),((LeS s)/\((EqF s x.1)/\(no:Int)=x.2/\True)/\M1 x.1.fr.length)/\bd (frAt x.1.fr x.2≥(0:Int)) (V7 (frAt x.1.fr x.2) s.fr.length/\(K4 (u7 [some 0,some 1,some 2,some 3,some 4,some 5,some 2,some 3,some 5]) (T.ref 5 (0+(frAt x.1.fr x.2).toNat) 0) u/\True)/\mQ s q.1/\(Z2 Z5 s.d.E y.E)/\True/\True/\(Z2 Y0 s.L q.1.L)/\True/\(Z2 Y6 s.d.C y.C)/\g/\(v=P4 s no v/\s.fr.length=k/\U7 s.fr.length (Z0 s.fr) n)/\True) (br (r==3) (∃(x:(Sto×Nat×Nat)),let p:=(X3 x.1 x.2.1);let t:=p.1.fr;let l:=(Z2 Y6 p.1.d.C y.C);let i:=(Z2 Y0 p.1.L q.1.L);let c:=(Z2 Z5 p.1.d.E y.E);let f:=(Z2 Y8 p.1.d.keep y.keep);let m:=t.length;(((0=0/\0=0)/\s.J=(x.2.1:Int)/\True)/\(LnS (v) (x.2.2) s x.1)/\SInv x.1/\x.2.1<x.1.fr.length)/\br (! p.2) ((Value.pointer none=Value.pointer none/\True)/\mQ p.1 q.1/\c/\True/\True/\i/\True/\l/\f/\(x.2.2=P4 s no v/\m=k/\U7 t.length (Z0 t) n)/\True) (Ri (p.1.J+1)/\Nz (3:Int)/\∃(X:(Dsk×Nat)),let a:=(S9 X.1 X.2);let w:=a.1.sl.length;((LeS p.1)/\((xP p.1.d X.1)/\(no:Int)=(X.2:Int)/\True)/\DkB X)/\V7 s.J m/\(0+s.J.toNat<m/\Le w w)/\V7 s.J m/\(K4 (u7 [some 0,some 1,some 2,some 3,some 4,some 5,some 6,some 7,some 5]) (T.ref 5 (0+s.J.toNat) 0) u/\True)/\mQ {p.1 with J:=((p.1.J+1).tmod (3:Int))} q.1/\c/\True/\True/\i/\True/\l/\f/\(x.2.2+1=P4 s no v/\m=k/\U7 t.length (setRow (Z0 t) (0+s.J.toNat) 0 [Ji (no:Int),Ji a.1.Q,T.own 0 1 w (Z5 a.1.sl),T.bool false,Ji 0]) n)/\True)) ((Le 1 1/\Le s.fr.length s.fr.length/\U9 s.fr.length 1 56)/\∃(x:(Dsk×Nat)),let b:=(S9 x.1 x.2);let j:=b.1.sl.length;((Le (0+s.d.E.length) s.d.E.length/\Le (0+s.d.C.length) s.d.C.length/\Le (0+s.d.keep.length) s.d.keep.length/\Le (0+s.L.length) s.L.length/\Le (0+z) z)/\((xP s.d x.1)/\(no:Int)=(x.2:Int)/\True)/\DkB x)/\V7 r z/\(0+r.toNat<s.fr.length+1/\Le j j)/\V7 r z/\(K4 (u7 [some 0,some 1,some 2,some 3,some 4,some 5,some 2,some 3,some 7]) (T.ref 7 (0+r.toNat) 0) u/\True)/\(oo ((0=0/\s.d.E.length=y.E.length)/\(0=0/\s.d.C.length=y.C.length)/\s.d.A=y.A/\(0=0/\s.d.keep.length=y.keep.length)/\s.ep=q.1.ep/\(0=0/\s.L.length=q.1.L.length)/\s.S=q.1.S/\(0=0/\s.fr.length+1=k)/\s.J=q.1.J/\True))/\(Z2 Z5 s.d.E y.E)/\True/\True/\(Z2 Y0 s.L q.1.L)/\True/\(Z2 Y6 s.d.C y.C)/\g/\(1=P4 s no v/\s.fr.length+1=k/\U7 z (setRow (X7 (Z0 s.fr) s.fr.length (tk 5 [Ji 0,Ji 0,T.v (Value.slice none 0 0),T.bool false,Ji 0])) (0+r.toNat) 0 [Ji (no:Int),Ji b.1.Q,T.own 0 1 j (Z5 b.1.sl),T.bool false,Ji 0]) n)/\True))) ⟨(s,(no:Int)),⟨Y2,Y2,L⟩,λhc=>?_,λhc=>⟨λh3=>?_,λh3=>?_⟩⟩
 ·have hc:0<=frAt s.fr no:=E4 hc;rw[(rS v hc).1] at f;cases f
 ·have hc:¬0<=frAt s.fr no:=s6 hc;have h3:s.fr.length=3:=by have:=beq_iff_eq.1 h3;omega
  have l:=h.hd;have g:s.J.toNat<s.fr.length:=Z9
  refine⟨(s,s.J.toNat,v),⟨⟨Y2,X0,Z6⟩,⟨Y2,Y2,Y2,Y2,Y2,I0,Z6⟩,h,g⟩,λu=>?_,λu=>?_⟩
  ·have u:(X3 s s.J.toNat).2=false:=(xV _).mp u;obtain⟨i,j⟩:=nG v hc h3 u;rw[i,j];exact⟨Y2,Y2,Y2,Z6,Z6,Y2,Z6,Y2,Y2,I0,Z6⟩
  ·have u:(X3 s s.J.toNat).2=true:=(zF _).mp u;rw[(vR v hc h3 u).1] at f;cases f
 ·have hc:¬0<=frAt s.fr no:=s6 hc;have h3:¬s.fr.length=3:=λe=>by rw[e] at h3;simp at h3
  rw[(qY v hc h3).1] at f;cases f
theorem a1h{d:Dsk}{no:Nat}(h:(U2 d no).2=true):PgP (U2 d no).1:=by
 unfold U2 at h ⊢;by_cases hr:U1 d (1+no)=[]
 ·rw[if_pos hr];refine⟨Int.le_refl _,X1,rfl,λi hi=>?_⟩
  match i,hi with
  |0,_=>exact O3 _
  |1,_=>exact O3 _
  |2,_=>exact O3 _
  |3,_=>exact O3 _
 ·rw[if_neg hr] at h ⊢;unfold F5 at h ⊢;split at h
  ·rename_i C;rw[if_pos C];simp only[O4] at h;exact E4 h.2
  ·cases h
theorem lP{s:Sto}{no:Nat}(h:SInv s)(o:no<8)(u:(Z4 s no).2.2=true):(Z4 s no).2.1<(Z4 s no).1.fr.length/\PgP ((Z4 s no).1.fr.getD (Z4 s no).2.1 dz).pg:=by
 by_cases hc:0<=frAt s.fr no
 ·rw[(rS 0 hc).1];exact⟨uK hc,(h.frp _ (uK hc)).2.2.1⟩
 ·by_cases h3:s.fr.length=3
  ·cases ho:(X3 s s.J.toNat).2 with
   |false=>
    rw[(nG 0 hc h3 ho).1] at u;cases u
   |true=>
    rw[(vR 0 hc h3 ho).1];have d:=h.hd;have hl:=(sE s s.J.toNat).1;have hp:=(a5v h o hc h3 ho).2.2;unfold a9J;dsimp only;rw[yT,R2,j_j Z9]
    exact⟨Z9,a1h hp⟩
  ·rw[(qY 0 hc h3).1];unfold b92;dsimp only;rw[R2,tG (V8 _),K2]
   simp only[j_i,List.getElem?_cons_zero,Option.getD_some,List.length_cons,List.length_nil]
   exact⟨Z9,a1h (h.pg no o).1⟩
def vW(f:Frm)(r:Rec):Frm:=⟨f.no,⟨r.l,f.pg.sl.set r.s.toNat r.a⟩,true,if f.D=true then f.first else r.l⟩
def b54(a:Sto)(k:Nat)(r:Rec):Sto:=⟨a.d,a.ep,a.L,a.S,a.fr.set k (vW (a.fr.getD k dz) r),a.J⟩
def R6(s:Sto)(r:Rec):Sto×Bool:=if(Z4 s r.g.toNat).2.2=true then(b54 (Z4 s r.g.toNat).1 (Z4 s r.g.toNat).2.1 r,true) else((Z4 s r.g.toNat).1,false)
def a7o(s:Sto)(r:Rec):Prop:=SInv s/\0<=r.g/\r.g<8/\0<=r.s/\r.s<4
def c0r:Con:=.reff ⟨Sto×Rec×Nat,λx=>[.ref 0 0 0,.agg x.2.1.ts],λx=>x.1.bx x.2.2,λx=>.bool (R6 x.1 x.2.1).2,λx=>(R6 x.1 x.2.1).1.bxF (P4 x.1 x.2.1.g.toNat x.2.2),λx=>a7o x.1 x.2.1⟩
theorem b7K{L:List Frm}{k i:Nat}(f:Frm)(h:i≠k):b4C (Z0 L i) (Z0 (L.set k f) i):=by
 rw[show Z0 (L.set k f) i=Z0 L i by unfold Z0;rw[show(L.set k f).getD i dz=L.getD i dz by rw[R2,j_k (Ne.symm h),←R2]]]
 exact lR _
theorem oP{L:List Frm}{k:Nat}(f:Frm)(h:k<L.length):(L.set k f).getD k dz=f:=by rw[R2,j_j h];rfl
theorem a1a{L:List (Bz)}{j:Nat}(t:Bz):L.length=(L.set j t).length/\Z7 L.length (setRow (Z5 L) j 0 [T.str t]) (Z5 (L.set j t)):=⟨yT.symm,λi hi=>jG i hi⟩
theorem b8u{L:List Frm}{k:Nat}{r:Rec}(d:k<L.length)(hd:(L.getD k dz).D=true):U7 L.length (setRow (setRow (Z0 L) k 2 [T.own 0 1 (L.getD k dz).pg.sl.length (setRow (Z5 (L.getD k dz).pg.sl) r.s.toNat 0 [T.str r.a])]) k 1 [T.int IntKind.i64 r.l]) (Z0 (L.set k (vW (L.getD k dz) r))):=λi hi=>by
 have l5:∀j,(Z0 L j).length=5:=λ_=>rfl
 by_cases h:i=k
 ·subst h;unfold setRow;rw[gL rfl];have e:Z0 (L.set i (vW (L.getD i dz) r)) i=[Ji (L.getD i dz).no,Ji r.l,.own 0 1 ((L.getD i dz).pg.sl.set r.s.toNat r.a).length (Z5 ((L.getD i dz).pg.sl.set r.s.toNat r.a)),.bool (L.getD i dz).D,Ji (L.getD i dz).first]:=by
   unfold Z0;rw[oP _ hi];unfold vW;dsimp only;rw[if_pos hd,hd]
  rw[e];exact⟨rfl,rfl,⟨rfl,(a1a r.a).1,(a1a r.a).2⟩,Y2⟩
 ·rw[K7 (by rw[T6 a84,l5];exact zP rfl) h,K7 a84 h]
  exact b7K _ h
theorem b46{L:List Frm}{k:Nat}{r:Rec}(d:k<L.length)(hd:(L.getD k dz).D=false):U7 L.length (setRow (setRow (setRow (setRow (Z0 L) k 2 [T.own 0 1 (L.getD k dz).pg.sl.length (setRow (Z5 (L.getD k dz).pg.sl) r.s.toNat 0 [T.str r.a])]) k 1 [T.int IntKind.i64 r.l]) k 3 [T.bool true]) k 4 [T.int IntKind.i64 r.l]) (Z0 (L.set k (vW (L.getD k dz) r))):=λi hi=>by
 have l5:∀j,(Z0 L j).length=5:=λ_=>rfl
 by_cases h:i=k
 ·subst h;unfold setRow;rw[gL rfl];have e:Z0 (L.set i (vW (L.getD i dz) r)) i=[Ji (L.getD i dz).no,Ji r.l,.own 0 1 ((L.getD i dz).pg.sl.set r.s.toNat r.a).length (Z5 ((L.getD i dz).pg.sl.set r.s.toNat r.a)),.bool true,Ji r.l]:=by
   unfold Z0;rw[oP _ hi];unfold vW;dsimp only;rw[if_neg (by rw[hd];simp)]
  rw[e];exact⟨rfl,rfl,⟨rfl,(a1a r.a).1,(a1a r.a).2⟩,Y2⟩
 ·have a1:(setRow (Z0 L) k 2 [T.own 0 1 (L.getD k dz).pg.sl.length (setRow (Z5 (L.getD k dz).pg.sl) r.s.toNat 0 [T.str r.a])] i).length=5:=by rw[T6 a84,l5]
  have A:(setRow (setRow (Z0 L) k 2 [T.own 0 1 (L.getD k dz).pg.sl.length (setRow (Z5 (L.getD k dz).pg.sl) r.s.toNat 0 [T.str r.a])]) k 1 [T.int IntKind.i64 r.l] i).length=5:=by rw[T6 a9l,a1]
  rw[K7 (by rw[T6 (by rw[A];exact zP rfl),A];exact zP rfl) h,K7 (by rw[A];exact zP rfl) h,K7 a9l h,K7 a84 h]
  exact b7K _ h
theorem b7i:GK 60 c0r:=gk func60<|by
 rintro⟨s,r,v⟩ ⟨h,n,o,i,j⟩;dsimp only at h n o i j;have hno:r.g.toNat<8:=Z9
 by_cases hu:(Z4 s r.g.toNat).2.2=true
 ·have hf:=lP h hno hu;have e:R6 s r=(b54 (Z4 s r.g.toNat).1 (Z4 s r.g.toNat).2.1 r,true):=if_pos hu;refine r5 (gC vY gN) func60 Y9 c2D (α:=let i:=(R6 s r).1;let b:=(true=(R6 s r).2/\True);let n:=(Z0 (R6 s r).1.fr);let m:=(R6 s r).1.fr.length;∃(x:(Sto×Nat×Nat)),let c:=(P4 x.1 x.2.1 x.2.2);let p:=(Z4 x.1 x.2.1);let k:=(Z2 Y0 p.1.L (R6 s r).1.L);let j:=p.1.fr;let f:=j.length;let w:=(Z2 Y6 p.1.d.C (R6 s r).1.d.C);let y:=(Z2 Z5 p.1.d.E (R6 s r).1.d.E);let u:=(Z2 Y8 p.1.d.keep (R6 s r).1.d.keep);let z:=(j.getD p.2.1 dz);let t:=z.pg.sl;let q:=(setRow (setRow (Z0 j) p.2.1 2 [T.own (0:TypeId) 1 t.length (setRow (Z5 t) r.s.toNat 0 [T.str r.a])]) p.2.1 1 [Ji r.l]);(((0=0/\0=0)/\r.g=(x.2.1:Int)/\True)/\(LnS (v) (x.2.2) s x.1)/\lG x.1 x.2.1/\p.2.2=true)/\br false ((false=(R6 s r).2/\True)/\mQ p.1 i/\y/\True/\True/\k/\True/\w/\u/\(P4 x.1 x.2.1 x.2.2=P4 s r.g.toNat v/\f=m/\U7 j.length (Z0 j) n)/\True) (Lt p.2.1 f/\V7 r.s t.length/\PfB c c p.2.1 j.length r.s.toNat t.length/\a1o p.2.1 j.length [Ji z.pg.Q]/\Lt p.2.1 f/\br (! z.D) (a1o p.2.1 j.length [T.bool z.D]/\a1o p.2.1 j.length [Ji z.first]/\b/\mQ p.1 i/\y/\True/\True/\k/\True/\w/\u/\(P4 x.1 x.2.1 x.2.2=P4 s r.g.toNat v/\f=m/\U7 j.length (setRow (setRow q p.2.1 3 [T.bool true]) p.2.1 4 [Ji r.l]) n)/\True) (b/\mQ p.1 i/\y/\True/\True/\k/\True/\w/\u/\(P4 x.1 x.2.1 x.2.2=P4 s r.g.toNat v/\f=m/\U7 j.length q n)/\True))) ⟨(s,r.g.toNat,v),⟨⟨Y2,X0,Z6⟩,⟨Y2,Y2,Y2,Y2,Y2,I0,Z6⟩,⟨h,hno⟩,hu⟩,λhb=>(by cases hb),λ_=>?_⟩
  rw[e];dsimp only;generalize P4 s r.g.toNat v=w;generalize Z4 s r.g.toNat=A at*;obtain⟨a,k,up⟩:=A;dsimp only at*;obtain⟨f,u,z,q,t⟩:=hf;refine⟨f,⟨i,Z9⟩,⟨rfl,f,Z9⟩,⟨f,rfl⟩,f,λhd=>?_,λhd=>?_⟩
  ·exact⟨⟨f,rfl⟩,⟨f,rfl⟩,Y2,⟨rfl,rfl,Y2,Y2,rfl,Y2,rfl,Y2,rfl,⟨rfl,yT.symm⟩,Y2⟩,Y2,Z6,Z6,Y2,Z6,Y2,Y2,⟨rfl,yT.symm,b46 f nW⟩,Z6⟩
  ·exact⟨Y2,⟨rfl,rfl,Y2,Y2,rfl,Y2,rfl,Y2,rfl,⟨rfl,yT.symm⟩,Y2⟩,Y2,Z6,Z6,Y2,Z6,Y2,Y2,⟨rfl,yT.symm,b8u f nW⟩,Z6⟩
 ·have e:R6 s r=((Z4 s r.g.toNat).1,false):=if_neg hu;refine r5 (gC b05 gN) func60 Y9 c2D (α:=∃(x:(Sto×Nat×Nat)),let p:=(Z4 x.1 x.2.1);(((0=0/\0=0)/\r.g=(x.2.1:Int)/\True)/\(LnS (v) (x.2.2) s x.1)/\lG x.1 x.2.1/\p.2.2=false)/\br true ((false=(R6 s r).2/\True)/\mQ p.1 (R6 s r).1/\(Z2 Z5 p.1.d.E (R6 s r).1.d.E)/\True/\True/\(Z2 Y0 p.1.L (R6 s r).1.L)/\True/\(Z2 Y6 p.1.d.C (R6 s r).1.d.C)/\(Z2 Y8 p.1.d.keep (R6 s r).1.d.keep)/\(P4 x.1 x.2.1 x.2.2=P4 s r.g.toNat v/\p.1.fr.length=(R6 s r).1.fr.length/\U7 p.1.fr.length (Z0 p.1.fr) (Z0 (R6 s r).1.fr))/\True) False) ⟨(s,r.g.toNat,v),⟨⟨Y2,X0,Z6⟩,⟨Y2,Y2,Y2,Y2,Y2,I0,Z6⟩,⟨h,hno⟩,a99⟩,λ_=>?_,λhb=>(by cases hb)⟩
  rw[e];exact⟨Y2,Y2,Y2,Z6,Z6,Y2,Z6,Y2,Y2,I0,Z6⟩
theorem c0V{s:Sto}{lsn:Int}(h:SInv s)(f:1<=lsn)(e:lsn<=s.L.length):a7o s (s.L.getD (lsn-1).toNat dz)/\(s.L.getD (lsn-1).toNat dz).l=lsn:=by
 obtain⟨a,b⟩:=D2.1 h.rc (lsn-1).toNat Z9
 have a:=(Q6 _).1 a;obtain⟨_,_,_,_,_,_,_,_,_,_,q,g,Q,d,_⟩:=a;exact⟨⟨h,q,Z9,Q,Z9⟩,Z9⟩
def a5M:Con:=.rel ⟨Dsk×Nat,λx=>[.agg x.1.ts,Ji x.2],λx=>.tup [.agg (U2 x.1 x.2).1.ts,.bool (U2 x.1 x.2).2],DkB⟩
theorem a4Y:GK 135 a5M:=gk func135<|by
 rintro⟨d,no⟩ ⟨g,i,j,f⟩;dsimp only at g i j f;refine a0b d no ⟨Z3 Z9,(d,1+no),⟨⟨eqD _,F3,Z6⟩,g,F3⟩,λh=>⟨(),Y2,?_⟩,λh=>⟨((no:Int),U1 d (1+no)),⟨Y2,f⟩,?_⟩⟩
 ·have h:U1 d (1+no)=[]:=by simpa using h
  have e:U2 d no=(⟨0,[[],[],[],[]]⟩,true):=by unfold U2;rw[if_pos h]
  rw[e];exact Y2
 ·have h:U1 d (1+no)≠[]:=by simpa using h
  have e:U2 d no=F5 no (U1 d (1+no)):=by unfold U2;rw[if_neg h]
  rw[e];exact Y2
def b6Y:Con:=.rel ⟨Pg×Int×Bz×Int,λx=>[.agg x.1.ts,Ji x.2.1,.str x.2.2.1,Ji x.2.2.2],λx=>.agg (Pg.ts ⟨x.2.2.2,x.1.sl.set x.2.1.toNat x.2.2.1⟩),λx=>x.1.sl.length=4/\0<=x.2.1/\x.2.1<4⟩
theorem b2t:GK 268 b6Y:=gk func268<|by
 rintro⟨p,j,t,l⟩ ⟨d,h,e⟩;dsimp only at d h e;exact S1 (gC aA gN) func268 Y9 (α:=let r:=(p.sl.set j.toNat t);∃(x:Pg),let q:=x.sl.length;(((p.Q=x.Q/\(Z2 Z5 p.sl x.sl)/\True)/\True)/\q<=1048576)/\V7 j q/\Lt (0+j.toNat) q/\Le (0+q) q/\l=l/\(q=r.length/\Z7 x.sl.length (setRow (Z5 x.sl) (0+j.toNat) 0 [T.str t]) (Z5 r))/\True) ⟨p,⟨P5,Z9⟩,⟨h,Z9⟩,H9,aU _,rfl,⟨yT.symm,λi hi=>by rw[C9];exact jG i hi⟩,Z6⟩
theorem bZ{f row:Nat->List T}:X7 f 0 row=row:=funext λ_=>rfl
theorem c0B{L:List Frm}{k:Nat}(f:Frm)(d:k<L.length):Z7 L.length (setRow (V2 L) k 0 f.ts) (V2 (L.set k f)):=λi _=>by
 have hl:∀j,(V2 L j).length=5:=λ_=>rfl
 rw[h9 (by rw[hl];rfl)]
 unfold V2;by_cases h:i=k
 ·subst h;rw[gL rfl,oP _ d]
 ·rw[b6F h,show(L.set k f).getD i dz=L.getD i dz by rw[R2,j_k (Ne.symm h),←R2]]
theorem b5K{L:List Frm}{k:Nat}(d:k<L.length):Z7 L.length (setRow (setRow (V2 L) k 3 [T.bool false]) k 4 [T.int IntKind.i64 0]) (V2 (L.set k (iQ (L.getD k dz)))):=λi hi=>by
 have hl:∀j,(V2 L j).length=5:=λ_=>rfl
 by_cases h:i=k
 ·subst h;unfold setRow;rw[gL rfl];unfold V2;rw[oP _ d];rfl
 ·rw[K7 (by rw[T6 (by rw[hl];decide),hl];decide) h,K7 (by rw[hl];decide) h]
  unfold V2;rw[show(L.set k (iQ (L.getD k dz))).getD i dz=L.getD i dz by rw[R2,j_k (Ne.symm h),←R2]]
theorem b9i{L:List Frm}(f:Frm)(r:Nat->List T)(R:(r 0).length=5):Z7 (L.length+1) (setRow (X7 (V2 L) L.length r) L.length 0 f.ts) (V2 (L++[f])):=λi hi=>by
 have hl:(X7 (V2 L) L.length r i).length=5:=by
  unfold X7;by_cases h:i<L.length
  ·rw[tL h];rfl
  ·rw[qH h,show i-L.length=0 by omega]
   exact R
 rw[h9 (by rw[hl];rfl)]
 by_cases h:i=L.length
 ·subst h;rw[gL rfl];unfold V2;rw[show(L++[f]).getD L.length dz=f by rw[R2,tG (V8 _)];simp]
 ·rw[b6F h];unfold X7;rw[tL Z9]
  unfold V2;rw[show(L++[f]).getD i dz=L.getD i dz by rw[R2,uW Z9,←R2]]
def b65:Con:=.rel ⟨Sto×Nat,λx=>[.agg x.1.ts,Ji x.2],λx=>.tup [.agg (X3 x.1 x.2).1.ts,.bool (X3 x.1 x.2).2],λx=>SInv x.1/\x.2<x.1.fr.length⟩
theorem b2N:GK 265 b65:=gk func265<|by
 rintro⟨s,k⟩ ⟨h,j⟩;dsimp only at h j;have i:=h.frp k j;have F:=h.flu i.2.2.2;have r:=a5y s (s.fr.getD k dz).pg.Q;have u:=a5c F h.sm;have t:=a7p (l:=(s.fr.getD k dz).pg.Q) h.pd;have q:=a9n (l:=(s.fr.getD k dz).pg.Q) h.c;have n:=h.fr3;have o:= @fE s k;have o2:= @a00 s k;have o3:= @fT s k;refine S1 (gC kK (gC dY (gC a31 (gC kT gN)))) func265 Y9 (α:=let n:=(X3 s k).1.d.keep;let m:=(X3 s k).1;let v:=(X3 s k).2;let u:=(0+(k:Int).toNat);let q:=(s.fr.getD (k:Int).toNat dz);V7 (k:Int) s.fr.length/\((! q.D)=true->(o6 s m)/\true=v/\True)/\((! q.D)=false->∃(x:(Sto×Int)),let z:=(W4 x.1 x.2);let w:=(Z2 Y0 z.1.L (X3 s k).1.L);let y:=((↑z.1.d.C.length:Int)==500);let p:=z.1.fr.length;let j:=(Le 0 0/\U9 0 p 56);let r:=(0+p=(X3 s k).1.fr.length/\Z7 (0+p) (setRow (setRow (X7 (tk 5 []) 0 (V2 z.1.fr)) u 3 [T.bool false]) u 4 [Ji 0]) (V2 (X3 s k).1.fr));(((o6 s x.1)/\q.pg.Q=x.2/\True)/\uF x.1 x.2)/\((! z.2)=true->(o6 z.1 m)/\false=v/\True)/\((! z.2)=false->(y=true->∃(f:Dsk),(((xP z.1.d f)/\True)/\dU f/\bG f)/\((!(U6 f).2)=true->(o6 {z.1 with d:=(U6 f).1} m)/\false=v/\True)/\((!(U6 f).2)=false->O7 .i64 (1+q.no)/\∃(X:oZ.ι),((q.no=X.1/\(q.pg.Q=X.2.Q/\(Z2 Z5 q.pg.sl X.2.sl)/\True)/\True)/\PgP X.2)/\∃(g:(Dsk×Int×Bz)),(((xP (U6 f).1 g.1)/\1+q.no=g.2.1/\P3 X.1 X.2=g.2.2/\True)/\g.1.C.length<=1048576)/\j/\V7 (k:Int) (0+p)/\Lt u (0+p)/\V7 (k:Int) (0+p)/\Lt u (0+p)/\Le (0+(0+p)) (0+p)/\((Z2 Z5 g.1.E (X3 s k).1.d.E)/\(Z2 Y6 (g.1.C++[Pend.mk g.2.1 g.2.2]) (X3 s k).1.d.C)/\g.1.A=(X3 s k).1.d.A/\(Z2 Y8 g.1.keep n)/\z.1.ep=(X3 s k).1.ep/\w/\z.1.S=(X3 s k).1.S/\r/\z.1.J=(X3 s k).1.J/\True)/\true=v/\True))/\(y=false->O7 .i64 (1+q.no)/\∃(f:oZ.ι),((q.no=f.1/\(q.pg.Q=f.2.Q/\(Z2 Z5 q.pg.sl f.2.sl)/\True)/\True)/\PgP f.2)/\∃(X:(Dsk×Int×Bz)),(((xP z.1.d X.1)/\1+q.no=X.2.1/\P3 f.1 f.2=X.2.2/\True)/\X.1.C.length<=1048576)/\j/\V7 (k:Int) (0+p)/\Lt u (0+p)/\V7 (k:Int) (0+p)/\Lt u (0+p)/\Le (0+(0+p)) (0+p)/\((Z2 Z5 X.1.E (X3 s k).1.d.E)/\(Z2 Y6 (X.1.C++[Pend.mk X.2.1 X.2.2]) (X3 s k).1.d.C)/\X.1.A=(X3 s k).1.d.A/\(Z2 Y8 X.1.keep n)/\z.1.ep=(X3 s k).1.ep/\w/\z.1.S=(X3 s k).1.S/\r/\z.1.J=(X3 s k).1.J/\True)/\true=v/\True)))) ?_
 rw[G2];refine⟨Y3 j,λhd=>?_,λhd=>⟨(s,(s.fr.getD k dz).pg.Q),⟨Y2,F⟩,λhu=>?_,λhu=>⟨λhc=>?_,λhc=>?_⟩⟩⟩
 ·rw[uX nW]
  exact Y2
 all_goals
  have hd:(s.fr.getD k dz).D=true:=nW
  replace o:=o hd;replace o2:=o2 hd;replace o3:=o3 hd;dsimp only at*;generalize W4 s (s.fr.getD k dz).pg.Q=A at*;obtain⟨a,up⟩:=A;dsimp only at*;rw[←r] at j i n
 ·have hu:up=false:=(xV _).mp hu;subst hu;rw[o rfl];exact Y2
 ·have hu:up=true:=(zF _).mp hu;subst hu;have hc:500<=a.d.C.length:=by have:=beq_iff_eq.1 hc;omega
  rw[←r];refine⟨a.d,⟨Y2,u.1,t⟩,λhb=>?_,λhb=>?_⟩
  ·have hb:(U6 a.d).2=false:=(xV _).mp hb;rw[o2 rfl a9b,sA hc]
   exact P5
  ·have hb:(U6 a.d).2=true:=(zF _).mp hb;rw[o3 rfl a9b,sA hc]
   exact⟨Z3 Z9,((a.fr.getD k dz).no,(a.fr.getD k dz).pg),⟨P5,i.2.2.1⟩,((U6 a.d).1,1+(a.fr.getD k dz).no,P3 (a.fr.getD k dz).no (a.fr.getD k dz).pg),⟨P5,by show(U6 a.d).1.C.length<=_;rw[yS];exact O3 _⟩,⟨V8 _,R1⟩,⟨Z9,Z9⟩,H9,⟨Z9,Z9⟩,H9,L6,⟨Y2,Y2,rfl,Y2,rfl,Y2,rfl,⟨a2O,by rw[C9,C9,bZ];exact b5K j⟩,Y2⟩,Y2⟩
 ·have hu:up=true:=(zF _).mp hu;subst hu;have hc:¬500<=a.d.C.length:=λe=>by have e:(a.d.C.length:Int)=500:=Z9;rw[e] at hc;simp at hc
  rw[←r,o3 rfl (by rw[pL hc]),pL hc]
  exact⟨Z3 Z9,((a.fr.getD k dz).no,(a.fr.getD k dz).pg),⟨P5,i.2.2.1⟩,(a.d,1+(a.fr.getD k dz).no,P3 (a.fr.getD k dz).no (a.fr.getD k dz).pg),⟨P5,X0⟩,⟨V8 _,R1⟩,⟨Z9,Z9⟩,H9,⟨Z9,Z9⟩,H9,L6,⟨Y2,Y2,rfl,Y2,rfl,Y2,rfl,⟨a2O,by rw[C9,C9,bZ];exact b5K j⟩,Y2⟩,Y2⟩
def a58:Con:=.rel ⟨Sto×Nat,λx=>[.agg x.1.ts,Ji x.2],λx=>.tup [.agg (Z4 x.1 x.2).1.ts,Ji (Z4 x.1 x.2).2.1,.bool (Z4 x.1 x.2).2.2],λx=>lG x.1 x.2⟩
theorem wX:GK 215 a58:=gk func215<|by
 rintro⟨s,no⟩ ⟨h,o⟩;dsimp only at h o;have L:M1 s.fr.length:=by have:=h.fr3;unfold M1;omega
 have g:=h.fr3;refine S1 (gC kQ (gC b2N (gC a4Y gN))) func215 Y9 (α:=let n:=(tk 5 []);let y:=(0+s.fr.length);let z:=(s.fr.length:Int);let r:=(0+s.fr.length+1);let p:=(Z4 s no);let j:=p.1.d;let w:=(↑p.2.1:Int);∃(x:pT.ι),(((o6 s x.1)/\(no:Int)=x.2/\True)/\M1 x.1.fr.length)/\bd (frAt x.1.fr x.2≥(0:Int)) ((o6 s p.1)/\frAt x.1.fr x.2=w/\true=p.2.2/\True) (br (z==3) (∃(x:(Sto×Nat)),let q:=(X3 x.1 x.2);let u:=(0+q.1.fr.length);(((o6 s x.1)/\s.J=(x.2:Int)/\True)/\SInv x.1/\x.2<x.1.fr.length)/\br (! q.2) ((o6 q.1 p.1)/\0=w/\false=p.2.2/\True) (Ri (q.1.J+1)/\Nz (3:Int)/\∃(X:(Dsk×Nat)),let k:=(U2 X.1 X.2);(((xP q.1.d X.1)/\(no:Int)=(X.2:Int)/\True)/\DkB X)/\(Le 0 0/\U9 0 q.1.fr.length 56)/\V7 s.J u/\Lt (0+s.J.toNat) u/\Le (0+u) u/\((Z2 Z5 q.1.d.E j.E)/\(Z2 Y6 q.1.d.C j.C)/\q.1.d.A=j.A/\(Z2 Y8 q.1.d.keep j.keep)/\q.1.ep=p.1.ep/\(Z2 Y0 q.1.L p.1.L)/\q.1.S=p.1.S/\(0+q.1.fr.length=p.1.fr.length/\Z7 u (setRow (X7 n 0 (V2 q.1.fr)) (0+s.J.toNat) 0 [Ji (no:Int),Ji k.1.Q,T.sl 1 k.1.sl.length (Z5 k.1.sl),T.bool false,Ji 0]) (V2 p.1.fr))/\(q.1.J+1).tmod (3:Int)=p.1.J/\True)/\s.J=w/\true=p.2.2/\True)) ((Le 0 0/\U9 0 s.fr.length 56)/\(Le 1 1/\Le y y/\U9 y 1 56)/\∃(x:(Dsk×Nat)),let m:=(U2 x.1 x.2);(((xP s.d x.1)/\(no:Int)=(x.2:Int)/\True)/\DkB x)/\(Le (0+r) r/\Le 0 0/\U9 0 r 56)/\V7 z (0+r)/\Lt (0+z.toNat) (0+r)/\Le (0+(0+r)) (0+r)/\((Z2 Z5 s.d.E j.E)/\(Z2 Y6 s.d.C j.C)/\s.d.A=j.A/\(Z2 Y8 s.d.keep j.keep)/\s.ep=p.1.ep/\(Z2 Y0 s.L p.1.L)/\s.S=p.1.S/\(0+r=p.1.fr.length/\Z7 (0+r) (setRow (X7 n 0 (X7 (X7 n 0 (V2 s.fr)) y (tk 5 [Ji 0,Ji 0,T.v (Value.slice none 0 0),T.bool false,Ji 0]))) (0+z.toNat) 0 [Ji (no:Int),Ji m.1.Q,T.sl 1 m.1.sl.length (Z5 m.1.sl),T.bool false,Ji 0]) (V2 p.1.fr))/\s.J=p.1.J/\True)/\z=w/\true=p.2.2/\True))) ⟨(s,(no:Int)),⟨Y2,L⟩,λhc=>?_,λhc=>⟨λh3=>?_,λh3=>?_⟩⟩
 ·have hc:0<=frAt s.fr no:=E4 hc;rw[(rS 0 hc).1];exact⟨jO _,X0,Y2⟩
 ·have hc:¬0<=frAt s.fr no:=s6 hc;have h3:s.fr.length=3:=by have:=beq_iff_eq.1 h3;omega
  have i:=h.hd;have f:s.J.toNat<s.fr.length:=Z9
  obtain⟨r,R,_⟩:=sE s s.J.toNat;refine⟨(s,s.J.toNat),⟨⟨jO _,X0,Z6⟩,h,f⟩,λu=>?_,λu=>?_⟩
  ·have u:(X3 s s.J.toNat).2=false:=(xV _).mp u;rw[(nG 0 hc h3 u).1];exact Y2
  ·have u:(X3 s s.J.toNat).2=true:=(zF _).mp u;obtain⟨d1,_⟩:=a5v h o hc h3 u;rw[(vR 0 hc h3 u).1];exact⟨Z3 X0,by unfold Nz;omega,((X3 s s.J.toNat).1.d,no),⟨Y2,d1⟩,⟨V8 _,by unfold U9;dsimp only;omega⟩,⟨Z9,X0⟩,D9,by unfold Le;dsimp only;omega,⟨⟨rfl,W2 _ _⟩,⟨rfl,W2 _ _⟩,rfl,⟨rfl,W2 _ _⟩,rfl,⟨rfl,W2 _ _⟩,rfl,⟨a2O,by rw[C9,C9,bZ];exact c0B (B1 no (U2 (X3 s s.J.toNat).1.d no).1) (by rw[r];exact f)⟩,Y2⟩,X0,Y2⟩
 ·have hc:¬0<=frAt s.fr no:=s6 hc;have h3:¬s.fr.length=3:=λe=>by rw[e] at h3;simp at h3
  obtain⟨d1,_⟩:=a9y h o;rw[(qY 0 hc h3).1];exact⟨⟨V8 _,R1⟩,⟨V8 _,L6,R1⟩,(s.d,no),⟨Y2,d1⟩,⟨L6,V8 _,R1⟩,⟨Z9,Z9⟩,H9,L6,⟨Y2,Y2,rfl,Y2,rfl,Y2,rfl,⟨a9v,by rw[G2,C9,C9,bZ,bZ];exact b9i (B1 no (U2 s.d no).1) _ rfl⟩,Y2⟩,Y2⟩
def a6w:Con:=.rel ⟨Sto×Int,λx=>[.agg x.1.ts,Ji x.2],λx=>.tup [.agg (R6 x.1 (x.1.L.getD (x.2-1).toNat dz)).1.ts,.bool (R6 x.1 (x.1.L.getD (x.2-1).toNat dz)).2],λx=>SInv x.1/\1<=x.2/\x.2<=x.1.L.length⟩
theorem b4F{L:List Frm}{k i:Nat}(f:Frm)(h:i≠k):V2 L i=V2 (L.set k f) i:=by
 unfold V2;rw[show(L.set k f).getD i dz=L.getD i dz by rw[R2,j_k (Ne.symm h),←R2]]
theorem b8x{L:List Frm}{k:Nat}{r:Rec}(d:k<L.length)(hd:(L.getD k dz).D=true):Z7 L.length (setRow (V2 L) k 1 [T.int IntKind.i64 r.l,T.sl 1 ((L.getD k dz).pg.sl.set r.s.toNat r.a).length (Z5 ((L.getD k dz).pg.sl.set r.s.toNat r.a))]) (V2 (L.set k (vW (L.getD k dz) r))):=λi hi=>by
 have hl:∀j,(V2 L j).length=5:=λ_=>rfl
 by_cases h:i=k
 ·subst h;unfold setRow;rw[gL rfl];unfold V2;rw[oP _ d];unfold vW Frm.ts;dsimp only;rw[if_pos hd,hd];rfl
 ·rw[K7 b5j h]
  exact b4F _ h
theorem b3T{L:List Frm}{k:Nat}{r:Rec}(hk:k<L.length)(hd:(L.getD k dz).D=false):Z7 L.length (setRow (setRow (setRow (V2 L) k 1 [T.int IntKind.i64 r.l,T.sl 1 ((L.getD k dz).pg.sl.set r.s.toNat r.a).length (Z5 ((L.getD k dz).pg.sl.set r.s.toNat r.a))]) k 3 [T.bool true]) k 4 [T.int IntKind.i64 r.l]) (V2 (L.set k (vW (L.getD k dz) r))):=λi hi=>by
 have hl:∀j,(V2 L j).length=5:=λ_=>rfl
 by_cases h:i=k
 ·subst h;unfold setRow;rw[gL rfl];unfold V2;rw[oP _ hk];unfold vW Frm.ts;dsimp only;rw[if_neg (by rw[hd];simp)]
  rfl
 ·have a1:(setRow (V2 L) k 1 [T.int IntKind.i64 r.l,T.sl 1 ((L.getD k dz).pg.sl.set r.s.toNat r.a).length (Z5 ((L.getD k dz).pg.sl.set r.s.toNat r.a))] i).length=5:=by rw[T6 b5j,hl]
  rw[K7 (by rw[T6 a9l,a1];exact zP rfl) h,K7 a9l h,K7 b5j h]
  exact b4F _ h
theorem b35(s:Sto)(no:Nat):(Z4 s no).1.L=s.L/\((Z4 s no).1.fr.length<=s.fr.length∨((Z4 s no).1.fr.length=s.fr.length+1/\s.fr.length≠3)):=by
 obtain⟨R,_,r,_⟩:=sE s s.J.toNat;unfold Z4;split
 ·exact⟨rfl,.inl (V8 _)⟩
 ·split
  ·split
   ·exact⟨r,.inl (by unfold a9J;dsimp only;rw[yT];omega)⟩
   ·exact⟨r,.inl X0⟩
  ·rename_i h;exact⟨rfl,.inr ⟨a9v,h⟩⟩
theorem a4v:GK 219 a6w:=gk func219<|by
 rintro⟨s,lsn⟩ ⟨h,f,e⟩;dsimp only at h f e;obtain⟨⟨_,t,v,q,j⟩,hl⟩:=c0V h f e;have i:=h.l60;have u:=h.fr3;have o:(s.L.getD (lsn-1).toNat dz).g.toNat<8:=Z9
 have l:=(b35 s (s.L.getD (lsn-1).toNat dz).g.toNat).2;have hf:=lP h o;have e1:(Z4 s (s.L.getD (lsn-1).toNat dz).g.toNat).2.2=true->R6 s (s.L.getD (lsn-1).toNat dz)=(b54 (Z4 s (s.L.getD (lsn-1).toNat dz).g.toNat).1 (Z4 s (s.L.getD (lsn-1).toNat dz).g.toNat).2.1 (s.L.getD (lsn-1).toNat dz),true):=λhu=>if_pos hu
 have n:(Z4 s (s.L.getD (lsn-1).toNat dz).g.toNat).2.2=false->R6 s (s.L.getD (lsn-1).toNat dz)=((Z4 s (s.L.getD (lsn-1).toNat dz).g.toNat).1,false):=λhu=>if_neg (by rw[hu];simp)
 refine S1 (gC wX (gC b2t gN)) func219 Y9 (α:=let v:=(s.L.getD (lsn-1).toNat dz);let p:=(R6 s v);Ri (lsn-1)/\V7 (lsn-1) s.L.length/\∃(x:(Sto×Nat)),let q:=(Z4 x.1 x.2);let f:=(Z2 Y0 q.1.L p.1.L);let n:=(Z2 Y6 q.1.d.C p.1.d.C);let m:=(Z2 Z5 q.1.d.E p.1.d.E);let k:=q.1.fr.length;let j:=(Z2 Y8 q.1.d.keep p.1.d.keep);let z:=(0+k);let r:=(↑q.2.1:Int).toNat;let y:=(q.1.fr.getD (0+r-0) dz);(((o6 s x.1)/\v.g=(x.2:Int)/\True)/\lG x.1 x.2)/\br (! q.2.2) ((o6 q.1 p.1)/\false=p.2/\True) ((Le 0 0/\U9 0 q.1.fr.length 56)/\V7 (↑q.2.1:Int) z/\Lt (0+r) z/\∃(X:(Pg×Int×Bz×Int)),let w:=(X.1.sl.set X.2.1.toNat X.2.2.1);let u:=(setRow (X7 (tk 5 []) 0 (V2 q.1.fr)) (0+r) 1 [Ji X.2.2.2,T.sl 1 w.length (Z5 w)]);(((y.pg.Q=X.1.Q/\(Z2 Z5 y.pg.sl X.1.sl)/\True)/\v.s=X.2.1/\v.a=X.2.2.1/\lsn=X.2.2.2/\True)/\X.1.sl.length=4/\0<=X.2.1/\X.2.1<(4:Int))/\Lt (0+r) z/\Lt (0+r) z/\br (! y.D) (Lt (0+r) z/\Lt (0+r) z/\Le (0+z) z/\(m/\n/\q.1.d.A=p.1.d.A/\j/\q.1.ep=p.1.ep/\f/\q.1.S=p.1.S/\(0+k=p.1.fr.length/\Z7 z (setRow (setRow u (0+r) 3 [T.bool true]) (0+r) 4 [Ji lsn]) (V2 p.1.fr))/\q.1.J=p.1.J/\True)/\true=p.2/\True) (Le (0+z) z/\(m/\n/\q.1.d.A=p.1.d.A/\j/\q.1.ep=p.1.ep/\f/\q.1.S=p.1.S/\(0+k=p.1.fr.length/\Z7 z u (V2 p.1.fr))/\q.1.J=p.1.J/\True)/\true=p.2/\True))) ⟨Z3 Z9,⟨Z9,Z9⟩,(s,(s.L.getD (lsn-1).toNat dz).g.toNat),⟨⟨jO _,X0,Z6⟩,h,o⟩,λhu=>?_,λhu=>?_⟩
 ·rw[n ((xV _).mp hu)];exact Y2
 ·have hu:=(zF _).mp hu;replace e1:=e1 hu;replace hf:=hf hu;rw[e1];dsimp only at*;generalize s.L.getD (lsn-1).toNat dz=r at*;generalize Z4 s r.g.toNat=A at*;obtain⟨a,k,up⟩:=A;dsimp only at*;obtain⟨hk,p1,p2,p3,p4⟩:=hf;rw[G2,show 0+k=k from C9 k,Nat.sub_zero]
  refine⟨⟨V8 _,R1⟩,⟨Z9,Z9⟩,H9,((a.fr.getD k dz).pg,r.s,r.a,lsn),⟨⟨P5,Y2⟩,p3,q,j⟩,H9,H9,λhd=>?_,λhd=>?_⟩
  ·refine⟨H9,H9,L6,⟨Y2,Y2,rfl,Y2,rfl,Y2,rfl,⟨a2O,?_⟩,Y2⟩,Y2⟩
   rw[C9,bZ,←hl];exact b3T hk nW
  ·refine⟨L6,⟨Y2,Y2,rfl,Y2,rfl,Y2,rfl,⟨a2O,?_⟩,Y2⟩,Y2⟩
   rw[C9,bZ,←hl];exact b8x hk nW
end
end Go.Proofs.YtlbmgnomkjmafaaGreat
