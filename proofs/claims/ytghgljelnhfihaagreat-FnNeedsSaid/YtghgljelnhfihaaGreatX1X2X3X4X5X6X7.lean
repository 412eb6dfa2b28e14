/- A part of the proof. -/
import Derived.Test.YtghgljelnhfihaaGreatF0F1F2
namespace Go.Proofs.YtghgljelnhfihaaGreat
set_option maxRecDepth 100000
open Go.SS

theorem B6:H5 []:=λk ob h=>by simp[Z0] at h
theorem F6{o:Ob}{H:Y1}(h:aO o)(k:H5 H):H5 (some o::H):=λi ob hi=>by
 cases i with
 |zero=>
  simp only[Z0,List.getElem?_cons_zero,Option.bind_some,id,W8] at hi
  rw[←hi];exact h
 |succ i=>exact k i ob (by simpa[Z0] using hi)
theorem B4{row row':Nat->List T}{n:Nat}:Z6 (0+n) (X3 row 0 row') row':=λi _=>rfl
def C8(L:List Pend):Option Ob:=some (.arr true 0 2 L.length (Y9 L))
def x7(L:List Int):Option Ob:=some (.arr true 0 1 L.length (Y6 L))
def b9(L:List Rec):Option Ob:=some (.arr true 0 10 L.length (Y3 L))
theorem t4(L:List (List UInt8)):H5 [A1 L]:=F6 (λi _ t ht=>by simp only[Z5,List.mem_singleton] at ht;rw[ht];rfl) B6
theorem iP(L:List Pend):H5 [C8 L]:=F6 (λi _ t ht=>by
 simp only[Y9,Pend.ts,wY,j_i,or_false] at ht;rcases ht with rfl|rfl<;>rfl) B6
theorem fG(L:List Int):H5 [x7 L]:=F6 (λi _ t ht=>by simp only[Y6,List.mem_singleton] at ht;rw[ht];rfl) B6
theorem oM(L:List Rec):H5 [b9 L]:=F6 (λi _ t ht=>by
 simp only[Y3,Rec.ts,wY,j_i,or_false] at ht;rcases ht with rfl|rfl|rfl|rfl|rfl|rfl|rfl|rfl|rfl|rfl<;>rfl) B6
def b4Q:Con:=.rmk ⟨List (List UInt8),λL=>[xM L],λ_=>[],λL=>.osl 0 0 L.length,λL=>[A1 L],λL=>L.length<=1048576⟩
theorem b42(L:List (List UInt8))(h:
  ∀(b:Bool),(b=true->L.length=0)->(b=true->((0=0/\0=L.length)/\True)/\(0=L.length/\Z6 0 (λ(x:Nat)=>[]) (Z5 L))/\True)/\(b=false->(Le 0 0/\W6 0 L.length 16)/\((0=0/\0+L.length=
  L.length)/\True)/\(0+L.length=L.length/\Z6 (0+L.length) (X3 (λ(k:Nat)=>List.take 1 (List.drop (k*1) [])) 0 (Z5 L)) (Z5 L))/\True)):
  H3 Tryz.prog 225 [xM L] [] (.osl 0 0 L.length) [A1 L]:=
 v8 gN Tryz.func225 Y5 [[.arr 1],[.nilS 0 [] 0 1,.arr 0]] h
theorem a2k:GK 225 b4Q:=gk Tryz.func225<|λ(L:List (List UInt8)) (hL:L.length<=1048576)=>
 ⟨b42 L (λb hb=>⟨λh=>⟨⟨⟨rfl,(hb h).symm⟩,trivial⟩,⟨(hb h).symm,λi hi=>absurd hi (J5 _)⟩,trivial⟩,λ_=>⟨⟨W4 _,by unfold W6;omega⟩,⟨⟨rfl,by omega⟩,trivial⟩,⟨by omega,B4⟩,trivial⟩⟩),rfl,t4 L⟩
def b0c:Con:=.rmk ⟨List Pend,λL=>[sR L],λ_=>[],λL=>.osl 0 0 L.length,λL=>[C8 L],λL=>L.length<=1048576⟩
theorem b0C(L:List Pend)(h:
  ∀(b:Bool),(b=true->L.length=0)->(b=true->((0=0/\0=L.length)/\True)/\(0=L.length/\Z6 0 (λ(x:Nat)=>[]) (Y9 L))/\True)/\(b=false->(Le 0 0/\W6 0 L.length 24)/\((0=0/\0+L.length=
  L.length)/\True)/\(0+L.length=L.length/\Z6 (0+L.length) (X3 (λ(k:Nat)=>List.take 2 (List.drop (k*2) [])) 0 (Y9 L)) (Y9 L))/\True)):
  H3 Tryz.prog 226 [sR L] [] (.osl 0 0 L.length) [C8 L]:=
 v8 gN Tryz.func226 Y5 [[.arr 1],[.nilS 0 [] 0 2,.arr 0]] h
theorem a7U:GK 226 b0c:=gk Tryz.func226<|λ(L:List Pend) (hL:L.length<=1048576)=>
 ⟨b0C L (λb hb=>⟨λh=>⟨⟨⟨rfl,(hb h).symm⟩,trivial⟩,⟨(hb h).symm,λi hi=>absurd hi (J5 _)⟩,trivial⟩,λ_=>⟨⟨W4 _,by unfold W6;omega⟩,⟨⟨rfl,by omega⟩,trivial⟩,⟨by omega,B4⟩,trivial⟩⟩),rfl,iP L⟩
def b4J:Con:=.rmk ⟨List Int,λL=>[a5E L],λ_=>[],λL=>.osl 0 0 L.length,λL=>[x7 L],λL=>L.length<=1048576⟩
theorem b5N(L:List Int)(h:
  ∀(b:Bool),(b=true->L.length=0)->(b=true->((0=0/\0=L.length)/\True)/\(0=L.length/\Z6 0 (λ(x:Nat)=>[]) (Y6 L))/\True)/\(b=false->(Le 0 0/\W6 0 L.length 8)/\((0=0/\0+L.length=
  L.length)/\True)/\(0+L.length=L.length/\Z6 (0+L.length) (X3 (λ(k:Nat)=>List.take 1 (List.drop (k*1) [])) 0 (Y6 L)) (Y6 L))/\True)):
  H3 Tryz.prog 177 [a5E L] [] (.osl 0 0 L.length) [x7 L]:=
 v8 gN Tryz.func177 Y5 [[.arr 1],[.nilS 0 [] 0 1,.arr 0]] h
theorem a1P:GK 177 b4J:=gk Tryz.func177<|λ(L:List Int) (hL:L.length<=1048576)=>
 ⟨b5N L (λb hb=>⟨λh=>⟨⟨⟨rfl,(hb h).symm⟩,trivial⟩,⟨(hb h).symm,λi hi=>absurd hi (J5 _)⟩,trivial⟩,λ_=>⟨⟨W4 _,by unfold W6;omega⟩,⟨⟨rfl,by omega⟩,trivial⟩,⟨by omega,B4⟩,trivial⟩⟩),rfl,fG L⟩
def b32:Con:=.rmk ⟨List Rec,λL=>[nI L],λ_=>[],λL=>.osl 0 0 L.length,λL=>[b9 L],λL=>L.length<=1048576⟩
theorem b5y(L:List Rec)(h:
  ∀(b:Bool),(b=true->L.length=0)->(b=true->((0=0/\0=L.length)/\True)/\(0=L.length/\Z6 0 (λ(x:Nat)=>[]) (Y3 L))/\True)/\(b=false->(Le 0 0/\W6 0 L.length 96)/\((0=0/\0+L.length=
  L.length)/\True)/\(0+L.length=L.length/\Z6 (0+L.length) (X3 (λ(k:Nat)=>List.take 10 (List.drop (k*10) [])) 0 (Y3 L)) (Y3 L))/\True)):
  H3 Tryz.prog 205 [nI L] [] (.osl 0 0 L.length) [b9 L]:=
 v8 gN Tryz.func205 Y5 [[.arr 1],[.nilS 0 [] 0 10,.arr 0]] h
theorem b1Z:GK 205 b32:=gk Tryz.func205<|λ(L:List Rec) (hL:L.length<=1048576)=>
 ⟨b5y L (λb hb=>⟨λh=>⟨⟨⟨rfl,(hb h).symm⟩,trivial⟩,⟨(hb h).symm,λi hi=>absurd hi (J5 _)⟩,trivial⟩,λ_=>⟨⟨W4 _,by unfold W6;omega⟩,⟨⟨rfl,by omega⟩,trivial⟩,⟨by omega,B4⟩,trivial⟩⟩),rfl,oM L⟩
def Dsk.tm(d:Dsk)(b:Nat):List T:=[.osl b 0 d.E.length,.osl (b+1) 0 d.C.length,.bool d.A,.osl (b+2) 0 d.keep.length]
def Dsk.hp(d:Dsk):Y1:=[A1 d.E,C8 d.C,x7 d.keep]
theorem s5{H K:Y1}(h:H5 H)(k:H5 K):H5 (H++K):=λi ob hi=>by
 unfold Z0 at hi;rw[List.getElem?_append] at hi
 split at hi
 ·exact h i ob hi
 ·exact k _ ob hi
theorem tF(d:Dsk):H5 d.hp:=s5 (t4 _) (s5 (iP _) (fG _))
def b4o:Con:=.rmk ⟨Dsk,λd=>[.agg d.ts],λ_=>[],λd=>.agg (d.tm 0),λd=>d.hp,nD⟩
theorem b1w:GK 128 b4o:=gk Tryz.func128<|by
 rintro(d:Dsk) ⟨h1,h2,h3⟩;exact⟨v8 (gC a2k (gC a7U (gC a1P gN))) Tryz.func128 Y5 [[.arr 2,.arr 3,.arr 4]] (α:=∃(x:(List (List UInt8))),(((d.E.length=List.length x/\Z6 d.E.length (Z5 d.E) (Z5 x))/\True)/\List.length x<=1048576)/\∃(x_1:(List Pend)),(((d.C.length=List.length x_1/\Z6 d.C.length (Y9 d.C) (Y9 x_1))/\True)/\List.length x_1<=1048576)/\∃(x_2:(List Int)),(((d.keep.length=List.length x_2/\Z6 d.keep.length (Y6 d.keep) (Y6 x_2))/\True)/\List.length x_2<=1048576)/\(((0=0/\List.length x=d.E.length)/\(0=0/\List.length x_1=d.C.length)/\d.A=d.A/\(0=0/\List.length x_2=d.keep.length)/\True)/\True)/\(List.length x=d.E.length/\Z6 (List.length x) (Z5 x) (Z5 d.E))/\(List.length x_1=d.C.length/\Z6 (List.length x_1) (Y9 x_1) (Y9 d.C))/\(List.length x_2=d.keep.length/\Z6 (List.length x_2) (Y6 x_2) (Y6 d.keep))/\True) ⟨d.E,⟨X5,h1⟩,d.C,⟨X5,h2⟩,d.keep,⟨X5,h3⟩,⟨⟨Z8,Z8,rfl,U3⟩,trivial⟩,Z7,Z7,X5⟩,rfl,tF d⟩
def Pg.tm(p:Pg)(b:Nat):List T:=[.int .i64 p.Q,.osl b 0 p.sl.length]
def b9c:Con:=.rmk ⟨Pg,λp=>[.agg p.ts],λ_=>[],λp=>.agg (p.tm 0),λp=>[A1 p.sl],λp=>p.sl.length<=1048576⟩
theorem b4y:GK 206 b9c:=gk Tryz.func206<|by
 intro(p:Pg) (h1:p.sl.length<=1048576);exact⟨v8 (gC a2k gN) Tryz.func206 Y5 [[.arr 2]] (α:=∃(x:(List (List UInt8))),(((p.sl.length=List.length x/\Z6 p.sl.length (Z5 p.sl) (Z5 x))/\True)/\List.length x<=1048576)/\((p.Q=p.Q/\(0=0/\List.length x=p.sl.length)/\True)/\True)/\(List.length x=p.sl.length/\Z6 (List.length x) (Z5 x) (Z5 p.sl))/\True) ⟨p.sl,⟨X5,h1⟩,⟨⟨rfl,U3⟩,trivial⟩,X5⟩,rfl,t4 _⟩
def Y2(L:List Frm)(i:Nat):List T:=[.int .i64 (L.getD i dz).no,.int .i64 (L.getD i dz).pg.Q,.own 0 1 (L.getD i dz).pg.sl.length (Z5 (L.getD i dz).pg.sl),.bool (L.getD i dz).D,.int .i64 (L.getD i dz).first]
def vL(v:Nat)(L:List Frm)(n:Nat):Option Ob:=some (.fam v 0 5 n (Y2 L))
def Sto.tm(s:Sto)(b:Nat):List T:=[.osl b 0 s.d.E.length,.osl (b+1) 0 s.d.C.length,.bool s.d.A,.osl (b+2) 0 s.d.keep.length,.int .i64 s.ep,.osl (b+3) 0 s.L.length,.int .i64 s.S,.osl (b+4) 0 s.fr.length,.int .i64 s.J]
def Sto.hp(s:Sto)(v:Nat):Y1:=[A1 s.d.E,C8 s.d.C,x7 s.d.keep,b9 s.L,vL v s.fr s.fr.length]
def c18:List T:=[.v (.slice none 0 0),.v (.slice none 0 0),.bool false,.v (.slice none 0 0),.int .i64 0,.v (.slice none 0 0),.int .i64 0,.v (.slice none 0 0),.int .i64 0]
def b0Z:Option Ob:=some (.arr true 1000000 9 1 λ_=>c18)
def sO(l:List T):Option Ob:=some (.arr false 1000000 9 1 λ_=>l)
abbrev EqF(a b:Sto):Prop:=Y8 Z5 a.d.E b.d.E/\Y8 Y9 a.d.C b.d.C/\a.d.A=b.d.A/\Y8 Y6 a.d.keep b.d.keep/\a.ep=b.ep/\Y8 Y3 a.L b.L/\a.S=b.S/\(a.fr.length=b.fr.length/\Z6 a.fr.length (a4d (Y2 a.fr)) (X2 b.fr))/\a.J=b.J/\True
abbrev oE(a b:Sto):Prop:=((0:Nat)=0/\a.d.E.length=b.d.E.length)/\((0:Nat)=0/\a.d.C.length=b.d.C.length)/\a.d.A=b.d.A/\((0:Nat)=0/\a.d.keep.length=b.d.keep.length)/\a.ep=b.ep/\((0:Nat)=0/\a.L.length=b.L.length)/\a.S=b.S/\((0:Nat)=0/\a.fr.length=b.fr.length)/\a.J=b.J/\True
abbrev EqH(v u:Nat)(a b:Sto):Prop:=Y8 Z5 a.d.E b.d.E/\Y8 Y9 a.d.C b.d.C/\Y8 Y6 a.d.keep b.d.keep/\Y8 Y3 a.L b.L/\(v=u/\a.fr.length=b.fr.length/\T9 a.fr.length (Y2 a.fr) (Y2 b.fr))/\True
abbrev LeS(a:Sto):Prop:=Le (0+a.d.E.length) a.d.E.length/\Le (0+a.d.C.length) a.d.C.length/\Le (0+a.d.keep.length) a.d.keep.length/\Le (0+a.L.length) a.L.length/\Le (0+a.fr.length) a.fr.length
abbrev EqR(a b:Rec):Prop:=a.e=b.e/\a.l=b.l/\a.t=b.t/\a.k=b.k/\a.p=b.p/\a.n=b.n/\a.g=b.g/\a.s=b.s/\a.b=b.b/\a.a=b.a/\True
theorem U2{L:List Frm}(n:Nat):T9 n (Y2 L) (Y2 L):=λi _=>by
 refine⟨?_,?_,⟨rfl,rfl,Z2 _ _⟩,?_,?_,trivial⟩<;>rfl
theorem Q2{q r:Sort _}{v:q}{a:r}{n:Nat}{L:List Frm}:v=v/\a=a/\T9 n (Y2 L) (Y2 L):=⟨rfl,rfl,U2 _⟩
theorem uY{i n:Nat}(h:i<n):Nat.blt i n=true:=Nat.ble_eq_true_of_le h
theorem sW{i n:Nat}(h:¬i<n):Nat.blt i n=false:=by
 cases hb:Nat.blt i n with
 |false=>rfl
 |true=>exact absurd (v6 hb) h
theorem a54{L:List Frm}{i:Nat}:T9 (i+1) (X3 (Y2 L) i λ_=>Y2 L i) (Y2 L):=λj hj=>by
 have:X3 (Y2 L) i (λ_=>Y2 L i) j=Y2 L j:=by
  unfold X3;by_cases hji:j<i
  ·rw[uY hji]
  ·rw[sW hji,show i=j by omega]
 rw[this];exact U2 (j+1) j (Nat.lt_succ_self j)
theorem a8F(v:Nat)(L:List Frm)(n:Nat):H5 [vL v L n]:=F6 (λi _ t ht=>by
 simp only[Y2,wY,j_i,or_false] at ht;rcases ht with rfl|rfl|rfl|rfl|rfl
 ·rfl
 ·rfl
 ·intro j _ t ht;simp only[Z5,List.mem_singleton] at ht;rw[ht];rfl
 ·rfl
 ·rfl) B6
theorem pL(s:Sto)(v:Nat):H5 (s.hp v):=s5 (H:=s.d.hp) (tF _) (s5 (oM _) (a8F _ _ _))
theorem oZ:∀l:List T,b00 l l
 | []=>trivial
 |a::r=>⟨by cases a<;>first|rfl|exact⟨rfl,rfl,Z2 _ _⟩,oZ r⟩
theorem a32{n:Nat}{f g:Nat->List T}(h:∀i,i<n->f i=g i):T9 n f g:=λi hi=>by rw[h i hi];exact oZ _
def b48:Con:=.rmk ⟨Sto,λs=>[.agg s.ts],λ_=>[],λs=>.agg (s.tm 0),λs=>s.hp 0,SmS⟩
def b54(s:Sto):Nat->Ann
 |0=>.one {i:Nat//i<=s.fr.length} (λx=>⟨[(1,.ref 0 0 0),(2,.ref 1 0 0),(17,a3D s.fr),(18,.int .i64 s.fr.length),(19,.int .i64 x.1)],[sO [.osl 2 0 s.d.E.length,.osl 3 0 s.d.C.length,.bool s.d.A,.osl 4 0 s.d.keep.length,.int .i64 s.ep,.osl 5 0 s.L.length,.int .i64 s.S,.osl 6 0 x.1,.int .i64 s.J],b0Z,A1 s.d.E,C8 s.d.C,x7 s.d.keep,b9 s.L,vL 0 s.fr x.1]⟩) (λx=>s.fr.length-x.1) [.nilC 0 7 0 5,.fam 6,.box 0,.box 1,.arr 2,.arr 3,.arr 4,.arr 5,.arr 6] [.box 0,.box 1,.arr 2,.arr 3,.arr 4,.arr 5,.at_ 31] (λ_=>Y5)
 |_=>.none
theorem b0e:GK 102 b48:=gk Tryz.func102<|by
 rintro(s:Sto) ⟨h1,h2,h3,h4⟩;refine⟨v8 (gC b1w (gC b1Z (gC b4y gN))) Tryz.func102 (b54 s) [[.arr 2,.arr 3,.arr 4,.arr 5,.arr 6]] (α:=let b:=(Y8 Y9 s.d.C s.d.C);let a:=(Y8 Z5 s.d.E s.d.E);let n:=(Y8 Y6 s.d.keep s.d.keep);let m:=(0=0/\0=0);let k:=(0=0/\s.L.length=s.L.length);let j:=(Y2 s.fr);let w:=(0=0/\s.d.C.length=s.d.C.length);let v:=(0=0/\s.d.E.length=s.d.E.length);let u:=(0=0/\s.d.keep.length=s.d.keep.length);let r:=(s.fr.length:Int);let p:=(1=1/\1=1/\Value.slice none 0 0=Value.slice none 0 0/\Value.slice none 0 0=Value.slice none 0 0/\false=false/\Value.slice none 0 0=Value.slice none 0 0/\(0:Int)=0/\Value.slice none 0 0=Value.slice none 0 0/\(0:Int)=0/\Value.slice none 0 0=Value.slice none 0 0/\(0:Int)=0/\True);∃(x:Dsk),(((yM s.d x)/\True)/\nD x)/\∃(x_1:(List Rec)),(((s.L.length=List.length x_1/\Z6 s.L.length (Y3 s.L) (Y3 x_1))/\True)/\List.length x_1<=1048576)/\(∃(x_2:{i:Nat//i<=s.fr.length}),(m/\m/\(Y8 X2 s.fr s.fr)/\r=r/\0=(x_2.val:Int)/\True)/\(1=1/\1=1/\(0=0/\x.E.length=s.d.E.length)/\(0=0/\x.C.length=s.d.C.length)/\x.A=s.d.A/\(0=0/\x.keep.length=s.d.keep.length)/\s.ep=s.ep/\(0=0/\List.length x_1=s.L.length)/\s.S=s.S/\(0=0/\0=x_2.val)/\s.J=s.J/\True)/\p/\(Y8 Z5 x.E s.d.E)/\(Y8 Y9 x.C s.d.C)/\(Y8 Y6 x.keep s.d.keep)/\(List.length x_1=s.L.length/\Z6 (List.length x_1) (Y3 x_1) (Y3 s.L))/\(0=0/\0=x_2.val/\T9 0 (λ(x:Nat)=>[]) j)/\True)/\∀(x:{i:Nat//i<=s.fr.length}),let f:=x.val;let z:=(f:Int);let q:=(s.fr.getD z.toNat dz);(decide (z<r)=true->V3 z s.fr.length/\∃(x_2:Pg),let g:=x_2.sl;(((q.pg.Q=x_2.Q/\(Y8 Z5 q.pg.sl g)/\True)/\True)/\g.length<=1048576)/\(Le g.length g.length/\Le x.val f/\W6 x.val 1 56)/\W7 .i64 (z+1)/\∃(y:{i:Nat//i<=s.fr.length}),((m/\m/\(Y8 X2 s.fr s.fr)/\r=r/\z+1=(y.val:Int)/\True)/\(1=1/\1=1/\v/\w/\s.d.A=s.d.A/\u/\s.ep=s.ep/\k/\s.S=s.S/\(0=0/\f+1=y.val)/\s.J=s.J/\True)/\p/\a/\b/\n/\(Y8 Y3 s.L s.L)/\(0=0/\f+1=y.val/\T9 (f+1) (X3 j x.val λ(x_3:Nat)=>[T.int .i64 q.no,T.int .i64 x_2.Q,T.own 0 1 g.length (Z5 g),T.bool q.D,T.int .i64 q.first]) j)/\True)/\Lt (s.fr.length-y.val) (s.fr.length-f))/\(decide (z<r)=false->((v/\w/\s.d.A=s.d.A/\u/\s.ep=s.ep/\k/\s.S=s.S/\(0=0/\f=s.fr.length)/\s.J=s.J/\True)/\True)/\a/\b/\n/\(Y8 Y3 s.L s.L)/\(0=0/\f=s.fr.length/\T9 x.val j j)/\True)) ⟨s.d,⟨⟨uX _,trivial⟩,h1⟩,s.L,⟨X5,h2⟩,⟨⟨0,S7 _⟩,⟨Z8,Z8,Z7,rfl,Z9⟩,⟨rfl,rfl,Z8,Z8,rfl,Z8,rfl,Z8,rfl,Z8,Z9⟩,⟨rfl,rfl,rfl,rfl,rfl,rfl,rfl,rfl,rfl,rfl,Z9⟩,Z7,Z7,Z7,Z7,⟨rfl,rfl,λi hi=>absurd hi (J5 _)⟩,trivial⟩,λx=>⟨λhc=> ?_,λhc=> ?_⟩⟩,rfl,?_⟩
 ·have hlt:=X6 hc;rw[F5];exact⟨X8 hlt,(s.fr.getD x.val dz).pg,⟨⟨⟨rfl,X5⟩,trivial⟩,h4 _ hlt⟩,⟨W4 _,W4 _,by unfold W6;omega⟩,Z4 (by omega),⟨x.val+1,hlt⟩,⟨⟨Z8,Z8,Z7,rfl,by dsimp only;omega,trivial⟩,⟨rfl,rfl,⟨rfl,rfl⟩,⟨rfl,rfl⟩,rfl,⟨rfl,rfl⟩,rfl,⟨rfl,rfl⟩,rfl,⟨rfl,rfl⟩,rfl,trivial⟩,⟨rfl,rfl,rfl,rfl,rfl,rfl,rfl,rfl,rfl,rfl,rfl,trivial⟩,⟨rfl,Z2 _ _⟩,⟨rfl,Z2 _ _⟩,⟨rfl,Z2 _ _⟩,⟨rfl,Z2 _ _⟩,⟨rfl,rfl,a54⟩,trivial⟩,V1.ext_lt hlt⟩
 ·have hx:x.val=s.fr.length:=by have:=x.2;have:=X4 hc;omega
  rw[hx];exact⟨⟨⟨Z8,Z8,rfl,Z8,rfl,Z8,rfl,Z8,Z9⟩,trivial⟩,Z7,Z7,Z7,Z7,Q2,trivial⟩
 ·exact pL s 0
end Go.Proofs.YtghgljelnhfihaaGreat

namespace Go.Proofs.YtghgljelnhfihaaGreat
set_option maxRecDepth 100000
open Go.SS

def Sto.tn(s:Sto)(a b c d e:Nat):List T:=[.osl a 0 s.d.E.length,.osl b 0 s.d.C.length,.bool s.d.A,.osl c 0 s.d.keep.length,.int .i64 s.ep,.osl d 0 s.L.length,.int .i64 s.S,.osl e 0 s.fr.length,.int .i64 s.J]
def Sto.bx(s:Sto)(v:Nat):Y1:=[sO (s.tn 1 2 3 4 5),A1 s.d.E,C8 s.d.C,x7 s.d.keep,b9 s.L,vL v s.fr s.fr.length]
def Sto.bxL(s:Sto)(v:Nat):Y1:=[sO (s.tn 1 2 3 6 5),A1 s.d.E,C8 s.d.C,x7 s.d.keep,none,vL v s.fr s.fr.length,b9 s.L]
def R9(s:Sto)(r:Rec):Rec:=⟨s.ep,(s.L.length:Int)+1,r.t,r.k,r.p,r.n,r.g,r.s,r.b,r.a⟩
noncomputable def Q7(s:Sto)(r:Rec):Sto:=if R1 (R9 s r)=true then{s with L:=s.L++[R9 s r]} else s
def SmR(r:Rec):Prop:=r.b.length<=1048576/\r.a.length<=1048576
noncomputable def a2K:Rle:=⟨Sto×Rec×Nat,λx=>[.ref 0 0 0,.agg x.2.1.ts],λx=>x.1.bx x.2.2,λx=>.bool (R1 (R9 x.1 x.2.1)),λx=>(Q7 x.1 x.2.1).bxL x.2.2,λx=>x.1.L.length<=60/\SmR x.2.1⟩
noncomputable def b17:Con:=.reff a2K
theorem mM(L:List Rec)(r:Rec):Z6 (L.length+1) (X3 (Y3 L) L.length λk=>List.take 10 (List.drop (k*10) r.ts)) (Y3 (L++[r])):=by
 intro i hi;unfold X3 Y3;by_cases h:i<L.length
 ·rw[uY h,P8,P8,tX h]
 ·have:i=L.length:=by omega
  subst this;rw[sW h];have:(L++[r]).getD L.length dz=r:=by rw[P8,rK (W4 _)];simp
  rw[this];simp[Rec.ts]
theorem oK:GK 122 b17:=gk Tryz.func122<|by
 rintro⟨s,r,v⟩ ⟨h2,h3,h4⟩;dsimp only at h2 h3 h4;refine v8 (gC vN gN) Tryz.func122 Y5 [[.box 0,.arr 1,.arr 2,.arr 3,.arr 4,.arr 5,.arr 8],[.box 0,.arr 1,.arr 2,.arr 3,.arr 4,.arr 5,.arr 4]] (α:=let m:=(Q7 s r).fr.length;let j:=(Y8 Y9 s.d.C (Q7 s r).d.C);let w:=(Y8 Z5 s.d.E (Q7 s r).d.E);let y:=(Y8 Y6 s.d.keep (Q7 s r).d.keep);let u:=((s.L.length:Int)+1);let z:=(!R1 (Rec.mk s.ep u r.t r.k r.p r.n r.g r.s r.b r.a));let q:=(v=v/\s.fr.length=m/\T9 s.fr.length (Y2 s.fr) (Y2 (Q7 s r).fr));W7 .i64 u/\a9c r.a/\(z=true->(false=R1 (R9 s r)/\True)/\(1=1/\1=1/\oE s (Q7 s r))/\w/\j/\y/\True/\q/\(Y8 Y3 s.L (Q7 s r).L)/\True)/\(z=false->(Le 1 1/\Le s.L.length s.L.length/\W6 s.L.length 1 96)/\(true=R1 (R9 s r)/\True)/\(1=1/\1=1/\(0=0/\s.d.E.length=(Q7 s r).d.E.length)/\(0=0/\s.d.C.length=(Q7 s r).d.C.length)/\s.d.A=(Q7 s r).d.A/\(0=0/\s.d.keep.length=(Q7 s r).d.keep.length)/\s.ep=(Q7 s r).ep/\(0=0/\s.L.length+1=(Q7 s r).L.length)/\s.S=(Q7 s r).S/\(0=0/\s.fr.length=m)/\s.J=(Q7 s r).J/\True)/\w/\j/\y/\True/\q/\(s.L.length+1=(Q7 s r).L.length/\Z6 (s.L.length+1) (X3 (Y3 s.L) s.L.length λ(k:Nat)=>List.take 10 (List.drop (k*10) [T.int .i64 s.ep,T.int .i64 u,T.int .i64 r.t,T.int .i64 r.k,T.int .i64 r.p,T.int .i64 r.n,T.int .i64 r.g,T.int .i64 r.s,T.str r.b,T.str r.a])) (Y3 (Q7 s r).L))/\True)) ⟨Z4 (by omega),by unfold a9c;omega,λh=> ?_,λh=> ?_⟩
 ·have hr:R1 (R9 s r)=false:=by simpa[R9] using h
  have e:Q7 s r=s:=by unfold Q7;rw[if_neg (by rw[hr];simp)]
  rw[e,hr];exact⟨Z9,⟨rfl,rfl,Z8,Z8,rfl,Z8,rfl,Z8,rfl,Z8,Z9⟩,Z7,Z7,Z7,trivial,Q2,X5⟩
 ·have hr:R1 (R9 s r)=true:=by simpa[R9] using h
  have e:Q7 s r={s with L:=s.L++[R9 s r]}:=by unfold Q7;rw[if_pos hr]
  rw[e,hr];have hl:s.L.length+1=(s.L++[R9 s r]).length:=by simp
  exact⟨⟨W4 _,W4 _,by unfold W6;omega⟩,Z9,⟨rfl,rfl,Z8,Z8,rfl,Z8,rfl,⟨rfl,hl⟩,rfl,Z8,Z9⟩,Z7,Z7,Z7,trivial,Q2,⟨hl,mM s.L (R9 s r)⟩,trivial⟩
def c1U:Sto:=⟨⟨[],[],false,[]⟩,0,[],0,[],0⟩
theorem S8(n:Nat):Le (0+n) n:=Nat.le_of_eq (G9 n)
theorem V7{row row':Nat->List T}:Z6 0 row row':=λi hi=>absurd hi (J5 _)
end Go.Proofs.YtghgljelnhfihaaGreat

namespace Go.Proofs.YtghgljelnhfihaaGreat
set_option maxRecDepth 100000
open Go.SS

def b14:Con:=.rmk ⟨Dsk,λd=>[.agg d.ts],λ_=>[],λd=>.agg (d.tm 0),λd=>d.hp,nD⟩
theorem pM:GK 232 b14:=gk Tryz.func232<|by
 rintro(d:Dsk) ⟨h1,h2,h3⟩;exact⟨v8 gN Tryz.func232 Y5 [[.arr 3,.arr 5,.arr 7]] (α:=let p:=(λ(k:Nat)=>List.take 1 (List.drop (k*1) []));(Le 0 0/\W6 0 d.E.length 16)/\(Le 0 0/\W6 0 d.C.length 24)/\(Le 0 0/\W6 0 d.keep.length 8)/\(((0=0/\0+d.E.length=d.E.length)/\(0=0/\0+d.C.length=d.C.length)/\d.A=d.A/\(0=0/\0+d.keep.length=d.keep.length)/\True)/\True)/\(0+d.E.length=d.E.length/\Z6 (0+d.E.length) (X3 p 0 (Z5 d.E)) (Z5 d.E))/\(0+d.C.length=d.C.length/\Z6 (0+d.C.length) (X3 (λ(k:Nat)=>List.take 2 (List.drop (k*2) [])) 0 (Y9 d.C)) (Y9 d.C))/\(0+d.keep.length=d.keep.length/\Z6 (0+d.keep.length) (X3 p 0 (Y6 d.keep)) (Y6 d.keep))/\True) ⟨⟨W4 _,by unfold W6;omega⟩,⟨W4 _,by unfold W6;omega⟩,⟨W4 _,by unfold W6;omega⟩,⟨⟨⟨rfl,by omega⟩,⟨rfl,by omega⟩,rfl,⟨rfl,by omega⟩,trivial⟩,trivial⟩,⟨by omega,B4⟩,⟨by omega,B4⟩,⟨by omega,B4⟩,trivial⟩,rfl,tF d⟩
def b0J:Con:=.rmk ⟨Pg,λp=>[.agg p.ts],λ_=>[],λp=>.agg (p.tm 0),λp=>[A1 p.sl],λp=>p.sl.length<=1048576⟩
theorem eV:GK 233 b0J:=gk Tryz.func233<|by
 intro(p:Pg) (h1:p.sl.length<=1048576);exact⟨v8 gN Tryz.func233 Y5 [[.arr 3]] (α:=(Le 0 0/\W6 0 p.sl.length 16)/\((p.Q=p.Q/\(0=0/\0+p.sl.length=p.sl.length)/\True)/\True)/\(0+p.sl.length=p.sl.length/\Z6 (0+p.sl.length) (X3 (λ(k:Nat)=>List.take 1 (List.drop (k*1) [])) 0 (Z5 p.sl)) (Z5 p.sl))/\True) ⟨⟨W4 _,by unfold W6;omega⟩,⟨⟨rfl,⟨rfl,by omega⟩,trivial⟩,trivial⟩,⟨by omega,B4⟩,trivial⟩,rfl,t4 _⟩
def b3q:Con:=.rmk ⟨Sto,λs=>[.agg s.ts],λ_=>[],λs=>.agg (s.tm 0),λs=>s.hp 0,SmS⟩
def b2d(s:Sto):Nat->Ann
 |0=>.one {i:Nat//i<=s.fr.length} (λx=>⟨[(1,.ref 0 0 0),(2,.ref 1 0 0),(3,.osl 6 0 x.1),(4,.int .i64 x.1)],[sO [.osl 2 0 s.d.E.length,.osl 3 0 s.d.C.length,.bool s.d.A,.osl 4 0 s.d.keep.length,.int .i64 s.ep,.osl 5 0 s.L.length,.int .i64 s.S,a3D s.fr,.int .i64 s.J],b0Z,A1 s.d.E,C8 s.d.C,x7 s.d.keep,b9 s.L,vL 0 s.fr x.1]⟩) (λx=>s.fr.length-x.1) [.fam 7,.box 0,.box 1,.arr 2,.arr 3,.arr 4,.arr 6,.arr 7] [.box 0,.box 1,.arr 2,.arr 3,.arr 4,.arr 5,.at_ 3] (λ_=>Y5)
 |_=>.none
theorem a8k:GK 136 b3q:=gk Tryz.func136<|by
 rintro(s:Sto) ⟨h1,h2,h3,h4⟩;refine⟨v8 (gC pM (gC eV gN)) Tryz.func136 (b2d s) [[.arr 2,.arr 3,.arr 4,.arr 5,.arr 6]] (α:=let c:=(Y8 Y9 s.d.C s.d.C);let b:=(Y8 Z5 s.d.E s.d.E);let n:=(Y8 Y6 s.d.keep s.d.keep);let m:=(0=0/\0=0);let j:=(0=0/\s.L.length=s.L.length);let w:=(Y2 s.fr);let v:=(0=0/\s.d.C.length=s.d.C.length);let u:=(0=0/\s.d.E.length=s.d.E.length);let z:=(0=0/\s.d.keep.length=s.d.keep.length);let p:=(1=1/\1=1/\Value.slice none 0 0=Value.slice none 0 0/\Value.slice none 0 0=Value.slice none 0 0/\false=false/\Value.slice none 0 0=Value.slice none 0 0/\(0:Int)=0/\Value.slice none 0 0=Value.slice none 0 0/\(0:Int)=0/\Value.slice none 0 0=Value.slice none 0 0/\(0:Int)=0/\True);∃(x:Dsk),(((yM s.d x)/\True)/\nD x)/\(Le 0 0/\W6 0 s.L.length 96)/\(∃(x_1:{i:Nat//i<=s.fr.length}),(m/\m/\(0=0/\0=x_1.val)/\0=(x_1.val:Int)/\True)/\(1=1/\1=1/\(0=0/\x.E.length=s.d.E.length)/\(0=0/\x.C.length=s.d.C.length)/\x.A=s.d.A/\(0=0/\x.keep.length=s.d.keep.length)/\s.ep=s.ep/\(0=0/\0+s.L.length=s.L.length)/\s.S=s.S/\(Y8 X2 s.fr s.fr)/\s.J=s.J/\True)/\p/\(Y8 Z5 x.E s.d.E)/\(Y8 Y9 x.C s.d.C)/\(Y8 Y6 x.keep s.d.keep)/\(0+s.L.length=s.L.length/\Z6 (0+s.L.length) (X3 (λ(k:Nat)=>List.take 10 (List.drop (k*10) [])) 0 (Y3 s.L)) (Y3 s.L))/\(0=0/\0=x_1.val/\T9 0 (λ(k:Nat)=>List.take 5 (List.drop (k*5) [])) w)/\True)/\∀(x:{i:Nat//i<=s.fr.length}),let f:=x.val;let r:=(f:Int);let a:=(r<(s.fr.length:Int));let q:=(s.fr.getD r.toNat dz);(decide a=true->V3 r s.fr.length/\∃(x_1:Pg),let g:=x_1.sl;(((q.pg.Q=x_1.Q/\(Y8 Z5 q.pg.sl g)/\True)/\True)/\g.length<=1048576)/\(Le g.length g.length/\Le x.val f/\W6 x.val 1 56)/\W7 .i64 (r+1)/\∃(y:{i:Nat//i<=s.fr.length}),((m/\m/\(0=0/\f+1=y.val)/\r+1=(y.val:Int)/\True)/\(1=1/\1=1/\u/\v/\s.d.A=s.d.A/\z/\s.ep=s.ep/\j/\s.S=s.S/\(Y8 X2 s.fr s.fr)/\s.J=s.J/\True)/\p/\b/\c/\n/\(Y8 Y3 s.L s.L)/\(0=0/\f+1=y.val/\T9 (f+1) (X3 w x.val λ(x_2:Nat)=>[T.int .i64 q.no,T.int .i64 x_1.Q,T.own 0 1 g.length (Z5 g),T.bool q.D,T.int .i64 q.first]) w)/\True)/\Lt (s.fr.length-y.val) (s.fr.length-f))/\(decide a=false->((u/\v/\s.d.A=s.d.A/\z/\s.ep=s.ep/\j/\s.S=s.S/\(0=0/\f=s.fr.length)/\s.J=s.J/\True)/\True)/\b/\c/\n/\(Y8 Y3 s.L s.L)/\(0=0/\f=s.fr.length/\T9 x.val w w)/\True)) ⟨s.d,⟨⟨uX _,trivial⟩,h1⟩,⟨W4 _,by unfold W6;omega⟩,⟨⟨0,S7 _⟩,⟨Z8,Z8,Z8,Z9⟩,⟨rfl,rfl,Z8,Z8,rfl,Z8,rfl,⟨rfl,by omega⟩,rfl,Z7,Z9⟩,⟨rfl,rfl,rfl,rfl,rfl,rfl,rfl,rfl,rfl,rfl,Z9⟩,Z7,Z7,Z7,⟨by omega,B4⟩,⟨rfl,rfl,λi hi=>absurd hi (J5 _)⟩,trivial⟩,λx=>⟨λhc=> ?_,λhc=> ?_⟩⟩,rfl,pL s 0⟩
 ·have hlt:=X6 hc;rw[F5];exact⟨X8 hlt,(s.fr.getD x.val dz).pg,⟨⟨⟨rfl,X5⟩,trivial⟩,h4 _ hlt⟩,⟨W4 _,W4 _,by unfold W6;omega⟩,Z4 (by omega),⟨x.val+1,hlt⟩,⟨⟨Z8,Z8,Z8,by dsimp only;omega,trivial⟩,⟨rfl,rfl,⟨rfl,rfl⟩,⟨rfl,rfl⟩,rfl,⟨rfl,rfl⟩,rfl,⟨rfl,rfl⟩,rfl,⟨rfl,Z2 _ _⟩,rfl,trivial⟩,⟨rfl,rfl,rfl,rfl,rfl,rfl,rfl,rfl,rfl,rfl,rfl,trivial⟩,⟨rfl,Z2 _ _⟩,⟨rfl,Z2 _ _⟩,⟨rfl,Z2 _ _⟩,⟨rfl,Z2 _ _⟩,⟨rfl,rfl,a54⟩,trivial⟩,V1.ext_lt hlt⟩
 ·have hx:x.val=s.fr.length:=by have:=x.2;have:=X4 hc;omega
  rw[hx];exact⟨⟨⟨Z8,Z8,rfl,Z8,rfl,Z8,rfl,Z8,Z9⟩,trivial⟩,Z7,Z7,Z7,Z7,Q2,trivial⟩
end Go.Proofs.YtghgljelnhfihaaGreat

namespace Go.Proofs.YtghgljelnhfihaaGreat
open Go.SS

def Frm.tm(f:Frm)(b:Nat):List T:=[.int .i64 f.no,.int .i64 f.pg.Q,.osl b 0 f.pg.sl.length,.bool f.D,.int .i64 f.first]
end Go.Proofs.YtghgljelnhfihaaGreat

namespace Go.Proofs.YtghgljelnhfihaaGreat
open Go.SS

theorem b2I{a b:Nat}(h:a≠b):Nat.beq a b=false:=by
 cases hb:Nat.beq a b with
 |false=>rfl
 |true=>exact absurd (G3 hb) h
theorem lF{a b:Nat}(h:a=b):Nat.beq a b=true:=by subst h;exact Nat.beq_refl a
theorem b6X{α:Type}(f:Nat->α){n i:Nat}(h:i<n)(d:α):((List.range n).map f).getD i d=f i:=by
 rw[P8,pN,List.getElem?_range h]
 rfl
end Go.Proofs.YtghgljelnhfihaaGreat

namespace Go.Proofs.YtghgljelnhfihaaGreat
open Go.SS

theorem M8{row:Nat->List T}{i j k:Nat}{cs:List T}(h:j+cs.length<=(row k).length)(hk:k≠i):setRow row i j cs k=row k:=by
 rw[o8 h,b2I hk]
theorem lP{row:Nat->List T}{i j:Nat}{t:T}(h:j<(row i).length):setRow row i j [t] i=(row i).set j t:=by
 rw[o8 (by simp;omega),lF rfl]
 rw[List.set_eq_take_append_cons_drop,if_pos h];simp
end Go.Proofs.YtghgljelnhfihaaGreat

namespace Go.Proofs.YtghgljelnhfihaaGreat
open Go.SS

def c1c(ln:Nat->Nat)(k:Nat):Nat->Nat
 |0=>k
 |i+1=>c1c ln k i+(ln i+4)
def c1Z(L:List Frm)(i:Nat):Nat:=(L.getD i dz).pg.sl.length
def c2g(d:Dsk)(k:Nat):Nat:=k+d.E.length+2*d.C.length+d.keep.length
def gI(s:Sto)(k:Nat):Nat:=c1c (c1Z s.fr) (c2g s.d k+10*s.L.length) s.fr.length
end Go.Proofs.YtghgljelnhfihaaGreat

