/- A part of the proof. -/
import Derived.Test.YtokaojbaacnngaaGreatF0F1F2
namespace Go.Proofs.YtokaojbaacnngaaGreat
set_option maxRecDepth 100000
open Go.SS

theorem D0:J0 []:=λk ob h=>by simp[Z1] at h
theorem G9{o:Ob}{H:Y3}(h:cX o)(k:J0 H):J0 (some o::H):=λi ob hi=>by
 cases i with
 |zero=>
  simp only[Z1,List.getElem?_cons_zero,Option.bind_some,id,X1] at hi
  rw[←hi];exact h
 |succ i=>exact k i ob (by simpa[Z1] using hi)
theorem D1{row row':Nat->List T}{n:Nat}:Z6 (0+n) (W6 row 0 row') row':=λi _=>rfl
def I8(L:List Pend):Option Ob:=some (.arr true 0 2 L.length (Z3 L))
def A5(L:List Int):Option Ob:=some (.arr true 0 1 L.length (Y9 L))
def v6(L:List Rec):Option Ob:=some (.arr true 0 10 L.length (Y7 L))
theorem G2(L:List (List UInt8)):J0 [G0 L]:=G9 (λi _ t ht=>by simp only[Z5,List.mem_singleton] at ht;rw[ht];rfl) D0
theorem tK(L:List Pend):J0 [I8 L]:=G9 (λi _ t ht=>by
 simp only[Z3,Pend.ts,vN,j_i,or_false] at ht;rcases ht with rfl|rfl<;>rfl) D0
theorem qR(L:List Int):J0 [A5 L]:=G9 (λi _ t ht=>by simp only[Y9,List.mem_singleton] at ht;rw[ht];rfl) D0
theorem uN(L:List Rec):J0 [v6 L]:=G9 (λi _ t ht=>by
 simp only[Y7,Rec.ts,vN,j_i,or_false] at ht;rcases ht with rfl|rfl|rfl|rfl|rfl|rfl|rfl|rfl|rfl|rfl<;>rfl) D0
def b53:Con:=.rmk ⟨List (List UInt8),λL=>[C0 L],λ_=>[],λL=>.osl 0 0 L.length,λL=>[G0 L],λL=>L.length<=1048576⟩
theorem b5j(L:List (List UInt8))(h:
  ∀(b:Bool),(b=true->L.length=0)->(b=true->((0=0/\0=L.length)/\True)/\(0=L.length/\Z6 0 (λ(x:Nat)=>[]) (Z5 L))/\True)/\(b=false->(Le 0 0/\V6 0 L.length 16)/\((0=0/\0+L.length=
  L.length)/\True)/\(0+L.length=L.length/\Z6 (0+L.length) (W6 (λ(k:Nat)=>List.take 1 (List.drop (k*1) [])) 0 (Z5 L)) (Z5 L))/\True)):
  B1 Tryz.prog 225 [C0 L] [] (.osl 0 0 L.length) [G0 L]:=
 C4 gN Tryz.func225 Z0 [[.arr 1],[.nilS 0 [] 0 1,.arr 0]] h
theorem a0P:GK 225 b53:=gk Tryz.func225<|λ(L:List (List UInt8)) (hL:L.length<=1048576)=>
 ⟨b5j L (λb hb=>⟨λh=>⟨⟨⟨rfl,(hb h).symm⟩,trivial⟩,⟨(hb h).symm,λi hi=>absurd hi (F2 _)⟩,trivial⟩,λ_=>⟨⟨V2 _,by unfold V6;omega⟩,⟨⟨rfl,by omega⟩,trivial⟩,⟨by omega,D1⟩,trivial⟩⟩),rfl,G2 L⟩
def b1r:Con:=.rmk ⟨List Pend,λL=>[C8 L],λ_=>[],λL=>.osl 0 0 L.length,λL=>[I8 L],λL=>L.length<=1048576⟩
theorem a9w(L:List Pend)(h:
  ∀(b:Bool),(b=true->L.length=0)->(b=true->((0=0/\0=L.length)/\True)/\(0=L.length/\Z6 0 (λ(x:Nat)=>[]) (Z3 L))/\True)/\(b=false->(Le 0 0/\V6 0 L.length 24)/\((0=0/\0+L.length=
  L.length)/\True)/\(0+L.length=L.length/\Z6 (0+L.length) (W6 (λ(k:Nat)=>List.take 2 (List.drop (k*2) [])) 0 (Z3 L)) (Z3 L))/\True)):
  B1 Tryz.prog 226 [C8 L] [] (.osl 0 0 L.length) [I8 L]:=
 C4 gN Tryz.func226 Z0 [[.arr 1],[.nilS 0 [] 0 2,.arr 0]] h
theorem a6B:GK 226 b1r:=gk Tryz.func226<|λ(L:List Pend) (hL:L.length<=1048576)=>
 ⟨a9w L (λb hb=>⟨λh=>⟨⟨⟨rfl,(hb h).symm⟩,trivial⟩,⟨(hb h).symm,λi hi=>absurd hi (F2 _)⟩,trivial⟩,λ_=>⟨⟨V2 _,by unfold V6;omega⟩,⟨⟨rfl,by omega⟩,trivial⟩,⟨by omega,D1⟩,trivial⟩⟩),rfl,tK L⟩
def b3z:Con:=.rmk ⟨List Int,λL=>[wE L],λ_=>[],λL=>.osl 0 0 L.length,λL=>[A5 L],λL=>L.length<=1048576⟩
theorem b4G(L:List Int)(h:
  ∀(b:Bool),(b=true->L.length=0)->(b=true->((0=0/\0=L.length)/\True)/\(0=L.length/\Z6 0 (λ(x:Nat)=>[]) (Y9 L))/\True)/\(b=false->(Le 0 0/\V6 0 L.length 8)/\((0=0/\0+L.length=
  L.length)/\True)/\(0+L.length=L.length/\Z6 (0+L.length) (W6 (λ(k:Nat)=>List.take 1 (List.drop (k*1) [])) 0 (Y9 L)) (Y9 L))/\True)):
  B1 Tryz.prog 92 [wE L] [] (.osl 0 0 L.length) [A5 L]:=
 C4 gN Tryz.func92 Z0 [[.arr 1],[.nilS 0 [] 0 1,.arr 0]] h
theorem aX:GK 92 b3z:=gk Tryz.func92<|λ(L:List Int) (hL:L.length<=1048576)=>
 ⟨b4G L (λb hb=>⟨λh=>⟨⟨⟨rfl,(hb h).symm⟩,trivial⟩,⟨(hb h).symm,λi hi=>absurd hi (F2 _)⟩,trivial⟩,λ_=>⟨⟨V2 _,by unfold V6;omega⟩,⟨⟨rfl,by omega⟩,trivial⟩,⟨by omega,D1⟩,trivial⟩⟩),rfl,qR L⟩
def b4h:Con:=.rmk ⟨List Rec,λL=>[o5 L],λ_=>[],λL=>.osl 0 0 L.length,λL=>[v6 L],λL=>L.length<=1048576⟩
theorem b5Z(L:List Rec)(h:
  ∀(b:Bool),(b=true->L.length=0)->(b=true->((0=0/\0=L.length)/\True)/\(0=L.length/\Z6 0 (λ(x:Nat)=>[]) (Y7 L))/\True)/\(b=false->(Le 0 0/\V6 0 L.length 96)/\((0=0/\0+L.length=
  L.length)/\True)/\(0+L.length=L.length/\Z6 (0+L.length) (W6 (λ(k:Nat)=>List.take 10 (List.drop (k*10) [])) 0 (Y7 L)) (Y7 L))/\True)):
  B1 Tryz.prog 163 [o5 L] [] (.osl 0 0 L.length) [v6 L]:=
 C4 gN Tryz.func163 Z0 [[.arr 1],[.nilS 0 [] 0 10,.arr 0]] h
theorem b2c:GK 163 b4h:=gk Tryz.func163<|λ(L:List Rec) (hL:L.length<=1048576)=>
 ⟨b5Z L (λb hb=>⟨λh=>⟨⟨⟨rfl,(hb h).symm⟩,trivial⟩,⟨(hb h).symm,λi hi=>absurd hi (F2 _)⟩,trivial⟩,λ_=>⟨⟨V2 _,by unfold V6;omega⟩,⟨⟨rfl,by omega⟩,trivial⟩,⟨by omega,D1⟩,trivial⟩⟩),rfl,uN L⟩
def Dsk.tm(d:Dsk)(b:Nat):List T:=[.osl b 0 d.sec.length,.osl (b+1) 0 d.cache.length,.bool d.armed,.osl (b+2) 0 d.keep.length]
def Dsk.hp(d:Dsk):Y3:=[G0 d.sec,I8 d.cache,A5 d.keep]
theorem v8{H K:Y3}(h:J0 H)(k:J0 K):J0 (H++K):=λi ob hi=>by
 unfold Z1 at hi;rw[List.getElem?_append] at hi
 split at hi
 ·exact h i ob hi
 ·exact k _ ob hi
theorem uT(d:Dsk):J0 d.hp:=v8 (G2 _) (v8 (tK _) (qR _))
def b3J:Con:=.rmk ⟨Dsk,λd=>[.agg d.ts],λ_=>[],λd=>.agg (d.tm 0),λd=>d.hp,sQ⟩
theorem b15:GK 162 b3J:=gk Tryz.func162<|by
 rintro(d:Dsk) ⟨h1,h2,h3⟩;exact⟨C4 (gC a0P (gC a6B (gC aX gN))) Tryz.func162 Z0 [[.arr 2,.arr 3,.arr 4]] (α:=∃(x:(List (List UInt8))),(((d.sec.length=List.length x/\Z6 d.sec.length (Z5 d.sec) (Z5 x))/\True)/\List.length x<=1048576)/\∃(x_1:(List Pend)),(((d.cache.length=List.length x_1/\Z6 d.cache.length (Z3 d.cache) (Z3 x_1))/\True)/\List.length x_1<=1048576)/\∃(x_2:(List Int)),(((d.keep.length=List.length x_2/\Z6 d.keep.length (Y9 d.keep) (Y9 x_2))/\True)/\List.length x_2<=1048576)/\(((0=0/\List.length x=d.sec.length)/\(0=0/\List.length x_1=d.cache.length)/\d.armed=d.armed/\(0=0/\List.length x_2=d.keep.length)/\True)/\True)/\(List.length x=d.sec.length/\Z6 (List.length x) (Z5 x) (Z5 d.sec))/\(List.length x_1=d.cache.length/\Z6 (List.length x_1) (Z3 x_1) (Z3 d.cache))/\(List.length x_2=d.keep.length/\Z6 (List.length x_2) (Y9 x_2) (Y9 d.keep))/\True) ⟨d.sec,⟨X8,h1⟩,d.cache,⟨X8,h2⟩,d.keep,⟨X8,h3⟩,⟨⟨Z7,Z7,rfl,T2⟩,trivial⟩,Z8,Z8,X8⟩,rfl,uT d⟩
def Pg.tm(p:Pg)(b:Nat):List T:=[.int .i64 p.lsn,.osl b 0 p.sl.length]
def b8K:Con:=.rmk ⟨Pg,λp=>[.agg p.ts],λ_=>[],λp=>.agg (p.tm 0),λp=>[G0 p.sl],λp=>p.sl.length<=1048576⟩
theorem b4u:GK 164 b8K:=gk Tryz.func164<|by
 intro(p:Pg) (h1:p.sl.length<=1048576);exact⟨C4 (gC a0P gN) Tryz.func164 Z0 [[.arr 2]] (α:=∃(x:(List (List UInt8))),(((p.sl.length=List.length x/\Z6 p.sl.length (Z5 p.sl) (Z5 x))/\True)/\List.length x<=1048576)/\((p.lsn=p.lsn/\(0=0/\List.length x=p.sl.length)/\True)/\True)/\(List.length x=p.sl.length/\Z6 (List.length x) (Z5 x) (Z5 p.sl))/\True) ⟨p.sl,⟨X8,h1⟩,⟨⟨rfl,T2⟩,trivial⟩,X8⟩,rfl,G2 _⟩
def Y8(L:List Frm)(i:Nat):List T:=[.int .i64 (L.getD i default).no,.int .i64 (L.getD i default).pg.lsn,.own 0 1 (L.getD i default).pg.sl.length (Z5 (L.getD i default).pg.sl),.bool (L.getD i default).dirty,.int .i64 (L.getD i default).first]
def zS(v:Nat)(L:List Frm)(n:Nat):Option Ob:=some (.fam v 0 5 n (Y8 L))
def Sto.tm(s:Sto)(b:Nat):List T:=[.osl b 0 s.d.sec.length,.osl (b+1) 0 s.d.cache.length,.bool s.d.armed,.osl (b+2) 0 s.d.keep.length,.int .i64 s.ep,.osl (b+3) 0 s.log.length,.int .i64 s.sure,.osl (b+4) 0 s.fr.length,.int .i64 s.hand]
def Sto.hp(s:Sto)(v:Nat):Y3:=[G0 s.d.sec,I8 s.d.cache,A5 s.d.keep,v6 s.log,zS v s.fr s.fr.length]
def b9S:List T:=[.v (.slice none 0 0),.v (.slice none 0 0),.bool false,.v (.slice none 0 0),.int .i64 0,.v (.slice none 0 0),.int .i64 0,.v (.slice none 0 0),.int .i64 0]
def a90:Option Ob:=some (.arr true 1000000 9 1 λ_=>b9S)
def uG(l:List T):Option Ob:=some (.arr false 1000000 9 1 λ_=>l)
abbrev EqF(a b:Sto):Prop:=Y5 Z5 a.d.sec b.d.sec/\Y5 Z3 a.d.cache b.d.cache/\a.d.armed=b.d.armed/\Y5 Y9 a.d.keep b.d.keep/\a.ep=b.ep/\Y5 Y7 a.log b.log/\a.sure=b.sure/\(a.fr.length=b.fr.length/\Z6 a.fr.length (fI (Y8 a.fr)) (X3 b.fr))/\a.hand=b.hand/\True
abbrev pV(a b:Sto):Prop:=((0:Nat)=0/\a.d.sec.length=b.d.sec.length)/\((0:Nat)=0/\a.d.cache.length=b.d.cache.length)/\a.d.armed=b.d.armed/\((0:Nat)=0/\a.d.keep.length=b.d.keep.length)/\a.ep=b.ep/\((0:Nat)=0/\a.log.length=b.log.length)/\a.sure=b.sure/\((0:Nat)=0/\a.fr.length=b.fr.length)/\a.hand=b.hand/\True
abbrev EqH(v u:Nat)(a b:Sto):Prop:=Y5 Z5 a.d.sec b.d.sec/\Y5 Z3 a.d.cache b.d.cache/\Y5 Y9 a.d.keep b.d.keep/\Y5 Y7 a.log b.log/\(v=u/\a.fr.length=b.fr.length/\U9 a.fr.length (Y8 a.fr) (Y8 b.fr))/\True
abbrev LeS(a:Sto):Prop:=Le (0+a.d.sec.length) a.d.sec.length/\Le (0+a.d.cache.length) a.d.cache.length/\Le (0+a.d.keep.length) a.d.keep.length/\Le (0+a.log.length) a.log.length/\Le (0+a.fr.length) a.fr.length
abbrev EqR(a b:Rec):Prop:=a.e=b.e/\a.l=b.l/\a.t=b.t/\a.k=b.k/\a.p=b.p/\a.n=b.n/\a.g=b.g/\a.s=b.s/\a.b=b.b/\a.a=b.a/\True
theorem S5{L:List Frm}(n:Nat):U9 n (Y8 L) (Y8 L):=λi _=>by
 refine⟨?_,?_,⟨rfl,rfl,Z2 _ _⟩,?_,?_,trivial⟩<;>rfl
theorem S2{q r:Sort _}{v:q}{a:r}{n:Nat}{L:List Frm}:v=v/\a=a/\U9 n (Y8 L) (Y8 L):=⟨rfl,rfl,S5 _⟩
theorem lW{i n:Nat}(h:i<n):Nat.blt i n=true:=Nat.ble_eq_true_of_le h
theorem a1h{i n:Nat}(h:¬i<n):Nat.blt i n=false:=by
 cases hb:Nat.blt i n with
 |false=>rfl
 |true=>exact absurd (m5 hb) h
theorem a4A{L:List Frm}{i:Nat}:U9 (i+1) (W6 (Y8 L) i λ_=>Y8 L i) (Y8 L):=λj hj=>by
 have:W6 (Y8 L) i (λ_=>Y8 L i) j=Y8 L j:=by
  unfold W6;by_cases hji:j<i
  ·rw[lW hji]
  ·rw[a1h hji,show i=j by omega]
 rw[this];exact S5 (j+1) j (Nat.lt_succ_self j)
theorem iJ(v:Nat)(L:List Frm)(n:Nat):J0 [zS v L n]:=G9 (λi _ t ht=>by
 simp only[Y8,vN,j_i,or_false] at ht;rcases ht with rfl|rfl|rfl|rfl|rfl
 ·rfl
 ·rfl
 ·intro j _ t ht;simp only[Z5,List.mem_singleton] at ht;rw[ht];rfl
 ·rfl
 ·rfl) D0
theorem vB(s:Sto)(v:Nat):J0 (s.hp v):=v8 (H:=s.d.hp) (uT _) (v8 (uN _) (iJ _ _ _))
theorem qQ:∀l:List T,b1v l l
 | []=>trivial
 |a::r=>⟨by cases a<;>first|rfl|exact⟨rfl,rfl,Z2 _ _⟩,qQ r⟩
theorem xC{n:Nat}{f g:Nat->List T}(h:∀i,i<n->f i=g i):U9 n f g:=λi hi=>by rw[h i hi];exact qQ _
def b5v:Con:=.rmk ⟨Sto,λs=>[.agg s.ts],λ_=>[],λs=>.agg (s.tm 0),λs=>s.hp 0,mP⟩
def b4n(s:Sto):Nat->Ann
 |0=>.one {i:Nat//i<=s.fr.length} (λx=>⟨[(1,.ref 0 0 0),(2,.ref 1 0 0),(17,wL s.fr),(18,.int .i64 s.fr.length),(19,.int .i64 x.1)],[uG [.osl 2 0 s.d.sec.length,.osl 3 0 s.d.cache.length,.bool s.d.armed,.osl 4 0 s.d.keep.length,.int .i64 s.ep,.osl 5 0 s.log.length,.int .i64 s.sure,.osl 6 0 x.1,.int .i64 s.hand],a90,G0 s.d.sec,I8 s.d.cache,A5 s.d.keep,v6 s.log,zS 0 s.fr x.1]⟩) (λx=>s.fr.length-x.1) [.nilC 0 7 0 5,.fam 6,.box 0,.box 1,.arr 2,.arr 3,.arr 4,.arr 5,.arr 6] [.box 0,.box 1,.arr 2,.arr 3,.arr 4,.arr 5,.at_ 31] (λ_=>Z0)
 |_=>.none
theorem b2b:GK 89 b5v:=gk Tryz.func89<|by
 rintro(s:Sto) ⟨h1,h2,h3,h4⟩;refine⟨C4 (gC b15 (gC b2c (gC b4u gN))) Tryz.func89 (b4n s) [[.arr 2,.arr 3,.arr 4,.arr 5,.arr 6]] (α:=∃(x:Dsk),(((k4 s.d x)/\True)/\sQ x)/\∃(x_1:(List Rec)),(((s.log.length=List.length x_1/\Z6 s.log.length (Y7 s.log) (Y7 x_1))/\True)/\List.length x_1<=1048576)/\(∃(x_2:{i:Nat//i<=s.fr.length}),((0=0/\0=0)/\(0=0/\0=0)/\(Y5 X3 s.fr s.fr)/\(s.fr.length:Int)=(s.fr.length:Int)/\(0:Int)=(x_2.val:Int)/\True)/\(1=1/\1=1/\(0=0/\x.sec.length=s.d.sec.length)/\(0=0/\x.cache.length=s.d.cache.length)/\x.armed=s.d.armed/\(0=0/\x.keep.length=s.d.keep.length)/\s.ep=s.ep/\(0=0/\List.length x_1=s.log.length)/\s.sure=s.sure/\(0=0/\0=x_2.val)/\s.hand=s.hand/\True)/\(1=1/\1=1/\Value.slice none 0 0=Value.slice none 0 0/\Value.slice none 0 0=Value.slice none 0 0/\false=false/\Value.slice none 0 0=Value.slice none 0 0/\(0:Int)=(0:Int)/\Value.slice none 0 0=Value.slice none 0 0/\(0:Int)=(0:Int)/\Value.slice none 0 0=Value.slice none 0 0/\(0:Int)=(0:Int)/\True)/\(Y5 Z5 x.sec s.d.sec)/\(Y5 Z3 x.cache s.d.cache)/\(Y5 Y9 x.keep s.d.keep)/\(List.length x_1=s.log.length/\Z6 (List.length x_1) (Y7 x_1) (Y7 s.log))/\(0=0/\0=x_2.val/\U9 0 (λ(x:Nat)=>[]) (Y8 s.fr))/\True)/\∀(x:{i:Nat//i<=s.fr.length}),(decide ((x.val:Int)<(s.fr.length:Int))=true->W4 (x.val:Int) s.fr.length/\∃(x_2:Pg),((((s.fr.getD (x.val:Int).toNat default).pg.lsn=x_2.lsn/\(Y5 Z5 (s.fr.getD (x.val:Int).toNat default).pg.sl x_2.sl)/\True)/\True)/\x_2.sl.length<=1048576)/\(Le x_2.sl.length x_2.sl.length/\Le x.val x.val/\V6 x.val 1 56)/\X4 .i64 ((x.val:Int)+(1:Int))/\∃(y:{i:Nat//i<=s.fr.length}),(((0=0/\0=0)/\(0=0/\0=0)/\(Y5 X3 s.fr s.fr)/\(s.fr.length:Int)=(s.fr.length:Int)/\(x.val:Int)+(1:Int)=(y.val:Int)/\True)/\(1=1/\1=1/\(0=0/\s.d.sec.length=s.d.sec.length)/\(0=0/\s.d.cache.length=s.d.cache.length)/\s.d.armed=s.d.armed/\(0=0/\s.d.keep.length=s.d.keep.length)/\s.ep=s.ep/\(0=0/\s.log.length=s.log.length)/\s.sure=s.sure/\(0=0/\x.val+1=y.val)/\s.hand=s.hand/\True)/\(1=1/\1=1/\Value.slice none 0 0=Value.slice none 0 0/\Value.slice none 0 0=Value.slice none 0 0/\false=false/\Value.slice none 0 0=Value.slice none 0 0/\(0:Int)=(0:Int)/\Value.slice none 0 0=Value.slice none 0 0/\(0:Int)=(0:Int)/\Value.slice none 0 0=Value.slice none 0 0/\(0:Int)=(0:Int)/\True)/\(Y5 Z5 s.d.sec s.d.sec)/\(Y5 Z3 s.d.cache s.d.cache)/\(Y5 Y9 s.d.keep s.d.keep)/\(Y5 Y7 s.log s.log)/\(0=0/\x.val+1=y.val/\U9 (x.val+1) (W6 (Y8 s.fr) x.val λ(x_3:Nat)=>[T.int .i64 (s.fr.getD (x.val:Int).toNat default).no,T.int .i64 x_2.lsn,T.own 0 1 x_2.sl.length (Z5 x_2.sl),T.bool (s.fr.getD (x.val:Int).toNat default).dirty,T.int .i64 (s.fr.getD (x.val:Int).toNat default).first]) (Y8 s.fr))/\True)/\Lt (s.fr.length-y.val) (s.fr.length-x.val))/\(decide ((x.val:Int)<(s.fr.length:Int))=false->(((0=0/\s.d.sec.length=s.d.sec.length)/\(0=0/\s.d.cache.length=s.d.cache.length)/\s.d.armed=s.d.armed/\(0=0/\s.d.keep.length=s.d.keep.length)/\s.ep=s.ep/\(0=0/\s.log.length=s.log.length)/\s.sure=s.sure/\(0=0/\x.val=s.fr.length)/\s.hand=s.hand/\True)/\True)/\(Y5 Z5 s.d.sec s.d.sec)/\(Y5 Z3 s.d.cache s.d.cache)/\(Y5 Y9 s.d.keep s.d.keep)/\(Y5 Y7 s.log s.log)/\(0=0/\x.val=s.fr.length/\U9 x.val (Y8 s.fr) (Y8 s.fr))/\True)) ⟨s.d,⟨⟨xN _,trivial⟩,h1⟩,s.log,⟨X8,h2⟩,⟨⟨0,S7 _⟩,⟨Z7,Z7,Z8,rfl,Z9⟩,⟨rfl,rfl,Z7,Z7,rfl,Z7,rfl,Z7,rfl,Z7,Z9⟩,⟨rfl,rfl,rfl,rfl,rfl,rfl,rfl,rfl,rfl,rfl,Z9⟩,Z8,Z8,Z8,Z8,⟨rfl,rfl,λi hi=>absurd hi (F2 _)⟩,trivial⟩,λx=>⟨λhc=> ?_,λhc=> ?_⟩⟩,rfl,?_⟩
 ·have hlt:=Y1 hc;rw[u9];exact⟨Y2 hlt,(s.fr.getD x.val default).pg,⟨⟨⟨rfl,X8⟩,trivial⟩,h4 _ hlt⟩,⟨V2 _,V2 _,by unfold V6;omega⟩,Z4 (by omega),⟨x.val+1,hlt⟩,⟨⟨Z7,Z7,Z8,rfl,by dsimp only;omega,trivial⟩,⟨rfl,rfl,⟨rfl,rfl⟩,⟨rfl,rfl⟩,rfl,⟨rfl,rfl⟩,rfl,⟨rfl,rfl⟩,rfl,⟨rfl,rfl⟩,rfl,trivial⟩,⟨rfl,rfl,rfl,rfl,rfl,rfl,rfl,rfl,rfl,rfl,rfl,trivial⟩,⟨rfl,Z2 _ _⟩,⟨rfl,Z2 _ _⟩,⟨rfl,Z2 _ _⟩,⟨rfl,Z2 _ _⟩,⟨rfl,rfl,a4A⟩,trivial⟩,V4.ext_lt hlt⟩
 ·have hx:x.val=s.fr.length:=by have:=x.2;have:=X9 hc;omega
  rw[hx];exact⟨⟨⟨Z7,Z7,rfl,Z7,rfl,Z7,rfl,Z7,Z9⟩,trivial⟩,Z8,Z8,Z8,Z8,S2,trivial⟩
 ·exact vB s 0
end Go.Proofs.YtokaojbaacnngaaGreat

namespace Go.Proofs.YtokaojbaacnngaaGreat
set_option maxRecDepth 100000
open Go.SS

def Sto.tn(s:Sto)(a b c d e:Nat):List T:=[.osl a 0 s.d.sec.length,.osl b 0 s.d.cache.length,.bool s.d.armed,.osl c 0 s.d.keep.length,.int .i64 s.ep,.osl d 0 s.log.length,.int .i64 s.sure,.osl e 0 s.fr.length,.int .i64 s.hand]
def Sto.bx(s:Sto)(v:Nat):Y3:=[uG (s.tn 1 2 3 4 5),G0 s.d.sec,I8 s.d.cache,A5 s.d.keep,v6 s.log,zS v s.fr s.fr.length]
def Sto.bxL(s:Sto)(v:Nat):Y3:=[uG (s.tn 1 2 3 6 5),G0 s.d.sec,I8 s.d.cache,A5 s.d.keep,none,zS v s.fr s.fr.length,v6 s.log]
def I3(s:Sto)(r:Rec):Rec:=⟨s.ep,(s.log.length:Int)+1,r.t,r.k,r.p,r.n,r.g,r.s,r.b,r.a⟩
noncomputable def R9(s:Sto)(r:Rec):Sto:=if R2 (I3 s r)=true then{s with log:=s.log++[I3 s r]} else s
def SmR(r:Rec):Prop:=r.b.length<=1048576/\r.a.length<=1048576
noncomputable def a1r:Rle:=⟨Sto×Rec×Nat,λx=>[.ref 0 0 0,.agg x.2.1.ts],λx=>x.1.bx x.2.2,λx=>.bool (R2 (I3 x.1 x.2.1)),λx=>(R9 x.1 x.2.1).bxL x.2.2,λx=>x.1.log.length<=60/\SmR x.2.1⟩
noncomputable def a9m:Con:=.reff a1r
theorem oN(L:List Rec)(r:Rec):Z6 (L.length+1) (W6 (Y7 L) L.length λk=>List.take 10 (List.drop (k*10) r.ts)) (Y7 (L++[r])):=by
 intro i hi;unfold W6 Y7;by_cases h:i<L.length
 ·rw[lW h,L5,L5,oX h]
 ·have:i=L.length:=by omega
  subst this;rw[a1h h];have:(L++[r]).getD L.length default=r:=by rw[L5,iA (V2 _)];simp
  rw[this];simp[Rec.ts]
theorem qZ:GK 129 a9m:=gk Tryz.func129<|by
 rintro⟨s,r,v⟩ ⟨h2,h3,h4⟩;dsimp only at h2 h3 h4;refine C4 (gC wY gN) Tryz.func129 Z0 [[.box 0,.arr 1,.arr 2,.arr 3,.arr 4,.arr 5,.arr 8],[.box 0,.arr 1,.arr 2,.arr 3,.arr 4,.arr 5,.arr 4]] (α:=X4 .i64 ((s.log.length:Int)+(1:Int))/\a7p r.a/\((!R2 (Rec.mk s.ep ((s.log.length:Int)+(1:Int)) r.t r.k r.p r.n r.g r.s r.b r.a))=true->(false=R2 (I3 s r)/\True)/\(1=1/\1=1/\pV s (R9 s r))/\(Y5 Z5 s.d.sec (R9 s r).d.sec)/\(Y5 Z3 s.d.cache (R9 s r).d.cache)/\(Y5 Y9 s.d.keep (R9 s r).d.keep)/\True/\(v=v/\s.fr.length=(R9 s r).fr.length/\U9 s.fr.length (Y8 s.fr) (Y8 (R9 s r).fr))/\(Y5 Y7 s.log (R9 s r).log)/\True)/\((!R2 (Rec.mk s.ep ((s.log.length:Int)+(1:Int)) r.t r.k r.p r.n r.g r.s r.b r.a))=false->(Le 1 1/\Le s.log.length s.log.length/\V6 s.log.length 1 96)/\(true=R2 (I3 s r)/\True)/\(1=1/\1=1/\(0=0/\s.d.sec.length=(R9 s r).d.sec.length)/\(0=0/\s.d.cache.length=(R9 s r).d.cache.length)/\s.d.armed=(R9 s r).d.armed/\(0=0/\s.d.keep.length=(R9 s r).d.keep.length)/\s.ep=(R9 s r).ep/\(0=0/\s.log.length+1=(R9 s r).log.length)/\s.sure=(R9 s r).sure/\(0=0/\s.fr.length=(R9 s r).fr.length)/\s.hand=(R9 s r).hand/\True)/\(Y5 Z5 s.d.sec (R9 s r).d.sec)/\(Y5 Z3 s.d.cache (R9 s r).d.cache)/\(Y5 Y9 s.d.keep (R9 s r).d.keep)/\True/\(v=v/\s.fr.length=(R9 s r).fr.length/\U9 s.fr.length (Y8 s.fr) (Y8 (R9 s r).fr))/\(s.log.length+1=(R9 s r).log.length/\Z6 (s.log.length+1) (W6 (Y7 s.log) s.log.length λ(k:Nat)=>List.take 10 (List.drop (k*10) [T.int .i64 s.ep,T.int .i64 ((s.log.length:Int)+(1:Int)),T.int .i64 r.t,T.int .i64 r.k,T.int .i64 r.p,T.int .i64 r.n,T.int .i64 r.g,T.int .i64 r.s,T.str r.b,T.str r.a])) (Y7 (R9 s r).log))/\True)) ⟨Z4 (by omega),by unfold a7p;omega,λh=> ?_,λh=> ?_⟩
 ·have hr:R2 (I3 s r)=false:=by simpa[I3] using h
  have e:R9 s r=s:=by unfold R9;rw[if_neg (by rw[hr];simp)]
  rw[e,hr];exact⟨Z9,⟨rfl,rfl,Z7,Z7,rfl,Z7,rfl,Z7,rfl,Z7,Z9⟩,Z8,Z8,Z8,trivial,S2,X8⟩
 ·have hr:R2 (I3 s r)=true:=by simpa[I3] using h
  have e:R9 s r={s with log:=s.log++[I3 s r]}:=by unfold R9;rw[if_pos hr]
  rw[e,hr];have hl:s.log.length+1=(s.log++[I3 s r]).length:=by simp
  exact⟨⟨V2 _,V2 _,by unfold V6;omega⟩,Z9,⟨rfl,rfl,Z7,Z7,rfl,Z7,rfl,⟨rfl,hl⟩,rfl,Z7,Z9⟩,Z8,Z8,Z8,trivial,S2,⟨hl,oN s.log (I3 s r)⟩,trivial⟩
def b9T:Sto:=⟨⟨[],[],false,[]⟩,0,[],0,[],0⟩
theorem U0(n:Nat):Le (0+n) n:=Nat.le_of_eq (C3 n)
theorem U5{row row':Nat->List T}:Z6 0 row row':=λi hi=>absurd hi (F2 _)
end Go.Proofs.YtokaojbaacnngaaGreat

namespace Go.Proofs.YtokaojbaacnngaaGreat
set_option maxRecDepth 100000
open Go.SS

def b2y:Con:=.rmk ⟨Dsk,λd=>[.agg d.ts],λ_=>[],λd=>.agg (d.tm 0),λd=>d.hp,sQ⟩
theorem qU:GK 78 b2y:=gk Tryz.func78<|by
 rintro(d:Dsk) ⟨h1,h2,h3⟩;exact⟨C4 gN Tryz.func78 Z0 [[.arr 3,.arr 5,.arr 7]] (α:=(Le 0 0/\V6 0 d.sec.length 16)/\(Le 0 0/\V6 0 d.cache.length 24)/\(Le 0 0/\V6 0 d.keep.length 8)/\(((0=0/\0+d.sec.length=d.sec.length)/\(0=0/\0+d.cache.length=d.cache.length)/\d.armed=d.armed/\(0=0/\0+d.keep.length=d.keep.length)/\True)/\True)/\(0+d.sec.length=d.sec.length/\Z6 (0+d.sec.length) (W6 (λ(k:Nat)=>List.take 1 (List.drop (k*1) [])) 0 (Z5 d.sec)) (Z5 d.sec))/\(0+d.cache.length=d.cache.length/\Z6 (0+d.cache.length) (W6 (λ(k:Nat)=>List.take 2 (List.drop (k*2) [])) 0 (Z3 d.cache)) (Z3 d.cache))/\(0+d.keep.length=d.keep.length/\Z6 (0+d.keep.length) (W6 (λ(k:Nat)=>List.take 1 (List.drop (k*1) [])) 0 (Y9 d.keep)) (Y9 d.keep))/\True) ⟨⟨V2 _,by unfold V6;omega⟩,⟨V2 _,by unfold V6;omega⟩,⟨V2 _,by unfold V6;omega⟩,⟨⟨⟨rfl,by omega⟩,⟨rfl,by omega⟩,rfl,⟨rfl,by omega⟩,trivial⟩,trivial⟩,⟨by omega,D1⟩,⟨by omega,D1⟩,⟨by omega,D1⟩,trivial⟩,rfl,uT d⟩
def a91:Con:=.rmk ⟨Pg,λp=>[.agg p.ts],λ_=>[],λp=>.agg (p.tm 0),λp=>[G0 p.sl],λp=>p.sl.length<=1048576⟩
theorem iY:GK 144 a91:=gk Tryz.func144<|by
 intro(p:Pg) (h1:p.sl.length<=1048576);exact⟨C4 gN Tryz.func144 Z0 [[.arr 3]] (α:=(Le 0 0/\V6 0 p.sl.length 16)/\((p.lsn=p.lsn/\(0=0/\0+p.sl.length=p.sl.length)/\True)/\True)/\(0+p.sl.length=p.sl.length/\Z6 (0+p.sl.length) (W6 (λ(k:Nat)=>List.take 1 (List.drop (k*1) [])) 0 (Z5 p.sl)) (Z5 p.sl))/\True) ⟨⟨V2 _,by unfold V6;omega⟩,⟨⟨rfl,⟨rfl,by omega⟩,trivial⟩,trivial⟩,⟨by omega,D1⟩,trivial⟩,rfl,G2 _⟩
def a9E:Con:=.rmk ⟨Sto,λs=>[.agg s.ts],λ_=>[],λs=>.agg (s.tm 0),λs=>s.hp 0,mP⟩
def b01(s:Sto):Nat->Ann
 |0=>.one {i:Nat//i<=s.fr.length} (λx=>⟨[(1,.ref 0 0 0),(2,.ref 1 0 0),(3,.osl 6 0 x.1),(4,.int .i64 x.1)],[uG [.osl 2 0 s.d.sec.length,.osl 3 0 s.d.cache.length,.bool s.d.armed,.osl 4 0 s.d.keep.length,.int .i64 s.ep,.osl 5 0 s.log.length,.int .i64 s.sure,wL s.fr,.int .i64 s.hand],a90,G0 s.d.sec,I8 s.d.cache,A5 s.d.keep,v6 s.log,zS 0 s.fr x.1]⟩) (λx=>s.fr.length-x.1) [.fam 7,.box 0,.box 1,.arr 2,.arr 3,.arr 4,.arr 6,.arr 7] [.box 0,.box 1,.arr 2,.arr 3,.arr 4,.arr 5,.at_ 3] (λ_=>Z0)
 |_=>.none
theorem a8E:GK 79 a9E:=gk Tryz.func79<|by
 rintro(s:Sto) ⟨h1,h2,h3,h4⟩;refine⟨C4 (gC qU (gC iY gN)) Tryz.func79 (b01 s) [[.arr 2,.arr 3,.arr 4,.arr 5,.arr 6]] (α:=∃(x:Dsk),(((k4 s.d x)/\True)/\sQ x)/\(Le 0 0/\V6 0 s.log.length 96)/\(∃(x_1:{i:Nat//i<=s.fr.length}),((0=0/\0=0)/\(0=0/\0=0)/\(0=0/\0=x_1.val)/\(0:Int)=(x_1.val:Int)/\True)/\(1=1/\1=1/\(0=0/\x.sec.length=s.d.sec.length)/\(0=0/\x.cache.length=s.d.cache.length)/\x.armed=s.d.armed/\(0=0/\x.keep.length=s.d.keep.length)/\s.ep=s.ep/\(0=0/\0+s.log.length=s.log.length)/\s.sure=s.sure/\(Y5 X3 s.fr s.fr)/\s.hand=s.hand/\True)/\(1=1/\1=1/\Value.slice none 0 0=Value.slice none 0 0/\Value.slice none 0 0=Value.slice none 0 0/\false=false/\Value.slice none 0 0=Value.slice none 0 0/\(0:Int)=(0:Int)/\Value.slice none 0 0=Value.slice none 0 0/\(0:Int)=(0:Int)/\Value.slice none 0 0=Value.slice none 0 0/\(0:Int)=(0:Int)/\True)/\(Y5 Z5 x.sec s.d.sec)/\(Y5 Z3 x.cache s.d.cache)/\(Y5 Y9 x.keep s.d.keep)/\(0+s.log.length=s.log.length/\Z6 (0+s.log.length) (W6 (λ(k:Nat)=>List.take 10 (List.drop (k*10) [])) 0 (Y7 s.log)) (Y7 s.log))/\(0=0/\0=x_1.val/\U9 0 (λ(k:Nat)=>List.take 5 (List.drop (k*5) [])) (Y8 s.fr))/\True)/\∀(x:{i:Nat//i<=s.fr.length}),(decide ((x.val:Int)<(s.fr.length:Int))=true->W4 (x.val:Int) s.fr.length/\∃(x_1:Pg),((((s.fr.getD (x.val:Int).toNat default).pg.lsn=x_1.lsn/\(Y5 Z5 (s.fr.getD (x.val:Int).toNat default).pg.sl x_1.sl)/\True)/\True)/\x_1.sl.length<=1048576)/\(Le x_1.sl.length x_1.sl.length/\Le x.val x.val/\V6 x.val 1 56)/\X4 .i64 ((x.val:Int)+(1:Int))/\∃(y:{i:Nat//i<=s.fr.length}),(((0=0/\0=0)/\(0=0/\0=0)/\(0=0/\x.val+1=y.val)/\(x.val:Int)+(1:Int)=(y.val:Int)/\True)/\(1=1/\1=1/\(0=0/\s.d.sec.length=s.d.sec.length)/\(0=0/\s.d.cache.length=s.d.cache.length)/\s.d.armed=s.d.armed/\(0=0/\s.d.keep.length=s.d.keep.length)/\s.ep=s.ep/\(0=0/\s.log.length=s.log.length)/\s.sure=s.sure/\(Y5 X3 s.fr s.fr)/\s.hand=s.hand/\True)/\(1=1/\1=1/\Value.slice none 0 0=Value.slice none 0 0/\Value.slice none 0 0=Value.slice none 0 0/\false=false/\Value.slice none 0 0=Value.slice none 0 0/\(0:Int)=(0:Int)/\Value.slice none 0 0=Value.slice none 0 0/\(0:Int)=(0:Int)/\Value.slice none 0 0=Value.slice none 0 0/\(0:Int)=(0:Int)/\True)/\(Y5 Z5 s.d.sec s.d.sec)/\(Y5 Z3 s.d.cache s.d.cache)/\(Y5 Y9 s.d.keep s.d.keep)/\(Y5 Y7 s.log s.log)/\(0=0/\x.val+1=y.val/\U9 (x.val+1) (W6 (Y8 s.fr) x.val λ(x_2:Nat)=>[T.int .i64 (s.fr.getD (x.val:Int).toNat default).no,T.int .i64 x_1.lsn,T.own 0 1 x_1.sl.length (Z5 x_1.sl),T.bool (s.fr.getD (x.val:Int).toNat default).dirty,T.int .i64 (s.fr.getD (x.val:Int).toNat default).first]) (Y8 s.fr))/\True)/\Lt (s.fr.length-y.val) (s.fr.length-x.val))/\(decide ((x.val:Int)<(s.fr.length:Int))=false->(((0=0/\s.d.sec.length=s.d.sec.length)/\(0=0/\s.d.cache.length=s.d.cache.length)/\s.d.armed=s.d.armed/\(0=0/\s.d.keep.length=s.d.keep.length)/\s.ep=s.ep/\(0=0/\s.log.length=s.log.length)/\s.sure=s.sure/\(0=0/\x.val=s.fr.length)/\s.hand=s.hand/\True)/\True)/\(Y5 Z5 s.d.sec s.d.sec)/\(Y5 Z3 s.d.cache s.d.cache)/\(Y5 Y9 s.d.keep s.d.keep)/\(Y5 Y7 s.log s.log)/\(0=0/\x.val=s.fr.length/\U9 x.val (Y8 s.fr) (Y8 s.fr))/\True)) ⟨s.d,⟨⟨xN _,trivial⟩,h1⟩,⟨V2 _,by unfold V6;omega⟩,⟨⟨0,S7 _⟩,⟨Z7,Z7,Z7,Z9⟩,⟨rfl,rfl,Z7,Z7,rfl,Z7,rfl,⟨rfl,by omega⟩,rfl,Z8,Z9⟩,⟨rfl,rfl,rfl,rfl,rfl,rfl,rfl,rfl,rfl,rfl,Z9⟩,Z8,Z8,Z8,⟨by omega,D1⟩,⟨rfl,rfl,λi hi=>absurd hi (F2 _)⟩,trivial⟩,λx=>⟨λhc=> ?_,λhc=> ?_⟩⟩,rfl,vB s 0⟩
 ·have hlt:=Y1 hc;rw[u9];exact⟨Y2 hlt,(s.fr.getD x.val default).pg,⟨⟨⟨rfl,X8⟩,trivial⟩,h4 _ hlt⟩,⟨V2 _,V2 _,by unfold V6;omega⟩,Z4 (by omega),⟨x.val+1,hlt⟩,⟨⟨Z7,Z7,Z7,by dsimp only;omega,trivial⟩,⟨rfl,rfl,⟨rfl,rfl⟩,⟨rfl,rfl⟩,rfl,⟨rfl,rfl⟩,rfl,⟨rfl,rfl⟩,rfl,⟨rfl,Z2 _ _⟩,rfl,trivial⟩,⟨rfl,rfl,rfl,rfl,rfl,rfl,rfl,rfl,rfl,rfl,rfl,trivial⟩,⟨rfl,Z2 _ _⟩,⟨rfl,Z2 _ _⟩,⟨rfl,Z2 _ _⟩,⟨rfl,Z2 _ _⟩,⟨rfl,rfl,a4A⟩,trivial⟩,V4.ext_lt hlt⟩
 ·have hx:x.val=s.fr.length:=by have:=x.2;have:=X9 hc;omega
  rw[hx];exact⟨⟨⟨Z7,Z7,rfl,Z7,rfl,Z7,rfl,Z7,Z9⟩,trivial⟩,Z8,Z8,Z8,Z8,S2,trivial⟩
end Go.Proofs.YtokaojbaacnngaaGreat

