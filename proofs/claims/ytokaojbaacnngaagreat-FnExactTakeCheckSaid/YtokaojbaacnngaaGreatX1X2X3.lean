/- A part of the proof. -/
import Derived.Test.YtokaojbaacnngaaGreatF0F1F2
namespace Go.Proofs.YtokaojbaacnngaaGreat
set_option maxRecDepth 100000
open Go.SS

theorem C5:K7 []:=fun k ob h=>by simp[Z4] at h
theorem F6{o:Ob}{H:Y6}(h:bC o)(k:K7 H):K7 (some o::H):=fun i ob hi=>by
 cases i with
 |zero=>
  simp only[Z4,List.getElem?_cons_zero,Option.bind_some,id,X6] at hi
  rw[←hi];exact h
 |succ i=>exact k i ob (by simpa[Z4] using hi)
theorem E7{row row':Nat->List T}{n:Nat}:Z8 (0+n) (W6 row 0 row') row':=fun i _=>rfl
def I8(L:List Pend):Option Ob:=some (.arr true 0 2 L.length (Z3 L))
def B2(L:List Int):Option Ob:=some (.arr true 0 1 L.length (Y8 L))
def w9(L:List Rec):Option Ob:=some (.arr true 0 10 L.length (Y5 L))
theorem A3(L:List (List UInt8)):K7 [G8 L]:=F6 (fun i _ t ht=>by simp only[Z6,List.mem_singleton] at ht;rw[ht];rfl) C5
theorem uC(L:List Pend):K7 [I8 L]:=F6 (fun i _ t ht=>by
 simp only[Z3,Pend.ts,zJ,j_j,or_false] at ht;rcases ht with rfl|rfl<;>rfl) C5
theorem rH(L:List Int):K7 [B2 L]:=F6 (fun i _ t ht=>by simp only[Y8,List.mem_singleton] at ht;rw[ht];rfl) C5
theorem vW(L:List Rec):K7 [w9 L]:=F6 (fun i _ t ht=>by
 simp only[Y5,Rec.ts,zJ,j_j,or_false] at ht;rcases ht with rfl|rfl|rfl|rfl|rfl|rfl|rfl|rfl|rfl|rfl<;>rfl) C5
def c1J:Con:=.rmk ⟨List (List UInt8),fun L=>[L3 L],fun _=>[],fun L=>.osl 0 0 L.length,fun L=>[G8 L],fun L=>L.length<=1048576⟩
noncomputable def c1G:Code:=Tryz.f225.body.getD .skip
theorem nW:Z7 Tryz.prog 225:=⟨_,Tryz.func225,by kernel_rfl,by kernel_rfl⟩
theorem c0Y(L:List (List UInt8))(h:
  ∀(b:Bool),(b=true->L.length=0)->(b=true->((0=0/\0=L.length)/\True)/\(0=L.length/\Z8 0 (fun(x:Nat)=>[]) (Z6 L))/\True)/\(b=false->(Le 0 0/\V7 0 L.length 16)/\((0=0/\0+L.length=
  L.length)/\True)/\(0+L.length=L.length/\Z8 (0+L.length) (W6 (fun(k:Nat)=>List.take 1 (List.drop (k*1) [])) 0 (Z6 L)) (Z6 L))/\True)):
  V3 Tryz.prog 225 [L3 L] [] (.osl 0 0 L.length) [G8 L]:=
 v5 (code:=c1G) gN Tryz.func225 (by kernel_rfl) (by kernel_rfl) Z0 [[.arr 1],[.nilS 0 [] 0 1,.arr 0]] h (by kernel_rfl)
theorem a24:Z1 Tryz.prog 225 c1J:=fun(L:List (List UInt8)) (hL:L.length<=1048576)=>
 ⟨c0Y L (fun b hb=>⟨fun h=>⟨⟨⟨rfl,(hb h).symm⟩,trivial⟩,⟨(hb h).symm,fun i hi=>absurd hi (J2 _)⟩,trivial⟩,fun _=>⟨⟨V5 _,by unfold V7;omega⟩,⟨⟨rfl,by omega⟩,trivial⟩,⟨by omega,E7⟩,trivial⟩⟩),rfl,A3 L⟩
def b6A:Con:=.rmk ⟨List Pend,fun L=>[M4 L],fun _=>[],fun L=>.osl 0 0 L.length,fun L=>[I8 L],fun L=>L.length<=1048576⟩
noncomputable def b6C:Code:=Tryz.f226.body.getD .skip
theorem a2u:Z7 Tryz.prog 226:=⟨_,Tryz.func226,by kernel_rfl,by kernel_rfl⟩
theorem b4W(L:List Pend)(h:
  ∀(b:Bool),(b=true->L.length=0)->(b=true->((0=0/\0=L.length)/\True)/\(0=L.length/\Z8 0 (fun(x:Nat)=>[]) (Z3 L))/\True)/\(b=false->(Le 0 0/\V7 0 L.length 24)/\((0=0/\0+L.length=
  L.length)/\True)/\(0+L.length=L.length/\Z8 (0+L.length) (W6 (fun(k:Nat)=>List.take 2 (List.drop (k*2) [])) 0 (Z3 L)) (Z3 L))/\True)):
  V3 Tryz.prog 226 [M4 L] [] (.osl 0 0 L.length) [I8 L]:=
 v5 (code:=b6C) gN Tryz.func226 (by kernel_rfl) (by kernel_rfl) Z0 [[.arr 1],[.nilS 0 [] 0 2,.arr 0]] h (by kernel_rfl)
theorem b3x:Z1 Tryz.prog 226 b6A:=fun(L:List Pend) (hL:L.length<=1048576)=>
 ⟨b4W L (fun b hb=>⟨fun h=>⟨⟨⟨rfl,(hb h).symm⟩,trivial⟩,⟨(hb h).symm,fun i hi=>absurd hi (J2 _)⟩,trivial⟩,fun _=>⟨⟨V5 _,by unfold V7;omega⟩,⟨⟨rfl,by omega⟩,trivial⟩,⟨by omega,E7⟩,trivial⟩⟩),rfl,uC L⟩
def c0O:Con:=.rmk ⟨List Int,fun L=>[r7 L],fun _=>[],fun L=>.osl 0 0 L.length,fun L=>[B2 L],fun L=>L.length<=1048576⟩
noncomputable def c2v:Code:=Tryz.f92.body.getD .skip
theorem mG:Z7 Tryz.prog 92:=⟨_,Tryz.func92,by kernel_rfl,by kernel_rfl⟩
theorem c05(L:List Int)(h:
  ∀(b:Bool),(b=true->L.length=0)->(b=true->((0=0/\0=L.length)/\True)/\(0=L.length/\Z8 0 (fun(x:Nat)=>[]) (Y8 L))/\True)/\(b=false->(Le 0 0/\V7 0 L.length 8)/\((0=0/\0+L.length=
  L.length)/\True)/\(0+L.length=L.length/\Z8 (0+L.length) (W6 (fun(k:Nat)=>List.take 1 (List.drop (k*1) [])) 0 (Y8 L)) (Y8 L))/\True)):
  V3 Tryz.prog 92 [r7 L] [] (.osl 0 0 L.length) [B2 L]:=
 v5 (code:=c2v) gN Tryz.func92 (by kernel_rfl) (by kernel_rfl) Z0 [[.arr 1],[.nilS 0 [] 0 1,.arr 0]] h (by kernel_rfl)
theorem a0J:Z1 Tryz.prog 92 c0O:=fun(L:List Int) (hL:L.length<=1048576)=>
 ⟨c05 L (fun b hb=>⟨fun h=>⟨⟨⟨rfl,(hb h).symm⟩,trivial⟩,⟨(hb h).symm,fun i hi=>absurd hi (J2 _)⟩,trivial⟩,fun _=>⟨⟨V5 _,by unfold V7;omega⟩,⟨⟨rfl,by omega⟩,trivial⟩,⟨by omega,E7⟩,trivial⟩⟩),rfl,rH L⟩
def c3c:Con:=.rmk ⟨List Rec,fun L=>[F3 L],fun _=>[],fun L=>.osl 0 0 L.length,fun L=>[w9 L],fun L=>L.length<=1048576⟩
noncomputable def c2t:Code:=Tryz.f163.body.getD .skip
theorem a5y:Z7 Tryz.prog 163:=⟨_,Tryz.func163,by kernel_rfl,by kernel_rfl⟩
theorem c0w(L:List Rec)(h:
  ∀(b:Bool),(b=true->L.length=0)->(b=true->((0=0/\0=L.length)/\True)/\(0=L.length/\Z8 0 (fun(x:Nat)=>[]) (Y5 L))/\True)/\(b=false->(Le 0 0/\V7 0 L.length 96)/\((0=0/\0+L.length=
  L.length)/\True)/\(0+L.length=L.length/\Z8 (0+L.length) (W6 (fun(k:Nat)=>List.take 10 (List.drop (k*10) [])) 0 (Y5 L)) (Y5 L))/\True)):
  V3 Tryz.prog 163 [F3 L] [] (.osl 0 0 L.length) [w9 L]:=
 v5 (code:=c2t) gN Tryz.func163 (by kernel_rfl) (by kernel_rfl) Z0 [[.arr 1],[.nilS 0 [] 0 10,.arr 0]] h (by kernel_rfl)
theorem b40:Z1 Tryz.prog 163 c3c:=fun(L:List Rec) (hL:L.length<=1048576)=>
 ⟨c0w L (fun b hb=>⟨fun h=>⟨⟨⟨rfl,(hb h).symm⟩,trivial⟩,⟨(hb h).symm,fun i hi=>absurd hi (J2 _)⟩,trivial⟩,fun _=>⟨⟨V5 _,by unfold V7;omega⟩,⟨⟨rfl,by omega⟩,trivial⟩,⟨by omega,E7⟩,trivial⟩⟩),rfl,vW L⟩
def Dsk.tm(d:Dsk)(b:Nat):List T:=[.osl b 0 d.sec.length,.osl (b+1) 0 d.cache.length,.bool d.armed,.osl (b+2) 0 d.keep.length]
def Dsk.hp(d:Dsk):Y6:=[G8 d.sec,I8 d.cache,B2 d.keep]
theorem z7{H K:Y6}(h:K7 H)(k:K7 K):K7 (H++K):=fun i ob hi=>by
 unfold Z4 at hi;rw[List.getElem?_append] at hi
 split at hi
 ·exact h i ob hi
 ·exact k _ ob hi
theorem wG(d:Dsk):K7 d.hp:=z7 (A3 _) (z7 (uC _) (rH _))
def c2A:Con:=.rmk ⟨Dsk,fun d=>[.agg d.ts],fun _=>[],fun d=>.agg (d.tm 0),fun d=>d.hp,pD⟩
noncomputable def c3X:Code:=Tryz.f162.body.getD .skip
theorem a5F:Z7 Tryz.prog 162:=⟨_,Tryz.func162,by kernel_rfl,by kernel_rfl⟩
theorem c19(d:Dsk)(h:
  ∃(x:(List (List UInt8))),(((d.sec.length=List.length x/\Z8 d.sec.length (Z6 d.sec) (Z6 x))/\True)/\List.length x<=1048576)/\∃(x_1:(List Pend)),(((d.cache.length=List.length x_1/\Z8 d.cache.length
  (Z3 d.cache) (Z3 x_1))/\True)/\List.length x_1<=1048576)/\∃(x_2:(List Int)),(((d.keep.length=List.length x_2/\Z8 d.keep.length (Y8 d.keep) (Y8 x_2))/\True)/\List.length x_2<=1048576)/\(((0=0
  /\List.length x=d.sec.length)/\(0=0/\List.length x_1=d.cache.length)/\d.armed=d.armed/\(0=0/\List.length x_2=d.keep.length)/\True)/\True)/\(List.length x=d.sec.length/\Z8 (List.length x) (Z6 x)
  (Z6 d.sec))/\(List.length x_1=d.cache.length/\Z8 (List.length x_1) (Z3 x_1) (Z3 d.cache))/\(List.length x_2=d.keep.length/\Z8 (List.length x_2) (Y8 x_2) (Y8 d.keep))/\True):
  V3 Tryz.prog 162 [.agg d.ts] [] (.agg (d.tm 0)) d.hp:=
 v5 (code:=c3X) (gC a24 nW (gC b3x a2u (gC a0J mG gN))) Tryz.func162 (by kernel_rfl) (by kernel_rfl) Z0 [[.arr 2,.arr 3,.arr 4]] h (by kernel_rfl)
theorem b6a:Z1 Tryz.prog 162 c2A:=by
 rintro(d:Dsk) ⟨h1,h2,h3⟩;exact⟨c19 d ⟨d.sec,⟨⟨⟨rfl,Z9 _ _⟩,trivial⟩,h1⟩,d.cache,⟨⟨⟨rfl,Z9 _ _⟩,trivial⟩,h2⟩,d.keep,⟨⟨⟨rfl,Z9 _ _⟩,trivial⟩,h3⟩,⟨⟨⟨rfl,rfl⟩,⟨rfl,rfl⟩,rfl,⟨rfl,rfl⟩,trivial⟩,trivial⟩,⟨rfl,Z9 _ _⟩,⟨rfl,Z9 _ _⟩,⟨rfl,Z9 _ _⟩,trivial⟩,rfl,wG d⟩
def Pg.tm(p:Pg)(b:Nat):List T:=[.int .i64 p.lsn,.osl b 0 p.sl.length]
def c5s:Con:=.rmk ⟨Pg,fun p=>[.agg p.ts],fun _=>[],fun p=>.agg (p.tm 0),fun p=>[G8 p.sl],fun p=>p.sl.length<=1048576⟩
noncomputable def c5w:Code:=Tryz.f164.body.getD .skip
theorem b0Y:Z7 Tryz.prog 164:=⟨_,Tryz.func164,by kernel_rfl,by kernel_rfl⟩
theorem c58(p:Pg)(h:
  ∃(x:(List (List UInt8))),(((p.sl.length=List.length x/\Z8 p.sl.length (Z6 p.sl) (Z6 x))/\True)/\List.length x<=1048576)/\((p.lsn=p.lsn/\(0=0/\List.length x=p.sl.length)/\True)/\True)/\(List.length
  x=p.sl.length/\Z8 (List.length x) (Z6 x) (Z6 p.sl))/\True):
  V3 Tryz.prog 164 [.agg p.ts] [] (.agg (p.tm 0)) [G8 p.sl]:=
 v5 (code:=c5w) (gC a24 nW gN) Tryz.func164 (by kernel_rfl) (by kernel_rfl) Z0 [[.arr 2]] h (by kernel_rfl)
theorem c1s:Z1 Tryz.prog 164 c5s:=by
 intro(p:Pg) (h1:p.sl.length<=1048576);exact⟨c58 p ⟨p.sl,⟨⟨⟨rfl,Z9 _ _⟩,trivial⟩,h1⟩,⟨⟨rfl,⟨rfl,rfl⟩,trivial⟩,trivial⟩,⟨rfl,Z9 _ _⟩,trivial⟩,rfl,A3 _⟩
def X9(L:List Frm)(i:Nat):List T:=[.int .i64 (L.getD i default).no,.int .i64 (L.getD i default).pg.lsn,.own 0 1 (L.getD i default).pg.sl.length (Z6 (L.getD i default).pg.sl),.bool (L.getD i default).dirty,.int .i64 (L.getD i default).first]
def yU(v:Nat)(L:List Frm)(n:Nat):Option Ob:=some (.fam v 0 5 n (X9 L))
def Sto.tm(s:Sto)(b:Nat):List T:=[.osl b 0 s.d.sec.length,.osl (b+1) 0 s.d.cache.length,.bool s.d.armed,.osl (b+2) 0 s.d.keep.length,.int .i64 s.ep,.osl (b+3) 0 s.log.length,.int .i64 s.sure,.osl (b+4) 0 s.fr.length,.int .i64 s.hand]
def Sto.hp(s:Sto)(v:Nat):Y6:=[G8 s.d.sec,I8 s.d.cache,B2 s.d.keep,w9 s.log,yU v s.fr s.fr.length]
def c79:List T:=[.v (.slice none 0 0),.v (.slice none 0 0),.bool false,.v (.slice none 0 0),.int .i64 0,.v (.slice none 0 0),.int .i64 0,.v (.slice none 0 0),.int .i64 0]
def b8g:Option Ob:=some (.arr true 1000000 9 1 fun _=>c79)
def sE(l:List T):Option Ob:=some (.arr false 1000000 9 1 fun _=>l)
abbrev EqC(a b:Sto):Prop:=((0:Nat)=0/\a.d.sec.length=b.d.sec.length)/\((0:Nat)=0/\a.d.cache.length=b.d.cache.length)/\a.d.armed=b.d.armed/\((0:Nat)=0/\a.d.keep.length=b.d.keep.length)/\a.ep=b.ep/\((0:Nat)=0/\a.log.length=b.log.length)/\a.sure=b.sure/\((0:Nat)=0/\a.fr.length=b.fr.length)/\a.hand=b.hand/\True
abbrev EqH(v u:Nat)(a b:Sto):Prop:=Y4 Z6 a.d.sec b.d.sec/\Y4 Z3 a.d.cache b.d.cache/\Y4 Y8 a.d.keep b.d.keep/\Y4 Y5 a.log b.log/\(v=u/\a.fr.length=b.fr.length/\T5 a.fr.length (X9 a.fr) (X9 b.fr))/\True
abbrev EqR(a b:Rec):Prop:=a.e=b.e/\a.l=b.l/\a.t=b.t/\a.k=b.k/\a.p=b.p/\a.n=b.n/\a.g=b.g/\a.s=b.s/\a.b=b.b/\a.a=b.a/\True
theorem U3{L:List Frm}(n:Nat):T5 n (X9 L) (X9 L):=fun i _=>by
 refine⟨?_,?_,⟨rfl,rfl,Z9 _ _⟩,?_,?_,trivial⟩<;>rfl
theorem gJ{i n:Nat}(h:i<n):Nat.blt i n=true:=Nat.ble_eq_true_of_le h
theorem fX{i n:Nat}(h:¬i<n):Nat.blt i n=false:=by
 cases hb:Nat.blt i n with
 |false=>rfl
 |true=>exact absurd (vS hb) h
theorem a9F{L:List Frm}{i:Nat}:T5 (i+1) (W6 (X9 L) i fun _=>X9 L i) (X9 L):=fun j hj=>by
 have:W6 (X9 L) i (fun _=>X9 L i) j=X9 L j:=by
  unfold W6;by_cases hji:j<i
  ·rw[gJ hji]
  ·rw[fX hji,show i=j by omega]
 rw[this];exact U3 (j+1) j (Nat.lt_succ_self j)
theorem fE(v:Nat)(L:List Frm)(n:Nat):K7 [yU v L n]:=F6 (fun i _ t ht=>by
 simp only[X9,zJ,j_j,or_false] at ht;rcases ht with rfl|rfl|rfl|rfl|rfl
 ·rfl
 ·rfl
 ·intro j _ t ht;simp only[Z6,List.mem_singleton] at ht;rw[ht];rfl
 ·rfl
 ·rfl) C5
theorem wA(s:Sto)(v:Nat):K7 (s.hp v):=z7 (H:=s.d.hp) (wG _) (z7 (vW _) (fE _ _ _))
theorem fK:∀l:List T,c2I l l
 | []=>trivial
 |a::r=>⟨by cases a<;>first|rfl|exact⟨rfl,rfl,Z9 _ _⟩,fK r⟩
theorem qU{n:Nat}{f g:Nat->List T}(h:∀i,i<n->f i=g i):T5 n f g:=fun i hi=>by rw[h i hi];exact fK _
def c3y:Con:=.rmk ⟨Sto,fun s=>[.agg s.ts],fun _=>[],fun s=>.agg (s.tm 0),fun s=>s.hp 0,SmS⟩
def c2e(s:Sto):Nat->Ann
 |0=>.one {i:Nat//i<=s.fr.length} (fun x=>⟨[(1,.ref 0 0 0),(2,.ref 1 0 0),(17,w5 s.fr),(18,.int .i64 s.fr.length),(19,.int .i64 x.1)],[sE [.osl 2 0 s.d.sec.length,.osl 3 0 s.d.cache.length,.bool s.d.armed,.osl 4 0 s.d.keep.length,.int .i64 s.ep,.osl 5 0 s.log.length,.int .i64 s.sure,.osl 6 0 x.1,.int .i64 s.hand],b8g,G8 s.d.sec,I8 s.d.cache,B2 s.d.keep,w9 s.log,yU 0 s.fr x.1]⟩) (fun x=>s.fr.length-x.1) [.nilC 0 7 0 5,.fam 6,.box 0,.box 1,.arr 2,.arr 3,.arr 4,.arr 5,.arr 6] [.box 0,.box 1,.arr 2,.arr 3,.arr 4,.arr 5,.at_ 31] (fun _=>Z0)
 |_=>.none
noncomputable def c1M:Code:=Tryz.f89.body.getD .skip
theorem a4k:Z7 Tryz.prog 89:=⟨_,Tryz.func89,by kernel_rfl,by kernel_rfl⟩
theorem c3f(s:Sto)(h:
  ∃(x:Dsk),(((zR s.d x)/\True)/\pD x)/\∃(x_1:(List Rec)),(((s.log.length=List.length x_1/\Z8 s.log.length (Y5 s.log) (Y5 x_1))/\True)/\List.length x_1<=1048576)/\(∃(x_2:{i:Nat//i<=s.fr.length
  }),((0=0/\0=0)/\(0=0/\0=0)/\(Y4 V6 s.fr s.fr)/\(s.fr.length:Int)=(s.fr.length:Int)/\(0:Int)=(x_2.val:Int)/\True)/\(1=1/\1=1/\(0=0/\x.sec.length=s.d.sec.length)/\(0=0/\x.cache.length=
  s.d.cache.length)/\x.armed=s.d.armed/\(0=0/\x.keep.length=s.d.keep.length)/\s.ep=s.ep/\(0=0/\List.length x_1=s.log.length)/\s.sure=s.sure/\(0=0/\0=x_2.val)/\s.hand=s.hand/\True)/\(1=1/\1=1/\
  Value.slice none 0 0=Value.slice none 0 0/\Value.slice none 0 0=Value.slice none 0 0/\false=false/\Value.slice none 0 0=Value.slice none 0 0/\(0:Int)=(0:Int)/\Value.slice none 0 0=Value.slice none 0 0/\(0:
  Int)=(0:Int)/\Value.slice none 0 0=Value.slice none 0 0/\(0:Int)=(0:Int)/\True)/\(Y4 Z6 x.sec s.d.sec)/\(Y4 Z3 x.cache s.d.cache)/\(Y4 Y8 x.keep s.d.keep)/\(List.length x_1=s.log.length/\
  Z8 (List.length x_1) (Y5 x_1) (Y5 s.log))/\(0=0/\0=x_2.val/\T5 0 (fun(x:Nat)=>[]) (X9 s.fr))/\True)/\∀(x:{i:Nat//i<=s.fr.length}),(decide ((x.val:Int)<(s.fr.length:Int))=true->X0
  (x.val:Int) s.fr.length/\∃(x_2:Pg),((((s.fr.getD (x.val:Int).toNat default).pg.lsn=x_2.lsn/\(Y4 Z6 (s.fr.getD (x.val:Int).toNat default).pg.sl x_2.sl)/\True)/\True)/\x_2.sl.length<=1048576)/\(Le x_2.sl.length
  x_2.sl.length/\Le x.val x.val/\V7 x.val 1 56)/\X8 .i64 ((x.val:Int)+(1:Int))/\∃(y:{i:Nat//i<=s.fr.length}),(((0=0/\0=0)/\(0=0/\0=0)/\(Y4 V6 s.fr s.fr)/\(s.fr.length:Int)=(s.fr.length:Int)
  /\(x.val:Int)+(1:Int)=(y.val:Int)/\True)/\(1=1/\1=1/\(0=0/\s.d.sec.length=s.d.sec.length)/\(0=0/\s.d.cache.length=s.d.cache.length)/\s.d.armed=s.d.armed/\(0=0/\s.d.keep.length=s.d.keep.length)/\
  s.ep=s.ep/\(0=0/\s.log.length=s.log.length)/\s.sure=s.sure/\(0=0/\x.val+1=y.val)/\s.hand=s.hand/\True)/\(1=1/\1=1/\Value.slice none 0 0=Value.slice none 0 0/\Value.slice none 0 0=Value.slice none
  0 0/\false=false/\Value.slice none 0 0=Value.slice none 0 0/\(0:Int)=(0:Int)/\Value.slice none 0 0=Value.slice none 0 0/\(0:Int)=(0:Int)/\Value.slice none 0 0=Value.slice none 0 0/\(0:Int)=(0:Int)
  /\True)/\(Y4 Z6 s.d.sec s.d.sec)/\(Y4 Z3 s.d.cache s.d.cache)/\(Y4 Y8 s.d.keep s.d.keep)/\(Y4 Y5 s.log s.log)/\(0=0/\x.val+1=y.val/\T5 (x.val+1) (W6 (X9 s.fr) x.val fun(x_3:Nat)=>
  [T.int .i64 (s.fr.getD (x.val:Int).toNat default).no,T.int .i64 x_2.lsn,T.own 0 1 x_2.sl.length (Z6 x_2.sl),T.bool (s.fr.getD (x.val:Int).toNat default).dirty,T.int .i64 (s.fr.getD (x.val:Int).toNat default).first])
  (X9 s.fr))/\True)/\Lt (s.fr.length-y.val) (s.fr.length-x.val))/\(decide ((x.val:Int)<(s.fr.length:Int))=false->(((0=0/\s.d.sec.length=s.d.sec.length)/\(0=0/\s.d.cache.length=s.d.cache.length)/\s.d.armed
  =s.d.armed/\(0=0/\s.d.keep.length=s.d.keep.length)/\s.ep=s.ep/\(0=0/\s.log.length=s.log.length)/\s.sure=s.sure/\(0=0/\x.val=s.fr.length)/\s.hand=s.hand/\True)/\True)/\(Y4 Z6 s.d.sec s.d.sec)/\
  (Y4 Z3 s.d.cache s.d.cache)/\(Y4 Y8 s.d.keep s.d.keep)/\(Y4 Y5 s.log s.log)/\(0=0/\x.val=s.fr.length/\T5 x.val (X9 s.fr) (X9 s.fr))/\True)):
  V3 Tryz.prog 89 [.agg s.ts] [] (.agg (s.tm 0)) (s.hp 0):=
 v5 (code:=c1M) (gC b6a a5F (gC b40 a5y (gC c1s b0Y gN))) Tryz.func89 (by kernel_rfl) (by kernel_rfl) (c2e s) [[.arr 2,.arr 3,.arr 4,.arr 5,.arr 6]] h (by kernel_rfl)
theorem b94:Z1 Tryz.prog 89 c3y:=by
 rintro(s:Sto) ⟨h1,h2,h3,h4⟩;refine⟨c3f s ⟨s.d,⟨⟨xL _,trivial⟩,h1⟩,s.log,⟨⟨⟨rfl,Z9 _ _⟩,trivial⟩,h2⟩,⟨⟨0,T0 _⟩,⟨⟨rfl,rfl⟩,⟨rfl,rfl⟩,⟨rfl,Z9 _ _⟩,rfl,rfl,trivial⟩,⟨rfl,rfl,⟨rfl,rfl⟩,⟨rfl,rfl⟩,rfl,⟨rfl,rfl⟩,rfl,⟨rfl,rfl⟩,rfl,⟨rfl,rfl⟩,rfl,trivial⟩,⟨rfl,rfl,rfl,rfl,rfl,rfl,rfl,rfl,rfl,rfl,rfl,trivial⟩,⟨rfl,Z9 _ _⟩,⟨rfl,Z9 _ _⟩,⟨rfl,Z9 _ _⟩,⟨rfl,Z9 _ _⟩,⟨rfl,rfl,fun i hi=>absurd hi (J2 _)⟩,trivial⟩,fun x=>⟨fun hc=> ?_,fun hc=> ?_⟩⟩,rfl,?_⟩
 ·have hlt:=Y9 hc;rw[v4];exact⟨Y7 hlt,(s.fr.getD x.val default).pg,⟨⟨⟨rfl,⟨rfl,Z9 _ _⟩,trivial⟩,trivial⟩,h4 _ hlt⟩,⟨V5 _,V5 _,by unfold V7;omega⟩,Z5 (by omega),⟨x.val+1,hlt⟩,⟨⟨⟨rfl,rfl⟩,⟨rfl,rfl⟩,⟨rfl,Z9 _ _⟩,rfl,by dsimp only;omega,trivial⟩,⟨rfl,rfl,⟨rfl,rfl⟩,⟨rfl,rfl⟩,rfl,⟨rfl,rfl⟩,rfl,⟨rfl,rfl⟩,rfl,⟨rfl,rfl⟩,rfl,trivial⟩,⟨rfl,rfl,rfl,rfl,rfl,rfl,rfl,rfl,rfl,rfl,rfl,trivial⟩,⟨rfl,Z9 _ _⟩,⟨rfl,Z9 _ _⟩,⟨rfl,Z9 _ _⟩,⟨rfl,Z9 _ _⟩,⟨rfl,rfl,a9F⟩,trivial⟩,V9.ext_lt hlt⟩
 ·have hx:x.val=s.fr.length:=by have:=x.2;have:=Y3 hc;omega
  rw[hx];exact⟨⟨⟨⟨rfl,rfl⟩,⟨rfl,rfl⟩,rfl,⟨rfl,rfl⟩,rfl,⟨rfl,rfl⟩,rfl,⟨rfl,rfl⟩,rfl,trivial⟩,trivial⟩,⟨rfl,Z9 _ _⟩,⟨rfl,Z9 _ _⟩,⟨rfl,Z9 _ _⟩,⟨rfl,Z9 _ _⟩,⟨rfl,rfl,U3 _⟩,trivial⟩
 ·exact wA s 0
end Go.Proofs.YtokaojbaacnngaaGreat

namespace Go.Proofs.YtokaojbaacnngaaGreat
set_option maxRecDepth 100000
open Go.SS

def Sto.tn(s:Sto)(a b c d e:Nat):List T:=[.osl a 0 s.d.sec.length,.osl b 0 s.d.cache.length,.bool s.d.armed,.osl c 0 s.d.keep.length,.int .i64 s.ep,.osl d 0 s.log.length,.int .i64 s.sure,.osl e 0 s.fr.length,.int .i64 s.hand]
def Sto.bx(s:Sto)(v:Nat):Y6:=[sE (s.tn 1 2 3 4 5),G8 s.d.sec,I8 s.d.cache,B2 s.d.keep,w9 s.log,yU v s.fr s.fr.length]
def Sto.bxL(s:Sto)(v:Nat):Y6:=[sE (s.tn 1 2 3 6 5),G8 s.d.sec,I8 s.d.cache,B2 s.d.keep,none,yU v s.fr s.fr.length,w9 s.log]
def D5(s:Sto)(r:Rec):Rec:=⟨s.ep,(s.log.length:Int)+1,r.t,r.k,r.p,r.n,r.g,r.s,r.b,r.a⟩
noncomputable def I6(s:Sto)(r:Rec):Sto:=if S3 (D5 s r)=true then{s with log:=s.log++[D5 s r]} else s
def SmR(r:Rec):Prop:=r.b.length<=1048576/\r.a.length<=1048576
noncomputable def kQ:Rle:=⟨Sto×Rec×Nat,fun x=>[.ref 0 0 0,.agg x.2.1.ts],fun x=>x.1.bx x.2.2,fun x=>.bool (S3 (D5 x.1 x.2.1)),fun x=>(I6 x.1 x.2.1).bxL x.2.2,fun x=>x.1.log.length<=60/\SmR x.2.1⟩
noncomputable def b9Q:Con:=.reff kQ
noncomputable def b78:Code:=Tryz.f129.body.getD .skip
theorem a3I:Z7 Tryz.prog 129:=⟨_,Tryz.func129,by kernel_rfl,by kernel_rfl⟩
theorem b42(s:Sto)(r:Rec)(v:Nat)(h:
  X8 .i64 ((s.log.length:Int)+(1:Int))/\a92 r.a/\((!S3 (Rec.mk s.ep ((s.log.length:Int)+(1:Int)) r.t r.k r.p r.n r.g r.s r.b r.a))=true->(false=S3 (D5 s r)/\True)/\(1=1/\1=1/\EqC s (I6 s r))/\(Y4
  Z6 s.d.sec (I6 s r).d.sec)/\(Y4 Z3 s.d.cache (I6 s r).d.cache)/\(Y4 Y8 s.d.keep (I6 s r).d.keep)/\True/\(v=v/\s.fr.length=(I6 s r).fr.length/\T5 s.fr.length (X9 s.fr) (X9 (I6 s r).fr))
  /\(Y4 Y5 s.log (I6 s r).log)/\True)/\((!S3 (Rec.mk s.ep ((s.log.length:Int)+(1:Int)) r.t r.k r.p r.n r.g r.s r.b r.a))=false->(Le 1 1/\Le s.log.length s.log.length/\V7 s.log.length 1 96)/\(true=S3
  (D5 s r)/\True)/\(1=1/\1=1/\(0=0/\s.d.sec.length=(I6 s r).d.sec.length)/\(0=0/\s.d.cache.length=(I6 s r).d.cache.length)/\s.d.armed=(I6 s r).d.armed/\(0=0/\s.d.keep.length=(I6 s
  r).d.keep.length)/\s.ep=(I6 s r).ep/\(0=0/\s.log.length+1=(I6 s r).log.length)/\s.sure=(I6 s r).sure/\(0=0/\s.fr.length=(I6 s r).fr.length)/\s.hand=(I6 s r).hand/\True)/\(Y4 Z6 s.d.sec (I6
  s r).d.sec)/\(Y4 Z3 s.d.cache (I6 s r).d.cache)/\(Y4 Y8 s.d.keep (I6 s r).d.keep)/\True/\(v=v/\s.fr.length=(I6 s r).fr.length/\T5 s.fr.length (X9 s.fr) (X9 (I6 s r).fr))/\(s.log.length+1
  =(I6 s r).log.length/\Z8 (s.log.length+1) (W6 (Y5 s.log) s.log.length fun(k:Nat)=>List.take 10 (List.drop (k*10) [T.int .i64 s.ep,T.int .i64 ((s.log.length:Int)+(1:Int)),T.int .i64 r.t,T.int .i64
  r.k,T.int .i64 r.p,T.int .i64 r.n,T.int .i64 r.g,T.int .i64 r.s,T.str r.b,T.str r.a])) (Y5 (I6 s r).log))/\True)):
  V3 Tryz.prog 129 [.ref 0 0 0,.agg r.ts] (s.bx v) (.bool (S3 (D5 s r))) ((I6 s r).bxL v):=
 v5 (code:=b78) (gC yD k9 gN) Tryz.func129 (by kernel_rfl) (by kernel_rfl) Z0 [[.box 0,.arr 1,.arr 2,.arr 3,.arr 4,.arr 5,.arr 8],[.box 0,.arr 1,.arr 2,.arr 3,.arr 4,.arr 5,.arr 4]] h (by kernel_rfl)
theorem oJ(L:List Rec)(r:Rec):Z8 (L.length+1) (W6 (Y5 L) L.length fun k=>List.take 10 (List.drop (k*10) r.ts)) (Y5 (L++[r])):=by
 intro i hi;unfold W6 Y5;by_cases h:i<L.length
 ·rw[gJ h,C0,C0,kE h]
 ·have:i=L.length:=by omega
  subst this;rw[fX h];have:(L++[r]).getD L.length default=r:=by rw[C0,eT (V5 _)];simp
  rw[this];simp[Rec.ts]
theorem qN:Z1 Tryz.prog 129 b9Q:=by
 rintro⟨s,r,v⟩ ⟨h2,h3,h4⟩;dsimp only at h2 h3 h4;refine b42 s r v ⟨Z5 (by omega),by unfold a92;omega,fun h=> ?_,fun h=> ?_⟩
 ·have hr:S3 (D5 s r)=false:=by simpa[D5] using h
  have e:I6 s r=s:=by unfold I6;rw[if_neg (by rw[hr];simp)]
  rw[e,hr];exact⟨⟨rfl,trivial⟩,⟨rfl,rfl,⟨rfl,rfl⟩,⟨rfl,rfl⟩,rfl,⟨rfl,rfl⟩,rfl,⟨rfl,rfl⟩,rfl,⟨rfl,rfl⟩,rfl,trivial⟩,⟨rfl,Z9 _ _⟩,⟨rfl,Z9 _ _⟩,⟨rfl,Z9 _ _⟩,trivial,⟨rfl,rfl,U3 _⟩,⟨rfl,Z9 _ _⟩,trivial⟩
 ·have hr:S3 (D5 s r)=true:=by simpa[D5] using h
  have e:I6 s r={s with log:=s.log++[D5 s r]}:=by unfold I6;rw[if_pos hr]
  rw[e,hr];have hl:s.log.length+1=(s.log++[D5 s r]).length:=by simp
  exact⟨⟨V5 _,V5 _,by unfold V7;omega⟩,⟨rfl,trivial⟩,⟨rfl,rfl,⟨rfl,rfl⟩,⟨rfl,rfl⟩,rfl,⟨rfl,rfl⟩,rfl,⟨rfl,hl⟩,rfl,⟨rfl,rfl⟩,rfl,trivial⟩,⟨rfl,Z9 _ _⟩,⟨rfl,Z9 _ _⟩,⟨rfl,Z9 _ _⟩,trivial,⟨rfl,rfl,U3 _⟩,⟨hl,oJ s.log (D5 s r)⟩,trivial⟩
def c8a:Sto:=⟨⟨[],[],false,[]⟩,0,[],0,[],0⟩
theorem S7(n:Nat):Le (0+n) n:=Nat.le_of_eq (yO n)
theorem U1{row row':Nat->List T}:Z8 0 row row':=fun i hi=>absurd hi (J2 _)
end Go.Proofs.YtokaojbaacnngaaGreat

namespace Go.Proofs.YtokaojbaacnngaaGreat
set_option maxRecDepth 100000
open Go.SS

def b93:Con:=.rmk ⟨Dsk,fun d=>[.agg d.ts],fun _=>[],fun d=>.agg (d.tm 0),fun d=>d.hp,pD⟩
noncomputable def b8I:Code:=Tryz.f78.body.getD .skip
theorem xH:Z7 Tryz.prog 78:=⟨_,Tryz.func78,by kernel_rfl,by kernel_rfl⟩
theorem b9C(d:Dsk)(h:
  (Le 0 0/\V7 0 d.sec.length 16)/\(Le 0 0/\V7 0 d.cache.length 24)/\(Le 0 0/\V7 0 d.keep.length 8)/\(((0=0/\0+d.sec.length=d.sec.length)/\(0=0/\0+d.cache.length=d.cache.length)/\d.armed=d.armed/\(0=0
  /\0+d.keep.length=d.keep.length)/\True)/\True)/\(0+d.sec.length=d.sec.length/\Z8 (0+d.sec.length) (W6 (fun(k:Nat)=>List.take 1 (List.drop (k*1) [])) 0 (Z6 d.sec)) (Z6 d.sec))/\(0+
  d.cache.length=d.cache.length/\Z8 (0+d.cache.length) (W6 (fun(k:Nat)=>List.take 2 (List.drop (k*2) [])) 0 (Z3 d.cache)) (Z3 d.cache))/\(0+d.keep.length=d.keep.length/\Z8 (0+d.keep.length)
  (W6 (fun(k:Nat)=>List.take 1 (List.drop (k*1) [])) 0 (Y8 d.keep)) (Y8 d.keep))/\True):
  V3 Tryz.prog 78 [.agg d.ts] [] (.agg (d.tm 0)) d.hp:=
 v5 (code:=b8I) gN Tryz.func78 (by kernel_rfl) (by kernel_rfl) Z0 [[.arr 3,.arr 5,.arr 7]] h (by kernel_rfl)
theorem qT:Z1 Tryz.prog 78 b93:=by
 rintro(d:Dsk) ⟨h1,h2,h3⟩;exact⟨b9C d ⟨⟨V5 _,by unfold V7;omega⟩,⟨V5 _,by unfold V7;omega⟩,⟨V5 _,by unfold V7;omega⟩,⟨⟨⟨rfl,by omega⟩,⟨rfl,by omega⟩,rfl,⟨rfl,by omega⟩,trivial⟩,trivial⟩,⟨by omega,E7⟩,⟨by omega,E7⟩,⟨by omega,E7⟩,trivial⟩,rfl,wG d⟩
def b9d:Con:=.rmk ⟨Pg,fun p=>[.agg p.ts],fun _=>[],fun p=>.agg (p.tm 0),fun p=>[G8 p.sl],fun p=>p.sl.length<=1048576⟩
noncomputable def b8s:Code:=Tryz.f144.body.getD .skip
theorem a3r:Z7 Tryz.prog 144:=⟨_,Tryz.func144,by kernel_rfl,by kernel_rfl⟩
theorem b74(p:Pg)(h:
  (Le 0 0/\V7 0 p.sl.length 16)/\((p.lsn=p.lsn/\(0=0/\0+p.sl.length=p.sl.length)/\True)/\True)/\(0+p.sl.length=p.sl.length/\Z8 (0+p.sl.length) (W6 (fun(k:Nat)=>List.take 1 (List.drop (k*1) []))
  0 (Z6 p.sl)) (Z6 p.sl))/\True):
  V3 Tryz.prog 144 [.agg p.ts] [] (.agg (p.tm 0)) [G8 p.sl]:=
 v5 (code:=b8s) gN Tryz.func144 (by kernel_rfl) (by kernel_rfl) Z0 [[.arr 3]] h (by kernel_rfl)
theorem b2c:Z1 Tryz.prog 144 b9d:=by
 intro(p:Pg) (h1:p.sl.length<=1048576);exact⟨b74 p ⟨⟨V5 _,by unfold V7;omega⟩,⟨⟨rfl,⟨rfl,by omega⟩,trivial⟩,trivial⟩,⟨by omega,E7⟩,trivial⟩,rfl,A3 _⟩
def b80:Con:=.rmk ⟨Sto,fun s=>[.agg s.ts],fun _=>[],fun s=>.agg (s.tm 0),fun s=>s.hp 0,SmS⟩
def b4Y(s:Sto):Nat->Ann
 |0=>.one {i:Nat//i<=s.fr.length} (fun x=>⟨[(1,.ref 0 0 0),(2,.ref 1 0 0),(3,.osl 6 0 x.1),(4,.int .i64 x.1)],[sE [.osl 2 0 s.d.sec.length,.osl 3 0 s.d.cache.length,.bool s.d.armed,.osl 4 0 s.d.keep.length,.int .i64 s.ep,.osl 5 0 s.log.length,.int .i64 s.sure,w5 s.fr,.int .i64 s.hand],b8g,G8 s.d.sec,I8 s.d.cache,B2 s.d.keep,w9 s.log,yU 0 s.fr x.1]⟩) (fun x=>s.fr.length-x.1) [.fam 7,.box 0,.box 1,.arr 2,.arr 3,.arr 4,.arr 6,.arr 7] [.box 0,.box 1,.arr 2,.arr 3,.arr 4,.arr 5,.at_ 3] (fun _=>Z0)
 |_=>.none
noncomputable def b9U:Code:=Tryz.f79.body.getD .skip
theorem a3f:Z7 Tryz.prog 79:=⟨_,Tryz.func79,by kernel_rfl,by kernel_rfl⟩
theorem b9O(s:Sto)(h:
  ∃(x:Dsk),(((zR s.d x)/\True)/\pD x)/\(Le 0 0/\V7 0 s.log.length 96)/\(∃(x_1:{i:Nat//i<=s.fr.length}),((0=0/\0=0)/\(0=0/\0=0)/\(0=0/\0=x_1.val)/\(0:Int)=(x_1.val:Int)/\True)/\(1=1/\
  1=1/\(0=0/\x.sec.length=s.d.sec.length)/\(0=0/\x.cache.length=s.d.cache.length)/\x.armed=s.d.armed/\(0=0/\x.keep.length=s.d.keep.length)/\s.ep=s.ep/\(0=0/\0+s.log.length=s.log.length)/\s.sure=
  s.sure/\(Y4 V6 s.fr s.fr)/\s.hand=s.hand/\True)/\(1=1/\1=1/\Value.slice none 0 0=Value.slice none 0 0/\Value.slice none 0 0=Value.slice none 0 0/\false=false/\Value.slice none 0 0=Value.slice none 0 0/\
  (0:Int)=(0:Int)/\Value.slice none 0 0=Value.slice none 0 0/\(0:Int)=(0:Int)/\Value.slice none 0 0=Value.slice none 0 0/\(0:Int)=(0:Int)/\True)/\(Y4 Z6 x.sec s.d.sec)/\(Y4 Z3 x.cache
  s.d.cache)/\(Y4 Y8 x.keep s.d.keep)/\(0+s.log.length=s.log.length/\Z8 (0+s.log.length) (W6 (fun(k:Nat)=>List.take 10 (List.drop (k*10) [])) 0 (Y5 s.log)) (Y5 s.log))/\(0=0/\0=x_1.val/\
  T5 0 (fun(k:Nat)=>List.take 5 (List.drop (k*5) [])) (X9 s.fr))/\True)/\∀(x:{i:Nat//i<=s.fr.length}),(decide ((x.val:Int)<(s.fr.length:Int))=true->X0 (x.val:Int) s.fr.length/\∃(x_1:Pg),
  ((((s.fr.getD (x.val:Int).toNat default).pg.lsn=x_1.lsn/\(Y4 Z6 (s.fr.getD (x.val:Int).toNat default).pg.sl x_1.sl)/\True)/\True)/\x_1.sl.length<=1048576)/\(Le x_1.sl.length x_1.sl.length/\Le x.val x.val/\V7 x.val
  1 56)/\X8 .i64 ((x.val:Int)+(1:Int))/\∃(y:{i:Nat//i<=s.fr.length}),(((0=0/\0=0)/\(0=0/\0=0)/\(0=0/\x.val+1=y.val)/\(x.val:Int)+(1:Int)=(y.val:Int)/\True)/\(1=1/\1=1/\(0=0/\
  s.d.sec.length=s.d.sec.length)/\(0=0/\s.d.cache.length=s.d.cache.length)/\s.d.armed=s.d.armed/\(0=0/\s.d.keep.length=s.d.keep.length)/\s.ep=s.ep/\(0=0/\s.log.length=s.log.length)/\s.sure=s.sure/\(Y4
  V6 s.fr s.fr)/\s.hand=s.hand/\True)/\(1=1/\1=1/\Value.slice none 0 0=Value.slice none 0 0/\Value.slice none 0 0=Value.slice none 0 0/\false=false/\Value.slice none 0 0=Value.slice none 0 0/\(0:Int)=
  (0:Int)/\Value.slice none 0 0=Value.slice none 0 0/\(0:Int)=(0:Int)/\Value.slice none 0 0=Value.slice none 0 0/\(0:Int)=(0:Int)/\True)/\(Y4 Z6 s.d.sec s.d.sec)/\(Y4 Z3 s.d.cache s.d.cache)/\
  (Y4 Y8 s.d.keep s.d.keep)/\(Y4 Y5 s.log s.log)/\(0=0/\x.val+1=y.val/\T5 (x.val+1) (W6 (X9 s.fr) x.val fun(x_2:Nat)=>[T.int .i64 (s.fr.getD (x.val:Int).toNat default).no,T.int .i64 x_1.lsn,
  T.own 0 1 x_1.sl.length (Z6 x_1.sl),T.bool (s.fr.getD (x.val:Int).toNat default).dirty,T.int .i64 (s.fr.getD (x.val:Int).toNat default).first]) (X9 s.fr))/\True)/\Lt (s.fr.length-y.val) (s.fr.length-x.val))/\
  (decide ((x.val:Int)<(s.fr.length:Int))=false->(((0=0/\s.d.sec.length=s.d.sec.length)/\(0=0/\s.d.cache.length=s.d.cache.length)/\s.d.armed=s.d.armed/\(0=0/\s.d.keep.length=s.d.keep.length)/\s.ep=s.ep/\
  (0=0/\s.log.length=s.log.length)/\s.sure=s.sure/\(0=0/\x.val=s.fr.length)/\s.hand=s.hand/\True)/\True)/\(Y4 Z6 s.d.sec s.d.sec)/\(Y4 Z3 s.d.cache s.d.cache)/\(Y4 Y8 s.d.keep s.d.keep)/\(Y4
  Y5 s.log s.log)/\(0=0/\x.val=s.fr.length/\T5 x.val (X9 s.fr) (X9 s.fr))/\True)):
  V3 Tryz.prog 79 [.agg s.ts] [] (.agg (s.tm 0)) (s.hp 0):=
 v5 (code:=b9U) (gC qT xH (gC b2c a3r gN)) Tryz.func79 (by kernel_rfl) (by kernel_rfl) (b4Y s) [[.arr 2,.arr 3,.arr 4,.arr 5,.arr 6]] h (by kernel_rfl)
theorem b0B:Z1 Tryz.prog 79 b80:=by
 rintro(s:Sto) ⟨h1,h2,h3,h4⟩;refine⟨b9O s ⟨s.d,⟨⟨xL _,trivial⟩,h1⟩,⟨V5 _,by unfold V7;omega⟩,⟨⟨0,T0 _⟩,⟨⟨rfl,rfl⟩,⟨rfl,rfl⟩,⟨rfl,rfl⟩,rfl,trivial⟩,⟨rfl,rfl,⟨rfl,rfl⟩,⟨rfl,rfl⟩,rfl,⟨rfl,rfl⟩,rfl,⟨rfl,by omega⟩,rfl,⟨rfl,Z9 _ _⟩,rfl,trivial⟩,⟨rfl,rfl,rfl,rfl,rfl,rfl,rfl,rfl,rfl,rfl,rfl,trivial⟩,⟨rfl,Z9 _ _⟩,⟨rfl,Z9 _ _⟩,⟨rfl,Z9 _ _⟩,⟨by omega,E7⟩,⟨rfl,rfl,fun i hi=>absurd hi (J2 _)⟩,trivial⟩,fun x=>⟨fun hc=> ?_,fun hc=> ?_⟩⟩,rfl,wA s 0⟩
 ·have hlt:=Y9 hc;rw[v4];exact⟨Y7 hlt,(s.fr.getD x.val default).pg,⟨⟨⟨rfl,⟨rfl,Z9 _ _⟩,trivial⟩,trivial⟩,h4 _ hlt⟩,⟨V5 _,V5 _,by unfold V7;omega⟩,Z5 (by omega),⟨x.val+1,hlt⟩,⟨⟨⟨rfl,rfl⟩,⟨rfl,rfl⟩,⟨rfl,rfl⟩,by dsimp only;omega,trivial⟩,⟨rfl,rfl,⟨rfl,rfl⟩,⟨rfl,rfl⟩,rfl,⟨rfl,rfl⟩,rfl,⟨rfl,rfl⟩,rfl,⟨rfl,Z9 _ _⟩,rfl,trivial⟩,⟨rfl,rfl,rfl,rfl,rfl,rfl,rfl,rfl,rfl,rfl,rfl,trivial⟩,⟨rfl,Z9 _ _⟩,⟨rfl,Z9 _ _⟩,⟨rfl,Z9 _ _⟩,⟨rfl,Z9 _ _⟩,⟨rfl,rfl,a9F⟩,trivial⟩,V9.ext_lt hlt⟩
 ·have hx:x.val=s.fr.length:=by have:=x.2;have:=Y3 hc;omega
  rw[hx];exact⟨⟨⟨⟨rfl,rfl⟩,⟨rfl,rfl⟩,rfl,⟨rfl,rfl⟩,rfl,⟨rfl,rfl⟩,rfl,⟨rfl,rfl⟩,rfl,trivial⟩,trivial⟩,⟨rfl,Z9 _ _⟩,⟨rfl,Z9 _ _⟩,⟨rfl,Z9 _ _⟩,⟨rfl,Z9 _ _⟩,⟨rfl,rfl,U3 _⟩,trivial⟩
end Go.Proofs.YtokaojbaacnngaaGreat

