/- A part of the proof. -/
import Derived.Test.YtokaojbaacnngaaGreatF0F1F2
namespace Go.Proofs.YtokaojbaacnngaaGreat
set_option maxRecDepth 100000
open Go.SS

theorem E4:L1 []:=fun k ob h=>by simp[Z4] at h
theorem H5{o:Ob}{H:Y5}(h:a8Q o)(k:L1 H):L1 (some o::H):=fun i ob hi=>by
 cases i with
 |zero=>
  simp only[Z4,List.getElem?_cons_zero,Option.bind_some,id,Option.some.injEq] at hi
  rw[←hi];exact h
 |succ i=>exact k i ob (by simpa[Z4] using hi)
theorem G4{row row':Nat->List T}{n:Nat}:Z7 (0+n) (W4 row 0 row') row':=fun i _=>rfl
def J4(L:List Pend):Option Ob:=some (.arr true 0 2 L.length (Z3 L))
def C9(L:List Int):Option Ob:=some (.arr true 0 1 L.length (Y7 L))
def A1(L:List Rec):Option Ob:=some (.arr true 0 10 L.length (Y4 L))
theorem B5(L:List (List UInt8)):L1 [I6 L]:=H5 (fun i _ t ht=>by simp only[Z6,List.mem_singleton] at ht;rw[ht];rfl) E4
theorem a1S(L:List Pend):L1 [J4 L]:=H5 (fun i _ t ht=>by
 simp only[Z3,Pend.ts,List.mem_cons,List.not_mem_nil,or_false] at ht;rcases ht with rfl|rfl<;>rfl) E4
theorem a21(L:List Int):L1 [C9 L]:=H5 (fun i _ t ht=>by simp only[Y7,List.mem_singleton] at ht;rw[ht];rfl) E4
theorem a1f(L:List Rec):L1 [A1 L]:=H5 (fun i _ t ht=>by
 simp only[Y4,Rec.ts,List.mem_cons,List.not_mem_nil,or_false] at ht;rcases ht with rfl|rfl|rfl|rfl|rfl|rfl|rfl|rfl|rfl|rfl<;>rfl) E4
def d2N:Con:=.rmk ⟨List (List UInt8),fun L=>[L6 L],fun _=>[],fun L=>.osl 0 0 L.length,fun L=>[I6 L],fun L=>L.length<=1048576⟩
noncomputable def d0X:Code:=Tryz.f225.body.getD .skip
theorem a4r:Z8 Tryz.prog 225:=⟨_,Tryz.func225,by kernel_rfl,by kernel_rfl⟩
theorem d2R(L:List (List UInt8))(h:
  ∀(b:Bool),(b=true->L.length=0)->(b=true->((0=0/\0=L.length)/\True)/\(0=L.length/\Z7 0 (fun(x:Nat)=>[]) (Z6 L))/\True)/\(b=false->(Le 0 0/\V6 0 L.length 16)/\((0=0/\0+L.length=
  L.length)/\True)/\(0+L.length=L.length/\Z7 (0+L.length) (W4 (fun(k:Nat)=>List.take 1 (List.drop (k*1) [])) 0 (Z6 L)) (Z6 L))/\True)):
  V7 Tryz.prog 225 [L6 L] [] (.osl 0 0 L.length) [I6 L]:=
 C4 (code:=d0X) gN Tryz.func225 (by kernel_rfl) (by kernel_rfl) Z0 [[.arr 1],[.nilS 0 [] 0 1,.arr 0]] h (by kernel_rfl)
theorem b1o:Z2 Tryz.prog 225 d2N:=fun(L:List (List UInt8)) (hL:L.length<=1048576)=>
 ⟨d2R L (fun b hb=>⟨fun h=>⟨⟨⟨rfl,(hb h).symm⟩,trivial⟩,⟨(hb h).symm,fun i hi=>absurd hi (Nat.not_lt_zero _)⟩,trivial⟩,fun _=>⟨⟨Nat.le_refl _,by unfold V6;omega⟩,⟨⟨rfl,by omega⟩,trivial⟩,⟨by omega,G4⟩,trivial⟩⟩),rfl,B5 L⟩
def c56:Con:=.rmk ⟨List Pend,fun L=>[M0 L],fun _=>[],fun L=>.osl 0 0 L.length,fun L=>[J4 L],fun L=>L.length<=1048576⟩
noncomputable def c5z:Code:=Tryz.f226.body.getD .skip
theorem b1I:Z8 Tryz.prog 226:=⟨_,Tryz.func226,by kernel_rfl,by kernel_rfl⟩
theorem c69(L:List Pend)(h:
  ∀(b:Bool),(b=true->L.length=0)->(b=true->((0=0/\0=L.length)/\True)/\(0=L.length/\Z7 0 (fun(x:Nat)=>[]) (Z3 L))/\True)/\(b=false->(Le 0 0/\V6 0 L.length 24)/\((0=0/\0+L.length=
  L.length)/\True)/\(0+L.length=L.length/\Z7 (0+L.length) (W4 (fun(k:Nat)=>List.take 2 (List.drop (k*2) [])) 0 (Z3 L)) (Z3 L))/\True)):
  V7 Tryz.prog 226 [M0 L] [] (.osl 0 0 L.length) [J4 L]:=
 C4 (code:=c5z) gN Tryz.func226 (by kernel_rfl) (by kernel_rfl) Z0 [[.arr 1],[.nilS 0 [] 0 2,.arr 0]] h (by kernel_rfl)
theorem c0G:Z2 Tryz.prog 226 c56:=fun(L:List Pend) (hL:L.length<=1048576)=>
 ⟨c69 L (fun b hb=>⟨fun h=>⟨⟨⟨rfl,(hb h).symm⟩,trivial⟩,⟨(hb h).symm,fun i hi=>absurd hi (Nat.not_lt_zero _)⟩,trivial⟩,fun _=>⟨⟨Nat.le_refl _,by unfold V6;omega⟩,⟨⟨rfl,by omega⟩,trivial⟩,⟨by omega,G4⟩,trivial⟩⟩),rfl,a1S L⟩
def d2x:Con:=.rmk ⟨List Int,fun L=>[w4 L],fun _=>[],fun L=>.osl 0 0 L.length,fun L=>[C9 L],fun L=>L.length<=1048576⟩
noncomputable def c9l:Code:=Tryz.f92.body.getD .skip
theorem a5s:Z8 Tryz.prog 92:=⟨_,Tryz.func92,by kernel_rfl,by kernel_rfl⟩
theorem d0v(L:List Int)(h:
  ∀(b:Bool),(b=true->L.length=0)->(b=true->((0=0/\0=L.length)/\True)/\(0=L.length/\Z7 0 (fun(x:Nat)=>[]) (Y7 L))/\True)/\(b=false->(Le 0 0/\V6 0 L.length 8)/\((0=0/\0+L.length=
  L.length)/\True)/\(0+L.length=L.length/\Z7 (0+L.length) (W4 (fun(k:Nat)=>List.take 1 (List.drop (k*1) [])) 0 (Y7 L)) (Y7 L))/\True)):
  V7 Tryz.prog 92 [w4 L] [] (.osl 0 0 L.length) [C9 L]:=
 C4 (code:=c9l) gN Tryz.func92 (by kernel_rfl) (by kernel_rfl) Z0 [[.arr 1],[.nilS 0 [] 0 1,.arr 0]] h (by kernel_rfl)
theorem a9A:Z2 Tryz.prog 92 d2x:=fun(L:List Int) (hL:L.length<=1048576)=>
 ⟨d0v L (fun b hb=>⟨fun h=>⟨⟨⟨rfl,(hb h).symm⟩,trivial⟩,⟨(hb h).symm,fun i hi=>absurd hi (Nat.not_lt_zero _)⟩,trivial⟩,fun _=>⟨⟨Nat.le_refl _,by unfold V6;omega⟩,⟨⟨rfl,by omega⟩,trivial⟩,⟨by omega,G4⟩,trivial⟩⟩),rfl,a21 L⟩
def c9q:Con:=.rmk ⟨List Rec,fun L=>[G3 L],fun _=>[],fun L=>.osl 0 0 L.length,fun L=>[A1 L],fun L=>L.length<=1048576⟩
noncomputable def d1V:Code:=Tryz.f163.body.getD .skip
theorem b4W:Z8 Tryz.prog 163:=⟨_,Tryz.func163,by kernel_rfl,by kernel_rfl⟩
theorem c99(L:List Rec)(h:
  ∀(b:Bool),(b=true->L.length=0)->(b=true->((0=0/\0=L.length)/\True)/\(0=L.length/\Z7 0 (fun(x:Nat)=>[]) (Y4 L))/\True)/\(b=false->(Le 0 0/\V6 0 L.length 96)/\((0=0/\0+L.length=
  L.length)/\True)/\(0+L.length=L.length/\Z7 (0+L.length) (W4 (fun(k:Nat)=>List.take 10 (List.drop (k*10) [])) 0 (Y4 L)) (Y4 L))/\True)):
  V7 Tryz.prog 163 [G3 L] [] (.osl 0 0 L.length) [A1 L]:=
 C4 (code:=d1V) gN Tryz.func163 (by kernel_rfl) (by kernel_rfl) Z0 [[.arr 1],[.nilS 0 [] 0 10,.arr 0]] h (by kernel_rfl)
theorem c4O:Z2 Tryz.prog 163 c9q:=fun(L:List Rec) (hL:L.length<=1048576)=>
 ⟨c99 L (fun b hb=>⟨fun h=>⟨⟨⟨rfl,(hb h).symm⟩,trivial⟩,⟨(hb h).symm,fun i hi=>absurd hi (Nat.not_lt_zero _)⟩,trivial⟩,fun _=>⟨⟨Nat.le_refl _,by unfold V6;omega⟩,⟨⟨rfl,by omega⟩,trivial⟩,⟨by omega,G4⟩,trivial⟩⟩),rfl,a1f L⟩
def Dsk.tm(d:Dsk)(b:Nat):List T:=[.osl b 0 d.sec.length,.osl (b+1) 0 d.cache.length,.bool d.armed,.osl (b+2) 0 d.keep.length]
def Dsk.hp(d:Dsk):Y5:=[I6 d.sec,J4 d.cache,C9 d.keep]
theorem B4{H K:Y5}(h:L1 H)(k:L1 K):L1 (H++K):=fun i ob hi=>by
 unfold Z4 at hi;rw[List.getElem?_append] at hi
 split at hi
 ·exact h i ob hi
 ·exact k _ ob hi
theorem a1e(d:Dsk):L1 d.hp:=B4 (B5 _) (B4 (a1S _) (a21 _))
def c9X:Con:=.rmk ⟨Dsk,fun d=>[.agg d.ts],fun _=>[],fun d=>.agg (d.tm 0),fun d=>d.hp,SmD⟩
noncomputable def d1m:Code:=Tryz.f162.body.getD .skip
theorem b3k:Z8 Tryz.prog 162:=⟨_,Tryz.func162,by kernel_rfl,by kernel_rfl⟩
theorem d2w(d:Dsk)(h:
  ∃(x:(List (List UInt8))),(((d.sec.length=List.length x/\Z7 d.sec.length (Z6 d.sec) (Z6 x))/\True)/\List.length x<=1048576)/\∃(x_1:(List Pend)),(((d.cache.length=List.length x_1/\Z7 d.cache.length
  (Z3 d.cache) (Z3 x_1))/\True)/\List.length x_1<=1048576)/\∃(x_2:(List Int)),(((d.keep.length=List.length x_2/\Z7 d.keep.length (Y7 d.keep) (Y7 x_2))/\True)/\List.length x_2<=1048576)/\(((0=0
  /\List.length x=d.sec.length)/\(0=0/\List.length x_1=d.cache.length)/\d.armed=d.armed/\(0=0/\List.length x_2=d.keep.length)/\True)/\True)/\(List.length x=d.sec.length/\Z7 (List.length x) (Z6 x)
  (Z6 d.sec))/\(List.length x_1=d.cache.length/\Z7 (List.length x_1) (Z3 x_1) (Z3 d.cache))/\(List.length x_2=d.keep.length/\Z7 (List.length x_2) (Y7 x_2) (Y7 d.keep))/\True):
  V7 Tryz.prog 162 [.agg d.ts] [] (.agg (d.tm 0)) d.hp:=
 C4 (code:=d1m) (gC b1o a4r (gC c0G b1I (gC a9A a5s gN))) Tryz.func162 (by kernel_rfl) (by kernel_rfl) Z0 [[.arr 2,.arr 3,.arr 4]] h (by kernel_rfl)
theorem c8t:Z2 Tryz.prog 162 c9X:=by
 rintro(d:Dsk) ⟨h1,h2,h3⟩;exact⟨d2w d ⟨d.sec,⟨⟨⟨rfl,Z9 _ _⟩,trivial⟩,h1⟩,d.cache,⟨⟨⟨rfl,Z9 _ _⟩,trivial⟩,h2⟩,d.keep,⟨⟨⟨rfl,Z9 _ _⟩,trivial⟩,h3⟩,⟨⟨⟨rfl,rfl⟩,⟨rfl,rfl⟩,rfl,⟨rfl,rfl⟩,trivial⟩,trivial⟩,⟨rfl,Z9 _ _⟩,⟨rfl,Z9 _ _⟩,⟨rfl,Z9 _ _⟩,trivial⟩,rfl,a1e d⟩
def Pg.tm(p:Pg)(b:Nat):List T:=[.int .i64 p.lsn,.osl b 0 p.sl.length]
def d4T:Con:=.rmk ⟨Pg,fun p=>[.agg p.ts],fun _=>[],fun p=>.agg (p.tm 0),fun p=>[I6 p.sl],fun p=>p.sl.length<=1048576⟩
noncomputable def d5P:Code:=Tryz.f164.body.getD .skip
theorem c1k:Z8 Tryz.prog 164:=⟨_,Tryz.func164,by kernel_rfl,by kernel_rfl⟩
theorem d5j(p:Pg)(h:
  ∃(x:(List (List UInt8))),(((p.sl.length=List.length x/\Z7 p.sl.length (Z6 p.sl) (Z6 x))/\True)/\List.length x<=1048576)/\((p.lsn=p.lsn/\(0=0/\List.length x=p.sl.length)/\True)/\True)/\(List.length
  x=p.sl.length/\Z7 (List.length x) (Z6 x) (Z6 p.sl))/\True):
  V7 Tryz.prog 164 [.agg p.ts] [] (.agg (p.tm 0)) [I6 p.sl]:=
 C4 (code:=d5P) (gC b1o a4r gN) Tryz.func164 (by kernel_rfl) (by kernel_rfl) Z0 [[.arr 2]] h (by kernel_rfl)
theorem d2j:Z2 Tryz.prog 164 d4T:=by
 intro(p:Pg) (h1:p.sl.length<=1048576);exact⟨d5j p ⟨p.sl,⟨⟨⟨rfl,Z9 _ _⟩,trivial⟩,h1⟩,⟨⟨rfl,⟨rfl,rfl⟩,trivial⟩,trivial⟩,⟨rfl,Z9 _ _⟩,trivial⟩,rfl,B5 _⟩
def Y0(L:List Frm)(i:Nat):List T:=[.int .i64 (L.getD i default).no,.int .i64 (L.getD i default).pg.lsn,.own 0 1 (L.getD i default).pg.sl.length (Z6 (L.getD i default).pg.sl),.bool (L.getD i default).dirty,.int .i64 (L.getD i default).first]
def c8(v:Nat)(L:List Frm)(n:Nat):Option Ob:=some (.fam v 0 5 n (Y0 L))
def Sto.tm(s:Sto)(b:Nat):List T:=[.osl b 0 s.d.sec.length,.osl (b+1) 0 s.d.cache.length,.bool s.d.armed,.osl (b+2) 0 s.d.keep.length,.int .i64 s.ep,.osl (b+3) 0 s.log.length,.int .i64 s.sure,.osl (b+4) 0 s.fr.length,.int .i64 s.hand]
def Sto.hp(s:Sto)(v:Nat):Y5:=[I6 s.d.sec,J4 s.d.cache,C9 s.d.keep,A1 s.log,c8 v s.fr s.fr.length]
def d7f:List T:=[.v (.slice none 0 0),.v (.slice none 0 0),.bool false,.v (.slice none 0 0),.int .i64 0,.v (.slice none 0 0),.int .i64 0,.v (.slice none 0 0),.int .i64 0]
def c9b:Option Ob:=some (.arr true 1000000 9 1 fun _=>d7f)
def a18(l:List T):Option Ob:=some (.arr false 1000000 9 1 fun _=>l)
abbrev EqC(a b:Sto):Prop:=((0:Nat)=0/\a.d.sec.length=b.d.sec.length)/\((0:Nat)=0/\a.d.cache.length=b.d.cache.length)/\a.d.armed=b.d.armed/\((0:Nat)=0/\a.d.keep.length=b.d.keep.length)/\a.ep=b.ep/\((0:Nat)=0/\a.log.length=b.log.length)/\a.sure=b.sure/\((0:Nat)=0/\a.fr.length=b.fr.length)/\a.hand=b.hand/\True
abbrev EqH(v u:Nat)(a b:Sto):Prop:=Y3 Z6 a.d.sec b.d.sec/\Y3 Z3 a.d.cache b.d.cache/\Y3 Y7 a.d.keep b.d.keep/\Y3 Y4 a.log b.log/\(v=u/\a.fr.length=b.fr.length/\T9 a.fr.length (Y0 a.fr) (Y0 b.fr))/\True
abbrev EqR(a b:Rec):Prop:=a.e=b.e/\a.l=b.l/\a.t=b.t/\a.k=b.k/\a.p=b.p/\a.n=b.n/\a.g=b.g/\a.s=b.s/\a.b=b.b/\a.a=b.a/\True
theorem U4{L:List Frm}(n:Nat):T9 n (Y0 L) (Y0 L):=fun i _=>by
 refine⟨?_,?_,⟨rfl,rfl,Z9 _ _⟩,?_,?_,trivial⟩<;>rfl
theorem b1b{i n:Nat}(h:i<n):Nat.blt i n=true:=Nat.ble_eq_true_of_le h
theorem a95{i n:Nat}(h:¬i<n):Nat.blt i n=false:=by
 cases hb:Nat.blt i n with
 |false=>rfl
 |true=>exact absurd (Nat.le_of_ble_eq_true hb) h
theorem b8l{L:List Frm}{i:Nat}:T9 (i+1) (W4 (Y0 L) i fun _=>Y0 L i) (Y0 L):=fun j hj=>by
 have:W4 (Y0 L) i (fun _=>Y0 L i) j=Y0 L j:=by
  unfold W4;by_cases hji:j<i
  ·rw[b1b hji]
  ·rw[a95 hji,show i=j by omega]
 rw[this];exact U4 (j+1) j (Nat.lt_succ_self j)
theorem a6t(v:Nat)(L:List Frm)(n:Nat):L1 [c8 v L n]:=H5 (fun i _ t ht=>by
 simp only[Y0,List.mem_cons,List.not_mem_nil,or_false] at ht;rcases ht with rfl|rfl|rfl|rfl|rfl
 ·rfl
 ·rfl
 ·intro j _ t ht;simp only[Z6,List.mem_singleton] at ht;rw[ht];rfl
 ·rfl
 ·rfl) E4
theorem a1h(s:Sto)(v:Nat):L1 (s.hp v):=B4 (H:=s.d.hp) (a1e _) (B4 (a1f _) (a6t _ _ _))
theorem a66:∀l:List T,c92 l l
 | []=>trivial
 |a::r=>⟨by cases a<;>first|rfl|exact⟨rfl,rfl,Z9 _ _⟩,a66 r⟩
theorem a2L{n:Nat}{f g:Nat->List T}(h:∀i,i<n->f i=g i):T9 n f g:=fun i hi=>by rw[h i hi];exact a66 _
def d0R:Con:=.rmk ⟨Sto,fun s=>[.agg s.ts],fun _=>[],fun s=>.agg (s.tm 0),fun s=>s.hp 0,SmS⟩
def c9U(s:Sto):Nat->Ann
 |0=>.one {i:Nat//i<=s.fr.length} (fun x=>⟨[(1,.ref 0 0 0),(2,.ref 1 0 0),(17,y9 s.fr),(18,.int .i64 s.fr.length),(19,.int .i64 x.1)],[a18 [.osl 2 0 s.d.sec.length,.osl 3 0 s.d.cache.length,.bool s.d.armed,.osl 4 0 s.d.keep.length,.int .i64 s.ep,.osl 5 0 s.log.length,.int .i64 s.sure,.osl 6 0 x.1,.int .i64 s.hand],c9b,I6 s.d.sec,J4 s.d.cache,C9 s.d.keep,A1 s.log,c8 0 s.fr x.1]⟩) (fun x=>s.fr.length-x.1) [.nilC 0 7 0 5,.fam 6,.box 0,.box 1,.arr 2,.arr 3,.arr 4,.arr 5,.arr 6] [.box 0,.box 1,.arr 2,.arr 3,.arr 4,.arr 5,.at_ 31] (fun _=>Z0)
 |_=>.none
noncomputable def c96:Code:=Tryz.f89.body.getD .skip
theorem b3w:Z8 Tryz.prog 89:=⟨_,Tryz.func89,by kernel_rfl,by kernel_rfl⟩
theorem d1H(s:Sto)(h:
  ∃(x:Dsk),(((EqD s.d x)/\True)/\SmD x)/\∃(x_1:(List Rec)),(((s.log.length=List.length x_1/\Z7 s.log.length (Y4 s.log) (Y4 x_1))/\True)/\List.length x_1<=1048576)/\(∃(x_2:{i:Nat//i<=s.fr.length
  }),((0=0/\0=0)/\(0=0/\0=0)/\(Y3 V3 s.fr s.fr)/\(s.fr.length:Int)=(s.fr.length:Int)/\(0:Int)=(x_2.val:Int)/\True)/\(1=1/\1=1/\(0=0/\x.sec.length=s.d.sec.length)/\(0=0/\x.cache.length=
  s.d.cache.length)/\x.armed=s.d.armed/\(0=0/\x.keep.length=s.d.keep.length)/\s.ep=s.ep/\(0=0/\List.length x_1=s.log.length)/\s.sure=s.sure/\(0=0/\0=x_2.val)/\s.hand=s.hand/\True)/\(1=1/\1=1/\
  Value.slice none 0 0=Value.slice none 0 0/\Value.slice none 0 0=Value.slice none 0 0/\false=false/\Value.slice none 0 0=Value.slice none 0 0/\(0:Int)=(0:Int)/\Value.slice none 0 0=Value.slice none 0 0/\(0:
  Int)=(0:Int)/\Value.slice none 0 0=Value.slice none 0 0/\(0:Int)=(0:Int)/\True)/\(Y3 Z6 x.sec s.d.sec)/\(Y3 Z3 x.cache s.d.cache)/\(Y3 Y7 x.keep s.d.keep)/\(List.length x_1=s.log.length/\
  Z7 (List.length x_1) (Y4 x_1) (Y4 s.log))/\(0=0/\0=x_2.val/\T9 0 (fun(x:Nat)=>[]) (Y0 s.fr))/\True)/\∀(x:{i:Nat//i<=s.fr.length}),(decide ((x.val:Int)<(s.fr.length:Int))=true->W7
  (x.val:Int) s.fr.length/\∃(x_2:Pg),((((s.fr.getD (x.val:Int).toNat default).pg.lsn=x_2.lsn/\(Y3 Z6 (s.fr.getD (x.val:Int).toNat default).pg.sl x_2.sl)/\True)/\True)/\x_2.sl.length<=1048576)/\(Le x_2.sl.length
  x_2.sl.length/\Le x.val x.val/\V6 x.val 1 56)/\X6 .i64 ((x.val:Int)+(1:Int))/\∃(y:{i:Nat//i<=s.fr.length}),(((0=0/\0=0)/\(0=0/\0=0)/\(Y3 V3 s.fr s.fr)/\(s.fr.length:Int)=(s.fr.length:Int)
  /\(x.val:Int)+(1:Int)=(y.val:Int)/\True)/\(1=1/\1=1/\(0=0/\s.d.sec.length=s.d.sec.length)/\(0=0/\s.d.cache.length=s.d.cache.length)/\s.d.armed=s.d.armed/\(0=0/\s.d.keep.length=s.d.keep.length)/\
  s.ep=s.ep/\(0=0/\s.log.length=s.log.length)/\s.sure=s.sure/\(0=0/\x.val+1=y.val)/\s.hand=s.hand/\True)/\(1=1/\1=1/\Value.slice none 0 0=Value.slice none 0 0/\Value.slice none 0 0=Value.slice none
  0 0/\false=false/\Value.slice none 0 0=Value.slice none 0 0/\(0:Int)=(0:Int)/\Value.slice none 0 0=Value.slice none 0 0/\(0:Int)=(0:Int)/\Value.slice none 0 0=Value.slice none 0 0/\(0:Int)=(0:Int)
  /\True)/\(Y3 Z6 s.d.sec s.d.sec)/\(Y3 Z3 s.d.cache s.d.cache)/\(Y3 Y7 s.d.keep s.d.keep)/\(Y3 Y4 s.log s.log)/\(0=0/\x.val+1=y.val/\T9 (x.val+1) (W4 (Y0 s.fr) x.val fun(x_3:Nat)=>
  [T.int .i64 (s.fr.getD (x.val:Int).toNat default).no,T.int .i64 x_2.lsn,T.own 0 1 x_2.sl.length (Z6 x_2.sl),T.bool (s.fr.getD (x.val:Int).toNat default).dirty,T.int .i64 (s.fr.getD (x.val:Int).toNat default).first])
  (Y0 s.fr))/\True)/\Lt (s.fr.length-y.val) (s.fr.length-x.val))/\(decide ((x.val:Int)<(s.fr.length:Int))=false->(((0=0/\s.d.sec.length=s.d.sec.length)/\(0=0/\s.d.cache.length=s.d.cache.length)/\s.d.armed
  =s.d.armed/\(0=0/\s.d.keep.length=s.d.keep.length)/\s.ep=s.ep/\(0=0/\s.log.length=s.log.length)/\s.sure=s.sure/\(0=0/\x.val=s.fr.length)/\s.hand=s.hand/\True)/\True)/\(Y3 Z6 s.d.sec s.d.sec)/\
  (Y3 Z3 s.d.cache s.d.cache)/\(Y3 Y7 s.d.keep s.d.keep)/\(Y3 Y4 s.log s.log)/\(0=0/\x.val=s.fr.length/\T9 x.val (Y0 s.fr) (Y0 s.fr))/\True)):
  V7 Tryz.prog 89 [.agg s.ts] [] (.agg (s.tm 0)) (s.hp 0):=
 C4 (code:=c96) (gC c8t b3k (gC c4O b4W (gC d2j c1k gN))) Tryz.func89 (by kernel_rfl) (by kernel_rfl) (c9U s) [[.arr 2,.arr 3,.arr 4,.arr 5,.arr 6]] h (by kernel_rfl)
theorem c5d:Z2 Tryz.prog 89 d0R:=by
 rintro(s:Sto) ⟨h1,h2,h3,h4⟩;refine⟨d1H s ⟨s.d,⟨⟨eqD _,trivial⟩,h1⟩,s.log,⟨⟨⟨rfl,Z9 _ _⟩,trivial⟩,h2⟩,⟨⟨0,Nat.zero_le _⟩,⟨⟨rfl,rfl⟩,⟨rfl,rfl⟩,⟨rfl,Z9 _ _⟩,rfl,rfl,trivial⟩,⟨rfl,rfl,⟨rfl,rfl⟩,⟨rfl,rfl⟩,rfl,⟨rfl,rfl⟩,rfl,⟨rfl,rfl⟩,rfl,⟨rfl,rfl⟩,rfl,trivial⟩,⟨rfl,rfl,rfl,rfl,rfl,rfl,rfl,rfl,rfl,rfl,rfl,trivial⟩,⟨rfl,Z9 _ _⟩,⟨rfl,Z9 _ _⟩,⟨rfl,Z9 _ _⟩,⟨rfl,Z9 _ _⟩,⟨rfl,rfl,fun i hi=>absurd hi (Nat.not_lt_zero _)⟩,trivial⟩,fun x=>⟨fun hc=> ?_,fun hc=> ?_⟩⟩,rfl,?_⟩
 ·have hlt:=Y6 hc;rw[Int.toNat_natCast];exact⟨Y8 hlt,(s.fr.getD x.val default).pg,⟨⟨⟨rfl,⟨rfl,Z9 _ _⟩,trivial⟩,trivial⟩,h4 _ hlt⟩,⟨Nat.le_refl _,Nat.le_refl _,by unfold V6;omega⟩,Z5 (by omega),⟨x.val+1,hlt⟩,⟨⟨⟨rfl,rfl⟩,⟨rfl,rfl⟩,⟨rfl,Z9 _ _⟩,rfl,by dsimp only;omega,trivial⟩,⟨rfl,rfl,⟨rfl,rfl⟩,⟨rfl,rfl⟩,rfl,⟨rfl,rfl⟩,rfl,⟨rfl,rfl⟩,rfl,⟨rfl,rfl⟩,rfl,trivial⟩,⟨rfl,rfl,rfl,rfl,rfl,rfl,rfl,rfl,rfl,rfl,rfl,trivial⟩,⟨rfl,Z9 _ _⟩,⟨rfl,Z9 _ _⟩,⟨rfl,Z9 _ _⟩,⟨rfl,Z9 _ _⟩,⟨rfl,rfl,b8l⟩,trivial⟩,W5.ext_lt hlt⟩
 ·have hx:x.val=s.fr.length:=by have:=x.2;have:=Y2 hc;omega
  rw[hx];exact⟨⟨⟨⟨rfl,rfl⟩,⟨rfl,rfl⟩,rfl,⟨rfl,rfl⟩,rfl,⟨rfl,rfl⟩,rfl,⟨rfl,rfl⟩,rfl,trivial⟩,trivial⟩,⟨rfl,Z9 _ _⟩,⟨rfl,Z9 _ _⟩,⟨rfl,Z9 _ _⟩,⟨rfl,Z9 _ _⟩,⟨rfl,rfl,U4 _⟩,trivial⟩
 ·exact a1h s 0
end Go.Proofs.YtokaojbaacnngaaGreat

namespace Go.Proofs.YtokaojbaacnngaaGreat
set_option maxRecDepth 100000
open Go.SS

def Sto.tn(s:Sto)(a b c d e:Nat):List T:=[.osl a 0 s.d.sec.length,.osl b 0 s.d.cache.length,.bool s.d.armed,.osl c 0 s.d.keep.length,.int .i64 s.ep,.osl d 0 s.log.length,.int .i64 s.sure,.osl e 0 s.fr.length,.int .i64 s.hand]
def Sto.bx(s:Sto)(v:Nat):Y5:=[a18 (s.tn 1 2 3 4 5),I6 s.d.sec,J4 s.d.cache,C9 s.d.keep,A1 s.log,c8 v s.fr s.fr.length]
def Sto.bxL(s:Sto)(v:Nat):Y5:=[a18 (s.tn 1 2 3 6 5),I6 s.d.sec,J4 s.d.cache,C9 s.d.keep,none,c8 v s.fr s.fr.length,A1 s.log]
def K9(s:Sto)(r:Rec):Rec:=⟨s.ep,(s.log.length:Int)+1,r.t,r.k,r.p,r.n,r.g,r.s,r.b,r.a⟩
noncomputable def S8(s:Sto)(r:Rec):Sto:=if S2 (K9 s r)=true then{s with log:=s.log++[K9 s r]} else s
def SmR(r:Rec):Prop:=r.b.length<=1048576/\r.a.length<=1048576
noncomputable def b1x:Rle:=⟨Sto×Rec×Nat,fun x=>[.ref 0 0 0,.agg x.2.1.ts],fun x=>x.1.bx x.2.2,fun x=>.bool (S2 (K9 x.1 x.2.1)),fun x=>(S8 x.1 x.2.1).bxL x.2.2,fun x=>x.1.log.length<=60/\SmR x.2.1⟩
noncomputable def c7r:Con:=.reff b1x
noncomputable def c5p:Code:=Tryz.f129.body.getD .skip
theorem a9I:Z8 Tryz.prog 129:=⟨_,Tryz.func129,by kernel_rfl,by kernel_rfl⟩
theorem c5f(s:Sto)(r:Rec)(v:Nat)(h:
  X6 .i64 ((s.log.length:Int)+(1:Int))/\c08 r.a/\((!S2 (Rec.mk s.ep ((s.log.length:Int)+(1:Int)) r.t r.k r.p r.n r.g r.s r.b r.a))=true->(false=S2 (K9 s r)/\True)/\(1=1/\1=1/\EqC s (S8 s r))/\(Y3
  Z6 s.d.sec (S8 s r).d.sec)/\(Y3 Z3 s.d.cache (S8 s r).d.cache)/\(Y3 Y7 s.d.keep (S8 s r).d.keep)/\True/\(v=v/\s.fr.length=(S8 s r).fr.length/\T9 s.fr.length (Y0 s.fr) (Y0 (S8 s r).fr))
  /\(Y3 Y4 s.log (S8 s r).log)/\True)/\((!S2 (Rec.mk s.ep ((s.log.length:Int)+(1:Int)) r.t r.k r.p r.n r.g r.s r.b r.a))=false->(Le 1 1/\Le s.log.length s.log.length/\V6 s.log.length 1 96)/\(true=S2
  (K9 s r)/\True)/\(1=1/\1=1/\(0=0/\s.d.sec.length=(S8 s r).d.sec.length)/\(0=0/\s.d.cache.length=(S8 s r).d.cache.length)/\s.d.armed=(S8 s r).d.armed/\(0=0/\s.d.keep.length=(S8 s
  r).d.keep.length)/\s.ep=(S8 s r).ep/\(0=0/\s.log.length+1=(S8 s r).log.length)/\s.sure=(S8 s r).sure/\(0=0/\s.fr.length=(S8 s r).fr.length)/\s.hand=(S8 s r).hand/\True)/\(Y3 Z6 s.d.sec (S8
  s r).d.sec)/\(Y3 Z3 s.d.cache (S8 s r).d.cache)/\(Y3 Y7 s.d.keep (S8 s r).d.keep)/\True/\(v=v/\s.fr.length=(S8 s r).fr.length/\T9 s.fr.length (Y0 s.fr) (Y0 (S8 s r).fr))/\(s.log.length+1
  =(S8 s r).log.length/\Z7 (s.log.length+1) (W4 (Y4 s.log) s.log.length fun(k:Nat)=>List.take 10 (List.drop (k*10) [T.int .i64 s.ep,T.int .i64 ((s.log.length:Int)+(1:Int)),T.int .i64 r.t,T.int .i64
  r.k,T.int .i64 r.p,T.int .i64 r.n,T.int .i64 r.g,T.int .i64 r.s,T.str r.b,T.str r.a])) (Y4 (S8 s r).log))/\True)):
  V7 Tryz.prog 129 [.ref 0 0 0,.agg r.ts] (s.bx v) (.bool (S2 (K9 s r))) ((S8 s r).bxL v):=
 C4 (code:=c5p) (gC a0r o9 gN) Tryz.func129 (by kernel_rfl) (by kernel_rfl) Z0 [[.box 0,.arr 1,.arr 2,.arr 3,.arr 4,.arr 5,.arr 8],[.box 0,.arr 1,.arr 2,.arr 3,.arr 4,.arr 5,.arr 4]] h (by kernel_rfl)
theorem a3T(L:List Rec)(r:Rec):Z7 (L.length+1) (W4 (Y4 L) L.length fun k=>List.take 10 (List.drop (k*10) r.ts)) (Y4 (L++[r])):=by
 intro i hi;unfold W4 Y4;by_cases h:i<L.length
 ·rw[b1b h,List.getD_eq_getElem?_getD,List.getD_eq_getElem?_getD,List.getElem?_append_left h]
 ·have:i=L.length:=by omega
  subst this;rw[a95 h];have:(L++[r]).getD L.length default=r:=by rw[List.getD_eq_getElem?_getD,List.getElem?_append_right (Nat.le_refl _)];simp
  rw[this];simp[Rec.ts]
theorem a2Y:Z2 Tryz.prog 129 c7r:=by
 rintro⟨s,r,v⟩ ⟨h2,h3,h4⟩;dsimp only at h2 h3 h4;refine c5f s r v ⟨Z5 (by omega),by unfold c08;omega,fun h=> ?_,fun h=> ?_⟩
 ·have hr:S2 (K9 s r)=false:=by simpa[K9] using h
  have e:S8 s r=s:=by unfold S8;rw[if_neg (by rw[hr];simp)]
  rw[e,hr];exact⟨⟨rfl,trivial⟩,⟨rfl,rfl,⟨rfl,rfl⟩,⟨rfl,rfl⟩,rfl,⟨rfl,rfl⟩,rfl,⟨rfl,rfl⟩,rfl,⟨rfl,rfl⟩,rfl,trivial⟩,⟨rfl,Z9 _ _⟩,⟨rfl,Z9 _ _⟩,⟨rfl,Z9 _ _⟩,trivial,⟨rfl,rfl,U4 _⟩,⟨rfl,Z9 _ _⟩,trivial⟩
 ·have hr:S2 (K9 s r)=true:=by simpa[K9] using h
  have e:S8 s r={s with log:=s.log++[K9 s r]}:=by unfold S8;rw[if_pos hr]
  rw[e,hr];have hl:s.log.length+1=(s.log++[K9 s r]).length:=by simp
  exact⟨⟨Nat.le_refl _,Nat.le_refl _,by unfold V6;omega⟩,⟨rfl,trivial⟩,⟨rfl,rfl,⟨rfl,rfl⟩,⟨rfl,rfl⟩,rfl,⟨rfl,rfl⟩,rfl,⟨rfl,hl⟩,rfl,⟨rfl,rfl⟩,rfl,trivial⟩,⟨rfl,Z9 _ _⟩,⟨rfl,Z9 _ _⟩,⟨rfl,Z9 _ _⟩,trivial,⟨rfl,rfl,U4 _⟩,⟨hl,a3T s.log (K9 s r)⟩,trivial⟩
def d7n:Sto:=⟨⟨[],[],false,[]⟩,0,[],0,[],0⟩
theorem T3(n:Nat):Le (0+n) n:=Nat.le_of_eq (Nat.zero_add n)
theorem V0{row row':Nat->List T}:Z7 0 row row':=fun i hi=>absurd hi (Nat.not_lt_zero _)
end Go.Proofs.YtokaojbaacnngaaGreat

namespace Go.Proofs.YtokaojbaacnngaaGreat
set_option maxRecDepth 100000
open Go.SS

def c7F:Con:=.rmk ⟨Dsk,fun d=>[.agg d.ts],fun _=>[],fun d=>.agg (d.tm 0),fun d=>d.hp,SmD⟩
noncomputable def c4J:Code:=Tryz.f78.body.getD .skip
theorem a0K:Z8 Tryz.prog 78:=⟨_,Tryz.func78,by kernel_rfl,by kernel_rfl⟩
theorem c3Y(d:Dsk)(h:
  (Le 0 0/\V6 0 d.sec.length 16)/\(Le 0 0/\V6 0 d.cache.length 24)/\(Le 0 0/\V6 0 d.keep.length 8)/\(((0=0/\0+d.sec.length=d.sec.length)/\(0=0/\0+d.cache.length=d.cache.length)/\d.armed=d.armed/\(0=0
  /\0+d.keep.length=d.keep.length)/\True)/\True)/\(0+d.sec.length=d.sec.length/\Z7 (0+d.sec.length) (W4 (fun(k:Nat)=>List.take 1 (List.drop (k*1) [])) 0 (Z6 d.sec)) (Z6 d.sec))/\(0+
  d.cache.length=d.cache.length/\Z7 (0+d.cache.length) (W4 (fun(k:Nat)=>List.take 2 (List.drop (k*2) [])) 0 (Z3 d.cache)) (Z3 d.cache))/\(0+d.keep.length=d.keep.length/\Z7 (0+d.keep.length)
  (W4 (fun(k:Nat)=>List.take 1 (List.drop (k*1) [])) 0 (Y7 d.keep)) (Y7 d.keep))/\True):
  V7 Tryz.prog 78 [.agg d.ts] [] (.agg (d.tm 0)) d.hp:=
 C4 (code:=c4J) gN Tryz.func78 (by kernel_rfl) (by kernel_rfl) Z0 [[.arr 3,.arr 5,.arr 7]] h (by kernel_rfl)
theorem a2Z:Z2 Tryz.prog 78 c7F:=by
 rintro(d:Dsk) ⟨h1,h2,h3⟩;exact⟨c3Y d ⟨⟨Nat.le_refl _,by unfold V6;omega⟩,⟨Nat.le_refl _,by unfold V6;omega⟩,⟨Nat.le_refl _,by unfold V6;omega⟩,⟨⟨⟨rfl,by omega⟩,⟨rfl,by omega⟩,rfl,⟨rfl,by omega⟩,trivial⟩,trivial⟩,⟨by omega,G4⟩,⟨by omega,G4⟩,⟨by omega,G4⟩,trivial⟩,rfl,a1e d⟩
def c8G:Con:=.rmk ⟨Pg,fun p=>[.agg p.ts],fun _=>[],fun p=>.agg (p.tm 0),fun p=>[I6 p.sl],fun p=>p.sl.length<=1048576⟩
noncomputable def c6H:Code:=Tryz.f144.body.getD .skip
theorem b0P:Z8 Tryz.prog 144:=⟨_,Tryz.func144,by kernel_rfl,by kernel_rfl⟩
theorem c7A(p:Pg)(h:
  (Le 0 0/\V6 0 p.sl.length 16)/\((p.lsn=p.lsn/\(0=0/\0+p.sl.length=p.sl.length)/\True)/\True)/\(0+p.sl.length=p.sl.length/\Z7 (0+p.sl.length) (W4 (fun(k:Nat)=>List.take 1 (List.drop (k*1) []))
  0 (Z6 p.sl)) (Z6 p.sl))/\True):
  V7 Tryz.prog 144 [.agg p.ts] [] (.agg (p.tm 0)) [I6 p.sl]:=
 C4 (code:=c6H) gN Tryz.func144 (by kernel_rfl) (by kernel_rfl) Z0 [[.arr 3]] h (by kernel_rfl)
theorem c0q:Z2 Tryz.prog 144 c8G:=by
 intro(p:Pg) (h1:p.sl.length<=1048576);exact⟨c7A p ⟨⟨Nat.le_refl _,by unfold V6;omega⟩,⟨⟨rfl,⟨rfl,by omega⟩,trivial⟩,trivial⟩,⟨by omega,G4⟩,trivial⟩,rfl,B5 _⟩
def c83:Con:=.rmk ⟨Sto,fun s=>[.agg s.ts],fun _=>[],fun s=>.agg (s.tm 0),fun s=>s.hp 0,SmS⟩
def c8r(s:Sto):Nat->Ann
 |0=>.one {i:Nat//i<=s.fr.length} (fun x=>⟨[(1,.ref 0 0 0),(2,.ref 1 0 0),(3,.osl 6 0 x.1),(4,.int .i64 x.1)],[a18 [.osl 2 0 s.d.sec.length,.osl 3 0 s.d.cache.length,.bool s.d.armed,.osl 4 0 s.d.keep.length,.int .i64 s.ep,.osl 5 0 s.log.length,.int .i64 s.sure,y9 s.fr,.int .i64 s.hand],c9b,I6 s.d.sec,J4 s.d.cache,C9 s.d.keep,A1 s.log,c8 0 s.fr x.1]⟩) (fun x=>s.fr.length-x.1) [.fam 7,.box 0,.box 1,.arr 2,.arr 3,.arr 4,.arr 6,.arr 7] [.box 0,.box 1,.arr 2,.arr 3,.arr 4,.arr 5,.at_ 3] (fun _=>Z0)
 |_=>.none
noncomputable def c9d:Code:=Tryz.f79.body.getD .skip
theorem b2E:Z8 Tryz.prog 79:=⟨_,Tryz.func79,by kernel_rfl,by kernel_rfl⟩
theorem c7p(s:Sto)(h:
  ∃(x:Dsk),(((EqD s.d x)/\True)/\SmD x)/\(Le 0 0/\V6 0 s.log.length 96)/\(∃(x_1:{i:Nat//i<=s.fr.length}),((0=0/\0=0)/\(0=0/\0=0)/\(0=0/\0=x_1.val)/\(0:Int)=(x_1.val:Int)/\True)/\(1=1/\
  1=1/\(0=0/\x.sec.length=s.d.sec.length)/\(0=0/\x.cache.length=s.d.cache.length)/\x.armed=s.d.armed/\(0=0/\x.keep.length=s.d.keep.length)/\s.ep=s.ep/\(0=0/\0+s.log.length=s.log.length)/\s.sure=
  s.sure/\(Y3 V3 s.fr s.fr)/\s.hand=s.hand/\True)/\(1=1/\1=1/\Value.slice none 0 0=Value.slice none 0 0/\Value.slice none 0 0=Value.slice none 0 0/\false=false/\Value.slice none 0 0=Value.slice none 0 0/\
  (0:Int)=(0:Int)/\Value.slice none 0 0=Value.slice none 0 0/\(0:Int)=(0:Int)/\Value.slice none 0 0=Value.slice none 0 0/\(0:Int)=(0:Int)/\True)/\(Y3 Z6 x.sec s.d.sec)/\(Y3 Z3 x.cache
  s.d.cache)/\(Y3 Y7 x.keep s.d.keep)/\(0+s.log.length=s.log.length/\Z7 (0+s.log.length) (W4 (fun(k:Nat)=>List.take 10 (List.drop (k*10) [])) 0 (Y4 s.log)) (Y4 s.log))/\(0=0/\0=x_1.val/\
  T9 0 (fun(k:Nat)=>List.take 5 (List.drop (k*5) [])) (Y0 s.fr))/\True)/\∀(x:{i:Nat//i<=s.fr.length}),(decide ((x.val:Int)<(s.fr.length:Int))=true->W7 (x.val:Int) s.fr.length/\∃(x_1:Pg),
  ((((s.fr.getD (x.val:Int).toNat default).pg.lsn=x_1.lsn/\(Y3 Z6 (s.fr.getD (x.val:Int).toNat default).pg.sl x_1.sl)/\True)/\True)/\x_1.sl.length<=1048576)/\(Le x_1.sl.length x_1.sl.length/\Le x.val x.val/\V6 x.val
  1 56)/\X6 .i64 ((x.val:Int)+(1:Int))/\∃(y:{i:Nat//i<=s.fr.length}),(((0=0/\0=0)/\(0=0/\0=0)/\(0=0/\x.val+1=y.val)/\(x.val:Int)+(1:Int)=(y.val:Int)/\True)/\(1=1/\1=1/\(0=0/\
  s.d.sec.length=s.d.sec.length)/\(0=0/\s.d.cache.length=s.d.cache.length)/\s.d.armed=s.d.armed/\(0=0/\s.d.keep.length=s.d.keep.length)/\s.ep=s.ep/\(0=0/\s.log.length=s.log.length)/\s.sure=s.sure/\(Y3
  V3 s.fr s.fr)/\s.hand=s.hand/\True)/\(1=1/\1=1/\Value.slice none 0 0=Value.slice none 0 0/\Value.slice none 0 0=Value.slice none 0 0/\false=false/\Value.slice none 0 0=Value.slice none 0 0/\(0:Int)=
  (0:Int)/\Value.slice none 0 0=Value.slice none 0 0/\(0:Int)=(0:Int)/\Value.slice none 0 0=Value.slice none 0 0/\(0:Int)=(0:Int)/\True)/\(Y3 Z6 s.d.sec s.d.sec)/\(Y3 Z3 s.d.cache s.d.cache)/\
  (Y3 Y7 s.d.keep s.d.keep)/\(Y3 Y4 s.log s.log)/\(0=0/\x.val+1=y.val/\T9 (x.val+1) (W4 (Y0 s.fr) x.val fun(x_2:Nat)=>[T.int .i64 (s.fr.getD (x.val:Int).toNat default).no,T.int .i64 x_1.lsn,
  T.own 0 1 x_1.sl.length (Z6 x_1.sl),T.bool (s.fr.getD (x.val:Int).toNat default).dirty,T.int .i64 (s.fr.getD (x.val:Int).toNat default).first]) (Y0 s.fr))/\True)/\Lt (s.fr.length-y.val) (s.fr.length-x.val))/\
  (decide ((x.val:Int)<(s.fr.length:Int))=false->(((0=0/\s.d.sec.length=s.d.sec.length)/\(0=0/\s.d.cache.length=s.d.cache.length)/\s.d.armed=s.d.armed/\(0=0/\s.d.keep.length=s.d.keep.length)/\s.ep=s.ep/\
  (0=0/\s.log.length=s.log.length)/\s.sure=s.sure/\(0=0/\x.val=s.fr.length)/\s.hand=s.hand/\True)/\True)/\(Y3 Z6 s.d.sec s.d.sec)/\(Y3 Z3 s.d.cache s.d.cache)/\(Y3 Y7 s.d.keep s.d.keep)/\(Y3
  Y4 s.log s.log)/\(0=0/\x.val=s.fr.length/\T9 x.val (Y0 s.fr) (Y0 s.fr))/\True)):
  V7 Tryz.prog 79 [.agg s.ts] [] (.agg (s.tm 0)) (s.hp 0):=
 C4 (code:=c9d) (gC a2Z a0K (gC c0q b0P gN)) Tryz.func79 (by kernel_rfl) (by kernel_rfl) (c8r s) [[.arr 2,.arr 3,.arr 4,.arr 5,.arr 6]] h (by kernel_rfl)
theorem c2R:Z2 Tryz.prog 79 c83:=by
 rintro(s:Sto) ⟨h1,h2,h3,h4⟩;refine⟨c7p s ⟨s.d,⟨⟨eqD _,trivial⟩,h1⟩,⟨Nat.le_refl _,by unfold V6;omega⟩,⟨⟨0,Nat.zero_le _⟩,⟨⟨rfl,rfl⟩,⟨rfl,rfl⟩,⟨rfl,rfl⟩,rfl,trivial⟩,⟨rfl,rfl,⟨rfl,rfl⟩,⟨rfl,rfl⟩,rfl,⟨rfl,rfl⟩,rfl,⟨rfl,by omega⟩,rfl,⟨rfl,Z9 _ _⟩,rfl,trivial⟩,⟨rfl,rfl,rfl,rfl,rfl,rfl,rfl,rfl,rfl,rfl,rfl,trivial⟩,⟨rfl,Z9 _ _⟩,⟨rfl,Z9 _ _⟩,⟨rfl,Z9 _ _⟩,⟨by omega,G4⟩,⟨rfl,rfl,fun i hi=>absurd hi (Nat.not_lt_zero _)⟩,trivial⟩,fun x=>⟨fun hc=> ?_,fun hc=> ?_⟩⟩,rfl,a1h s 0⟩
 ·have hlt:=Y6 hc;rw[Int.toNat_natCast];exact⟨Y8 hlt,(s.fr.getD x.val default).pg,⟨⟨⟨rfl,⟨rfl,Z9 _ _⟩,trivial⟩,trivial⟩,h4 _ hlt⟩,⟨Nat.le_refl _,Nat.le_refl _,by unfold V6;omega⟩,Z5 (by omega),⟨x.val+1,hlt⟩,⟨⟨⟨rfl,rfl⟩,⟨rfl,rfl⟩,⟨rfl,rfl⟩,by dsimp only;omega,trivial⟩,⟨rfl,rfl,⟨rfl,rfl⟩,⟨rfl,rfl⟩,rfl,⟨rfl,rfl⟩,rfl,⟨rfl,rfl⟩,rfl,⟨rfl,Z9 _ _⟩,rfl,trivial⟩,⟨rfl,rfl,rfl,rfl,rfl,rfl,rfl,rfl,rfl,rfl,rfl,trivial⟩,⟨rfl,Z9 _ _⟩,⟨rfl,Z9 _ _⟩,⟨rfl,Z9 _ _⟩,⟨rfl,Z9 _ _⟩,⟨rfl,rfl,b8l⟩,trivial⟩,W5.ext_lt hlt⟩
 ·have hx:x.val=s.fr.length:=by have:=x.2;have:=Y2 hc;omega
  rw[hx];exact⟨⟨⟨⟨rfl,rfl⟩,⟨rfl,rfl⟩,rfl,⟨rfl,rfl⟩,rfl,⟨rfl,rfl⟩,rfl,⟨rfl,rfl⟩,rfl,trivial⟩,trivial⟩,⟨rfl,Z9 _ _⟩,⟨rfl,Z9 _ _⟩,⟨rfl,Z9 _ _⟩,⟨rfl,Z9 _ _⟩,⟨rfl,rfl,U4 _⟩,trivial⟩
end Go.Proofs.YtokaojbaacnngaaGreat

