/- A part of the proof. -/
import Derived.Test.YtokaojbaacnngaaGreatF1F2
namespace Go.Proofs.YtokaojbaacnngaaGreat
set_option maxRecDepth 100000
open Go.SS

theorem plain_nil:PlainH []:=fun k ob h=>by simp[getOb] at h
theorem plain_cons{o:Ob}{H:Heap}(h:PlainOb o)(k:PlainH H):PlainH (some o::H):=fun i ob hi=>by
 cases i with
 |zero=>
  simp only[getOb,List.getElem?_cons_zero,Option.bind_some,id,Option.some.injEq] at hi
  rw[←hi];exact h
 |succ i=>exact k i ob (by simpa[getOb] using hi)
theorem app_nil{row row':Nat->List T}{n:Nat}:RowsEq (0+n) (appRow row 0 row') row':=fun i _=>rfl
def pendA(L:List Pend):Option Ob:=some (.arr true 0 2 L.length (pendRow L))
def intA(L:List Int):Option Ob:=some (.arr true 0 1 L.length (intRow L))
def recA(L:List Rec):Option Ob:=some (.arr true 0 10 L.length (recRow L))
theorem plain_str(L:List (List UInt8)):PlainH [strA L]:=plain_cons (fun i _ t ht=>by simp only[strRow,List.mem_singleton] at ht;rw[ht];rfl) plain_nil
theorem plain_pend(L:List Pend):PlainH [pendA L]:=plain_cons (fun i _ t ht=>by
 simp only[pendRow,Pend.ts,List.mem_cons,List.not_mem_nil,or_false] at ht;rcases ht with rfl|rfl<;>rfl) plain_nil
theorem plain_int(L:List Int):PlainH [intA L]:=plain_cons (fun i _ t ht=>by simp only[intRow,List.mem_singleton] at ht;rw[ht];rfl) plain_nil
theorem plain_rec(L:List Rec):PlainH [recA L]:=plain_cons (fun i _ t ht=>by
 simp only[recRow,Rec.ts,List.mem_cons,List.not_mem_nil,or_false] at ht;rcases ht with rfl|rfl|rfl|rfl|rfl|rfl|rfl|rfl|rfl|rfl<;>rfl) plain_nil
def k_clStr:Con:=.rmk ⟨List (List UInt8),fun L=>[strS L],fun _=>[],fun L=>.osl 0 0 L.length,fun L=>[strA L],fun L=>L.length<=1048576⟩
noncomputable def b_clStr:Code:=Tryz.f225.body.getD .skip
theorem call_clStr:Callable Tryz.prog 225:=⟨_,Tryz.func225,by kernel_rfl,by kernel_rfl⟩
theorem v_clStr(L:List (List UInt8))(h:
  ∀(b:Bool),(b=true->L.length=0)->(b=true->((0=0/\0=L.length)/\True)/\(0=L.length/\RowsEq 0 (fun(x:Nat)=>[]) (strRow L))/\True)/\(b=false->(Le 0 0/\AppB 0 L.length 16)/\((0=0/\0+L.length=
  L.length)/\True)/\(0+L.length=L.length/\RowsEq (0+L.length) (appRow (fun(k:Nat)=>List.take 1 (List.drop (k*1) [])) 0 (strRow L)) (strRow L))/\True)):
  EffFn Tryz.prog 225 [strS L] [] (.osl 0 0 L.length) [strA L]:=
 vcG (code:=b_clStr) gN Tryz.func225 (by kernel_rfl) (by kernel_rfl) noAnn [[.arr 1],[.nilS 0 [] 0 1,.arr 0]] h (by kernel_rfl)
theorem clStr_ok:ConOk Tryz.prog 225 k_clStr:=fun(L:List (List UInt8)) (hL:L.length<=1048576)=>
 ⟨v_clStr L (fun b hb=>⟨fun h=>⟨⟨⟨rfl,(hb h).symm⟩,trivial⟩,⟨(hb h).symm,fun i hi=>absurd hi (Nat.not_lt_zero _)⟩,trivial⟩,fun _=>⟨⟨Nat.le_refl _,by unfold AppB;omega⟩,⟨⟨rfl,by omega⟩,trivial⟩,⟨by omega,app_nil⟩,trivial⟩⟩),rfl,plain_str L⟩
def k_clPend:Con:=.rmk ⟨List Pend,fun L=>[pendS L],fun _=>[],fun L=>.osl 0 0 L.length,fun L=>[pendA L],fun L=>L.length<=1048576⟩
noncomputable def b_clPend:Code:=Tryz.f226.body.getD .skip
theorem call_clPend:Callable Tryz.prog 226:=⟨_,Tryz.func226,by kernel_rfl,by kernel_rfl⟩
theorem v_clPend(L:List Pend)(h:
  ∀(b:Bool),(b=true->L.length=0)->(b=true->((0=0/\0=L.length)/\True)/\(0=L.length/\RowsEq 0 (fun(x:Nat)=>[]) (pendRow L))/\True)/\(b=false->(Le 0 0/\AppB 0 L.length 24)/\((0=0/\0+L.length=
  L.length)/\True)/\(0+L.length=L.length/\RowsEq (0+L.length) (appRow (fun(k:Nat)=>List.take 2 (List.drop (k*2) [])) 0 (pendRow L)) (pendRow L))/\True)):
  EffFn Tryz.prog 226 [pendS L] [] (.osl 0 0 L.length) [pendA L]:=
 vcG (code:=b_clPend) gN Tryz.func226 (by kernel_rfl) (by kernel_rfl) noAnn [[.arr 1],[.nilS 0 [] 0 2,.arr 0]] h (by kernel_rfl)
theorem clPend_ok:ConOk Tryz.prog 226 k_clPend:=fun(L:List Pend) (hL:L.length<=1048576)=>
 ⟨v_clPend L (fun b hb=>⟨fun h=>⟨⟨⟨rfl,(hb h).symm⟩,trivial⟩,⟨(hb h).symm,fun i hi=>absurd hi (Nat.not_lt_zero _)⟩,trivial⟩,fun _=>⟨⟨Nat.le_refl _,by unfold AppB;omega⟩,⟨⟨rfl,by omega⟩,trivial⟩,⟨by omega,app_nil⟩,trivial⟩⟩),rfl,plain_pend L⟩
def k_clInt:Con:=.rmk ⟨List Int,fun L=>[intS L],fun _=>[],fun L=>.osl 0 0 L.length,fun L=>[intA L],fun L=>L.length<=1048576⟩
noncomputable def b_clInt:Code:=Tryz.f92.body.getD .skip
theorem call_clInt:Callable Tryz.prog 92:=⟨_,Tryz.func92,by kernel_rfl,by kernel_rfl⟩
theorem v_clInt(L:List Int)(h:
  ∀(b:Bool),(b=true->L.length=0)->(b=true->((0=0/\0=L.length)/\True)/\(0=L.length/\RowsEq 0 (fun(x:Nat)=>[]) (intRow L))/\True)/\(b=false->(Le 0 0/\AppB 0 L.length 8)/\((0=0/\0+L.length=
  L.length)/\True)/\(0+L.length=L.length/\RowsEq (0+L.length) (appRow (fun(k:Nat)=>List.take 1 (List.drop (k*1) [])) 0 (intRow L)) (intRow L))/\True)):
  EffFn Tryz.prog 92 [intS L] [] (.osl 0 0 L.length) [intA L]:=
 vcG (code:=b_clInt) gN Tryz.func92 (by kernel_rfl) (by kernel_rfl) noAnn [[.arr 1],[.nilS 0 [] 0 1,.arr 0]] h (by kernel_rfl)
theorem clInt_ok:ConOk Tryz.prog 92 k_clInt:=fun(L:List Int) (hL:L.length<=1048576)=>
 ⟨v_clInt L (fun b hb=>⟨fun h=>⟨⟨⟨rfl,(hb h).symm⟩,trivial⟩,⟨(hb h).symm,fun i hi=>absurd hi (Nat.not_lt_zero _)⟩,trivial⟩,fun _=>⟨⟨Nat.le_refl _,by unfold AppB;omega⟩,⟨⟨rfl,by omega⟩,trivial⟩,⟨by omega,app_nil⟩,trivial⟩⟩),rfl,plain_int L⟩
def k_clRec:Con:=.rmk ⟨List Rec,fun L=>[recS L],fun _=>[],fun L=>.osl 0 0 L.length,fun L=>[recA L],fun L=>L.length<=1048576⟩
noncomputable def b_clRec:Code:=Tryz.f163.body.getD .skip
theorem call_clRec:Callable Tryz.prog 163:=⟨_,Tryz.func163,by kernel_rfl,by kernel_rfl⟩
theorem v_clRec(L:List Rec)(h:
  ∀(b:Bool),(b=true->L.length=0)->(b=true->((0=0/\0=L.length)/\True)/\(0=L.length/\RowsEq 0 (fun(x:Nat)=>[]) (recRow L))/\True)/\(b=false->(Le 0 0/\AppB 0 L.length 96)/\((0=0/\0+L.length=
  L.length)/\True)/\(0+L.length=L.length/\RowsEq (0+L.length) (appRow (fun(k:Nat)=>List.take 10 (List.drop (k*10) [])) 0 (recRow L)) (recRow L))/\True)):
  EffFn Tryz.prog 163 [recS L] [] (.osl 0 0 L.length) [recA L]:=
 vcG (code:=b_clRec) gN Tryz.func163 (by kernel_rfl) (by kernel_rfl) noAnn [[.arr 1],[.nilS 0 [] 0 10,.arr 0]] h (by kernel_rfl)
theorem clRec_ok:ConOk Tryz.prog 163 k_clRec:=fun(L:List Rec) (hL:L.length<=1048576)=>
 ⟨v_clRec L (fun b hb=>⟨fun h=>⟨⟨⟨rfl,(hb h).symm⟩,trivial⟩,⟨(hb h).symm,fun i hi=>absurd hi (Nat.not_lt_zero _)⟩,trivial⟩,fun _=>⟨⟨Nat.le_refl _,by unfold AppB;omega⟩,⟨⟨rfl,by omega⟩,trivial⟩,⟨by omega,app_nil⟩,trivial⟩⟩),rfl,plain_rec L⟩
def Dsk.tm(d:Dsk)(b:Nat):List T:=[.osl b 0 d.sec.length,.osl (b+1) 0 d.cache.length,.bool d.armed,.osl (b+2) 0 d.keep.length]
def Dsk.hp(d:Dsk):Heap:=[strA d.sec,pendA d.cache,intA d.keep]
theorem plain_app{H K:Heap}(h:PlainH H)(k:PlainH K):PlainH (H++K):=fun i ob hi=>by
 unfold getOb at hi;rw[List.getElem?_append] at hi
 split at hi
 ·exact h i ob hi
 ·exact k _ ob hi
theorem plain_dsk(d:Dsk):PlainH d.hp:=plain_app (plain_str _) (plain_app (plain_pend _) (plain_int _))
def k_clDsk:Con:=.rmk ⟨Dsk,fun d=>[.agg d.ts],fun _=>[],fun d=>.agg (d.tm 0),fun d=>d.hp,SmD⟩
noncomputable def b_clDsk:Code:=Tryz.f162.body.getD .skip
theorem call_clDsk:Callable Tryz.prog 162:=⟨_,Tryz.func162,by kernel_rfl,by kernel_rfl⟩
theorem v_clDsk(d:Dsk)(h:
  ∃(x:(List (List UInt8))),(((d.sec.length=List.length x/\RowsEq d.sec.length (strRow d.sec) (strRow x))/\True)/\List.length x<=1048576)/\∃(x_1:(List Pend)),(((d.cache.length=List.length x_1/\RowsEq d.cache.length
  (pendRow d.cache) (pendRow x_1))/\True)/\List.length x_1<=1048576)/\∃(x_2:(List Int)),(((d.keep.length=List.length x_2/\RowsEq d.keep.length (intRow d.keep) (intRow x_2))/\True)/\List.length x_2<=1048576)/\(((0=0
  /\List.length x=d.sec.length)/\(0=0/\List.length x_1=d.cache.length)/\d.armed=d.armed/\(0=0/\List.length x_2=d.keep.length)/\True)/\True)/\(List.length x=d.sec.length/\RowsEq (List.length x) (strRow x)
  (strRow d.sec))/\(List.length x_1=d.cache.length/\RowsEq (List.length x_1) (pendRow x_1) (pendRow d.cache))/\(List.length x_2=d.keep.length/\RowsEq (List.length x_2) (intRow x_2) (intRow d.keep))/\True):
  EffFn Tryz.prog 162 [.agg d.ts] [] (.agg (d.tm 0)) d.hp:=
 vcG (code:=b_clDsk) (gC clStr_ok call_clStr (gC clPend_ok call_clPend (gC clInt_ok call_clInt gN))) Tryz.func162 (by kernel_rfl) (by kernel_rfl) noAnn [[.arr 2,.arr 3,.arr 4]] h (by kernel_rfl)
theorem clDsk_ok:ConOk Tryz.prog 162 k_clDsk:=by
 rintro(d:Dsk) ⟨h1,h2,h3⟩;exact⟨v_clDsk d ⟨d.sec,⟨⟨⟨rfl,rowsR _ _⟩,trivial⟩,h1⟩,d.cache,⟨⟨⟨rfl,rowsR _ _⟩,trivial⟩,h2⟩,d.keep,⟨⟨⟨rfl,rowsR _ _⟩,trivial⟩,h3⟩,⟨⟨⟨rfl,rfl⟩,⟨rfl,rfl⟩,rfl,⟨rfl,rfl⟩,trivial⟩,trivial⟩,⟨rfl,rowsR _ _⟩,⟨rfl,rowsR _ _⟩,⟨rfl,rowsR _ _⟩,trivial⟩,rfl,plain_dsk d⟩
def Pg.tm(p:Pg)(b:Nat):List T:=[.int .i64 p.lsn,.osl b 0 p.sl.length]
def k_clPg:Con:=.rmk ⟨Pg,fun p=>[.agg p.ts],fun _=>[],fun p=>.agg (p.tm 0),fun p=>[strA p.sl],fun p=>p.sl.length<=1048576⟩
noncomputable def b_clPg:Code:=Tryz.f164.body.getD .skip
theorem call_clPg:Callable Tryz.prog 164:=⟨_,Tryz.func164,by kernel_rfl,by kernel_rfl⟩
theorem v_clPg(p:Pg)(h:
  ∃(x:(List (List UInt8))),(((p.sl.length=List.length x/\RowsEq p.sl.length (strRow p.sl) (strRow x))/\True)/\List.length x<=1048576)/\((p.lsn=p.lsn/\(0=0/\List.length x=p.sl.length)/\True)/\True)/\(List.length
  x=p.sl.length/\RowsEq (List.length x) (strRow x) (strRow p.sl))/\True):
  EffFn Tryz.prog 164 [.agg p.ts] [] (.agg (p.tm 0)) [strA p.sl]:=
 vcG (code:=b_clPg) (gC clStr_ok call_clStr gN) Tryz.func164 (by kernel_rfl) (by kernel_rfl) noAnn [[.arr 2]] h (by kernel_rfl)
theorem clPg_ok:ConOk Tryz.prog 164 k_clPg:=by
 intro(p:Pg) (h1:p.sl.length<=1048576);exact⟨v_clPg p ⟨p.sl,⟨⟨⟨rfl,rowsR _ _⟩,trivial⟩,h1⟩,⟨⟨rfl,⟨rfl,rfl⟩,trivial⟩,trivial⟩,⟨rfl,rowsR _ _⟩,trivial⟩,rfl,plain_str _⟩
def famRow(L:List Frm)(i:Nat):List T:=[.int .i64 (L.getD i default).no,.int .i64 (L.getD i default).pg.lsn,.own 0 1 (L.getD i default).pg.sl.length (strRow (L.getD i default).pg.sl),.bool (L.getD i default).dirty,.int .i64 (L.getD i default).first]
def famA(v:Nat)(L:List Frm)(n:Nat):Option Ob:=some (.fam v 0 5 n (famRow L))
def Sto.tm(s:Sto)(b:Nat):List T:=[.osl b 0 s.d.sec.length,.osl (b+1) 0 s.d.cache.length,.bool s.d.armed,.osl (b+2) 0 s.d.keep.length,.int .i64 s.ep,.osl (b+3) 0 s.log.length,.int .i64 s.sure,.osl (b+4) 0 s.fr.length,.int .i64 s.hand]
def Sto.hp(s:Sto)(v:Nat):Heap:=[strA s.d.sec,pendA s.d.cache,intA s.d.keep,recA s.log,famA v s.fr s.fr.length]
def stoZ:List T:=[.v (.slice none 0 0),.v (.slice none 0 0),.bool false,.v (.slice none 0 0),.int .i64 0,.v (.slice none 0 0),.int .i64 0,.v (.slice none 0 0),.int .i64 0]
def stoZb:Option Ob:=some (.arr true 1000000 9 1 fun _=>stoZ)
def stoBx(l:List T):Option Ob:=some (.arr false 1000000 9 1 fun _=>l)
abbrev EqC(a b:Sto):Prop:=((0:Nat)=0/\a.d.sec.length=b.d.sec.length)/\((0:Nat)=0/\a.d.cache.length=b.d.cache.length)/\a.d.armed=b.d.armed/\((0:Nat)=0/\a.d.keep.length=b.d.keep.length)/\a.ep=b.ep/\((0:Nat)=0/\a.log.length=b.log.length)/\a.sure=b.sure/\((0:Nat)=0/\a.fr.length=b.fr.length)/\a.hand=b.hand/\True
abbrev EqH(v u:Nat)(a b:Sto):Prop:=EqL strRow a.d.sec b.d.sec/\EqL pendRow a.d.cache b.d.cache/\EqL intRow a.d.keep b.d.keep/\EqL recRow a.log b.log/\(v=u/\a.fr.length=b.fr.length/\FamEq a.fr.length (famRow a.fr) (famRow b.fr))/\True
abbrev EqR(a b:Rec):Prop:=a.e=b.e/\a.l=b.l/\a.t=b.t/\a.k=b.k/\a.p=b.p/\a.n=b.n/\a.g=b.g/\a.s=b.s/\a.b=b.b/\a.a=b.a/\True
theorem famR{L:List Frm}(n:Nat):FamEq n (famRow L) (famRow L):=fun i _=>by
 refine⟨?_,?_,⟨rfl,rfl,rowsR _ _⟩,?_,?_,trivial⟩<;>rfl
theorem blt_t{i n:Nat}(h:i<n):Nat.blt i n=true:=Nat.ble_eq_true_of_le h
theorem blt_f{i n:Nat}(h:¬i<n):Nat.blt i n=false:=by
 cases hb:Nat.blt i n with
 |false=>rfl
 |true=>exact absurd (Nat.le_of_ble_eq_true hb) h
theorem fam_app{L:List Frm}{i:Nat}:FamEq (i+1) (appRow (famRow L) i fun _=>famRow L i) (famRow L):=fun j hj=>by
 have:appRow (famRow L) i (fun _=>famRow L i) j=famRow L j:=by
  unfold appRow;by_cases hji:j<i
  ·rw[blt_t hji]
  ·rw[blt_f hji,show i=j by omega]
 rw[this];exact famR (j+1) j (Nat.lt_succ_self j)
theorem plain_fam(v:Nat)(L:List Frm)(n:Nat):PlainH [famA v L n]:=plain_cons (fun i _ t ht=>by
 simp only[famRow,List.mem_cons,List.not_mem_nil,or_false] at ht;rcases ht with rfl|rfl|rfl|rfl|rfl
 ·rfl
 ·rfl
 ·intro j _ t ht;simp only[strRow,List.mem_singleton] at ht;rw[ht];rfl
 ·rfl
 ·rfl) plain_nil
theorem plain_sto(s:Sto)(v:Nat):PlainH (s.hp v):=plain_app (H:=s.d.hp) (plain_dsk _) (plain_app (plain_rec _) (plain_fam _ _ _))
theorem famL_refl:∀l:List T,famL l l
 | []=>trivial
 |a::r=>⟨by cases a<;>first|rfl|exact⟨rfl,rfl,rowsR _ _⟩,famL_refl r⟩
theorem fam_eq{n:Nat}{f g:Nat->List T}(h:∀i,i<n->f i=g i):FamEq n f g:=fun i hi=>by rw[h i hi];exact famL_refl _
def k_clSto:Con:=.rmk ⟨Sto,fun s=>[.agg s.ts],fun _=>[],fun s=>.agg (s.tm 0),fun s=>s.hp 0,SmS⟩
def A_clSto(s:Sto):Nat->Ann
 |0=>.one {i:Nat//i<=s.fr.length} (fun x=>⟨[(1,.ref 0 0 0),(2,.ref 1 0 0),(17,frmS s.fr),(18,.int .i64 s.fr.length),(19,.int .i64 x.1)],[stoBx [.osl 2 0 s.d.sec.length,.osl 3 0 s.d.cache.length,.bool s.d.armed,.osl 4 0 s.d.keep.length,.int .i64 s.ep,.osl 5 0 s.log.length,.int .i64 s.sure,.osl 6 0 x.1,.int .i64 s.hand],stoZb,strA s.d.sec,pendA s.d.cache,intA s.d.keep,recA s.log,famA 0 s.fr x.1]⟩) (fun x=>s.fr.length-x.1) [.nilC 0 7 0 5,.fam 6,.box 0,.box 1,.arr 2,.arr 3,.arr 4,.arr 5,.arr 6] [.box 0,.box 1,.arr 2,.arr 3,.arr 4,.arr 5,.at_ 31] (fun _=>noAnn)
 |_=>.none
noncomputable def b_clSto:Code:=Tryz.f89.body.getD .skip
theorem call_clSto:Callable Tryz.prog 89:=⟨_,Tryz.func89,by kernel_rfl,by kernel_rfl⟩
theorem v_clSto(s:Sto)(h:
  ∃(x:Dsk),(((EqD s.d x)/\True)/\SmD x)/\∃(x_1:(List Rec)),(((s.log.length=List.length x_1/\RowsEq s.log.length (recRow s.log) (recRow x_1))/\True)/\List.length x_1<=1048576)/\(∃(x_2:{i:Nat//i<=s.fr.length
  }),((0=0/\0=0)/\(0=0/\0=0)/\(EqL frmRow s.fr s.fr)/\(s.fr.length:Int)=(s.fr.length:Int)/\(0:Int)=(x_2.val:Int)/\True)/\(1=1/\1=1/\(0=0/\x.sec.length=s.d.sec.length)/\(0=0/\x.cache.length=
  s.d.cache.length)/\x.armed=s.d.armed/\(0=0/\x.keep.length=s.d.keep.length)/\s.ep=s.ep/\(0=0/\List.length x_1=s.log.length)/\s.sure=s.sure/\(0=0/\0=x_2.val)/\s.hand=s.hand/\True)/\(1=1/\1=1/\
  Value.slice none 0 0=Value.slice none 0 0/\Value.slice none 0 0=Value.slice none 0 0/\false=false/\Value.slice none 0 0=Value.slice none 0 0/\(0:Int)=(0:Int)/\Value.slice none 0 0=Value.slice none 0 0/\(0:
  Int)=(0:Int)/\Value.slice none 0 0=Value.slice none 0 0/\(0:Int)=(0:Int)/\True)/\(EqL strRow x.sec s.d.sec)/\(EqL pendRow x.cache s.d.cache)/\(EqL intRow x.keep s.d.keep)/\(List.length x_1=s.log.length/\
  RowsEq (List.length x_1) (recRow x_1) (recRow s.log))/\(0=0/\0=x_2.val/\FamEq 0 (fun(x:Nat)=>[]) (famRow s.fr))/\True)/\∀(x:{i:Nat//i<=s.fr.length}),(decide ((x.val:Int)<(s.fr.length:Int))=true->InB
  (x.val:Int) s.fr.length/\∃(x_2:Pg),((((s.fr.getD (x.val:Int).toNat default).pg.lsn=x_2.lsn/\(EqL strRow (s.fr.getD (x.val:Int).toNat default).pg.sl x_2.sl)/\True)/\True)/\x_2.sl.length<=1048576)/\(Le x_2.sl.length
  x_2.sl.length/\Le x.val x.val/\AppB x.val 1 56)/\Rng .i64 ((x.val:Int)+(1:Int))/\∃(y:{i:Nat//i<=s.fr.length}),(((0=0/\0=0)/\(0=0/\0=0)/\(EqL frmRow s.fr s.fr)/\(s.fr.length:Int)=(s.fr.length:Int)
  /\(x.val:Int)+(1:Int)=(y.val:Int)/\True)/\(1=1/\1=1/\(0=0/\s.d.sec.length=s.d.sec.length)/\(0=0/\s.d.cache.length=s.d.cache.length)/\s.d.armed=s.d.armed/\(0=0/\s.d.keep.length=s.d.keep.length)/\
  s.ep=s.ep/\(0=0/\s.log.length=s.log.length)/\s.sure=s.sure/\(0=0/\x.val+1=y.val)/\s.hand=s.hand/\True)/\(1=1/\1=1/\Value.slice none 0 0=Value.slice none 0 0/\Value.slice none 0 0=Value.slice none
  0 0/\false=false/\Value.slice none 0 0=Value.slice none 0 0/\(0:Int)=(0:Int)/\Value.slice none 0 0=Value.slice none 0 0/\(0:Int)=(0:Int)/\Value.slice none 0 0=Value.slice none 0 0/\(0:Int)=(0:Int)
  /\True)/\(EqL strRow s.d.sec s.d.sec)/\(EqL pendRow s.d.cache s.d.cache)/\(EqL intRow s.d.keep s.d.keep)/\(EqL recRow s.log s.log)/\(0=0/\x.val+1=y.val/\FamEq (x.val+1) (appRow (famRow s.fr) x.val fun(x_3:Nat)=>
  [T.int .i64 (s.fr.getD (x.val:Int).toNat default).no,T.int .i64 x_2.lsn,T.own 0 1 x_2.sl.length (strRow x_2.sl),T.bool (s.fr.getD (x.val:Int).toNat default).dirty,T.int .i64 (s.fr.getD (x.val:Int).toNat default).first])
  (famRow s.fr))/\True)/\Lt (s.fr.length-y.val) (s.fr.length-x.val))/\(decide ((x.val:Int)<(s.fr.length:Int))=false->(((0=0/\s.d.sec.length=s.d.sec.length)/\(0=0/\s.d.cache.length=s.d.cache.length)/\s.d.armed
  =s.d.armed/\(0=0/\s.d.keep.length=s.d.keep.length)/\s.ep=s.ep/\(0=0/\s.log.length=s.log.length)/\s.sure=s.sure/\(0=0/\x.val=s.fr.length)/\s.hand=s.hand/\True)/\True)/\(EqL strRow s.d.sec s.d.sec)/\
  (EqL pendRow s.d.cache s.d.cache)/\(EqL intRow s.d.keep s.d.keep)/\(EqL recRow s.log s.log)/\(0=0/\x.val=s.fr.length/\FamEq x.val (famRow s.fr) (famRow s.fr))/\True)):
  EffFn Tryz.prog 89 [.agg s.ts] [] (.agg (s.tm 0)) (s.hp 0):=
 vcG (code:=b_clSto) (gC clDsk_ok call_clDsk (gC clRec_ok call_clRec (gC clPg_ok call_clPg gN))) Tryz.func89 (by kernel_rfl) (by kernel_rfl) (A_clSto s) [[.arr 2,.arr 3,.arr 4,.arr 5,.arr 6]] h (by kernel_rfl)
theorem clSto_ok:ConOk Tryz.prog 89 k_clSto:=by
 rintro(s:Sto) ⟨h1,h2,h3,h4⟩;refine⟨v_clSto s ⟨s.d,⟨⟨eqD _,trivial⟩,h1⟩,s.log,⟨⟨⟨rfl,rowsR _ _⟩,trivial⟩,h2⟩,⟨⟨0,Nat.zero_le _⟩,⟨⟨rfl,rfl⟩,⟨rfl,rfl⟩,⟨rfl,rowsR _ _⟩,rfl,rfl,trivial⟩,⟨rfl,rfl,⟨rfl,rfl⟩,⟨rfl,rfl⟩,rfl,⟨rfl,rfl⟩,rfl,⟨rfl,rfl⟩,rfl,⟨rfl,rfl⟩,rfl,trivial⟩,⟨rfl,rfl,rfl,rfl,rfl,rfl,rfl,rfl,rfl,rfl,rfl,trivial⟩,⟨rfl,rowsR _ _⟩,⟨rfl,rowsR _ _⟩,⟨rfl,rowsR _ _⟩,⟨rfl,rowsR _ _⟩,⟨rfl,rfl,fun i hi=>absurd hi (Nat.not_lt_zero _)⟩,trivial⟩,fun x=>⟨fun hc=> ?_,fun hc=> ?_⟩⟩,rfl,?_⟩
 ·have hlt:=lt_of_dec hc;rw[Int.toNat_natCast];exact⟨inB_nat hlt,(s.fr.getD x.val default).pg,⟨⟨⟨rfl,⟨rfl,rowsR _ _⟩,trivial⟩,trivial⟩,h4 _ hlt⟩,⟨Nat.le_refl _,Nat.le_refl _,by unfold AppB;omega⟩,i64_rng (by omega),⟨x.val+1,hlt⟩,⟨⟨⟨rfl,rfl⟩,⟨rfl,rfl⟩,⟨rfl,rowsR _ _⟩,rfl,by dsimp only;omega,trivial⟩,⟨rfl,rfl,⟨rfl,rfl⟩,⟨rfl,rfl⟩,rfl,⟨rfl,rfl⟩,rfl,⟨rfl,rfl⟩,rfl,⟨rfl,rfl⟩,rfl,trivial⟩,⟨rfl,rfl,rfl,rfl,rfl,rfl,rfl,rfl,rfl,rfl,rfl,trivial⟩,⟨rfl,rowsR _ _⟩,⟨rfl,rowsR _ _⟩,⟨rfl,rowsR _ _⟩,⟨rfl,rowsR _ _⟩,⟨rfl,rfl,fam_app⟩,trivial⟩,Cnt.ext_lt hlt⟩
 ·have hx:x.val=s.fr.length:=by have:=x.2;have:=le_of_not hc;omega
  rw[hx];exact⟨⟨⟨⟨rfl,rfl⟩,⟨rfl,rfl⟩,rfl,⟨rfl,rfl⟩,rfl,⟨rfl,rfl⟩,rfl,⟨rfl,rfl⟩,rfl,trivial⟩,trivial⟩,⟨rfl,rowsR _ _⟩,⟨rfl,rowsR _ _⟩,⟨rfl,rowsR _ _⟩,⟨rfl,rowsR _ _⟩,⟨rfl,rfl,famR _⟩,trivial⟩
 ·exact plain_sto s 0
end Go.Proofs.YtokaojbaacnngaaGreat

namespace Go.Proofs.YtokaojbaacnngaaGreat
set_option maxRecDepth 100000
open Go.SS

def Sto.tn(s:Sto)(a b c d e:Nat):List T:=[.osl a 0 s.d.sec.length,.osl b 0 s.d.cache.length,.bool s.d.armed,.osl c 0 s.d.keep.length,.int .i64 s.ep,.osl d 0 s.log.length,.int .i64 s.sure,.osl e 0 s.fr.length,.int .i64 s.hand]
def Sto.bx(s:Sto)(v:Nat):Heap:=[stoBx (s.tn 1 2 3 4 5),strA s.d.sec,pendA s.d.cache,intA s.d.keep,recA s.log,famA v s.fr s.fr.length]
def Sto.bxL(s:Sto)(v:Nat):Heap:=[stoBx (s.tn 1 2 3 6 5),strA s.d.sec,pendA s.d.cache,intA s.d.keep,none,famA v s.fr s.fr.length,recA s.log]
def appR(s:Sto)(r:Rec):Rec:=⟨s.ep,(s.log.length:Int)+1,r.t,r.k,r.p,r.n,r.g,r.s,r.b,r.a⟩
noncomputable def appS(s:Sto)(r:Rec):Sto:=if recOK (appR s r)=true then{s with log:=s.log++[appR s r]} else s
def SmR(r:Rec):Prop:=r.b.length<=1048576/\r.a.length<=1048576
noncomputable def r_append:Rle:=⟨Sto×Rec×Nat,fun x=>[.ref 0 0 0,.agg x.2.1.ts],fun x=>x.1.bx x.2.2,fun x=>.bool (recOK (appR x.1 x.2.1)),fun x=>(appS x.1 x.2.1).bxL x.2.2,fun x=>x.1.log.length<=60/\SmR x.2.1⟩
noncomputable def k_append:Con:=.reff r_append
noncomputable def b_append:Code:=Tryz.f129.body.getD .skip
theorem v_append(s:Sto)(r:Rec)(v:Nat)(h:
  Rng .i64 ((s.log.length:Int)+(1:Int))/\StrB r.a/\((!recOK (Rec.mk s.ep ((s.log.length:Int)+(1:Int)) r.t r.k r.p r.n r.g r.s r.b r.a))=true->(false=recOK (appR s r)/\True)/\(1=1/\1=1/\EqC s (appS s r))/\(EqL
  strRow s.d.sec (appS s r).d.sec)/\(EqL pendRow s.d.cache (appS s r).d.cache)/\(EqL intRow s.d.keep (appS s r).d.keep)/\True/\(v=v/\s.fr.length=(appS s r).fr.length/\FamEq s.fr.length (famRow s.fr) (famRow (appS s r).fr))
  /\(EqL recRow s.log (appS s r).log)/\True)/\((!recOK (Rec.mk s.ep ((s.log.length:Int)+(1:Int)) r.t r.k r.p r.n r.g r.s r.b r.a))=false->(Le 1 1/\Le s.log.length s.log.length/\AppB s.log.length 1 96)/\(true=recOK
  (appR s r)/\True)/\(1=1/\1=1/\(0=0/\s.d.sec.length=(appS s r).d.sec.length)/\(0=0/\s.d.cache.length=(appS s r).d.cache.length)/\s.d.armed=(appS s r).d.armed/\(0=0/\s.d.keep.length=(appS s
  r).d.keep.length)/\s.ep=(appS s r).ep/\(0=0/\s.log.length+1=(appS s r).log.length)/\s.sure=(appS s r).sure/\(0=0/\s.fr.length=(appS s r).fr.length)/\s.hand=(appS s r).hand/\True)/\(EqL strRow s.d.sec (appS
  s r).d.sec)/\(EqL pendRow s.d.cache (appS s r).d.cache)/\(EqL intRow s.d.keep (appS s r).d.keep)/\True/\(v=v/\s.fr.length=(appS s r).fr.length/\FamEq s.fr.length (famRow s.fr) (famRow (appS s r).fr))/\(s.log.length+1
  =(appS s r).log.length/\RowsEq (s.log.length+1) (appRow (recRow s.log) s.log.length fun(k:Nat)=>List.take 10 (List.drop (k*10) [T.int .i64 s.ep,T.int .i64 ((s.log.length:Int)+(1:Int)),T.int .i64 r.t,T.int .i64
  r.k,T.int .i64 r.p,T.int .i64 r.n,T.int .i64 r.g,T.int .i64 r.s,T.str r.b,T.str r.a])) (recRow (appS s r).log))/\True)):
  EffFn Tryz.prog 129 [.ref 0 0 0,.agg r.ts] (s.bx v) (.bool (recOK (appR s r))) ((appS s r).bxL v):=
 vcG (code:=b_append) (gC RecordOKi_ok call_RecordOKi gN) Tryz.func129 (by kernel_rfl) (by kernel_rfl) noAnn [[.box 0,.arr 1,.arr 2,.arr 3,.arr 4,.arr 5,.arr 8],[.box 0,.arr 1,.arr 2,.arr 3,.arr 4,.arr 5,.arr 4]] h (by kernel_rfl)
theorem rec_app(L:List Rec)(r:Rec):RowsEq (L.length+1) (appRow (recRow L) L.length fun k=>List.take 10 (List.drop (k*10) r.ts)) (recRow (L++[r])):=by
 intro i hi;unfold appRow recRow;by_cases h:i<L.length
 ·rw[blt_t h,List.getD_eq_getElem?_getD,List.getD_eq_getElem?_getD,List.getElem?_append_left h]
 ·have:i=L.length:=by omega
  subst this;rw[blt_f h];have:(L++[r]).getD L.length default=r:=by rw[List.getD_eq_getElem?_getD,List.getElem?_append_right (Nat.le_refl _)];simp
  rw[this];simp[Rec.ts]
theorem append_ok:ConOk Tryz.prog 129 k_append:=by
 rintro⟨s,r,v⟩ ⟨h2,h3,h4⟩;dsimp only at h2 h3 h4;refine v_append s r v ⟨i64_rng (by omega),by unfold StrB;omega,fun h=> ?_,fun h=> ?_⟩
 ·have hr:recOK (appR s r)=false:=by simpa[appR] using h
  have e:appS s r=s:=by unfold appS;rw[if_neg (by rw[hr];simp)]
  rw[e,hr];exact⟨⟨rfl,trivial⟩,⟨rfl,rfl,⟨rfl,rfl⟩,⟨rfl,rfl⟩,rfl,⟨rfl,rfl⟩,rfl,⟨rfl,rfl⟩,rfl,⟨rfl,rfl⟩,rfl,trivial⟩,⟨rfl,rowsR _ _⟩,⟨rfl,rowsR _ _⟩,⟨rfl,rowsR _ _⟩,trivial,⟨rfl,rfl,famR _⟩,⟨rfl,rowsR _ _⟩,trivial⟩
 ·have hr:recOK (appR s r)=true:=by simpa[appR] using h
  have e:appS s r={s with log:=s.log++[appR s r]}:=by unfold appS;rw[if_pos hr]
  rw[e,hr];have hl:s.log.length+1=(s.log++[appR s r]).length:=by simp
  exact⟨⟨Nat.le_refl _,Nat.le_refl _,by unfold AppB;omega⟩,⟨rfl,trivial⟩,⟨rfl,rfl,⟨rfl,rfl⟩,⟨rfl,rfl⟩,rfl,⟨rfl,rfl⟩,rfl,⟨rfl,hl⟩,rfl,⟨rfl,rfl⟩,rfl,trivial⟩,⟨rfl,rowsR _ _⟩,⟨rfl,rowsR _ _⟩,⟨rfl,rowsR _ _⟩,trivial,⟨rfl,rfl,famR _⟩,⟨hl,rec_app s.log (appR s r)⟩,trivial⟩
def stoE:Sto:=⟨⟨[],[],false,[]⟩,0,[],0,[],0⟩
theorem le0(n:Nat):Le (0+n) n:=Nat.le_of_eq (Nat.zero_add n)
theorem row0{row row':Nat->List T}:RowsEq 0 row row':=fun i hi=>absurd hi (Nat.not_lt_zero _)
end Go.Proofs.YtokaojbaacnngaaGreat

namespace Go.Proofs.YtokaojbaacnngaaGreat
set_option maxRecDepth 100000
open Go.SS

def k_l02Own:Con:=.rmk ⟨Dsk,fun d=>[.agg d.ts],fun _=>[],fun d=>.agg (d.tm 0),fun d=>d.hp,SmD⟩
noncomputable def b_l02Own:Code:=Tryz.f78.body.getD .skip
theorem call_l02Own:Callable Tryz.prog 78:=⟨_,Tryz.func78,by kernel_rfl,by kernel_rfl⟩
theorem v_l02Own(d:Dsk)(h:
  (Le 0 0/\AppB 0 d.sec.length 16)/\(Le 0 0/\AppB 0 d.cache.length 24)/\(Le 0 0/\AppB 0 d.keep.length 8)/\(((0=0/\0+d.sec.length=d.sec.length)/\(0=0/\0+d.cache.length=d.cache.length)/\d.armed=d.armed/\(0=0
  /\0+d.keep.length=d.keep.length)/\True)/\True)/\(0+d.sec.length=d.sec.length/\RowsEq (0+d.sec.length) (appRow (fun(k:Nat)=>List.take 1 (List.drop (k*1) [])) 0 (strRow d.sec)) (strRow d.sec))/\(0+
  d.cache.length=d.cache.length/\RowsEq (0+d.cache.length) (appRow (fun(k:Nat)=>List.take 2 (List.drop (k*2) [])) 0 (pendRow d.cache)) (pendRow d.cache))/\(0+d.keep.length=d.keep.length/\RowsEq (0+d.keep.length)
  (appRow (fun(k:Nat)=>List.take 1 (List.drop (k*1) [])) 0 (intRow d.keep)) (intRow d.keep))/\True):
  EffFn Tryz.prog 78 [.agg d.ts] [] (.agg (d.tm 0)) d.hp:=
 vcG (code:=b_l02Own) gN Tryz.func78 (by kernel_rfl) (by kernel_rfl) noAnn [[.arr 3,.arr 5,.arr 7]] h (by kernel_rfl)
theorem l02Own_ok:ConOk Tryz.prog 78 k_l02Own:=by
 rintro(d:Dsk) ⟨h1,h2,h3⟩;exact⟨v_l02Own d ⟨⟨Nat.le_refl _,by unfold AppB;omega⟩,⟨Nat.le_refl _,by unfold AppB;omega⟩,⟨Nat.le_refl _,by unfold AppB;omega⟩,⟨⟨⟨rfl,by omega⟩,⟨rfl,by omega⟩,rfl,⟨rfl,by omega⟩,trivial⟩,trivial⟩,⟨by omega,app_nil⟩,⟨by omega,app_nil⟩,⟨by omega,app_nil⟩,trivial⟩,rfl,plain_dsk d⟩
def k_l03Own:Con:=.rmk ⟨Pg,fun p=>[.agg p.ts],fun _=>[],fun p=>.agg (p.tm 0),fun p=>[strA p.sl],fun p=>p.sl.length<=1048576⟩
noncomputable def b_l03Own:Code:=Tryz.f144.body.getD .skip
theorem call_l03Own:Callable Tryz.prog 144:=⟨_,Tryz.func144,by kernel_rfl,by kernel_rfl⟩
theorem v_l03Own(p:Pg)(h:
  (Le 0 0/\AppB 0 p.sl.length 16)/\((p.lsn=p.lsn/\(0=0/\0+p.sl.length=p.sl.length)/\True)/\True)/\(0+p.sl.length=p.sl.length/\RowsEq (0+p.sl.length) (appRow (fun(k:Nat)=>List.take 1 (List.drop (k*1) []))
  0 (strRow p.sl)) (strRow p.sl))/\True):
  EffFn Tryz.prog 144 [.agg p.ts] [] (.agg (p.tm 0)) [strA p.sl]:=
 vcG (code:=b_l03Own) gN Tryz.func144 (by kernel_rfl) (by kernel_rfl) noAnn [[.arr 3]] h (by kernel_rfl)
theorem l03Own_ok:ConOk Tryz.prog 144 k_l03Own:=by
 intro(p:Pg) (h1:p.sl.length<=1048576);exact⟨v_l03Own p ⟨⟨Nat.le_refl _,by unfold AppB;omega⟩,⟨⟨rfl,⟨rfl,by omega⟩,trivial⟩,trivial⟩,⟨by omega,app_nil⟩,trivial⟩,rfl,plain_str _⟩
def k_l05Own:Con:=.rmk ⟨Sto,fun s=>[.agg s.ts],fun _=>[],fun s=>.agg (s.tm 0),fun s=>s.hp 0,SmS⟩
def A_l05Own(s:Sto):Nat->Ann
 |0=>.one {i:Nat//i<=s.fr.length} (fun x=>⟨[(1,.ref 0 0 0),(2,.ref 1 0 0),(3,.osl 6 0 x.1),(4,.int .i64 x.1)],[stoBx [.osl 2 0 s.d.sec.length,.osl 3 0 s.d.cache.length,.bool s.d.armed,.osl 4 0 s.d.keep.length,.int .i64 s.ep,.osl 5 0 s.log.length,.int .i64 s.sure,frmS s.fr,.int .i64 s.hand],stoZb,strA s.d.sec,pendA s.d.cache,intA s.d.keep,recA s.log,famA 0 s.fr x.1]⟩) (fun x=>s.fr.length-x.1) [.fam 7,.box 0,.box 1,.arr 2,.arr 3,.arr 4,.arr 6,.arr 7] [.box 0,.box 1,.arr 2,.arr 3,.arr 4,.arr 5,.at_ 3] (fun _=>noAnn)
 |_=>.none
noncomputable def b_l05Own:Code:=Tryz.f79.body.getD .skip
theorem call_l05Own:Callable Tryz.prog 79:=⟨_,Tryz.func79,by kernel_rfl,by kernel_rfl⟩
theorem v_l05Own(s:Sto)(h:
  ∃(x:Dsk),(((EqD s.d x)/\True)/\SmD x)/\(Le 0 0/\AppB 0 s.log.length 96)/\(∃(x_1:{i:Nat//i<=s.fr.length}),((0=0/\0=0)/\(0=0/\0=0)/\(0=0/\0=x_1.val)/\(0:Int)=(x_1.val:Int)/\True)/\(1=1/\
  1=1/\(0=0/\x.sec.length=s.d.sec.length)/\(0=0/\x.cache.length=s.d.cache.length)/\x.armed=s.d.armed/\(0=0/\x.keep.length=s.d.keep.length)/\s.ep=s.ep/\(0=0/\0+s.log.length=s.log.length)/\s.sure=
  s.sure/\(EqL frmRow s.fr s.fr)/\s.hand=s.hand/\True)/\(1=1/\1=1/\Value.slice none 0 0=Value.slice none 0 0/\Value.slice none 0 0=Value.slice none 0 0/\false=false/\Value.slice none 0 0=Value.slice none 0 0/\
  (0:Int)=(0:Int)/\Value.slice none 0 0=Value.slice none 0 0/\(0:Int)=(0:Int)/\Value.slice none 0 0=Value.slice none 0 0/\(0:Int)=(0:Int)/\True)/\(EqL strRow x.sec s.d.sec)/\(EqL pendRow x.cache
  s.d.cache)/\(EqL intRow x.keep s.d.keep)/\(0+s.log.length=s.log.length/\RowsEq (0+s.log.length) (appRow (fun(k:Nat)=>List.take 10 (List.drop (k*10) [])) 0 (recRow s.log)) (recRow s.log))/\(0=0/\0=x_1.val/\
  FamEq 0 (fun(k:Nat)=>List.take 5 (List.drop (k*5) [])) (famRow s.fr))/\True)/\∀(x:{i:Nat//i<=s.fr.length}),(decide ((x.val:Int)<(s.fr.length:Int))=true->InB (x.val:Int) s.fr.length/\∃(x_1:Pg),
  ((((s.fr.getD (x.val:Int).toNat default).pg.lsn=x_1.lsn/\(EqL strRow (s.fr.getD (x.val:Int).toNat default).pg.sl x_1.sl)/\True)/\True)/\x_1.sl.length<=1048576)/\(Le x_1.sl.length x_1.sl.length/\Le x.val x.val/\AppB x.val
  1 56)/\Rng .i64 ((x.val:Int)+(1:Int))/\∃(y:{i:Nat//i<=s.fr.length}),(((0=0/\0=0)/\(0=0/\0=0)/\(0=0/\x.val+1=y.val)/\(x.val:Int)+(1:Int)=(y.val:Int)/\True)/\(1=1/\1=1/\(0=0/\
  s.d.sec.length=s.d.sec.length)/\(0=0/\s.d.cache.length=s.d.cache.length)/\s.d.armed=s.d.armed/\(0=0/\s.d.keep.length=s.d.keep.length)/\s.ep=s.ep/\(0=0/\s.log.length=s.log.length)/\s.sure=s.sure/\(EqL
  frmRow s.fr s.fr)/\s.hand=s.hand/\True)/\(1=1/\1=1/\Value.slice none 0 0=Value.slice none 0 0/\Value.slice none 0 0=Value.slice none 0 0/\false=false/\Value.slice none 0 0=Value.slice none 0 0/\(0:Int)=
  (0:Int)/\Value.slice none 0 0=Value.slice none 0 0/\(0:Int)=(0:Int)/\Value.slice none 0 0=Value.slice none 0 0/\(0:Int)=(0:Int)/\True)/\(EqL strRow s.d.sec s.d.sec)/\(EqL pendRow s.d.cache s.d.cache)/\
  (EqL intRow s.d.keep s.d.keep)/\(EqL recRow s.log s.log)/\(0=0/\x.val+1=y.val/\FamEq (x.val+1) (appRow (famRow s.fr) x.val fun(x_2:Nat)=>[T.int .i64 (s.fr.getD (x.val:Int).toNat default).no,T.int .i64 x_1.lsn,
  T.own 0 1 x_1.sl.length (strRow x_1.sl),T.bool (s.fr.getD (x.val:Int).toNat default).dirty,T.int .i64 (s.fr.getD (x.val:Int).toNat default).first]) (famRow s.fr))/\True)/\Lt (s.fr.length-y.val) (s.fr.length-x.val))/\
  (decide ((x.val:Int)<(s.fr.length:Int))=false->(((0=0/\s.d.sec.length=s.d.sec.length)/\(0=0/\s.d.cache.length=s.d.cache.length)/\s.d.armed=s.d.armed/\(0=0/\s.d.keep.length=s.d.keep.length)/\s.ep=s.ep/\
  (0=0/\s.log.length=s.log.length)/\s.sure=s.sure/\(0=0/\x.val=s.fr.length)/\s.hand=s.hand/\True)/\True)/\(EqL strRow s.d.sec s.d.sec)/\(EqL pendRow s.d.cache s.d.cache)/\(EqL intRow s.d.keep s.d.keep)/\(EqL
  recRow s.log s.log)/\(0=0/\x.val=s.fr.length/\FamEq x.val (famRow s.fr) (famRow s.fr))/\True)):
  EffFn Tryz.prog 79 [.agg s.ts] [] (.agg (s.tm 0)) (s.hp 0):=
 vcG (code:=b_l05Own) (gC l02Own_ok call_l02Own (gC l03Own_ok call_l03Own gN)) Tryz.func79 (by kernel_rfl) (by kernel_rfl) (A_l05Own s) [[.arr 2,.arr 3,.arr 4,.arr 5,.arr 6]] h (by kernel_rfl)
theorem l05Own_ok:ConOk Tryz.prog 79 k_l05Own:=by
 rintro(s:Sto) ⟨h1,h2,h3,h4⟩;refine⟨v_l05Own s ⟨s.d,⟨⟨eqD _,trivial⟩,h1⟩,⟨Nat.le_refl _,by unfold AppB;omega⟩,⟨⟨0,Nat.zero_le _⟩,⟨⟨rfl,rfl⟩,⟨rfl,rfl⟩,⟨rfl,rfl⟩,rfl,trivial⟩,⟨rfl,rfl,⟨rfl,rfl⟩,⟨rfl,rfl⟩,rfl,⟨rfl,rfl⟩,rfl,⟨rfl,by omega⟩,rfl,⟨rfl,rowsR _ _⟩,rfl,trivial⟩,⟨rfl,rfl,rfl,rfl,rfl,rfl,rfl,rfl,rfl,rfl,rfl,trivial⟩,⟨rfl,rowsR _ _⟩,⟨rfl,rowsR _ _⟩,⟨rfl,rowsR _ _⟩,⟨by omega,app_nil⟩,⟨rfl,rfl,fun i hi=>absurd hi (Nat.not_lt_zero _)⟩,trivial⟩,fun x=>⟨fun hc=> ?_,fun hc=> ?_⟩⟩,rfl,plain_sto s 0⟩
 ·have hlt:=lt_of_dec hc;rw[Int.toNat_natCast];exact⟨inB_nat hlt,(s.fr.getD x.val default).pg,⟨⟨⟨rfl,⟨rfl,rowsR _ _⟩,trivial⟩,trivial⟩,h4 _ hlt⟩,⟨Nat.le_refl _,Nat.le_refl _,by unfold AppB;omega⟩,i64_rng (by omega),⟨x.val+1,hlt⟩,⟨⟨⟨rfl,rfl⟩,⟨rfl,rfl⟩,⟨rfl,rfl⟩,by dsimp only;omega,trivial⟩,⟨rfl,rfl,⟨rfl,rfl⟩,⟨rfl,rfl⟩,rfl,⟨rfl,rfl⟩,rfl,⟨rfl,rfl⟩,rfl,⟨rfl,rowsR _ _⟩,rfl,trivial⟩,⟨rfl,rfl,rfl,rfl,rfl,rfl,rfl,rfl,rfl,rfl,rfl,trivial⟩,⟨rfl,rowsR _ _⟩,⟨rfl,rowsR _ _⟩,⟨rfl,rowsR _ _⟩,⟨rfl,rowsR _ _⟩,⟨rfl,rfl,fam_app⟩,trivial⟩,Cnt.ext_lt hlt⟩
 ·have hx:x.val=s.fr.length:=by have:=x.2;have:=le_of_not hc;omega
  rw[hx];exact⟨⟨⟨⟨rfl,rfl⟩,⟨rfl,rfl⟩,rfl,⟨rfl,rfl⟩,rfl,⟨rfl,rfl⟩,rfl,⟨rfl,rfl⟩,rfl,trivial⟩,trivial⟩,⟨rfl,rowsR _ _⟩,⟨rfl,rowsR _ _⟩,⟨rfl,rowsR _ _⟩,⟨rfl,rowsR _ _⟩,⟨rfl,rfl,famR _⟩,trivial⟩
end Go.Proofs.YtokaojbaacnngaaGreat

