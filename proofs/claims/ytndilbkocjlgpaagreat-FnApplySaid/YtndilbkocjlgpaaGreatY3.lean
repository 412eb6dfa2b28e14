/- A part of the proof. -/
import Derived.Test.YtndilbkocjlgpaaGreatY1Y2
namespace Go.Proofs.YtndilbkocjlgpaaGreat
set_option maxRecDepth 100000
open Go.SS

theorem lastAt_app(L D:List Pend)(a:Int):∀i,i<=L.length->lastAt (L++D) a i=lastAt L a i
 |0,_=>rfl
 |i+1,h=>by
  unfold lastAt;rw[show(L++D).getD i default=L.getD i default by rw[List.getD_eq_getElem?_getD,List.getElem?_append_left (by omega),←List.getD_eq_getElem?_getD],lastAt_app L D a i (by omega)]
theorem rd_wrD(d:Dsk)(a:Int)(t:List UInt8)(n:Nat):rdAt (wrD d a t) n=if a=n then t else rdAt d n:=by
 have e:(d.cache++[(⟨a,t⟩:Pend)]).getD d.cache.length default=⟨a,t⟩:=by rw[List.getD_eq_getElem?_getD,List.getElem?_append_right (Nat.le_refl _)];simp
 have e2:lastAt (d.cache++[(⟨a,t⟩:Pend)]) n (d.cache.length+1)=if a=n then some t else lastAt d.cache n d.cache.length:=by
  conv=>lhs;unfold lastAt
  rw[e,lastAt_app _ _ _ _ (Nat.le_refl _)]
 have e3:rdAt (wrD d a t) n=(lastAt (d.cache++[(⟨a,t⟩:Pend)]) n (d.cache.length+1)).getD (d.sec.getD n []):=by
  unfold rdAt wrD;dsimp only;rw[show(d.cache++[(⟨a,t⟩:Pend)]).length=d.cache.length+1 by simp]
 rw[e3,e2];split<;>rfl
theorem rd_wrN{s:Sto}{l:Int}(h:FluB s l){n:Nat}(hn:n<9):∀i,i<=fluN s l->rdAt (wrN s i) n=rdAt s.d n
 |0,_=>by
  have:wrN s 0=s.d:=by unfold wrN;simp
  rw[this]
 |i+1,hi=>by
  have e:wrN s (i+1)=wrD (wrN s i) (pdR s i).at_ (pdR s i).d:=by
   unfold wrN wrD;dsimp only;rw[←wrN_succ]
  obtain⟨e2,_,_⟩:=flu_nd h (i:=i) (by omega)
  have h0:=h.2.2.2.2.1;rw[e,rd_wrD,if_neg (by rw[e2];omega),rd_wrN h hn i (by omega)]
theorem stl_get{sec:List (List UInt8)}{C:List Pend}{n:Nat}(hn:n<sec.length)(hp:∀i,i<C.length->0<=(C.getD i default).at_):∀i,i<=C.length->(stl sec C (fun _=>true) i).getD n []=(lastAt C n i).getD (sec.getD n [])
 |0,_=>rfl
 |i+1,hi=>by
  have ih:=stl_get hn hp i (by omega)
  have h0:=hp i (by omega)
  rw[stl_t rfl];unfold lastAt;by_cases h:(C.getD i default).at_=n
  ·rw[if_pos h,show(C.getD i default).at_.toNat=n by omega,List.getD_eq_getElem?_getD,List.getElem?_set_self (by rw[stl_len];exact hn)]
   rfl
  ·rw[if_neg h,List.getD_eq_getElem?_getD,List.getElem?_set_ne (by omega),←List.getD_eq_getElem?_getD,ih]
theorem syn_t{d:Dsk}(h:(synD d).2=true):synD d=(⟨stl d.sec d.cache (fun _=>true) d.cache.length,[],d.armed,d.keep⟩,true):=by
 unfold synD at h ⊢;split at h
 ·cases h
 ·rw[if_neg (by assumption)]
theorem rd_syn{d:Dsk}{n:Nat}(h:(synD d).2=true)(hp:PdB d)(hn:n<d.sec.length):rdAt (synD d).1 n=rdAt d n:=by
 rw[syn_t h];exact stl_get hn (fun i hi=>(hp i hi).1) _ (Nat.le_refl _)
theorem rd_flu{s:Sto}{l:Int}(h:FluB s l)(hu:(fluS s l).2=true){n:Nat}(hn:n<9):rdAt (fluS s l).1.d n=rdAt s.d n:=by
 by_cases hl:l<=s.sure
 ·rw[flu_le hl]
 ·rw[flu_gt hl] at hu ⊢;have:=h.2.2.2.1;rw[rd_syn hu (wrN_pd h).2 (show n<s.d.sec.length by omega),rd_wrN h hn _ (Nat.le_refl _)]
theorem rd_syn5{d:Dsk}{n:Nat}(h:(syn5 d).2=true)(hp:PdB d)(hn:n<d.sec.length):rdAt (syn5 d).1 n=rdAt d n:=by
 by_cases hc:500<=d.cache.length
 ·rw[syn5_t hc] at h ⊢;exact rd_syn h hp hn
 ·rw[syn5_f hc]
theorem syn_sec(d:Dsk):(synD d).1.sec.length=d.sec.length:=by
 unfold synD;split
 ·exact stl_len _ _ _ _
 ·exact stl_len _ _ _ _
theorem flu_sec(s:Sto)(l:Int):(fluS s l).1.d.sec.length=s.d.sec.length:=by
 by_cases hl:l<=s.sure
 ·rw[flu_le hl]
 ·rw[flu_gt hl];exact syn_sec _
theorem flu_rest(s:Sto)(l:Int):(fluS s l).1.fr=s.fr/\(fluS s l).1.hand=s.hand/\(fluS s l).1.log=s.log/\(fluS s l).1.ep=s.ep:=by
 by_cases h:l<=s.sure
 ·rw[flu_le h];exact⟨rfl,rfl,rfl,rfl⟩
 ·rw[flu_gt h];exact⟨rfl,rfl,rfl,rfl⟩
theorem syn5_sec(d:Dsk):(syn5 d).1.sec.length=d.sec.length:=by
 unfold syn5;split
 ·exact syn_sec d
 ·rfl
theorem syn5_c{d:Dsk}(h:d.cache.length<=500):(syn5 d).1.cache.length<=499:=by
 unfold syn5;split
 ·rw[syn_cache];exact Nat.zero_le _
 ·dsimp only;omega
theorem out_rest(s:Sto)(k:Nat):(outS s k).1.fr.length=s.fr.length/\(outS s k).1.hand=s.hand/\(outS s k).1.log=s.log/\(outS s k).1.ep=s.ep/\(outS s k).1.d.sec.length=s.d.sec.length:=by
 obtain⟨h1,h2,h3,h4⟩:=flu_rest s (s.fr.getD k default).pg.lsn;have h5:=flu_sec s (s.fr.getD k default).pg.lsn;unfold outS;split
 ·split
  ·split
   ·exact⟨by show(List.set _ _ _).length=_;rw[List.length_set];exact congrArg List.length h1,h2,h3,h4,by show(syn5 _).1.sec.length=_;rw[syn5_sec,h5]⟩
   ·exact⟨congrArg List.length h1,h2,h3,h4,by show(syn5 _).1.sec.length=_;rw[syn5_sec,h5]⟩
  ·exact⟨congrArg List.length h1,h2,h3,h4,h5⟩
 ·exact⟨rfl,rfl,rfl,rfl,rfl⟩
theorem out_page{s:Sto}{k no:Nat}(h:SInv s)(hk:k<s.fr.length)(hno:no<8)(hne:(s.fr.getD k default).no≠no)(hu:(outS s k).2=true):rdAt (outS s k).1.d (1+no)=rdAt s.d (1+no)/\(outS s k).1.d.cache.length<=500:=by
 have hf:=h.flu (h.frp k hk).2.2.2;have h0:=(h.frp k hk).1;have hfr:=flu_fr s (s.fr.getD k default).pg.lsn;have hc:=flu_c (l:=(s.fr.getD k default).pg.lsn) h.c;have hp:=flu_pd (l:=(s.fr.getD k default).pg.lsn) h.pd;have hs:=flu_sec s (s.fr.getD k default).pg.lsn;have h69:=h.n69;by_cases hd:(s.fr.getD k default).dirty=true
 ·by_cases hf2:(fluS s (s.fr.getD k default).pg.lsn).2=true
  ·by_cases h5:(syn5 (fluS s (s.fr.getD k default).pg.lsn).1.d).2=true
   ·rw[out_up hd hf2 h5];refine⟨?_,?_⟩
    ·show rdAt (wrD _ (1+((fluS s _).1.fr.getD k default).no) _) (1+no)=_;rw[hfr,rd_wrD,if_neg (by omega)]
     exact(rd_syn5 h5 hp (by omega)).trans (rd_flu hf hf2 (by omega))
    ·have:=syn5_c hc;show((syn5 _).1.cache++[_]).length<=500;rw[List.length_append];simp only[List.length_cons,List.length_nil];omega
   ·rw[out_syn hd hf2 (by simpa using h5)] at hu
    cases hu
  ·rw[out_down hd (by simpa using hf2)] at hu
   cases hu
 ·rw[out_clean (by simpa using hd)]
  exact⟨rfl,h.c⟩
theorem frAt_in{L:List Frm}{no:Int}(h:0<=frAt L no):(frAt L no).toNat<L.length:=by
 unfold frAt fstI at h ⊢;split at h
 ·rename_i i hi;have:=List.mem_range.1 (List.mem_of_find?_eq_some hi)
  simpa using this
 ·omega
theorem frAt_no{L:List Frm}{no:Int}(h:¬0<=frAt L no){i:Nat}(hi:i<L.length):(L.getD i default).no≠no:=by
 have e:=anyI_fst L.length (isNo L no);rw[show fstI L.length (isNo L no)=frAt L no from rfl,decide_eq_false h] at e
 have:=anyI_no.1 e.symm i hi;unfold isNo at this
 simpa using this
theorem pgAt_congr{d d':Dsk}{no:Nat}(h:rdAt d (1+no)=rdAt d' (1+no)):pgAt d no=pgAt d' no/\pgAtI d no=pgAtI d' no:=by
 unfold pgAt pgAtI;rw[h];exact⟨rfl,rfl⟩
def frmN(no:Nat)(p:Pg):Frm:=⟨no,p,false,0⟩
noncomputable def nextF(a:Sto)(k no:Nat):Sto:=⟨a.d,a.ep,a.log,a.sure,a.fr.set k (frmN no (pgAt a.d no).1),(a.hand+1).tmod 3⟩
noncomputable def addF(a:Sto)(no:Nat):Sto:=⟨a.d,a.ep,a.log,a.sure,a.fr++[frmN no (pgAt a.d no).1],a.hand⟩
noncomputable def fetS(s:Sto)(no:Nat):Sto×Nat×Bool:=if 0<=frAt s.fr no then(s,(frAt s.fr no).toNat,true)
 else if s.fr.length=3 then
  if(outS s s.hand.toNat).2=true then(nextF (outS s s.hand.toNat).1 s.hand.toNat no,s.hand.toNat,true) else((outS s s.hand.toNat).1,0,false)
 else(addF s no,s.fr.length,true)
noncomputable def fetV(s:Sto)(no v:Nat):Nat:=if 0<=frAt s.fr no then v
 else if s.fr.length=3 then
  if(outS s s.hand.toNat).2=true then v+1 else v
 else 1
def Sto.bxF(s:Sto)(v:Nat):Heap:=[stoBx (s.tn 1 6 7 4 8),strA s.d.sec,none,none,recA s.log,none,pendA s.d.cache,intA s.d.keep,famA v s.fr s.fr.length]
def FetB(s:Sto)(no:Nat):Prop:=SInv s/\no<8
noncomputable def k_fetchY:Con:=.reff ⟨Sto×Nat×Nat,fun x=>[.ref 0 0 0,.int .i64 x.2.1],fun x=>x.1.bx x.2.2,fun x=>.ref 8 (fetS x.1 x.2.1).2.1 0,fun x=>(fetS x.1 x.2.1).1.bxF (fetV x.1 x.2.1 x.2.2),fun x=>FetB x.1 x.2.1/\(fetS x.1 x.2.1).2.2=true⟩
noncomputable def k_fetchN:Con:=.reff ⟨Sto×Nat×Nat,fun x=>[.ref 0 0 0,.int .i64 x.2.1],fun x=>x.1.bx x.2.2,fun _=>.v (.pointer none),fun x=>(fetS x.1 x.2.1).1.bxF (fetV x.1 x.2.1 x.2.2),fun x=>FetB x.1 x.2.1/\(fetS x.1 x.2.1).2.2=false⟩
noncomputable def b_fetchY:Code:=Tryz.f76.body.getD .skip
theorem call_fetchY:Callable Tryz.prog 76:=⟨_,Tryz.func76,by kernel_rfl,by kernel_rfl⟩
theorem v_fetchY(s:Sto)(no:Nat)(v:Nat)(h:
  ∃(x:r_frameAt.ι),((LeS s)/\((EqF s x.fst)/\(no:Int)=x.snd/\True)/\Len x.fst.fr.length)/\(decide (frAt x.fst.fr x.snd≥(0:Int))=true->InB (frAt x.fst.fr x.snd) s.fr.length/\((0+(frAt x.fst.fr x.snd).toNat=
  (fetS s no).snd.fst/\0=0)/\True)/\(1=1/\1=1/\EqC s (fetS s no).fst)/\(EqL strRow s.d.sec (fetS s no).fst.d.sec)/\True/\True/\(EqL recRow s.log (fetS s no).fst.log)/\True/\(EqL pendRow s.d.cache (fetS s
  no).fst.d.cache)/\(EqL intRow s.d.keep (fetS s no).fst.d.keep)/\(v=fetV s no v/\s.fr.length=(fetS s no).fst.fr.length/\FamEq s.fr.length (famRow s.fr) (famRow (fetS s no).fst.fr))/\True)/\(decide (frAt x.fst.fr x.snd≥
  (0:Int))=false->(((s.fr.length:Int)==(3:Int))=true->∃(x:(Sto×Nat×Nat)),(((0=0/\0=0)/\s.hand=(x.snd.fst:Int)/\True)/\((1=1/\1=1/\EqC s x.fst)/\EqH (v) (x.snd.snd) s x.fst)/\SInv x.fst/\
  x.snd.fst<x.fst.fr.length)/\((!(outS x.fst x.snd.fst).snd)=true->(TLe (rho [some 0,some 1,some 2,some 3,some 4,some 5,some 6,some 7,some 5]) (T.v (Value.pointer none)) (T.ref 8 (fetS s no).snd.fst 0)/\True)/\(1=1
  /\1=1/\EqC (outS x.fst x.snd.fst).fst (fetS s no).fst)/\(EqL strRow (outS x.fst x.snd.fst).fst.d.sec (fetS s no).fst.d.sec)/\True/\True/\(EqL recRow (outS x.fst x.snd.fst).fst.log (fetS s no).fst.log)/\True/\(EqL pendRow
  (outS x.fst x.snd.fst).fst.d.cache (fetS s no).fst.d.cache)/\(EqL intRow (outS x.fst x.snd.fst).fst.d.keep (fetS s no).fst.d.keep)/\(x.snd.snd=fetV s no v/\(outS x.fst x.snd.fst).fst.fr.length=(fetS s no).fst.fr.length/\
  FamEq (outS x.fst x.snd.fst).fst.fr.length (famRow (outS x.fst x.snd.fst).fst.fr) (famRow (fetS s no).fst.fr))/\True)/\((!(outS x.fst x.snd.fst).snd)=false->Rng .i64 ((outS x.fst x.snd.fst).fst.hand+(1:Int))/\Nz (3:
  Int)/\∃(x_1:(Dsk×Nat)),((LeS (outS x.fst x.snd.fst).fst)/\((EqD (outS x.fst x.snd.fst).fst.d x_1.fst)/\(no:Int)=(x_1.snd:Int)/\True)/\DkB x_1)/\InB s.hand (outS x.fst x.snd.fst).fst.fr.length/\(0+s.hand.toNat<
  (outS x.fst x.snd.fst).fst.fr.length/\Le (pgAtI x_1.fst x_1.snd).fst.sl.length (pgAtI x_1.fst x_1.snd).fst.sl.length)/\InB s.hand (outS x.fst x.snd.fst).fst.fr.length/\((0+s.hand.toNat=(fetS s no).snd.fst/\0=0)/\True)/\
  (1=1/\1=1/\(0=0/\(outS x.fst x.snd.fst).fst.d.sec.length=(fetS s no).fst.d.sec.length)/\(0=0/\(outS x.fst x.snd.fst).fst.d.cache.length=(fetS s no).fst.d.cache.length)/\(outS x.fst x.snd.fst).fst.d.armed=(fetS
  s no).fst.d.armed/\(0=0/\(outS x.fst x.snd.fst).fst.d.keep.length=(fetS s no).fst.d.keep.length)/\(outS x.fst x.snd.fst).fst.ep=(fetS s no).fst.ep/\(0=0/\(outS x.fst x.snd.fst).fst.log.length=(fetS s
  no).fst.log.length)/\(outS x.fst x.snd.fst).fst.sure=(fetS s no).fst.sure/\(0=0/\(outS x.fst x.snd.fst).fst.fr.length=(fetS s no).fst.fr.length)/\((outS x.fst x.snd.fst).fst.hand+(1:Int)).tmod (3:Int)=(fetS s
  no).fst.hand/\True)/\(EqL strRow (outS x.fst x.snd.fst).fst.d.sec (fetS s no).fst.d.sec)/\True/\True/\(EqL recRow (outS x.fst x.snd.fst).fst.log (fetS s no).fst.log)/\True/\(EqL pendRow (outS x.fst x.snd.fst).fst.d.cache
  (fetS s no).fst.d.cache)/\(EqL intRow (outS x.fst x.snd.fst).fst.d.keep (fetS s no).fst.d.keep)/\(x.snd.snd+1=fetV s no v/\(outS x.fst x.snd.fst).fst.fr.length=(fetS s no).fst.fr.length/\FamEq (outS x.fst
  x.snd.fst).fst.fr.length (setRow (famRow (outS x.fst x.snd.fst).fst.fr) (0+s.hand.toNat) 0 [T.int .i64 (no:Int),T.int .i64 (pgAtI x_1.fst x_1.snd).fst.lsn,T.own 0 1 (pgAtI x_1.fst x_1.snd).fst.sl.length (strRow (pgAtI x_1.fst
  x_1.snd).fst.sl),T.bool false,T.int .i64 (0:Int)]) (famRow (fetS s no).fst.fr))/\True))/\(((s.fr.length:Int)==(3:Int))=false->(Le 1 1/\Le s.fr.length s.fr.length/\AppB s.fr.length 1 56)/\∃(x:(Dsk×Nat)),((Le
  (0+s.d.sec.length) s.d.sec.length/\Le (0+s.d.cache.length) s.d.cache.length/\Le (0+s.d.keep.length) s.d.keep.length/\Le (0+s.log.length) s.log.length/\Le (0+(s.fr.length+1)) (s.fr.length+1))/\((EqD s.d x.fst)/\
  (no:Int)=(x.snd:Int)/\True)/\DkB x)/\InB (s.fr.length:Int) (s.fr.length+1)/\(0+(s.fr.length:Int).toNat<s.fr.length+1/\Le (pgAtI x.fst x.snd).fst.sl.length (pgAtI x.fst x.snd).fst.sl.length)/\InB (s.fr.length:Int)
  (s.fr.length+1)/\((0+(s.fr.length:Int).toNat=(fetS s no).snd.fst/\0=0)/\True)/\(1=1/\1=1/\(0=0/\s.d.sec.length=(fetS s no).fst.d.sec.length)/\(0=0/\s.d.cache.length=(fetS s no).fst.d.cache.length)/\
  s.d.armed=(fetS s no).fst.d.armed/\(0=0/\s.d.keep.length=(fetS s no).fst.d.keep.length)/\s.ep=(fetS s no).fst.ep/\(0=0/\s.log.length=(fetS s no).fst.log.length)/\s.sure=(fetS s no).fst.sure/\(0=0/\
  s.fr.length+1=(fetS s no).fst.fr.length)/\s.hand=(fetS s no).fst.hand/\True)/\(EqL strRow s.d.sec (fetS s no).fst.d.sec)/\True/\True/\(EqL recRow s.log (fetS s no).fst.log)/\True/\(EqL pendRow s.d.cache (fetS s
  no).fst.d.cache)/\(EqL intRow s.d.keep (fetS s no).fst.d.keep)/\(1=fetV s no v/\s.fr.length+1=(fetS s no).fst.fr.length/\FamEq (s.fr.length+1) (setRow (appRow (famRow s.fr) s.fr.length fun(k:Nat)=>List.take 5
  (List.drop (k*5) [T.int .i64 (0:Int),T.int .i64 (0:Int),T.v (Value.slice none 0 0),T.bool false,T.int .i64 (0:Int)])) (0+(s.fr.length:Int).toNat) 0 [T.int .i64 (no:Int),T.int .i64 (pgAtI x.fst x.snd).fst.lsn,T.own
  0 1 (pgAtI x.fst x.snd).fst.sl.length (strRow (pgAtI x.fst x.snd).fst.sl),T.bool false,T.int .i64 (0:Int)]) (famRow (fetS s no).fst.fr))/\True))):
  EffFn Tryz.prog 76 [.ref 0 0 0,.int .i64 no] (s.bx v) (.ref 8 (fetS s no).2.1 0) ((fetS s no).1.bxF (fetV s no v)):=
 vcG (code:=b_fetchY) (gC frameAt_ok call_frameAt (gC putOut_ok call_putOut (gC dkPage_ok call_dkPage gN))) Tryz.func76 (by kernel_rfl) (by kernel_rfl) noAnn [[.box 0,.arr 1,.arr 2,.arr 3,.arr 4,.arr 5,.arr 6,.arr 7,.arr 5],[.box 0,.arr 1,.arr 2,.arr 3,.arr 4,.arr 5,.arr 2,.arr 3,.arr 7],[.box 0,.arr 1,.arr 2,.arr 3,.arr 4,.arr 5,.arr 2,.arr 3,.arr 5]] h (by kernel_rfl)
noncomputable def b_fetchN:Code:=Tryz.f76.body.getD .skip
theorem call_fetchN:Callable Tryz.prog 76:=⟨_,Tryz.func76,by kernel_rfl,by kernel_rfl⟩
theorem v_fetchN(s:Sto)(no:Nat)(v:Nat)(h:
  ∃(x:r_frameAt.ι),((LeS s)/\((EqF s x.fst)/\(no:Int)=x.snd/\True)/\Len x.fst.fr.length)/\(decide (frAt x.fst.fr x.snd≥(0:Int))=true->InB (frAt x.fst.fr x.snd) s.fr.length/\(TLe (rho [some 0,some 1,some 2,some
  3,some 4,some 5,some 2,some 3,some 5]) (T.ref 5 (0+(frAt x.fst.fr x.snd).toNat) 0) (T.v (Value.pointer none))/\True)/\(1=1/\1=1/\EqC s (fetS s no).fst)/\(EqL strRow s.d.sec (fetS s no).fst.d.sec)/\True/\True/\
  (EqL recRow s.log (fetS s no).fst.log)/\True/\(EqL pendRow s.d.cache (fetS s no).fst.d.cache)/\(EqL intRow s.d.keep (fetS s no).fst.d.keep)/\(v=fetV s no v/\s.fr.length=(fetS s no).fst.fr.length/\FamEq s.fr.length
  (famRow s.fr) (famRow (fetS s no).fst.fr))/\True)/\(decide (frAt x.fst.fr x.snd≥(0:Int))=false->(((s.fr.length:Int)==(3:Int))=true->∃(x:(Sto×Nat×Nat)),(((0=0/\0=0)/\s.hand=(x.snd.fst:Int)/\True)/\
  ((1=1/\1=1/\EqC s x.fst)/\EqH (v) (x.snd.snd) s x.fst)/\SInv x.fst/\x.snd.fst<x.fst.fr.length)/\((!(outS x.fst x.snd.fst).snd)=true->(Value.pointer none=Value.pointer none/\True)/\(1=1/\1=1/\EqC (outS
  x.fst x.snd.fst).fst (fetS s no).fst)/\(EqL strRow (outS x.fst x.snd.fst).fst.d.sec (fetS s no).fst.d.sec)/\True/\True/\(EqL recRow (outS x.fst x.snd.fst).fst.log (fetS s no).fst.log)/\True/\(EqL pendRow (outS x.fst
  x.snd.fst).fst.d.cache (fetS s no).fst.d.cache)/\(EqL intRow (outS x.fst x.snd.fst).fst.d.keep (fetS s no).fst.d.keep)/\(x.snd.snd=fetV s no v/\(outS x.fst x.snd.fst).fst.fr.length=(fetS s no).fst.fr.length/\FamEq (outS
  x.fst x.snd.fst).fst.fr.length (famRow (outS x.fst x.snd.fst).fst.fr) (famRow (fetS s no).fst.fr))/\True)/\((!(outS x.fst x.snd.fst).snd)=false->Rng .i64 ((outS x.fst x.snd.fst).fst.hand+(1:Int))/\Nz (3:Int)/\∃(x_1:
  (Dsk×Nat)),((LeS (outS x.fst x.snd.fst).fst)/\((EqD (outS x.fst x.snd.fst).fst.d x_1.fst)/\(no:Int)=(x_1.snd:Int)/\True)/\DkB x_1)/\InB s.hand (outS x.fst x.snd.fst).fst.fr.length/\(0+s.hand.toNat<(outS x.fst
  x.snd.fst).fst.fr.length/\Le (pgAtI x_1.fst x_1.snd).fst.sl.length (pgAtI x_1.fst x_1.snd).fst.sl.length)/\InB s.hand (outS x.fst x.snd.fst).fst.fr.length/\(TLe (rho [some 0,some 1,some 2,some 3,some 4,some 5,some 6,some
  7,some 5]) (T.ref 5 (0+s.hand.toNat) 0) (T.v (Value.pointer none))/\True)/\(1=1/\1=1/\(0=0/\(outS x.fst x.snd.fst).fst.d.sec.length=(fetS s no).fst.d.sec.length)/\(0=0/\(outS x.fst x.snd.fst).fst.d.cache.length
  =(fetS s no).fst.d.cache.length)/\(outS x.fst x.snd.fst).fst.d.armed=(fetS s no).fst.d.armed/\(0=0/\(outS x.fst x.snd.fst).fst.d.keep.length=(fetS s no).fst.d.keep.length)/\(outS x.fst x.snd.fst).fst.ep=(fetS s
  no).fst.ep/\(0=0/\(outS x.fst x.snd.fst).fst.log.length=(fetS s no).fst.log.length)/\(outS x.fst x.snd.fst).fst.sure=(fetS s no).fst.sure/\(0=0/\(outS x.fst x.snd.fst).fst.fr.length=(fetS s no).fst.fr.length)/\
  ((outS x.fst x.snd.fst).fst.hand+(1:Int)).tmod (3:Int)=(fetS s no).fst.hand/\True)/\(EqL strRow (outS x.fst x.snd.fst).fst.d.sec (fetS s no).fst.d.sec)/\True/\True/\(EqL recRow (outS x.fst x.snd.fst).fst.log (fetS s
  no).fst.log)/\True/\(EqL pendRow (outS x.fst x.snd.fst).fst.d.cache (fetS s no).fst.d.cache)/\(EqL intRow (outS x.fst x.snd.fst).fst.d.keep (fetS s no).fst.d.keep)/\(x.snd.snd+1=fetV s no v/\(outS x.fst
  x.snd.fst).fst.fr.length=(fetS s no).fst.fr.length/\FamEq (outS x.fst x.snd.fst).fst.fr.length (setRow (famRow (outS x.fst x.snd.fst).fst.fr) (0+s.hand.toNat) 0 [T.int .i64 (no:Int),T.int .i64 (pgAtI x_1.fst
  x_1.snd).fst.lsn,T.own 0 1 (pgAtI x_1.fst x_1.snd).fst.sl.length (strRow (pgAtI x_1.fst x_1.snd).fst.sl),T.bool false,T.int .i64 (0:Int)]) (famRow (fetS s no).fst.fr))/\True))/\(((s.fr.length:Int)==(3:Int))=false->
  (Le 1 1/\Le s.fr.length s.fr.length/\AppB s.fr.length 1 56)/\∃(x:(Dsk×Nat)),((Le (0+s.d.sec.length) s.d.sec.length/\Le (0+s.d.cache.length) s.d.cache.length/\Le (0+s.d.keep.length) s.d.keep.length/\Le (0+
  s.log.length) s.log.length/\Le (0+(s.fr.length+1)) (s.fr.length+1))/\((EqD s.d x.fst)/\(no:Int)=(x.snd:Int)/\True)/\DkB x)/\InB (s.fr.length:Int) (s.fr.length+1)/\(0+(s.fr.length:Int).toNat<s.fr.length+1/\
  Le (pgAtI x.fst x.snd).fst.sl.length (pgAtI x.fst x.snd).fst.sl.length)/\InB (s.fr.length:Int) (s.fr.length+1)/\(TLe (rho [some 0,some 1,some 2,some 3,some 4,some 5,some 2,some 3,some 7]) (T.ref 7 (0+
  (s.fr.length:Int).toNat) 0) (T.v (Value.pointer none))/\True)/\(1=1/\1=1/\(0=0/\s.d.sec.length=(fetS s no).fst.d.sec.length)/\(0=0/\s.d.cache.length=(fetS s no).fst.d.cache.length)/\s.d.armed=(fetS s
  no).fst.d.armed/\(0=0/\s.d.keep.length=(fetS s no).fst.d.keep.length)/\s.ep=(fetS s no).fst.ep/\(0=0/\s.log.length=(fetS s no).fst.log.length)/\s.sure=(fetS s no).fst.sure/\(0=0/\s.fr.length+1=(fetS s
  no).fst.fr.length)/\s.hand=(fetS s no).fst.hand/\True)/\(EqL strRow s.d.sec (fetS s no).fst.d.sec)/\True/\True/\(EqL recRow s.log (fetS s no).fst.log)/\True/\(EqL pendRow s.d.cache (fetS s no).fst.d.cache)/\(EqL intRow
  s.d.keep (fetS s no).fst.d.keep)/\(1=fetV s no v/\s.fr.length+1=(fetS s no).fst.fr.length/\FamEq (s.fr.length+1) (setRow (appRow (famRow s.fr) s.fr.length fun(k:Nat)=>List.take 5 (List.drop (k*5) [T.int .i64 (0:
  Int),T.int .i64 (0:Int),T.v (Value.slice none 0 0),T.bool false,T.int .i64 (0:Int)])) (0+(s.fr.length:Int).toNat) 0 [T.int .i64 (no:Int),T.int .i64 (pgAtI x.fst x.snd).fst.lsn,T.own 0 1 (pgAtI x.fst
  x.snd).fst.sl.length (strRow (pgAtI x.fst x.snd).fst.sl),T.bool false,T.int .i64 (0:Int)]) (famRow (fetS s no).fst.fr))/\True))):
  EffFn Tryz.prog 76 [.ref 0 0 0,.int .i64 no] (s.bx v) (.v (.pointer none)) ((fetS s no).1.bxF (fetV s no v)):=
 vcG (code:=b_fetchN) (gC frameAt_ok call_frameAt (gC putOut_ok call_putOut (gC dkPage_ok call_dkPage gN))) Tryz.func76 (by kernel_rfl) (by kernel_rfl) noAnn [[.box 0,.arr 1,.arr 2,.arr 3,.arr 4,.arr 5,.arr 6,.arr 7,.arr 5],[.box 0,.arr 1,.arr 2,.arr 3,.arr 4,.arr 5,.arr 2,.arr 3,.arr 7],[.box 0,.arr 1,.arr 2,.arr 3,.arr 4,.arr 5,.arr 2,.arr 3,.arr 5]] h (by kernel_rfl)
theorem fam_put{L:List Frm}{k:Nat}(f:Frm)(hk:k<L.length):FamEq L.length (setRow (famRow L) (0+k) 0 [T.int IntKind.i64 f.no,T.int IntKind.i64 f.pg.lsn,T.own 0 1 f.pg.sl.length (strRow f.pg.sl),T.bool f.dirty,T.int IntKind.i64 f.first]) (famRow (L.set k f)):=fam_eq fun i _=>by
 have hl:∀j,(famRow L j).length=5:=fun _=>rfl
 rw[Nat.zero_add,setRow_full (by rw[hl];rfl)]
 by_cases h:i=k
 ·subst h;rw[nb_t rfl];unfold famRow;rw[show(L.set i f).getD i default=f by rw[List.getD_eq_getElem?_getD,List.getElem?_set_self hk];rfl]
 ·rw[nb_f h];unfold famRow;rw[show(L.set k f).getD i default=L.getD i default by rw[List.getD_eq_getElem?_getD,List.getElem?_set_ne (Ne.symm h),←List.getD_eq_getElem?_getD]]
theorem fam_add{L:List Frm}(f:Frm)(r:Nat->List T)(hr:(r 0).length=5):FamEq (L.length+1) (setRow (appRow (famRow L) L.length r) (0+(L.length:Int).toNat) 0 [T.int IntKind.i64 f.no,T.int IntKind.i64 f.pg.lsn,T.own 0 1 f.pg.sl.length (strRow f.pg.sl),T.bool f.dirty,T.int IntKind.i64 f.first]) (famRow (L++[f])):=fam_eq fun i hi=>by
 rw[Int.toNat_natCast,Nat.zero_add];have hl:(appRow (famRow L) L.length r i).length=5:=by
  unfold appRow;by_cases h:i<L.length
  ·rw[blt_t h];rfl
  ·rw[blt_f h,show i-L.length=0 by omega]
   exact hr
 rw[setRow_full (by rw[hl];rfl)]
 by_cases h:i=L.length
 ·subst h;rw[nb_t rfl];unfold famRow;rw[show(L++[f]).getD L.length default=f by rw[List.getD_eq_getElem?_getD,List.getElem?_append_right (Nat.le_refl _)];simp]
 ·rw[nb_f h];unfold appRow;rw[blt_t (by omega)]
  unfold famRow;rw[show(L++[f]).getD i default=L.getD i default by rw[List.getD_eq_getElem?_getD,List.getElem?_append_left (by omega),←List.getD_eq_getElem?_getD]]
theorem fet_hit{s:Sto}{no:Nat}(v:Nat)(h:0<=frAt s.fr no):fetS s no=(s,(frAt s.fr no).toNat,true)/\fetV s no v=v:=⟨if_pos h,if_pos h⟩
theorem fet_next{s:Sto}{no:Nat}(v:Nat)(h:¬0<=frAt s.fr no)(h3:s.fr.length=3)(hu:(outS s s.hand.toNat).2=true):fetS s no=(nextF (outS s s.hand.toNat).1 s.hand.toNat no,s.hand.toNat,true)/\fetV s no v=v+1:=by
 unfold fetS fetV;rw[if_neg h,if_pos h3,if_pos hu,if_neg h,if_pos h3,if_pos hu];exact⟨rfl,rfl⟩
theorem fet_down{s:Sto}{no:Nat}(v:Nat)(h:¬0<=frAt s.fr no)(h3:s.fr.length=3)(hu:(outS s s.hand.toNat).2=false):fetS s no=((outS s s.hand.toNat).1,0,false)/\fetV s no v=v:=by
 have hu:¬ (outS s s.hand.toNat).2=true:=by rw[hu];simp
 unfold fetS fetV;rw[if_neg h,if_pos h3,if_neg hu,if_neg h,if_pos h3,if_neg hu];exact⟨rfl,rfl⟩
theorem fet_add{s:Sto}{no:Nat}(v:Nat)(h:¬0<=frAt s.fr no)(h3:¬s.fr.length=3):fetS s no=(addF s no,s.fr.length,true)/\fetV s no v=1:=by
 unfold fetS fetV;rw[if_neg h,if_neg h3,if_neg h,if_neg h3];exact⟨rfl,rfl⟩
theorem fet_pg{s:Sto}{no:Nat}(h:SInv s)(hno:no<8)(hc:¬0<=frAt s.fr no)(h3:s.fr.length=3)(hu:(outS s s.hand.toNat).2=true):DkB ((outS s s.hand.toNat).1.d,no)/\pgAtI (outS s s.hand.toNat).1.d no=pgAt (outS s s.hand.toNat).1.d no/\(pgAt (outS s s.hand.toNat).1.d no).2=true:=by
 have hh:=h.hd;have hk:s.hand.toNat<s.fr.length:=by omega
 obtain⟨p1,p2⟩:=out_page h hk hno (frAt_no hc hk) hu;obtain⟨_,_,_,_,r5⟩:=out_rest s s.hand.toNat;have h69:=h.n69;obtain⟨g1,g2⟩:=h.pg no hno;obtain⟨c1,c2⟩:=pgAt_congr p1;refine⟨⟨by dsimp only;omega,by dsimp only;omega,by dsimp only;omega,by show(rdAt _ _).length<=_;rw[p1];exact g2⟩,?_,by rw[c1];exact g1⟩
 rw[c1,c2];exact(pgAtI_eq s.d no).2 g1
theorem fet_pg0{s:Sto}{no:Nat}(h:SInv s)(hno:no<8):DkB (s.d,no)/\pgAtI s.d no=pgAt s.d no:=by
 have h69:=h.n69;have hc:=h.c;obtain⟨g1,g2⟩:=h.pg no hno;exact⟨⟨by dsimp only;omega,by dsimp only;omega,by dsimp only;omega,g2⟩,(pgAtI_eq s.d no).2 g1⟩
theorem fetchY_ok:ConOk Tryz.prog 76 k_fetchY:=by
 rintro⟨s,no,v⟩ ⟨⟨h,hno⟩,hup⟩;dsimp only at h hno hup;have hL:Len s.fr.length:=by have:=h.fr3;unfold Len;omega
 refine v_fetchY s no v ⟨(s,(no:Int)),⟨⟨le0 _,le0 _,le0 _,le0 _,le0 _⟩,⟨⟨⟨rfl,rowsR _ _⟩,⟨rfl,rowsR _ _⟩,rfl,⟨rfl,rowsR _ _⟩,rfl,⟨rfl,rowsR _ _⟩,rfl,⟨rfl,fun _ _=>rfl⟩,rfl,trivial⟩,rfl,trivial⟩,hL⟩,fun hc=> ?_,fun hc=>⟨fun h3=> ?_,fun h3=> ?_⟩⟩
 ·have hc:0<=frAt s.fr no:=of_decide_eq_true hc;obtain⟨e1,e2⟩:=fet_hit v hc;rw[e1,e2];exact⟨⟨hc,by have:=frAt_in hc;show frAt s.fr no<_;omega⟩,⟨⟨Nat.zero_add _,rfl⟩,trivial⟩,⟨rfl,rfl,⟨rfl,rfl⟩,⟨rfl,rfl⟩,rfl,⟨rfl,rfl⟩,rfl,⟨rfl,rfl⟩,rfl,⟨rfl,rfl⟩,rfl,trivial⟩,⟨rfl,rowsR _ _⟩,trivial,trivial,⟨rfl,rowsR _ _⟩,trivial,⟨rfl,rowsR _ _⟩,⟨rfl,rowsR _ _⟩,⟨rfl,rfl,famR _⟩,trivial⟩
 ·have hc:¬0<=frAt s.fr no:=of_decide_eq_false hc;have h3:s.fr.length=3:=by have:=beq_iff_eq.1 h3;omega
  have hh:=h.hd;have hk:s.hand.toNat<s.fr.length:=by omega
  obtain⟨r1,r2,_⟩:=out_rest s s.hand.toNat;refine⟨(s,s.hand.toNat,v),⟨⟨⟨rfl,rfl⟩,by dsimp only;omega,trivial⟩,⟨⟨rfl,rfl,⟨rfl,rfl⟩,⟨rfl,rfl⟩,rfl,⟨rfl,rfl⟩,rfl,⟨rfl,rfl⟩,rfl,⟨rfl,rfl⟩,rfl,trivial⟩,⟨rfl,rowsR _ _⟩,⟨rfl,rowsR _ _⟩,⟨rfl,rowsR _ _⟩,⟨rfl,rowsR _ _⟩,⟨rfl,rfl,famR _⟩,trivial⟩,h,hk⟩,fun hu=> ?_,fun hu=> ?_⟩
  ·have hu:(outS s s.hand.toNat).2=false:=(Bool.not_eq_true' _).mp hu;rw[(fet_down v hc h3 hu).1] at hup;cases hup
  ·have hu:(outS s s.hand.toNat).2=true:=(Bool.not_eq_false' _).mp hu;obtain⟨e1,e2⟩:=fet_next v hc h3 hu;obtain⟨d1,d2,_⟩:=fet_pg h hno hc h3 hu;rw[e1,e2];refine⟨i64_rng (by dsimp only;omega),by unfold Nz;omega,((outS s s.hand.toNat).1.d,no),⟨⟨le0 _,le0 _,le0 _,le0 _,le0 _⟩,⟨eqD _,rfl,trivial⟩,d1⟩,⟨by omega,by dsimp only;omega⟩,⟨by dsimp only;omega,Nat.le_refl _⟩,⟨by omega,by dsimp only;omega⟩,⟨⟨Nat.zero_add _,rfl⟩,trivial⟩,⟨rfl,rfl,⟨rfl,rfl⟩,⟨rfl,rfl⟩,rfl,⟨rfl,rfl⟩,rfl,⟨rfl,rfl⟩,rfl,⟨rfl,List.length_set.symm⟩,rfl,trivial⟩,⟨rfl,rowsR _ _⟩,trivial,trivial,⟨rfl,rowsR _ _⟩,trivial,⟨rfl,rowsR _ _⟩,⟨rfl,rowsR _ _⟩,⟨rfl,List.length_set.symm,?_⟩,trivial⟩
   dsimp only;rw[d2];exact fam_put (frmN no (pgAt (outS s s.hand.toNat).1.d no).1) (by omega)
 ·have hc:¬0<=frAt s.fr no:=of_decide_eq_false hc;have h3:¬s.fr.length=3:=fun e=>by rw[e] at h3;simp at h3
  have hl:=h.fr3;obtain⟨e1,e2⟩:=fet_add v hc h3;obtain⟨d1,d2⟩:=fet_pg0 h hno;rw[e1,e2];refine⟨⟨Nat.le_refl _,Nat.le_refl _,by unfold AppB;omega⟩,(s.d,no),⟨⟨le0 _,le0 _,le0 _,le0 _,le0 _⟩,⟨eqD _,rfl,trivial⟩,d1⟩,⟨by omega,by omega⟩,⟨by omega,Nat.le_refl _⟩,⟨by omega,by omega⟩,⟨⟨by dsimp only;omega,rfl⟩,trivial⟩,⟨rfl,rfl,⟨rfl,rfl⟩,⟨rfl,rfl⟩,rfl,⟨rfl,rfl⟩,rfl,⟨rfl,rfl⟩,rfl,⟨rfl,by unfold addF;simp⟩,rfl,trivial⟩,⟨rfl,rowsR _ _⟩,trivial,trivial,⟨rfl,rowsR _ _⟩,trivial,⟨rfl,rowsR _ _⟩,⟨rfl,rowsR _ _⟩,⟨rfl,by unfold addF;simp,?_⟩,trivial⟩
  dsimp only;rw[d2];exact fam_add (frmN no (pgAt s.d no).1) _ rfl
theorem fetchN_ok:ConOk Tryz.prog 76 k_fetchN:=by
 rintro⟨s,no,v⟩ ⟨⟨h,hno⟩,hup⟩;dsimp only at h hno hup;have hL:Len s.fr.length:=by have:=h.fr3;unfold Len;omega
 refine v_fetchN s no v ⟨(s,(no:Int)),⟨⟨le0 _,le0 _,le0 _,le0 _,le0 _⟩,⟨⟨⟨rfl,rowsR _ _⟩,⟨rfl,rowsR _ _⟩,rfl,⟨rfl,rowsR _ _⟩,rfl,⟨rfl,rowsR _ _⟩,rfl,⟨rfl,fun _ _=>rfl⟩,rfl,trivial⟩,rfl,trivial⟩,hL⟩,fun hc=> ?_,fun hc=>⟨fun h3=> ?_,fun h3=> ?_⟩⟩
 ·have hc:0<=frAt s.fr no:=of_decide_eq_true hc;rw[(fet_hit v hc).1] at hup;cases hup
 ·have hc:¬0<=frAt s.fr no:=of_decide_eq_false hc;have h3:s.fr.length=3:=by have:=beq_iff_eq.1 h3;omega
  have hh:=h.hd;have hk:s.hand.toNat<s.fr.length:=by omega
  refine⟨(s,s.hand.toNat,v),⟨⟨⟨rfl,rfl⟩,by dsimp only;omega,trivial⟩,⟨⟨rfl,rfl,⟨rfl,rfl⟩,⟨rfl,rfl⟩,rfl,⟨rfl,rfl⟩,rfl,⟨rfl,rfl⟩,rfl,⟨rfl,rfl⟩,rfl,trivial⟩,⟨rfl,rowsR _ _⟩,⟨rfl,rowsR _ _⟩,⟨rfl,rowsR _ _⟩,⟨rfl,rowsR _ _⟩,⟨rfl,rfl,famR _⟩,trivial⟩,h,hk⟩,fun hu=> ?_,fun hu=> ?_⟩
  ·have hu:(outS s s.hand.toNat).2=false:=(Bool.not_eq_true' _).mp hu;obtain⟨e1,e2⟩:=fet_down v hc h3 hu;rw[e1,e2];exact⟨⟨rfl,trivial⟩,⟨rfl,rfl,⟨rfl,rfl⟩,⟨rfl,rfl⟩,rfl,⟨rfl,rfl⟩,rfl,⟨rfl,rfl⟩,rfl,⟨rfl,rfl⟩,rfl,trivial⟩,⟨rfl,rowsR _ _⟩,trivial,trivial,⟨rfl,rowsR _ _⟩,trivial,⟨rfl,rowsR _ _⟩,⟨rfl,rowsR _ _⟩,⟨rfl,rfl,famR _⟩,trivial⟩
  ·have hu:(outS s s.hand.toNat).2=true:=(Bool.not_eq_false' _).mp hu;rw[(fet_next v hc h3 hu).1] at hup;cases hup
 ·have hc:¬0<=frAt s.fr no:=of_decide_eq_false hc;have h3:¬s.fr.length=3:=fun e=>by rw[e] at h3;simp at h3
  rw[(fet_add v hc h3).1] at hup;cases hup
end Go.Proofs.YtndilbkocjlgpaaGreat

