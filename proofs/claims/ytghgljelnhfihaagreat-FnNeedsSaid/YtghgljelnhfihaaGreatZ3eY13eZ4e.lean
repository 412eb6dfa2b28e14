/- A part of the proof. -/
import Derived.Test.YtghgljelnhfihaaGreatU32U33U34U35U36U37
import Derived.Test.YtghgljelnhfihaaGreatL7L8U10
import Derived.Test.YtghgljelnhfihaaGreatY4Y5Y6Y7
namespace Go.Proofs.YtghgljelnhfihaaGreat
open Go.SS

theorem mF{L:List Frm}{k:Nat}(f:Frm)(i:Nat)(hk:k<L.length):(L.set k f).getD i dz=if i=k then f else L.getD i dz:=by
 by_cases h:i=k
 ·subst h;rw[if_pos rfl];exact uA f hk
 ·rw[if_neg h,P8,aP (Ne.symm h),←P8]
structure DG(d:Dsk):Prop where
 ar:d.A=false
 kp:d.keep.length=0
 n69:d.E.length=69
 sc:∀i,i<69->(d.E.getD i []).length<=160
 cc:∀i,i<d.C.length->0<=(d.C.getD i dz).at_/\(d.C.getD i dz).at_<69/\(d.C.getD i dz).d.length<=160
theorem DG.pd{d:Dsk}(h:DG d):iE d:=λi hi=>by
 have:=h.cc i hi;rw[h.n69];omega
theorem DG.P{d:Dsk}(h:DG d)(hc:d.C.length<=500):G5 d:=by
 have h1:=h.n69;have h2:=h.kp;refine⟨by omega,by omega,hc,by omega,λ_=>h2,λi hi=>h.sc i (by omega),λi hi=> ?_⟩
 obtain⟨c1,c2,c3⟩:=h.cc i hi;unfold P7 V9;rw[h1];simp only[yP,yT,L3,k4,rX];omega
theorem c0F{d:Dsk}(h:DG d){n:Nat}(hn:n<69):(U6 d n).length<=160:=by
 have key:∀m,m<=d.C.length->∀l,L0 d.C n m=some l->l.length<=160:=by
  intro m;induction m with
  |zero=>intro _ l hl;cases hl
  |succ m ih=>
   intro hm l hl;unfold L0 at hl;split at hl
   ·cases hl;exact(h.cc m (by omega)).2.2
   ·exact ih (by omega) l hl
 unfold U6;cases hl:L0 d.C n d.C.length with
 |none=>exact h.sc n hn
 |some l=>exact key _ (W4 _) l hl
theorem b2n{d:Dsk}(h:DG d):DG (V6 d).1/\(V6 d).2=true/\(V6 d).1.C=[]/\∀n,n<69->U6 (V6 d).1 n=U6 d n:=by
 have hu:(V6 d).2=true:=by unfold V6;rw[if_neg (by rw[h.ar];simp)]
 have hr:∀n,n<69->U6 (V6 d).1 n=U6 d n:=λn hn=>a3M hu h.pd (by rw[h.n69];exact hn)
 have e:=b64 hu;have hc:=o9 d;refine⟨⟨by rw[e];exact h.ar,by rw[e];exact h.kp,by rw[a0f];exact h.n69,λi hi=> ?_,λi hi=> ?_⟩,hu,hc,hr⟩
 ·have:=hr i hi;have h2:U6 (V6 d).1 i=(V6 d).1.E.getD i []:=by
   unfold U6;rw[hc];rfl
  rw[←h2,this];exact c0F h hi
 ·rw[hc] at hi;exact absurd hi (J5 _)
theorem b69{d:Dsk}(h:DG d){a:Int}{t:List UInt8}(h0:0<=a)(h1:a<69)(ht:t.length<=160):DG (wrD d a t):=by
 refine⟨h.ar,h.kp,h.n69,h.sc,λi hi=> ?_⟩
 have hi:i<d.C.length+1:=by unfold wrD at hi;dsimp only at hi;rw[K6] at hi;exact hi
 show 0<=((d.C++[(⟨a,t⟩:Pend)]).getD i dz).at_/\((d.C++[(⟨a,t⟩:Pend)]).getD i dz).at_<69/\((d.C++[(⟨a,t⟩:Pend)]).getD i dz).d.length<=160;rw[yQ dz _ _ _ hi];split
 ·exact⟨h0,h1,ht⟩
 ·exact h.cc i (by omega)
theorem b2W{r:Rec}(h:R1 r=true):r.b.length<=30/\r.a.length<=38:=by
 have h:=(R7 r).1 h;unfold F8 at h;obtain⟨_,_,_,_,_,_,_,_,_,_,_,_,_,_,hb,h6,h7⟩:=h;refine⟨by omega,?_⟩
 by_cases hk:r.k=6
 ·exact cJ (h6 hk).2.2.2.2.2.2
 ·have:=(h7 hk).2.2.1;omega
theorem c1r{r:Rec}(h:R1 r=true):(Q3 r).length<=160/\Q3 r≠[]:=by
 obtain⟨h1,h2⟩:=b2W h;have e4:(E4 (t6 (a29 r))).length=4:=rfl;have hl:(Q3 r).length=16+(r.b.length+r.a.length):=by
  unfold Q3 a29;rw[K6];simp only[S2,W2,K6,List.length_cons,List.length_nil];show _+4=_;simp;omega
 refine⟨by omega,λe=> ?_⟩
 rw[e] at hl;simp at hl;omega
theorem b1O{s:Sto}{l:Int}(hd:DG s.d)(ho:u9 s.L=true)(h:wU s l):∀i,i<=O0 s l->DG (sP s i)/\∀n,n<69->U6 (sP s i) n=if 9+s.S.toNat<=n/\n<9+s.S.toNat+i then Q3 (s.L.getD (n-9) dz) else U6 s.d n
 |0,_=>by
  have:sP s 0=s.d:=by unfold sP;simp
  rw[this];exact⟨hd,λn _=>by rw[if_neg (by omega)]⟩
 |i+1,hi=>by
  have e:sP s (i+1)=wrD (sP s i) (sX s i).at_ (sX s i).d:=by
   unfold sP wrD;dsimp only;rw[←yR]
  obtain⟨e2,e3,e4⟩:=pD h (i:=i) (by omega)
  obtain⟨g1,g2⟩:=b1O hd ho h i (by omega)
  obtain⟨_,_,_,_,h0,_,h6,h7,_⟩:=h;have hz:(Q3 (s.L.getD (s.S.toNat+i) dz)).length<=160:=(c1r (J6.1 ho (s.S.toNat+i) (by omega)).1).1
  rw[e];refine⟨b69 g1 (by omega) (by omega) hz,λn hn=> ?_⟩
  rw[lD,g2 n hn,e2];by_cases hq:9+s.S+(i:Int)=n
  ·rw[if_pos hq,if_pos (by omega),show n-9=s.S.toNat+i by omega]
   rfl
  ·rw[if_neg hq];by_cases hp:9+s.S.toNat<=n/\n<9+s.S.toNat+i
   ·rw[if_pos hp,if_pos (by omega)]
   ·rw[if_neg hp,if_neg (by omega)]
def FrP(n:Nat)(f:Frm):Prop:=0<=f.no/\f.no<=7/\eB f.pg/\f.pg.Q<=n/\0<=f.first/\f.first<=n/\(f.D=true↔0<f.first)
structure GInv(s:Sto):Prop where
 dg:DG s.d
 ca:s.d.C.length<=500
 ep:1<=s.ep/\s.ep<=60
 l60:s.L.length<=60
 rc:u9 s.L=true
 su:0<=s.S/\s.S<=s.L.length
 be:∀i,i<s.L.length->xC s i=false
 pg:∀no,no<8->(T6 s.d no).2=true/\(T6 s.d no).1.Q<=s.S
 fr3:s.fr.length<=3
 fp:∀i,i<s.fr.length->FrP s.L.length (s.fr.getD i dz)
 nd:∀i j,i<s.fr.length->j<s.fr.length->(s.fr.getD i dz).no=(s.fr.getD j dz).no->i=j
 cl:∀i,i<s.fr.length->(s.fr.getD i dz).D=false->(T6 s.d (s.fr.getD i dz).no.toNat).1=(s.fr.getD i dz).pg
 hd:0<=s.J/\s.J<=2
 lg:∀i,i<s.S.toNat->U6 s.d (9+i)=Q3 (s.L.getD i dz)
 lz:∀i,s.S.toNat<=i->i<60->U6 s.d (9+i)=[]
theorem a7c{L:List Frm}{no:Int}(h:0<=frAt L no):(L.getD (frAt L no).toNat dz).no=no:=by
 unfold frAt P9 at h ⊢;split at h
 ·rename_i i hi;have:=List.find?_some hi
  simpa[pB] using this
 ·omega
theorem b6v{L:List Frm}{i:Nat}(hi:i<L.length)(nd:∀i j,i<L.length->j<L.length->(L.getD i dz).no=(L.getD j dz).no->i=j):frAt L (L.getD i dz).no=i:=by
 have h:0<=frAt L (L.getD i dz).no:=Classical.byContradiction λh=>cV h hi rfl
 have hk:=vW h;have:(L.getD (frAt L (L.getD i dz).no).toNat dz).no=(L.getD i dz).no:=a7c h;have:=nd _ _ hk hi this;omega
theorem GInv.ok{s:Sto}(h:GInv s):J8 s=true:=by
 refine(M2 s).2 ⟨⟨(B7 s).2 ⟨h.dg.P h.ca,h.dg.n69,h.ep.1,h.ep.2,h.l60⟩,h.rc,?_⟩,h.be,λno hn=> ?_,?_,?_⟩
 ·have:=h.su;simp[V9,this]
 ·obtain⟨a,b⟩:=h.pg no hn;unfold l9;rw[a];simp only[Bool.not_true,Bool.false_or,rX];omega
 ·unfold j3;have h3:=h.fr3;rw[Q8.2 λi hi=> ?_]
  ·simp;omega
  ·obtain⟨p1,p2,p3,p4,p5,p6,p7⟩:=h.fp i hi;unfold i7;rw[b6v hi h.nd,show A2 (s.fr.getD i dz).pg=true from pO p3]
   simp only[V9,yP,yT,L3,k4,rX,bne_self_eq_false,true_and,and_true,Bool.not_true,bne_eq_false_iff_eq];refine⟨⟨⟨⟨p1,p2⟩,by omega⟩,p5,p6⟩,?_⟩
   rw[Bool.eq_iff_iff,k4];exact p7.symm
 ·have:=h.hd;simp[V9,this]
theorem GInv.sm{s:Sto}(h:GInv s):SmS s:=by
 have h1:=h.dg.n69;have h2:=h.dg.kp;have h3:=h.ca;have h4:=h.l60;have h5:=h.fr3;refine⟨⟨by omega,by omega,by omega⟩,by omega,by omega,λi hi=> ?_⟩
 have:=(h.fp i hi).2.2.1.2.2.1;unfold SmF SmG;omega
theorem GInv.inv{s:Sto}(h:GInv s):SInv s:=a5W h.ok h.sm
end Go.Proofs.YtghgljelnhfihaaGreat

namespace Go.Proofs.YtghgljelnhfihaaGreat
set_option maxRecDepth 100000
open Go.SS
def shI(k r:Nat):Nat:=if r<k then r else r+1
theorem gB{L:List Frm}{k:Nat}(hk:k<L.length):(L.eraseIdx k).length=L.length-1:=by rw[List.length_eraseIdx,if_pos hk]
theorem a2G(L:List Frm)(k i:Nat):(L.eraseIdx k).getD i dz=L.getD (shI k i) dz:=by
 rw[P8,List.getElem?_eraseIdx,P8]
 unfold shI;split<;>rfl

def rmF(a:Sto)(k:Nat):Sto:=⟨a.d,a.ep,a.L,a.S,a.fr.eraseIdx k,0⟩
def evi(s:Sto)(k:Nat):Sto×Bool:=if(Y4 s k).2=true then(rmF (Y4 s k).1 k,true) else((Y4 s k).1,false)
def c0U(s:Sto)(k v:Nat):Nat:=if(Y4 s k).2=true then v+1 else v
theorem b1c{s:Sto}{k:Nat}(v:Nat)(h:(Y4 s k).2=true):evi s k=(rmF (Y4 s k).1 k,true)/\c0U s k v=v+1:=⟨if_pos h,if_pos h⟩
theorem b2u{s:Sto}{k:Nat}(v:Nat)(h:(Y4 s k).2=false):evi s k=((Y4 s k).1,false)/\c0U s k v=v:=⟨if_neg (by rw[h];simp),if_neg (by rw[h];simp)⟩
noncomputable def M9(s:Sto)(no:Nat):Sto×Bool×Int:=if 0<=frAt s.fr no then((evi s (frAt s.fr no).toNat).1,(evi s (frAt s.fr no).toNat).2,0) else(s,true,5)
noncomputable def a5v:Con:=.rel ⟨Sto×Nat,λx=>[.agg x.1.ts,.int .i64 x.2],λx=>.tup [.agg (M9 x.1 x.2).1.ts,.bool (M9 x.1 x.2).2.1,.int .i64 (M9 x.1 x.2).2.2],λx=>jJ x.1 x.2⟩
theorem b4s{L:List Frm}{k:Nat}(hk:k<L.length):Z6 (k+(L.length- (k+1))) (X3 (X2 L) k λi=>(L.getD (k+1+i) dz).ts) (X2 (L.eraseIdx k)):=λi hi=>by
 unfold X3 X2;rw[a2G];unfold shI;by_cases h:i<k
 ·rw[uY h,if_pos h]
 ·rw[sW h,if_neg h];show(L.getD (k+1+(i-k)) dz).ts=_;rw[show k+1+(i-k)=i+1 by omega]
theorem a2O:GK 196 a5v:=gk Tryz.func196<|by
 rintro⟨s,no⟩ ⟨h,hno⟩;dsimp only at h hno;have hL:O6 s.fr.length:=by have:=h.fr3;unfold O6;omega
 have h3:=h.fr3;refine Q5 (gC uL (gC eC gN)) Tryz.func196 Y5 (α:=let u:=(M9 s no);∃(x:wE.ι),let g:=(frAt x.1.fr x.2<0);let y:=(frAt x.1.fr x.2+1);let v:=(frAt x.1.fr x.2).toNat;(((yL s x.1)/\(no:Int)=x.2/\True)/\O6 x.1.fr.length)/\(decide g=true->(yL s u.1)/\true=u.2.1/\5=u.2.2/\True)/\(decide g=false->∃(x_1:(Sto×Nat)),let r:=(Y4 x_1.1 x_1.2);let a:=(Y8 Y3 r.1.L u.1.L);let f:=(Y8 Y9 r.1.d.C u.1.d.C);let n:=(Y8 Z5 r.1.d.E u.1.d.E);let m:=r.1.fr.length;let j:=(Y8 Y6 r.1.d.keep u.1.d.keep);let w:=(m- y.toNat);let q:=(0+v+w);let p:=(0+v+w=u.1.fr.length/\Z6 q (X3 (X3 (λ(k:Nat)=>List.take 5 (List.drop (k*5) [])) 0 (X2 r.1.fr)) (0+v) λ(i:Nat)=>let z:=(r.1.fr.getD (y.toNat+i) dz);[T.int .i64 z.no,T.int .i64 z.pg.Q,T.sl 1 z.pg.sl.length (Z5 z.pg.sl),T.bool z.D,T.int .i64 z.first]) (X2 u.1.fr));(((yL s x_1.1)/\frAt x.1.fr x.2=(x_1.2:Int)/\True)/\SInv x_1.1/\x_1.2<x_1.1.fr.length)/\((! r.2)=true->(yL r.1 u.1)/\false=u.2.1/\0=u.2.2/\True)/\((! r.2)=false->lL (frAt x.1.fr x.2) m/\(Le 0 0/\W6 0 v 56)/\W7 .i64 y/\lL y m/\(Le (0+v) (0+v)/\W6 (0+v) w 56)/\(decide ((↑q:Int)<3)=true->Le (0+q) q/\(n/\f/\r.1.d.A=u.1.d.A/\j/\r.1.ep=u.1.ep/\a/\r.1.S=u.1.S/\p/\0=u.1.J/\True)/\true=u.2.1/\0=u.2.2/\True)/\(decide ((↑q:Int)<3)=false->Le (0+q) q/\(n/\f/\r.1.d.A=u.1.d.A/\j/\r.1.ep=u.1.ep/\a/\r.1.S=u.1.S/\p/\r.1.J=u.1.J/\True)/\true=u.2.1/\0=u.2.2/\True)))) ⟨(s,(no:Int)),⟨⟨zE _,Z9⟩,hL⟩,λhc=> ?_,λhc=> ?_⟩
 ·have hc:¬0<=frAt s.fr no:=by have:=C7 hc;dsimp only at this;omega
  rw[show M9 s no=(s,true,5) from if_neg hc]
  exact⟨zE _,rfl,Z9⟩
 ·have hc:0<=frAt s.fr no:=by have:=l7 hc;dsimp only at this;omega
  have hk:=vW hc;rw[show M9 s no=((evi s (frAt s.fr no).toNat).1,(evi s (frAt s.fr no).toNat).2,0) from if_pos hc]
  dsimp only;obtain⟨k,hK⟩:∃k:Nat,frAt s.fr no=k:=⟨(frAt s.fr no).toNat,by omega⟩
  rw[hK] at hk ⊢;rw[F5] at hk ⊢;obtain⟨r1,_⟩:=w7 s k;rw[show((k:Int)+1).toNat=k+1 by omega]
  refine⟨(s,k),⟨⟨zE _,Z9⟩,h,hk⟩,λhu=> ?_,λhu=> ?_⟩
  ·rw[(b2u 0 ((xP _).mp hu)).1];exact⟨zE _,rfl,Z9⟩
  ·rw[(b1c 0 ((yT _).mp hu)).1];dsimp only;rw[G9 k];have hel:=gB (L:=(Y4 s k).1.fr) (k:=k) (by omega)
   have hln:k+((Y4 s k).1.fr.length- (k+1))=((Y4 s k).1.fr.eraseIdx k).length:=by omega
   refine⟨⟨by omega,by omega⟩,⟨W4 _,by unfold W6;omega⟩,Z4 (by omega),⟨by omega,by omega⟩,⟨W4 _,by unfold W6;omega⟩,λhd=>⟨by unfold Le;omega,⟨Z7,Z7,rfl,Z7,rfl,Z7,rfl,⟨hln,?_⟩,Z9⟩,rfl,Z9⟩,λhd=>absurd (l7 hd) (by omega)⟩
   rw[tA];exact b4s (by omega)
end Go.Proofs.YtghgljelnhfihaaGreat

namespace Go.Proofs.YtghgljelnhfihaaGreat
open Go.SS
theorem zH{a n:Int}(h:0<=a)(hn:0<n):0<=a.tmod n/\a.tmod n<n:=⟨Int.tmod_nonneg _ h,Int.tmod_lt_of_pos _ hn⟩

theorem b3Z{s:Sto}{l:Int}(h:GInv s)(hl:l<=s.L.length):GInv (X7 s l).1/\(X7 s l).2=true/\l<=(X7 s l).1.S:=by
 by_cases hs:l<=s.S
 ·rw[q7 hs];exact⟨h,rfl,hs⟩
 ·have hF:=h.inv.flu hl;have h60:=h.l60;have hsu:=h.su;obtain⟨g1,g2⟩:=b1O h.dg h.rc hF (O0 s l) (W4 _);obtain⟨y1,y2,y3,y4⟩:=b2n g1;have hN:O0 s l=l.toNat-s.S.toNat:=rfl;have rd:∀n,n<69->U6 (V6 (sP s (O0 s l))).1 n=if 9+s.S.toNat<=n/\n<9+s.S.toNat+O0 s l then Q3 (s.L.getD (n-9) dz) else U6 s.d n:=λn hn=>(y4 n hn).trans (g2 n hn)
  have rp:∀no,no<8->U6 (V6 (sP s (O0 s l))).1 (1+no)=U6 s.d (1+no):=λno hn=>by rw[rd _ (by omega),if_neg (by omega)]
  rw[j6 hs,y2,if_pos rfl];refine⟨⟨y1,by show(V6 _).1.C.length<=_;rw[y3];exact S7 _,h.ep,h.l60,h.rc,⟨by show 0<=l;omega,hl⟩,h.be,λno hn=> ?_,h.fr3,h.fp,h.nd,λi hi hc=> ?_,h.hd,λi hi=> ?_,λi hi h6=> ?_⟩,rfl,Int.le_refl _⟩
  ·obtain⟨a,b⟩:=h.pg no hn;show(T6 (V6 _).1 no).2=true/\(T6 (V6 _).1 no).1.Q<=l;rw[(y9 (rp no hn)).1];exact⟨a,by omega⟩
  ·have hf:=h.fp i hi;show(T6 (V6 _).1 _).1=_;rw[(y9 (rp (s.fr.getD i dz).no.toNat (by obtain⟨f1,f2,_⟩:=hf;omega))).1]
   exact h.cl i hi hc
  ·have hi:i<l.toNat:=hi;show U6 (V6 _).1 (9+i)=_;rw[rd _ (by omega)]
   by_cases hq:s.S.toNat<=i
   ·rw[if_pos (by omega),show 9+i-9=i by omega]
   ·rw[if_neg (by omega)]
    exact h.lg i (by omega)
  ·have hi:l.toNat<=i:=hi;show U6 (V6 _).1 (9+i)=_;rw[rd _ (by omega),if_neg (by omega)]
   exact h.lz i (by omega) h6
theorem c2j{s:Sto}{d:Dsk}(h:GInv s)(hd:DG d)(hc:d.C.length<=500)(hr:∀n,n<69->U6 d n=U6 s.d n):GInv (s.sd d):=by
 have h60:=h.l60;have hsu:=h.su;refine⟨hd,hc,h.ep,h.l60,h.rc,h.su,h.be,λno hn=> ?_,h.fr3,h.fp,h.nd,λi hi hc=> ?_,h.hd,λi hi=> ?_,λi hi h6=> ?_⟩
 ·show(T6 d no).2=true/\(T6 d no).1.Q<=_;rw[(y9 (hr (1+no) (by omega))).1]
  exact h.pg no hn
 ·have hf:=h.fp i hi;show(T6 d (s.fr.getD i dz).no.toNat).1=(s.fr.getD i dz).pg;rw[(y9 (hr (1+(s.fr.getD i dz).no.toNat) (by obtain⟨f1,f2,_⟩:=hf;omega))).1]
  exact h.cl i hi hc
 ·have hi:i<s.S.toNat:=hi;show U6 d (9+i)=_;rw[hr _ (by omega)]
  exact h.lg i hi
 ·show U6 d (9+i)=_;rw[hr _ (by omega)]
  exact h.lz i hi h6
theorem c0a{s:Sto}(h:GInv s):GInv (s.sd (E8 s.d).1)/\(E8 s.d).2=true:=by
 by_cases hc:500<=s.d.C.length
 ·rw[xI hc];obtain⟨y1,y2,y3,y4⟩:=b2n h.dg;exact⟨c2j h y1 (by rw[y3];exact S7 _) y4,y2⟩
 ·rw[pA hc];exact⟨h,rfl⟩
theorem c11{a:Sto}{k:Nat}(h:GInv a)(hc:a.d.C.length<=499)(hk:k<a.fr.length)(hl:(a.fr.getD k dz).pg.Q<=a.S):GInv (wrF a k):=by
 have h60:=h.l60;have hsu:=h.su;obtain⟨f1,f2,f3,f4,f5,f6,f7⟩:=h.fp k hk;have hz:=(b1d (no:=(a.fr.getD k dz).no) f3).1;have hz2:=(b1d (no:=(a.fr.getD k dz).no) f3).2;have eL:(a.fr.set k (nU (a.fr.getD k dz))).length=a.fr.length:=B1;have eG:=λi=>mF (nU (a.fr.getD k dz)) i hk
 have rd:∀n,U6 (wrF a k).d n=if 1+(a.fr.getD k dz).no=n then S6 (a.fr.getD k dz).no (a.fr.getD k dz).pg else U6 a.d n:=λn=>lD _ _ _ _
 have pgk:T6 (wrF a k).d (a.fr.getD k dz).no.toNat=((a.fr.getD k dz).pg,true):=by
  have hr:U6 (wrF a k).d (1+(a.fr.getD k dz).no.toNat)=S6 (a.fr.getD k dz).no (a.fr.getD k dz).pg:=by rw[rd,if_pos (by omega)]
  unfold T6;rw[hr,if_neg hz2,show(((a.fr.getD k dz).no.toNat:Nat):Int)=(a.fr.getD k dz).no by omega]
  exact b7h f3 f1 (by omega)
 have pgn:∀no:Nat,no<8->(a.fr.getD k dz).no≠no->T6 (wrF a k).d no=T6 a.d no:=λno hn hne=>(y9 (by rw[rd,if_neg (by omega)])).1
 refine⟨b69 h.dg (by omega) (by omega) hz,?_,h.ep,h.l60,h.rc,h.su,h.be,λno hn=> ?_,?_,λi hi=> ?_,λi j hi hj he=> ?_,λi hi hcl=> ?_,h.hd,λi hi=> ?_,λi hi h6=> ?_⟩
 ·show(a.d.C++[_]).length<=500;rw[K6];simp only[List.length_cons,List.length_nil];omega
 ·by_cases hne:(a.fr.getD k dz).no=no
  ·rw[show no=(a.fr.getD k dz).no.toNat by omega,pgk]
   exact⟨rfl,hl⟩
  ·rw[pgn no hn hne];exact h.pg no hn
 ·show(List.set _ _ _).length<=3;rw[eL];exact h.fr3
 ·have hi:i<a.fr.length:=by have:i<(a.fr.set k (nU (a.fr.getD k dz))).length:=hi;omega
  show FrP a.L.length ((a.fr.set k (nU (a.fr.getD k dz))).getD i dz);rw[eG];split
  ·exact⟨f1,f2,f3,f4,Int.le_refl _,by show(0:Int)<=_;omega,by simp[nU]⟩
  ·exact h.fp i hi
 ·have hi:i<a.fr.length:=by have:i<(a.fr.set k (nU (a.fr.getD k dz))).length:=hi;omega
  have hj:j<a.fr.length:=by have:j<(a.fr.set k (nU (a.fr.getD k dz))).length:=hj;omega
  have en:∀i,((a.fr.set k (nU (a.fr.getD k dz))).getD i dz).no=(a.fr.getD i dz).no:=λi=>by
   rw[eG];split
   ·rename_i e;rw[e];rfl
   ·rfl
  have he:((a.fr.set k (nU (a.fr.getD k dz))).getD i dz).no=((a.fr.set k (nU (a.fr.getD k dz))).getD j dz).no:=he;rw[en,en] at he;exact h.nd i j hi hj he
 ·have hi:i<a.fr.length:=by have:i<(a.fr.set k (nU (a.fr.getD k dz))).length:=hi;omega
  have hcl:((a.fr.set k (nU (a.fr.getD k dz))).getD i dz).D=false:=hcl;show(T6 (wrF a k).d ((a.fr.set k (nU (a.fr.getD k dz))).getD i dz).no.toNat).1=((a.fr.set k (nU (a.fr.getD k dz))).getD i dz).pg;rw[eG] at hcl ⊢;by_cases e:i=k
  ·rw[if_pos e];show(T6 _ (a.fr.getD k dz).no.toNat).1=_;rw[pgk];rfl
  ·rw[if_neg e] at hcl ⊢;have hf:=h.fp i hi;rw[pgn _ (by obtain⟨q1,q2,_⟩:=hf;omega) (λe2=>e (h.nd i k hi hk (by obtain⟨q1,q2,_⟩:=hf;omega)))]
   exact h.cl i hi hcl
 ·have hi:i<a.S.toNat:=hi;rw[rd,if_neg (by omega)]
  exact h.lg i hi
 ·rw[rd,if_neg (by omega)]
  exact h.lz i hi h6
structure OutP(s a:Sto)(k:Nat):Prop where
 g:GInv a
 le:a.fr.length=s.fr.length
 no:∀i,(a.fr.getD i dz).no=(s.fr.getD i dz).no/\(a.fr.getD i dz).pg=(s.fr.getD i dz).pg
 cl:(a.fr.getD k dz).D=false
 L:a.L=s.L/\a.ep=s.ep/\a.J=s.J/\s.S<=a.S
 ls:(s.fr.getD k dz).D=true->(s.fr.getD k dz).pg.Q<=a.S
theorem b1Y{s:Sto}{l:Int}(h:GInv s)(hl:l<=s.L.length):s.S<=(X7 s l).1.S:=by
 by_cases hs:l<=s.S
 ·rw[q7 hs];exact Int.le_refl _
 ·have:=(b3Z h hl).2.2;omega
theorem b7u{s:Sto}{k:Nat}(h:GInv s)(hk:k<s.fr.length):OutP s (Y4 s k).1 k/\(Y4 s k).2=true:=by
 cases hd:(s.fr.getD k dz).D with
 |false=>
  rw[zQ hd];exact⟨⟨h,rfl,λ_=>Z8,hd,⟨rfl,rfl,rfl,Int.le_refl _⟩,λe=>by rw[hd] at e;cases e⟩,rfl⟩
 |true=>
  obtain⟨_,_,_,f4,_⟩:=h.fp k hk;obtain⟨g1,g2,g3⟩:=b3Z h f4;obtain⟨r1,r2,r3,r4⟩:=pZ s (s.fr.getD k dz).pg.Q;have hm:=b1Y h f4;obtain⟨y1,y2⟩:=c0a g1;have hc:=a40 (a1F (l:=(s.fr.getD k dz).pg.Q) h.ca);rw[oX hd g2 y2];have hk':k<(X7 s (s.fr.getD k dz).pg.Q).1.fr.length:=by rw[r1];exact hk
  have hl':((X7 s (s.fr.getD k dz).pg.Q).1.fr.getD k dz).pg.Q<=(X7 s (s.fr.getD k dz).pg.Q).1.S:=by rw[r1];exact g3
  have G:=c11 (k:=k) y1 hc hk' hl';have eG:=λi=>mF (nU ((X7 s (s.fr.getD k dz).pg.Q).1.fr.getD k dz)) i hk'
  have en:∀i,(((X7 s (s.fr.getD k dz).pg.Q).1.fr.set k (nU ((X7 s (s.fr.getD k dz).pg.Q).1.fr.getD k dz))).getD i dz).no=(s.fr.getD i dz).no/\(((X7 s (s.fr.getD k dz).pg.Q).1.fr.set k (nU ((X7 s (s.fr.getD k dz).pg.Q).1.fr.getD k dz))).getD i dz).pg=(s.fr.getD i dz).pg:=λi=>by
   rw[eG];split
   ·rename_i e;rw[e,r1];exact Z8
   ·rw[r1];exact Z8
  refine⟨⟨G,?_,en,?_,⟨r3,r4,r2,hm⟩,λ_=>g3⟩,rfl⟩
  ·show(List.set _ _ _).length=_;rw[B1];exact congrArg List.length r1
  ·have:=eG k;rw[if_pos rfl] at this;exact congrArg (λf:Frm=>f.D) this
theorem b9C{s:Sto}{no:Nat}(h:GInv s)(hno:no<8):(T6 s.d no).2=true/\eB (T6 s.d no).1/\(T6 s.d no).1.Q<=s.S:=by
 obtain⟨a,b⟩:=h.pg no hno;exact⟨a,qR a,b⟩
theorem a6m{s:Sto}{no:Nat}(h:GInv s)(hno:no<8):FrP s.L.length (d8 no (T6 s.d no).1):=by
 obtain⟨a,b,c⟩:=b9C h hno;have:=h.su;exact⟨by show(0:Int)<=no;omega,by show(no:Int)<=7;omega,b,by show(T6 s.d no).1.Q<=_;omega,Int.le_refl _,by show(0:Int)<=_;omega,by simp[d8]⟩
theorem b4F{a:Sto}{L:List Frm}{hand:Int}(h:GInv a)(h3:L.length<=3)(hh:0<=hand/\hand<=2)(fp:∀i,i<L.length->FrP a.L.length (L.getD i dz))
  (nd:∀i j,i<L.length->j<L.length->(L.getD i dz).no=(L.getD j dz).no->i=j)
  (cl:∀i,i<L.length->(L.getD i dz).D=false->(T6 a.d (L.getD i dz).no.toNat).1=(L.getD i dz).pg):GInv ⟨a.d,a.ep,a.L,a.S,L,hand⟩:=
 ⟨h.dg,h.ca,h.ep,h.l60,h.rc,h.su,h.be,h.pg,h3,fp,nd,cl,hh,h.lg,h.lz⟩
structure FetP(s a:Sto)(k:Nat)(no:Nat):Prop where
 g:GInv a
 kk:k<a.fr.length
 no:(a.fr.getD k dz).no=no
 L:a.L=s.L/\a.ep=s.ep/\s.S<=a.S
theorem fN{s:Sto}{no:Nat}(h:GInv s)(hno:no<8):FetP s (Z1 s no).1 (Z1 s no).2.1 no/\(Z1 s no).2.2=true:=by
 have hh:=h.hd;have h3':=h.fr3;by_cases hc:0<=frAt s.fr no
 ·rw[(g7 0 hc).1];exact⟨⟨h,vW hc,a7c hc,rfl,rfl,Int.le_refl _⟩,rfl⟩
 ·have hn:=λi hi=>cV (i:=i) hc hi
  by_cases h3:s.fr.length=3
  ·have hk:s.J.toNat<s.fr.length:=by omega
   obtain⟨⟨g,le,en,cl,⟨l1,l2,l3,l4⟩,_⟩,hu⟩:=b7u h hk;rw[(x5 0 hc h3 hu).1];have hk':s.J.toNat<(Y4 s s.J.toNat).1.fr.length:=by omega
   have eG:=λi=>mF (d8 no (T6 (Y4 s s.J.toNat).1.d no).1) i hk'
   have eL:((Y4 s s.J.toNat).1.fr.set s.J.toNat (d8 no (T6 (Y4 s s.J.toNat).1.d no).1)).length=(Y4 s s.J.toNat).1.fr.length:=B1;refine⟨⟨b4F g (by omega) ?_ (λi hi=> ?_) (λi j hi hj=> ?_) (λi hi=> ?_),?_,?_,l1,l2,l4⟩,rfl⟩
   ·rw[l3];have:=zH (a:=s.J+1) (n:=3) (by omega) (by decide)
    omega
   ·rw[eG];split
    ·exact a6m g hno
    ·exact g.fp i (by omega)
   ·rw[eG,eG];have n1:=(en i).1;have n2:=(en j).1;by_cases e1:i=s.J.toNat
    ·by_cases e2:j=s.J.toNat
     ·intro _;omega
     ·rw[if_pos e1,if_neg e2];intro e;exact absurd (n2.symm.trans e.symm) (hn j (by omega))
    ·by_cases e2:j=s.J.toNat
     ·rw[if_neg e1,if_pos e2];intro e;exact absurd (n1.symm.trans e) (hn i (by omega))
     ·rw[if_neg e1,if_neg e2];exact g.nd i j (by omega) (by omega)
   ·rw[eG];split
    ·intro _;show(T6 _ ((no:Int)).toNat).1=_;rw[F5];rfl
    ·exact g.cl i (by omega)
   ·show _<(List.set _ _ _).length;rw[eL];exact hk'
   ·show(((Y4 s s.J.toNat).1.fr.set s.J.toNat (d8 no (T6 (Y4 s s.J.toNat).1.d no).1)).getD s.J.toNat dz).no=_;rw[eG,if_pos rfl];rfl
  ·rw[(zW 0 hc h3).1];have eL:(s.fr++[d8 no (T6 s.d no).1]).length=s.fr.length+1:=by simp
   have eG:=λi hi=>yQ dz s.fr (d8 no (T6 s.d no).1) i hi
   refine⟨⟨b4F h (by omega) hh (λi hi=> ?_) (λi j hi hj=> ?_) (λi hi=> ?_),?_,?_,rfl,rfl,Int.le_refl _⟩,rfl⟩
   ·rw[eG i (by omega)]
    split
    ·exact a6m h hno
    ·exact h.fp i (by omega)
   ·rw[eG i (by omega),eG j (by omega)]
    by_cases e1:i=s.fr.length
    ·by_cases e2:j=s.fr.length
     ·intro _;omega
     ·rw[if_pos e1,if_neg e2];intro e;exact absurd e.symm (hn j (by omega))
    ·by_cases e2:j=s.fr.length
     ·rw[if_neg e1,if_pos e2];intro e;exact absurd e (hn i (by omega))
     ·rw[if_neg e1,if_neg e2];exact h.nd i j (by omega) (by omega)
   ·rw[eG i (by omega)]
    split
    ·intro _;show(T6 _ ((no:Int)).toNat).1=_;rw[F5];rfl
    ·exact h.cl i (by omega)
   ·show s.fr.length<(s.fr++[d8 no (T6 s.d no).1]).length;omega
   ·show((s.fr++[d8 no (T6 s.d no).1]).getD s.fr.length dz).no=_;rw[eG _ (by omega),if_pos rfl]
    rfl
theorem c0w{s:Sto}{k:Nat}(h:GInv s)(hk:k<s.fr.length):GInv (evi s k).1/\(evi s k).2=true/\(evi s k).1.L=s.L/\(evi s k).1.ep=s.ep:=by
 obtain⟨⟨g,le,en,cl,⟨l1,l2,l3,l4⟩,_⟩,hu⟩:=b7u h hk;have h3:=h.fr3;rw[(b1c 0 hu).1];have hk':k<(Y4 s k).1.fr.length:=by omega
 have eL:=gB hk';have eG:=λi=>a2G (Y4 s k).1.fr k i
 refine⟨b4F g (by omega) ⟨by decide,by decide⟩ (λi hi=> ?_) (λi j hi hj he=> ?_) (λi hi=> ?_),rfl,l1,l2⟩
 ·rw[eG];exact g.fp _ (by unfold shI;split<;>omega)
 ·rw[eG,eG] at he;have:=g.nd _ _ (by unfold shI;split<;>omega) (by unfold shI;split<;>omega) he
  unfold shI at this;split at this<;>split at this<;>omega
 ·rw[eG];exact g.cl _ (by unfold shI;split<;>omega)
theorem b9l{s:Sto}{no:Nat}(h:GInv s):GInv (M9 s no).1/\(M9 s no).1.L=s.L/\(M9 s no).1.ep=s.ep:=by
 unfold M9;split
 ·rename_i hc;obtain⟨a,_,b,c⟩:=c0w h (vW hc);exact⟨a,b,c⟩
 ·exact⟨h,rfl,rfl⟩
def c2a(s:Sto)(r:Rec):Sto:=⟨s.d,s.ep,s.L++[R9 s r],s.S,s.fr,s.J⟩
theorem b6P{s:Sto}{r:Rec}(h:GInv s)(h6:s.L.length<60)(hr:R1 (R9 s r)=true):GInv (c2a s r):=by
 have eL:(s.L++[R9 s r]).length=s.L.length+1:=by simp
 have eG:=λi hi=>yQ dz s.L (R9 s r) i hi
 have hsu:=h.su;have hep:=h.ep;refine⟨h.dg,h.ca,h.ep,by show(s.L++[_]).length<=_;omega,J6.2 λi hi=> ?_,⟨hsu.1,by show s.S<=((s.L++[_]).length:Nat);omega⟩,λi hi=> ?_,h.pg,h.fr3,λi hi=> ?_,h.nd,h.cl,h.hd,λi hi=> ?_,h.lz⟩
 ·show R1 ((s.L++[_]).getD i dz)=true/\((s.L++[_]).getD i dz).l=_;have hi:i<(s.L++[R9 s r]).length:=hi;rw[eG i (by omega)]
  split
  ·rename_i e;exact⟨hr,by rw[e];rfl⟩
  ·exact J6.1 h.rc i (by omega)
 ·have hi:i<(s.L++[R9 s r]).length:=hi;unfold xC;show(!V9 ((s.L++[R9 s r]).getD i dz).e (k9 (s.L++[R9 s r]) i) s.ep)=false;have hb:=λj hj=>h.be j hj
  unfold xC at hb;rw[eG i (by omega)]
  by_cases e:i=s.L.length
  ·rw[if_pos e];show(!V9 s.ep _ s.ep)=false;have:k9 (s.L++[R9 s r]) i<=s.ep:=by
    unfold k9;split
    ·exact hep.1
    ·rw[eG (i-1) (by omega),if_neg (by omega)]
     have:=b2J (hb (i-1) (by omega))
     exact this.2
   simp[V9,this]
  ·rw[if_neg e,←hb i (by omega)]
   have:k9 (s.L++[R9 s r]) i=k9 s.L i:=by
    unfold k9;split
    ·rfl
    ·rw[eG (i-1) (by omega),if_neg (by omega)]
   rw[this]
 ·have hf:FrP s.L.length (s.fr.getD i dz):=h.fp i hi;obtain⟨p1,p2,p3,p4,p5,p6,p7⟩:=hf;show FrP (s.L++[R9 s r]).length (s.fr.getD i dz);rw[eL];exact⟨p1,p2,p3,by omega,p5,by omega,p7⟩
 ·have hi:i<s.S.toNat:=hi;show U6 s.d (9+i)=Q3 ((s.L++[R9 s r]).getD i dz);rw[eG i (by omega),if_neg (by omega)]
  exact h.lg i hi
theorem b6W{s:Sto}{r:Rec}(h:GInv s)(g0:0<=r.g/\r.g<8)(s0:0<=r.s/\r.s<4)(l0:1<=r.l/\r.l<=s.L.length)(ha:r.a.length<=30):GInv (V2 s r).1/\(V2 s r).2=true/\(V2 s r).1.L=s.L/\(V2 s r).1.ep=s.ep:=by
 obtain⟨⟨g,hk,no,l1,l2,l4⟩,hu⟩:=fN h (no:=r.g.toNat) (by omega)
 have e:V2 s r=(b2c (Z1 s r.g.toNat).1 (Z1 s r.g.toNat).2.1 r,true):=if_pos hu;rw[e];generalize Z1 s r.g.toNat=A at*;obtain⟨a,k,up⟩:=A;dsimp only at*;have eG:=λi=>mF (qX (a.fr.getD k dz) r) i hk
 have eL:(a.fr.set k (qX (a.fr.getD k dz) r)).length=a.fr.length:=B1;have h60:=h.l60;have h3:=g.fr3;obtain⟨p1,p2,⟨q1,q2,q3,q4⟩,p4,p5,p6,p7⟩:=g.fp k hk;have hlen:=congrArg List.length l1;have en:∀i,((a.fr.set k (qX (a.fr.getD k dz) r)).getD i dz).no=(a.fr.getD i dz).no:=λi=>by
  rw[eG];split
  ·rename_i e;rw[e];rfl
  ·rfl
 refine⟨b4F g (by omega) g.hd (λi hi=> ?_) (λi j hi hj he=> ?_) (λi hi hcl=> ?_),rfl,l1,l2⟩
 ·rw[eG];split
  ·refine⟨p1,p2,⟨by show 0<=r.l;omega,by show r.l<=1000;omega,by show(List.set _ _ _).length=4;rw[B1];exact q3,λi hi=> ?_⟩,by show r.l<=_;omega,?_,?_,?_⟩
   ·show(List.getD (List.set _ _ _) i []).length<=30;by_cases ei:i=r.s.toNat
    ·rw[ei,P8,j_j (by omega)]
     exact ha
    ·rw[P8,aP (Ne.symm ei),←P8]
     refine q4 i ?_
     have:i<(List.set (a.fr.getD k dz).pg.sl r.s.toNat r.a).length:=hi;rw[B1] at this;exact this
   ·show 0<=(if(a.fr.getD k dz).D=true then(a.fr.getD k dz).first else r.l)
    split<;>omega
   ·show(if(a.fr.getD k dz).D=true then(a.fr.getD k dz).first else r.l)<=_
    split<;>omega
   ·show(true=true↔0<(if(a.fr.getD k dz).D=true then(a.fr.getD k dz).first else r.l))
    split
    ·rename_i hd;exact⟨λ_=>p7.1 hd,λ_=>rfl⟩
    ·exact⟨λ_=>by omega,λ_=>rfl⟩
  ·exact g.fp i (by omega)
 ·rw[en,en] at he;exact g.nd i j (by omega) (by omega) he
 ·rw[eG] at hcl ⊢;by_cases ei:i=k
  ·rw[if_pos ei] at hcl;cases hcl
  ·rw[if_neg ei] at hcl ⊢;exact g.cl i (by omega) hcl
end Go.Proofs.YtghgljelnhfihaaGreat

