/- A part of the proof. -/
import Derived.Test.YtghgljelnhfihaaGreatZ1eN12
namespace Go.Proofs.YtghgljelnhfihaaGreat
set_option maxRecDepth 100000
open Go.SS

def A8(s:Src)(e:Eng):Src×Int:=
 if e.X.length=0 then(V8 s 4,nxV s 4) else
 if nxV s 12=11 then(V8 (V8 s 12) 4,nxV (V8 s 12) 4) else
 (V8 (V8 s 12) e.X.length,(e.X.getD (nxV (V8 s 12) e.X.length).toNat dz).id)
def b1E:Con:=.reff ⟨Src×Eng,λx=>[.ref 0 0 0,.agg x.2.ts],λx=>[A4 x.1],λx=>.int .i64 (A8 x.1 x.2).2,λx=>[A4 (A8 x.1 x.2).1],λx=>U9 x.1 50000/\x.2.X.length<=10⟩
theorem b7e{s:Src}{e:Eng}(h:e.X.length=0):A8 s e=(V8 s 4,nxV s 4):=by unfold A8;rw[if_pos h]
theorem b7n{s:Src}{e:Eng}(h:e.X.length≠0)(h1:nxV s 12=11):A8 s e=(V8 (V8 s 12) 4,nxV (V8 s 12) 4):=by unfold A8;rw[if_neg h,if_pos h1]
theorem b7a{s:Src}{e:Eng}(h:e.X.length≠0)(h1:nxV s 12≠11):A8 s e=(V8 (V8 s 12) e.X.length,(e.X.getD (nxV (V8 s 12) e.X.length).toNat dz).id):=by unfold A8;rw[if_neg h,if_neg h1]
theorem b3F{s:Src}{e:Eng}{m:Nat}(h:U9 s m):U9 (A8 s e).1 (m+2):=by
 by_cases h0:e.X.length=0
 ·rw[b7e h0];exact(P6 h (n:=4) (by decide)).2.2.le (by omega)
 ·have n1:=P6 h (n:=12) (by decide)
  by_cases h1:nxV s 12=11
  ·rw[b7n h0 h1];exact(P6 n1.2.2 (n:=4) (by decide)).2.2
  ·rw[b7a h0 h1];exact(P6 n1.2.2 (n:=(e.X.length:Int)) (by omega)).2.2
theorem b2N{a:Nat}(h:((a:Int)==(0:Int))=false):a≠0:=λe=>B8 h (by rw[e];rfl)
theorem a70:GK 192 b1E:=gk Tryz.func192<|by
 rintro⟨s,e⟩ ⟨h,ht⟩;dsimp only at h ht;have n1:=P6 h (n:=12) (by decide)
 have e12:(12:Int)<=256:=by decide
 have e4:(4:Int)<=256:=by decide
 refine v8 (gC fE (gC vD gN)) Tryz.func192 Y5 [[.box 0]] (α:=let u:=(A8 s e).1;let z:=(A8 s e).2;let r:=(0=0/\0=0);let q:=(e.X.length:Int);∃(x:(Src×Int)),let p:=(q==0||nxV x.1 x.2==x.2-1);((q==0)=false->(r/\12=x.2/\True)/\((I8 s x.1)/\True)/\U9 x.1 1000000/\0<=x.2/\x.2<=256)/\((q==0)=false->(p=true->∃(x_1:(Src×Int)),((r/\4=x_1.2/\True)/\((I8 (V8 x.1 x.2) x_1.1)/\True)/\U9 x_1.1 1000000/\x_1.2<=(256:Int))/\(nxV x_1.1 x_1.2=z/\True)/\(D6 (V8 x_1.1 x_1.2) u)/\True)/\(p=false->∃(x_1:(Src×Int)),((r/\q=x_1.2/\True)/\((I8 (V8 x.1 x.2) x_1.1)/\True)/\U9 x_1.1 1000000/\x_1.2<=(256:Int))/\V3 (nxV x_1.1 x_1.2) e.X.length/\((e.X.getD (nxV x_1.1 x_1.2).toNat dz).id=z/\True)/\(D6 (V8 x_1.1 x_1.2) u)/\True))/\(((q==0)=false->False)->(p=true->∃(x:(Src×Int)),((r/\4=x.2/\True)/\((I8 s x.1)/\True)/\U9 x.1 1000000/\x.2<=256)/\(nxV x.1 x.2=z/\True)/\(D6 (V8 x.1 x.2) u)/\True)/\(p=false->∃(x:(Src×Int)),((r/\q=x.2/\True)/\((I8 s x.1)/\True)/\U9 x.1 1000000/\x.2<=256)/\V3 (nxV x.1 x.2) e.X.length/\((e.X.getD (nxV x.1 x.2).toNat dz).id=z/\True)/\(D6 (V8 x.1 x.2) u)/\True))) ⟨(s,12),λhc=>⟨(by repeat' first|exact trivial|exact rfl|exact Z2 _ _|exact U2 _|exact V7|exact S8 _|exact W4 _|exact S7 _|refine And.intro ?_ ?_),⟨⟨rfl,λ_ _=>rfl⟩,trivial⟩,h.le (by omega),(by decide:(0:Int)<=12),e12⟩,λhc=>⟨λhw=> ?_,λhw=> ?_⟩,λhc=>⟨λhw=> ?_,λhw=> ?_⟩⟩
 ·have h0:=b2N hc;rw[hc,Bool.false_or] at hw;have h1:nxV s 12=11:=eq_of_beq hw;rw[b7n h0 h1];exact⟨(V8 s 12,4),⟨(by repeat' first|exact trivial|exact rfl|exact Z2 _ _|exact U2 _|exact V7|exact S8 _|exact W4 _|exact S7 _|refine And.intro ?_ ?_),⟨⟨rfl,λ_ _=>rfl⟩,trivial⟩,n1.2.2.le (by omega),e4⟩,Z9,⟨rfl,rfl,rfl,rfl,Z9⟩,trivial⟩
 ·have h0:=b2N hc;rw[hc,Bool.false_or] at hw;have h1:nxV s 12≠11:=λe=>B8 hw (by rw[e];rfl)
  have n2:=P6 n1.2.2 (n:=(e.X.length:Int)) (by omega)
  rw[b7a h0 h1];exact⟨(V8 s 12,(e.X.length:Int)),⟨(by repeat' first|exact trivial|exact rfl|exact Z2 _ _|exact U2 _|exact V7|exact S8 _|exact W4 _|exact S7 _|refine And.intro ?_ ?_),⟨⟨rfl,λ_ _=>rfl⟩,trivial⟩,n1.2.2.le (by omega),by dsimp only;omega⟩,⟨n2.1,n2.2.1⟩,⟨rfl,trivial⟩,⟨rfl,rfl,rfl,rfl,rfl,trivial⟩,trivial⟩
 ·have h0:e.X.length=0:=Classical.byContradiction λhn=>hc (by
   have:((e.X.length:Int)==0)≠true:=λhb=>hn (by have:=eq_of_beq hb;omega)
   exact Bool.eq_false_iff.2 this)
  rw[b7e h0];exact⟨(s,4),⟨(by repeat' first|exact trivial|exact rfl|exact Z2 _ _|exact U2 _|exact V7|exact S8 _|exact W4 _|exact S7 _|refine And.intro ?_ ?_),⟨⟨rfl,λ_ _=>rfl⟩,trivial⟩,h.le (by omega),e4⟩,Z9,⟨rfl,rfl,rfl,rfl,Z9⟩,trivial⟩
 ·exact(hc (yP.1 hw).1).elim
def b7E:Con:=.reff ⟨Src×Nat,λx=>[.ref 0 0 0,.int .i64 x.2],λx=>[A4 x.1],λx=>.int .i64 (min (1+x.1.c.length/12) x.2:Nat),λx=>[A4 x.1],λx=>x.1.c.length<=1048576/\x.2<=1000⟩
theorem b5G:GK 94 b7E:=gk Tryz.func94<|by
 rintro⟨s,n⟩ ⟨h,hn⟩;dsimp only at h hn;have hd:(s.c.length:Int).tdiv 12=((s.c.length/12:Nat):Int):=by rw[Int.tdiv_eq_ediv_of_nonneg (by omega)];omega
 refine v8 gN Tryz.func94 Y5 [[.box 0]] (α:=let p:=(s.c.length:Int).tdiv;(Nz (12:Int)/\W7 .i64 (p (12:Int)))/\W7 .i64 (1+p (12:Int))/\((if(n:Int)<1+p (12:Int) then(n:Int) else(1:Int)+p (12:Int))=(↑(min (1+s.c.length/12) n):Int)/\True)/\(D6 s s)/\True) ⟨⟨by unfold Nz;decide,Z4 (by rw[hd];omega)⟩,Z4 (by rw[hd];omega),⟨?_,trivial⟩,⟨rfl,rfl,rfl,rfl,rfl,trivial⟩,trivial⟩
 rw[hd];split<;>omega
noncomputable def wkE(v:Int)(s:Src)(tx:Int)(e:Eng):Src×Eng:=
 if v=0∨v=1 then(s,if e.X.length<3 then(H9 e).1 else e)
 else if v=2 then(s,(K9 e tx).1)
 else if v=3 then(V8 s 2,if nxV s 2=1 then(yJ e tx).1.1 else e)
 else if v=4 then(V8 (V8 s 2) 6,(rC e tx (1+nxV s 2) (nxV (V8 s 2) 6)).1)
 else if v=5 then(V8 (V8 s 2) 6,(Q4 e tx (1+nxV s 2) (nxV (V8 s 2) 6)).1)
 else if v=6 then(V8 s 8,K2 e (M9 e.s (nxV s 8).toNat).1)
 else if v=7 then(V8 s ((e.s.L.length:Int)+1),(D4 e tx (nxV s ((e.s.L.length:Int)+1))).1.1)
 else((oY (V8 s 2)).1,(qK e tx (1+nxV s 2) (oY (V8 s 2)).2).1)
noncomputable def R3(s:Src)(e:Eng):Src×Eng:=wkE (nxV (A8 s e).1 12) (V8 (A8 s e).1 12) (A8 s e).2 e
noncomputable def b7M:Con:=.reff ⟨Src×Eng,λx=>[.ref 0 0 0,.agg x.2.ts],λx=>[A4 x.1],λx=>.agg (R3 x.1 x.2).2.ts,λx=>[A4 (R3 x.1 x.2).1],λx=>U9 x.1 20000/\EI x.2⟩
theorem b7L{v:Int}{s:Src}{tx:Int}{e:Eng}(h:v=0∨v=1):wkE v s tx e=(s,if e.X.length<3 then(H9 e).1 else e):=by unfold wkE;rw[if_pos h]
theorem c0Q{v:Int}{s:Src}{tx:Int}{e:Eng}(h:v=2):wkE v s tx e=(s,(K9 e tx).1):=by subst h;rfl
theorem c1j{v:Int}{s:Src}{tx:Int}{e:Eng}(h:v=3):wkE v s tx e=(V8 s 2,if nxV s 2=1 then(yJ e tx).1.1 else e):=by subst h;rfl
theorem c1E{v:Int}{s:Src}{tx:Int}{e:Eng}(h:v=4):wkE v s tx e=(V8 (V8 s 2) 6,(rC e tx (1+nxV s 2) (nxV (V8 s 2) 6)).1):=by subst h;rfl
theorem c1H{v:Int}{s:Src}{tx:Int}{e:Eng}(h:v=5):wkE v s tx e=(V8 (V8 s 2) 6,(Q4 e tx (1+nxV s 2) (nxV (V8 s 2) 6)).1):=by subst h;rfl
theorem c0Y{v:Int}{s:Src}{tx:Int}{e:Eng}(h:v=6):wkE v s tx e=(V8 s 8,K2 e (M9 e.s (nxV s 8).toNat).1):=by subst h;rfl
theorem c1C{v:Int}{s:Src}{tx:Int}{e:Eng}(h:v=7):wkE v s tx e=(V8 s ((e.s.L.length:Int)+1),(D4 e tx (nxV s ((e.s.L.length:Int)+1))).1.1):=by subst h;rfl
theorem c1u{v:Int}{s:Src}{tx:Int}{e:Eng}(h0:v≠0)(h1:v≠1)(h2:v≠2)(h3:v≠3)(h4:v≠4)(h5:v≠5)(h6:v≠6)(h7:v≠7):wkE v s tx e=((oY (V8 s 2)).1,(qK e tx (1+nxV s 2) (oY (V8 s 2)).2).1):=by
 unfold wkE;rw[if_neg (by omega),if_neg h2,if_neg h3,if_neg h4,if_neg h5,if_neg h6,if_neg h7]
theorem b6M(s:Src):oY s=((yN (B0 (A3 s) (T8 (V8 s 6)).2).1 (T8 (T8 (V8 s 6)).1).2).1,(⟨nxV s 6,(B0 (A3 s) (T8 (V8 s 6)).2).2,(yN (B0 (A3 s) (T8 (V8 s 6)).2).1 (T8 (T8 (V8 s 6)).1).2).2⟩:Rw)):=rfl
set_option maxHeartbeats 1000000 in
theorem b5w:GK 95 b7M:=gk Tryz.func95<|by
 rintro⟨s,e⟩ ⟨h,he⟩;dsimp only at h he;have ht:=he.h.t10;have hl:=he.g.l60;have hnx:=he.h.nxr;have m0:=b3F (e:=e) h;have n1:=P6 m0 (n:=12) (by decide)
 have n2:=P6 n1.2.2 (n:=2) (by decide)
 have n6:=P6 n2.2.2 (n:=6) (by decide)
 have n8:=P6 n1.2.2 (n:=8) (by decide)
 have nl:=P6 n1.2.2 (n:=(e.s.L.length:Int)+1) (by omega)
 have e12:(12:Int)<=256:=by decide
 have e2:(2:Int)<=256:=by decide
 have e6:(6:Int)<=256:=by decide
 have e8:(8:Int)<=256:=by decide
 have hr:=jT n2.2.2;have eW:R3 s e=wkE (nxV (A8 s e).1 12) (V8 (A8 s e).1 12) (A8 s e).2 e:=rfl;have hbeg:(decide ((e.X.length:Int)<(3:Int))=true->e.X.length<3):=λhb=>by have:=C7 hb;omega
 have hbeg':(decide ((e.X.length:Int)<(3:Int))=false->¬e.X.length<3):=λhb=>by have:=l7 hb;omega
 refine v8 (gC a70 (gC vD (gC b5K (gC a0g (gC fE (gC b5U (gC a5I (gC a8V (gC a2O (gC b8F (gC b6d (gC a8M gN)))))))))))) Tryz.func95 Y5 [[.box 0]] (α:=let l:=(256:Int);let f:=(R3 s e).1;let m:=(R3 s e).2;let pd:=((R8 e m)/\True);let j:=(0=0/\0=0);∃(x:(Src×Eng)),let a:=(A8 x.1 x.2);((j/\(R8 e x.2)/\True)/\((I8 s x.1)/\True)/\U9 x.1 50000/\x.2.X.length<=10)/\∃(x_1:(Src×Int)),let i:=x_1.2;let pm:=(nxV x_1.1 i==(1:Int));let pk:=(nxV x_1.1 i==(7:Int));let pj:=(nxV x_1.1 i==(6:Int));let pi:=(nxV x_1.1 i==(5:Int));let ph:=(nxV x_1.1 i==(4:Int));let pg:=(nxV x_1.1 i==(3:Int));let pf:=(nxV x_1.1 i==(2:Int));let g:=(nxV x_1.1 i==(0:Int));let u:=(V8 x_1.1 i);let w:=(decide ((e.X.length:Int)<3)=false->pd/\(D6 u f)/\True);let z:=(decide ((e.X.length:Int)<3)=true->∃(x:Eng),(((R8 e x)/\True)/\uK x/\0<=x.N/\x.N<=1000)/\((R8 (H9 x).1 m)/\True)/\(D6 u f)/\True);let r:=(pf=true->∃(x_2:(Eng×Int)),(((R8 e x_2.1)/\a.2=x_2.2/\True)/\b4i x_2.1 x_2.2)/\((R8 (K9 x_2.1 x_2.2).1 m)/\True)/\(D6 u f)/\True);let p:=(pf=false->(pg=true->∃(x_2:(Src×Int)),let pe:=(D6 (V8 x_2.1 x_2.2) f);let pa:=(nxV x_2.1 x_2.2==x_2.2- (1:Int));((j/\2=x_2.2/\True)/\((I8 u x_2.1)/\True)/\U9 x_2.1 1000000/\0<=x_2.2/\x_2.2<=l)/\(pa=true->∃(x_3:(Eng×Int)),(((R8 e x_3.1)/\a.2=x_3.2/\True)/\N6 x_3.1=true/\y8 x_3.1)/\((R8 (yJ x_3.1 x_3.2).1.1 m)/\True)/\pe/\True)/\(pa=false->pd/\pe/\True))/\(pg=false->(ph=true->∃(x_2:(Src×Int)),((j/\2=x_2.2/\True)/\((I8 u x_2.1)/\True)/\U9 x_2.1 1000000/\x_2.2<=l)/\W7 .i64 (1+nxV x_2.1 x_2.2)/\∃(x_3:(Src×Int)),((j/\6=x_3.2/\True)/\((I8 (V8 x_2.1 x_2.2) x_3.1)/\True)/\U9 x_3.1 1000000/\x_3.2<=l)/\∃(x_4:(Eng×Int×Int×Int)),let pb:=x_4.2.2;(((R8 e x_4.1)/\a.2=x_4.2.1/\1+nxV x_2.1 x_2.2=pb.1/\nxV x_3.1 x_3.2=pb.2/\True)/\EI x_4.1/\(1<=pb.1/\pb.1<=(3:Int))/\0<=pb.2/\pb.2<=(1000:Int))/\((R8 (rC x_4.1 x_4.2.1 pb.1 pb.2).1 m)/\True)/\(D6 (V8 x_3.1 x_3.2) f)/\True)/\(ph=false->(pi=true->∃(x_2:(Src×Int)),((j/\2=x_2.2/\True)/\((I8 u x_2.1)/\True)/\U9 x_2.1 1000000/\x_2.2<=l)/\W7 .i64 (1+nxV x_2.1 x_2.2)/\∃(x_3:(Src×Int)),((j/\6=x_3.2/\True)/\((I8 (V8 x_2.1 x_2.2) x_3.1)/\True)/\U9 x_3.1 1000000/\x_3.2<=l)/\∃(x_4:(Eng×Int×Int×Int)),let pc:=x_4.2.2;(((R8 e x_4.1)/\a.2=x_4.2.1/\1+nxV x_2.1 x_2.2=pc.1/\nxV x_3.1 x_3.2=pc.2/\True)/\EI x_4.1/\(1<=pc.1/\pc.1<=(3:Int))/\0<=pc.2/\pc.2<=(1000:Int))/\((R8 (Q4 x_4.1 x_4.2.1 pc.1 pc.2).1 m)/\True)/\(D6 (V8 x_3.1 x_3.2) f)/\True)/\(pi=false->(pj=true->(e.up=true->∃(x:(Src×Int)),((j/\8=x.2/\True)/\((I8 u x.1)/\True)/\U9 x.1 1000000/\x.2<=256)/\∃(x_2:(Sto×Nat)),let v:=(M9 x_2.1 x_2.2);(((yL e.s x_2.1)/\nxV x.1 x.2=(x_2.2:Int)/\True)/\jJ x_2.1 x_2.2)/\(((Y8 Z5 v.1.d.E (R3 s e).2.s.d.E)/\(Y8 Y9 v.1.d.C (R3 s e).2.s.d.C)/\v.1.d.A=(R3 s e).2.s.d.A/\(Y8 Y6 v.1.d.keep (R3 s e).2.s.d.keep)/\v.1.ep=(R3 s e).2.s.ep/\(Y8 Y3 v.1.L (R3 s e).2.s.L)/\v.1.S=(R3 s e).2.s.S/\(Y8 X2 v.1.fr (R3 s e).2.s.fr)/\v.1.J=(R3 s e).2.s.J/\e.up=(R3 s e).2.up/\(Y8 X0 e.X (R3 s e).2.X)/\(Y8 Y7 e.lk.H (R3 s e).2.lk.H)/\(Y8 Y0 e.lk.W (R3 s e).2.lk.W)/\e.N=(R3 s e).2.N/\True)/\True)/\(D6 (V8 x.1 x.2) f)/\True)/\(e.up=false->pd/\(D6 u f)/\True))/\(pj=false->(pk=true->W7 .i64 ((e.s.L.length:Int)+1)/\∃(x_2:(Src×Int)),((j/\(e.s.L.length:Int)+1=x_2.2/\True)/\((I8 u x_2.1)/\True)/\U9 x_2.1 1000000/\x_2.2<=l)/\∃(x_3:(Eng×Int×Int)),(((R8 e x_3.1)/\a.2=x_3.2.1/\nxV x_2.1 x_2.2=x_3.2.2/\True)/\N6 x_3.1=true/\y8 x_3.1)/\((R8 (D4 x_3.1 x_3.2.1 x_3.2.2).1.1 m)/\True)/\(D6 (V8 x_2.1 x_2.2) f)/\True)/\(pk=false->∃(x_2:(Src×Int)),((j/\2=x_2.2/\True)/\((I8 u x_2.1)/\True)/\U9 x_2.1 1000000/\x_2.2<=l)/\W7 .i64 (1+nxV x_2.1 x_2.2)/\∃(x_3:Src),let pn:=(T8 (V8 x_3 (6:Int)));let y:=(B0 (A3 x_3) pn.2);let q:=(yN y.1 (T8 pn.1).2);((j/\True)/\((I8 (V8 x_2.1 x_2.2) x_3)/\True)/\U9 x_3 50000)/\∃(x_4:(Eng×Int×Int×Rw)),let b:=x_4.2.2.2;(((R8 e x_4.1)/\a.2=x_4.2.1/\1+nxV x_2.1 x_2.2=x_4.2.2.1/\(nxV x_3 6=b.id/\y.2.k=b.n.k/\y.2.n=b.n.n/\y.2.t=b.n.t/\q.2.k=b.name.k/\q.2.n=b.name.n/\q.2.t=b.name.t/\True)/\True)/\b8m x_4.1 x_4.2.2.1 b)/\((R8 (qK x_4.1 x_4.2.1 x_4.2.2.1 b).1 m)/\True)/\(1=1/\1=1/\q.1.c=(R3 s e).1.c/\(↑q.1.at_:Int)=(↑(R3 s e).1.at_:Int)/\q.1.sd=(R3 s e).1.sd/\True)/\True))))));((j/\12=i/\True)/\((I8 a.1 x_1.1)/\True)/\U9 x_1.1 1000000/\i<=l)/\(g=true->(g=true->z/\w)/\(g=false->r/\p))/\(g=false->(pm=true->z/\w)/\(pm=false->r/\p))) ?_
 rw[eW];refine⟨(s,e),⟨⟨Z8,R4 _,trivial⟩,⟨⟨rfl,λ_ _=>rfl⟩,trivial⟩,h.le (by omega),ht⟩,((A8 s e).1,12),⟨(by repeat' first|exact trivial|exact rfl|exact Z2 _ _|exact U2 _|exact V7|exact S8 _|exact W4 _|exact S7 _|refine And.intro ?_ ?_),⟨⟨rfl,λ_ _=>rfl⟩,trivial⟩,m0.le (by omega),e12⟩,λhv=>⟨λ_=> ?_,λhx=>absurd (eq_of_beq hv) (B8 hx)⟩,λh0=>⟨λhv=> ?_,λh1=>⟨λhv=> ?_,λh2=>⟨λhv=> ?_,λh3=>⟨λhv=> ?_,λh4=>⟨λhv=> ?_,λh5=>⟨λhv=> ?_,λh6=>⟨λhv=> ?_,λh7=> ?_⟩⟩⟩⟩⟩⟩⟩⟩
 ·rw[b7L (.inl (eq_of_beq hv))];refine⟨λhb=> ?_,λhb=> ?_⟩
  ·rw[if_pos (hbeg hb)];exact⟨e,⟨⟨R4 _,trivial⟩,fO he,by omega,by omega⟩,⟨R4 _,trivial⟩,⟨rfl,rfl,rfl,rfl,Z9⟩,trivial⟩
  ·rw[if_neg (hbeg' hb)];exact⟨⟨R4 _,trivial⟩,⟨rfl,rfl,rfl,rfl,Z9⟩,trivial⟩
 ·rw[b7L (.inr (eq_of_beq hv))];refine⟨λhb=> ?_,λhb=> ?_⟩
  ·rw[if_pos (hbeg hb)];exact⟨e,⟨⟨R4 _,trivial⟩,fO he,by omega,by omega⟩,⟨R4 _,trivial⟩,⟨rfl,rfl,rfl,rfl,Z9⟩,trivial⟩
  ·rw[if_neg (hbeg' hb)];exact⟨⟨R4 _,trivial⟩,⟨rfl,rfl,rfl,rfl,Z9⟩,trivial⟩
 ·rw[c0Q (eq_of_beq hv)];exact⟨(e,(A8 s e).2),⟨⟨R4 _,Z9⟩,c1g _ he.ok⟩,⟨R4 _,trivial⟩,⟨rfl,rfl,rfl,rfl,Z9⟩,trivial⟩
 ·rw[c1j (eq_of_beq hv)];refine⟨(V8 (A8 s e).1 12,2),⟨(by repeat' first|exact trivial|exact rfl|exact Z2 _ _|exact U2 _|exact V7|exact S8 _|exact W4 _|exact S7 _|refine And.intro ?_ ?_),⟨⟨rfl,λ_ _=>rfl⟩,trivial⟩,n1.2.2.le (by omega),(by decide:(0:Int)<=2),e2⟩,λhw=> ?_,λhw=> ?_⟩
  ·have hw:nxV (V8 (A8 s e).1 12) 2=1:=eq_of_beq hw;rw[if_pos hw];exact⟨(e,(A8 s e).2),⟨⟨R4 _,Z9⟩,he.ok,he.sm⟩,⟨R4 _,trivial⟩,⟨rfl,rfl,rfl,rfl,Z9⟩,trivial⟩
  ·have hw:nxV (V8 (A8 s e).1 12) 2≠1:=B8 hw;rw[if_neg hw];exact⟨⟨R4 _,trivial⟩,⟨rfl,rfl,rfl,rfl,Z9⟩,trivial⟩
 ·rw[c1E (eq_of_beq hv)];exact⟨(V8 (A8 s e).1 12,2),⟨(by repeat' first|exact trivial|exact rfl|exact Z2 _ _|exact U2 _|exact V7|exact S8 _|exact W4 _|exact S7 _|refine And.intro ?_ ?_),⟨⟨rfl,λ_ _=>rfl⟩,trivial⟩,n1.2.2.le (by omega),e2⟩,Z4 (by dsimp only;omega),(V8 (V8 (A8 s e).1 12) 2,6),⟨(by repeat' first|exact trivial|exact rfl|exact Z2 _ _|exact U2 _|exact V7|exact S8 _|exact W4 _|exact S7 _|refine And.intro ?_ ?_),⟨⟨rfl,λ_ _=>rfl⟩,trivial⟩,n2.2.2.le (by omega),e6⟩,(e,(A8 s e).2,1+nxV (V8 (A8 s e).1 12) 2,nxV (V8 (V8 (A8 s e).1 12) 2) 6),⟨⟨R4 _,rfl,rfl,Z9⟩,he,⟨by dsimp only;omega,by dsimp only;omega⟩,by dsimp only;omega,by dsimp only;omega⟩,⟨R4 _,trivial⟩,⟨rfl,rfl,rfl,rfl,rfl,trivial⟩,trivial⟩
 ·rw[c1H (eq_of_beq hv)];exact⟨(V8 (A8 s e).1 12,2),⟨(by repeat' first|exact trivial|exact rfl|exact Z2 _ _|exact U2 _|exact V7|exact S8 _|exact W4 _|exact S7 _|refine And.intro ?_ ?_),⟨⟨rfl,λ_ _=>rfl⟩,trivial⟩,n1.2.2.le (by omega),e2⟩,Z4 (by dsimp only;omega),(V8 (V8 (A8 s e).1 12) 2,6),⟨(by repeat' first|exact trivial|exact rfl|exact Z2 _ _|exact U2 _|exact V7|exact S8 _|exact W4 _|exact S7 _|refine And.intro ?_ ?_),⟨⟨rfl,λ_ _=>rfl⟩,trivial⟩,n2.2.2.le (by omega),e6⟩,(e,(A8 s e).2,1+nxV (V8 (A8 s e).1 12) 2,nxV (V8 (V8 (A8 s e).1 12) 2) 6),⟨⟨R4 _,rfl,rfl,Z9⟩,he,⟨by dsimp only;omega,by dsimp only;omega⟩,by dsimp only;omega,by dsimp only;omega⟩,⟨R4 _,trivial⟩,⟨rfl,rfl,rfl,rfl,rfl,trivial⟩,trivial⟩
 ·rw[c0Y (eq_of_beq hv)];refine⟨λ_=>⟨(V8 (A8 s e).1 12,8),⟨(by repeat' first|exact trivial|exact rfl|exact Z2 _ _|exact U2 _|exact V7|exact S8 _|exact W4 _|exact S7 _|refine And.intro ?_ ?_),⟨⟨rfl,λ_ _=>rfl⟩,trivial⟩,n1.2.2.le (by omega),e8⟩,(e.s,(nxV (V8 (A8 s e).1 12) 8).toNat),⟨⟨zE _,by dsimp only;omega,trivial⟩,he.g.inv,by dsimp only;omega⟩,⟨⟨⟨rfl,Z2 _ _⟩,⟨rfl,Z2 _ _⟩,rfl,⟨rfl,Z2 _ _⟩,rfl,⟨rfl,Z2 _ _⟩,rfl,⟨rfl,Z2 _ _⟩,rfl,rfl,⟨rfl,Z2 _ _⟩,⟨rfl,Z2 _ _⟩,⟨rfl,Z2 _ _⟩,rfl,trivial⟩,trivial⟩,⟨rfl,rfl,rfl,rfl,rfl,trivial⟩,trivial⟩,λhx=> ?_⟩
  rw[he.up] at hx;cases hx
 ·rw[c1C (eq_of_beq hv)];exact⟨Z4 (by omega),(V8 (A8 s e).1 12,(e.s.L.length:Int)+1),⟨(by repeat' first|exact trivial|exact rfl|exact Z2 _ _|exact U2 _|exact V7|exact S8 _|exact W4 _|exact S7 _|refine And.intro ?_ ?_),⟨⟨rfl,λ_ _=>rfl⟩,trivial⟩,n1.2.2.le (by omega),by dsimp only;omega⟩,(e,(A8 s e).2,nxV (V8 (A8 s e).1 12) ((e.s.L.length:Int)+1)),⟨⟨R4 _,rfl,rfl,trivial⟩,he.ok,he.sm⟩,⟨R4 _,trivial⟩,⟨rfl,rfl,rfl,rfl,rfl,trivial⟩,trivial⟩
 ·rw[c1u (B8 h0) (B8 h1) (B8 h2) (B8 h3) (B8 h4) (B8 h5) (B8 h6) (B8 h7),b6M];rw[b6M] at hr;refine⟨(V8 (A8 s e).1 12,2),⟨(by repeat' first|exact trivial|exact rfl|exact Z2 _ _|exact U2 _|exact V7|exact S8 _|exact W4 _|exact S7 _|refine And.intro ?_ ?_),⟨⟨rfl,λ_ _=>rfl⟩,trivial⟩,n1.2.2.le (by omega),e2⟩,Z4 (by dsimp only;omega),V8 (V8 (A8 s e).1 12) 2,⟨⟨⟨rfl,rfl⟩,trivial⟩,⟨⟨rfl,λ_ _=>rfl⟩,trivial⟩,n2.2.2.le (by omega)⟩,(e,(A8 s e).2,1+nxV (V8 (A8 s e).1 12) 2,(⟨nxV (V8 (V8 (A8 s e).1 12) 2) 6,(B0 (A3 (V8 (V8 (A8 s e).1 12) 2)) (T8 (V8 (V8 (V8 (A8 s e).1 12) 2) 6)).2).2,(yN (B0 (A3 (V8 (V8 (A8 s e).1 12) 2)) (T8 (V8 (V8 (V8 (A8 s e).1 12) 2) 6)).2).1 (T8 (T8 (V8 (V8 (V8 (A8 s e).1 12) 2) 6)).1).2).2⟩:Rw)),⟨⟨R4 _,rfl,rfl,?_,trivial⟩,he,⟨by dsimp only;omega,by dsimp only;omega⟩,hr.2.1,hr.2.2 _⟩,⟨R4 _,trivial⟩,?_,trivial⟩
  ·dsimp only;exact⟨rfl,rfl,rfl,rfl,rfl,rfl,Z9⟩
  ·dsimp only;exact⟨rfl,rfl,rfl,rfl,Z9⟩
def a0M:Eng:=⟨a4z,true,[],⟨[],[]⟩,1⟩
def a9X:Con:=.rel ⟨Unit,λ_=>[],λ_=>.agg a0M.ts,λ_=>True⟩
theorem a8h(h:
  ∃(x:Unit),(True/\True)/\(69=69/\Z6 69 (Z5 ((i9 69).set 0 (hdB (1:Int)))) (Z5 ((i9 69).set 0 (hdB (1:Int)))))/\(0=0/\Z6 0 (Y9 []) (Y9 []))/\false=false/\(0=0/\Z6 0 (Y6
  []) (Y6 []))/\(1:Int)=(1:Int)/\(0=0/\Z6 0 (Y3 []) (Y3 []))/\(0:Int)=(0:Int)/\(0=0/\Z6 0 (X2 []) (X2 []))/\(0:Int)=(0:Int)/\true=true/\0=0/\0=0/\0=0/\(1:Int)=
  (1:Int)/\True):
  U1 Tryz.prog 92 [] (.agg a0M.ts):=
 Q5 (gC a0j (gC N5 (gC N5 gN))) Tryz.func92 Y5 h
theorem a0e{n:Nat}(h:1<=n):U6 a4z.d n=[]:=by
 show((i9 69).set 0 (hdB 1)).getD n []=[];rw[P8,aP (by omega)]
 unfold i9;rw[List.getElem?_replicate]
 split<;>rfl
theorem b9B:GInv a4z:=by
 have h69:a4z.d.E.length=69:=by
  show((i9 69).set 0 (hdB 1)).length=69;rw[B1];exact List.length_replicate
 have pg:∀no,T6 a4z.d no=(⟨0,[[],[],[],[]]⟩,true):=λno=>by
  unfold T6;rw[if_pos (a0e (by omega))]
 refine⟨⟨rfl,rfl,h69,λi hi=> ?_,λi hi=>absurd hi (J5 _)⟩,S7 _,⟨by decide,by decide⟩,S7 _,J6.2 λi hi=>absurd hi (J5 _),⟨Int.le_refl _,Int.le_refl _⟩,λi hi=>absurd hi (J5 _),λno _=>by rw[pg];exact⟨rfl,Int.le_refl _⟩,S7 _,λi hi=>absurd hi (J5 _),λi j hi=>absurd hi (J5 _),λi hi=>absurd hi (J5 _),⟨Int.le_refl _,by decide⟩,λi hi=>absurd hi (J5 _),λi _ _=>a0e (by omega)⟩
 by_cases h:i=0
 ·subst h;show(((i9 69).set 0 (hdB 1)).getD 0 []).length<=160;rw[P8]
  rw[j_j (by unfold i9;simp)]
  show 6<=160;decide
 ·have:a4z.d.E.getD i []=[]:=a0e (by omega)
  rw[this];exact S7 _
theorem b5L:EI a0M:=by
 refine⟨b9B,rfl,⟨⟨⟨S7 _,λi hi=>absurd hi (J5 _)⟩,λa h1 h2=>by have h2:a<=((0:Nat):Int):=h2;omega⟩,S7 _,⟨Int.le_refl _,by show(1:Int)<=61;decide⟩,rfl,λi hi=>absurd hi (J5 _),λi j _ hj=>absurd hj (J5 _),λi hi=>absurd hi (J5 _),λi hi=>absurd hi (J5 _),λi hi=>absurd hi (J5 _),by show 0+0<=60;decide⟩⟩
theorem a4x:GK 92 a9X:=gk Tryz.func92<|λ_ _=>
 a8h ⟨(),⟨trivial,trivial⟩,⟨rfl,Z2 _ _⟩,⟨rfl,Z2 _ _⟩,rfl,⟨rfl,Z2 _ _⟩,rfl,⟨rfl,Z2 _ _⟩,rfl,⟨rfl,Z2 _ _⟩,rfl,rfl,rfl,rfl,rfl,rfl,trivial⟩
noncomputable def iZ(y:Src×Eng):Nat->Src×Eng
 |0=>y
 |i+1=>R3 (iZ y i).1 (iZ y i).2
def oP(c:List UInt8):Int:=(min (1+c.length/12) 20:Nat)+8
def qF(c:List UInt8):Nat:=(nxV (pV c) (oP c)).toNat
noncomputable def a0l(c:List UInt8):Src×Eng:=iZ (V8 (pV c) (oP c),a0M) (qF c)
noncomputable def b3h(K:Nat)(D:Nat->Src×Eng):Nat->Ann
 |0=>.one {i:Nat//i<=K} (λx=>⟨[(0,.ref 0 0 0),(2,.ref 1 0 0),(3,.ref 2 0 0),(4,.int .i64 ((K:Int)-x.1))],[A4 (D x.1).1,B9 v4,B9 (D x.1).2]⟩) (λx=>K-x.1) [.box 0,.box 1,.box 2] [.box 0,.box 1,.box 2] (λ_=>Y5)
 |_=>.none
noncomputable def b1g:Con:=.reff ⟨List UInt8,λ_=>[.ref 0 0 0],λc=>[A4 (pV c)],λc=>.agg (a0l c).2.ts,λc=>[A4 (a0l c).1],λc=>c.length<=1048576⟩
theorem b0g(s0:Src)(K:Nat)(D:Nat->Src×Eng)(h:
  ∃(x:Unit),(True/\True)/\∃(x:(Src×Nat)),(((0=0/\0=0)/\(20:Int)=(x.2:Int)/\True)/\((I8 s0 x.1)/\True)/\x.1.c.length<=1048576/\x.2<=1000)/\W7 .i64 ((↑(min (1+x.1.c.length/12) x.2):
  Int)+(8:Int))/\∃(x_1:(Src×Int)),(((0=0/\0=0)/\(↑(min (1+x.1.c.length/12) x.2):Int)+(8:Int)=x_1.2/\True)/\((I8 x.1 x_1.1)/\True)/\U9 x_1.1 1000000/\x_1.2<=(256:Int))/\(∃(x:
  {i:Nat//i<=K}),((0=0/\0=0)/\(0=0/\0=0)/\(0=0/\0=0)/\nxV x_1.1 x_1.2=(K:Int)- (x.val:Int)/\True)/\(D6 (V8 x_1.1 x_1.2) (D x.val).1)/\(1=1/\1=1/\0=0/\0=0/\false=false/\0=
  0/\(0:Int)=(0:Int)/\0=0/\(0:Int)=(0:Int)/\0=0/\(0:Int)=(0:Int)/\false=false/\0=0/\0=0/\0=0/\(0:Int)=(0:Int)/\True)/\(1=1/\1=1/\(69=(D x.val).2.s.d.E.length/\Z6 69
  (Z5 ((i9 69).set 0 (hdB (1:Int)))) (Z5 (D x.val).2.s.d.E))/\(0=(D x.val).2.s.d.C.length/\Z6 0 (Y9 []) (Y9 (D x.val).2.s.d.C))/\false=(D x.val).2.s.d.A/\(0=(D
  x.val).2.s.d.keep.length/\Z6 0 (Y6 []) (Y6 (D x.val).2.s.d.keep))/\(1:Int)=(D x.val).2.s.ep/\(0=(D x.val).2.s.L.length/\Z6 0 (Y3 []) (Y3 (D x.val).2.s.L))/\(0:Int)=(D
  x.val).2.s.S/\(0=(D x.val).2.s.fr.length/\Z6 0 (X2 []) (X2 (D x.val).2.s.fr))/\(0:Int)=(D x.val).2.s.J/\true=(D x.val).2.up/\(0=(D x.val).2.X.length/\Z6 0 (X0 []) (X0 (D
  x.val).2.X))/\(0=(D x.val).2.lk.H.length/\Z6 0 (Y7 []) (Y7 (D x.val).2.lk.H))/\(0=(D x.val).2.lk.W.length/\Z6 0 (Y0 []) (Y0 (D x.val).2.lk.W))/\(1:Int)=(D
  x.val).2.N/\True)/\True)/\∀(x:{i:Nat//i<=K}),(decide ((K:Int)- (x.val:Int)>(0:Int))=true->∃(x_2:(Src×Eng)),(((0=0/\0=0)/\(R8 (D x.val).2 x_2.2)/\True)/\((I8 (D x.val).1 x_2.1)/\
  True)/\U9 x_2.1 20000/\EI x_2.2)/\W7 .i64 ((K:Int)- (x.val:Int)- (1:Int))/\∃(y:{i:Nat//i<=K}),(((0=0/\0=0)/\(0=0/\0=0)/\(0=0/\0=0)/\(K:Int)- (x.val:Int)- (1:Int)=(K:Int)-
  (y.val:Int)/\True)/\(D6 (R3 x_2.1 x_2.2).1 (D y.val).1)/\(1=1/\1=1/\R8 v4 v4)/\(1=1/\1=1/\R8 (R3 x_2.1 x_2.2).2 (D y.val).2)/\True)/\Lt (K-y.val) (K-x.val))/\(decide ((K:Int)-
  (x.val:Int)>(0:Int))=false->∃(x_2:Eng),(((R8 (D x.val).2 x_2)/\True)/\y8 x_2)/\((R8 x_2 (D K).2)/\True)/\(D6 (D x.val).1 (D K).1)/\True)):
  H3 Tryz.prog 45 [.ref 0 0 0] [A4 s0] (.agg (D K).2.ts) [A4 (D K).1]:=
 v8 (gC a4x (gC b5G (gC vD (gC b5w (gC a8B gN))))) Tryz.func45 (b3h K D) [[.box 0]] h
theorem c01{v:Int}{s:Src}{tx:Int}{e:Eng}{m:Nat}(h:U9 s m)(he:EI e)(hv:0<=v):U9 (wkE v s tx e).1 (m+14)/\EI (wkE v s tx e).2:=by
 have hl:=he.g.l60;have n2:=P6 h (n:=2) (by decide)
 have n6:=P6 n2.2.2 (n:=6) (by decide)
 have n8:=P6 h (n:=8) (by decide)
 have nl:=P6 h (n:=(e.s.L.length:Int)+1) (by omega)
 by_cases h0:v=0∨v=1
 ·rw[b7L h0];refine⟨h.le (by omega),?_⟩
  dsimp only;split
  ·exact b8c he
  ·exact he
 by_cases h2:v=2
 ·rw[c0Q h2];exact⟨h.le (by omega),b9p he _⟩
 by_cases h3:v=3
 ·rw[c1j h3];refine⟨n2.2.2.le (by omega),?_⟩
  dsimp only;split
  ·exact b8s he _
  ·exact he
 by_cases h4:v=4
 ·rw[c1E h4];exact⟨n6.2.2.le (by omega),b9v he (by omega) (by omega)⟩
 by_cases h5:v=5
 ·rw[c1H h5];exact⟨n6.2.2.le (by omega),b8A he (by omega) (by omega)⟩
 by_cases h6:v=6
 ·rw[c0Y h6];obtain⟨a,b,_⟩:=b9l (no:=(nxV s 8).toNat) he.g;exact⟨n8.2.2.le (by omega),a0E he a b⟩
 by_cases h7:v=7
 ·rw[c1C h7];exact⟨nl.2.2.le (by omega),b8x he _ _⟩
 ·have hr:=jT n2.2.2;rw[c1u (λe=>h0 (.inl e)) (λe=>h0 (.inr e)) h2 h3 h4 h5 h6 h7]
  exact⟨hr.1.le (by omega),b86 he (by omega) ⟨hr.2.1.2.2.1,hr.2.1.2.2.2⟩ (hr.2.2 _)⟩
theorem b8k{s:Src}{e:Eng}{m:Nat}(h:U9 s m)(he:EI e):U9 (R3 s e).1 (m+17)/\EI (R3 s e).2:=by
 have n1:=P6 (b3F (e:=e) h) (n:=12) (by decide)
 exact c01 n1.2.2 he n1.1
theorem mD(c:List UInt8):9<=oP c/\oP c<=28:=by unfold oP;omega
theorem b8I(c:List UInt8):qF c<28/\nxV (pV c) (oP c)=(qF c:Int):=by
 have:=mD c;have n:=P6 (dM c) (n:=oP c) (by omega)
 unfold qF;omega
def c2c(i:Nat)(y:Src×Eng):Prop:=U9 y.1 (17*i+1)/\EI y.2
theorem a6O(c:List UInt8):∀i,c2c i (iZ (V8 (pV c) (oP c),a0M) i)
 |0=>⟨(P6 (dM c) (n:=oP c) (by have:=mD c;omega)).2.2.le (by omega),b5L⟩
 |i+1=>by
  obtain⟨a,b⟩:=a6O c i;have:=b8k a b;exact⟨this.1.le (by omega),this.2⟩
theorem b8V(c:List UInt8):EI (a0l c).2:=(a6O c (qF c)).2
theorem a9R:GK 45 b1g:=gk Tryz.func45<|by
 intro(c:List UInt8) (hc:c.length<=1048576);obtain⟨hm,hmv⟩:=b8I c;have hn:=mD c;have n0:=dM c;refine b0g (pV c) (qF c) (iZ (V8 (pV c) (oP c),a0M)) ⟨(),A7,(pV c,20),⟨(by repeat' first|exact trivial|exact rfl|exact Z2 _ _|exact U2 _|exact V7|exact S8 _|exact W4 _|exact S7 _|refine And.intro ?_ ?_),⟨⟨rfl,λ_ _=>rfl⟩,trivial⟩,hc,(by decide:20<=1000)⟩,Z4 (by dsimp only;omega),(pV c,oP c),⟨⟨⟨rfl,rfl⟩,rfl,trivial⟩,⟨⟨rfl,λ_ _=>rfl⟩,trivial⟩,n0.le (by omega),by dsimp only;omega⟩,⟨⟨0,S7 _⟩,⟨⟨rfl,rfl⟩,⟨rfl,rfl⟩,⟨rfl,rfl⟩,by dsimp only;rw[hmv];omega,trivial⟩,⟨rfl,rfl,rfl,rfl,rfl,trivial⟩,⟨rfl,rfl,rfl,rfl,rfl,rfl,rfl,rfl,rfl,rfl,rfl,rfl,rfl,rfl,rfl,rfl,trivial⟩,⟨rfl,rfl,⟨rfl,Z2 _ _⟩,⟨rfl,Z2 _ _⟩,rfl,⟨rfl,Z2 _ _⟩,rfl,⟨rfl,Z2 _ _⟩,rfl,⟨rfl,Z2 _ _⟩,rfl,rfl,⟨rfl,Z2 _ _⟩,⟨rfl,Z2 _ _⟩,⟨rfl,Z2 _ _⟩,rfl,trivial⟩,trivial⟩,λx=>⟨λhc=> ?_,λhc=> ?_⟩⟩
 ·have hlt:x.val<qF c:=by have:=C7 hc;omega
  obtain⟨i1,i2⟩:=a6O c x.val;exact⟨iZ (V8 (pV c) (oP c),a0M) x.val,⟨⟨Z8,R4 _,trivial⟩,⟨⟨rfl,λ_ _=>rfl⟩,trivial⟩,i1.le (by omega),i2⟩,Z4 (by omega),⟨x.val+1,hlt⟩,⟨⟨Z8,Z8,Z8,by dsimp only;omega,trivial⟩,⟨rfl,rfl,rfl,rfl,rfl,trivial⟩,⟨rfl,rfl,R4 _⟩,⟨rfl,rfl,R4 _⟩,trivial⟩,by unfold Lt;dsimp only;omega⟩
 ·have hx:x.val=qF c:=by have:=l7 hc;have:=x.2;omega
  obtain⟨i1,i2⟩:=a6O c x.val;rw[hx] at i2 ⊢;exact⟨(iZ (V8 (pV c) (oP c),a0M) (qF c)).2,⟨⟨R4 _,trivial⟩,i2.sm⟩,⟨R4 _,trivial⟩,⟨rfl,rfl,rfl,rfl,Z9⟩,trivial⟩
noncomputable def a3C:Con:=.rel ⟨List UInt8,λc=>[.bys c],λc=>.agg (a0l c).2.ts,λc=>c.length<=1048576⟩
theorem a1m:GK 10 a3C:=gk Tryz.func10<|by
 intro(c:List UInt8) (hc:c.length<=1048576);exact Q5 (gC cQ (gC a9R gN)) Tryz.func10 Y5 (α:=∃(x:(List UInt8)),((c=x/\True)/\True/\List.length x<=1048576)/\∃(x_1:(List UInt8)),(((0=0/\0=0)/\True)/\((1=1/\Z6 1 (λ(x_2:Nat)=>[T.bys x,T.int .i64 (↑(0:Nat):Int),T.int .i64 ((↑(List.length x):Int).tmod (1000:Int))]) λ(x:Nat)=>[T.bys x_1,T.int .i64 (↑(0:Nat):Int),T.int .i64 ((↑(List.length x_1):Int).tmod (1000:Int))])/\True)/\List.length x_1<=1048576)/\R8 (a0l x_1).2 (a0l c).2) ⟨c,⟨Z9,trivial,hc⟩,c,⟨U3,⟨⟨rfl,λ_ _=>rfl⟩,trivial⟩,hc⟩,R4 _⟩
end Go.Proofs.YtghgljelnhfihaaGreat

namespace Go.Proofs.YtghgljelnhfihaaGreat
set_option maxRecDepth 100000
open Go.SS

noncomputable def b6w:Con:=.rel ⟨Eng,λe=>[.agg e.ts],λe=>.tup [.int .i64 (C4 e),.int .i64 0],λe=>EI e⟩
theorem b5I(e:Eng)(h:
  ∃(x:zF.ι),(((R8 e x)/\True)/\b0F x)/\((!N6 x)=true->(0:Int)=(↑(C4 e):Int)/\(1:Int)=(0:Int)/\True)/\((!N6 x)=false->∃(x:Eng),(((R8 e x)/\True)/\uK x)/\(↑(C4 x):Int)=(↑(C4
  e):Int)/\(0:Int)=(0:Int)/\True)):
  U1 Tryz.prog 11 [.agg e.ts] (.tup [.int .i64 (C4 e),.int .i64 0]):=
 Q5 (gC qI (gC eH gN)) Tryz.func11 Y5 h
theorem b0B:GK 11 b6w:=gk Tryz.func11<|λ(e:Eng) (h:EI e)=>
 b5I e ⟨e,⟨⟨R4 _,trivial⟩,b8C h⟩,λhq=>(by rw[h.ok] at hq;cases hq),λ_=>⟨e,⟨⟨R4 _,trivial⟩,fO h⟩,rfl,Z9⟩⟩
noncomputable def b5P:Con:=.rel ⟨Eng,λe=>[.agg e.ts],λe=>.tup [.int .i64 (C4 e),.int .i64 0],λe=>EI e⟩
theorem b4z(e:Eng)(h:
  ∃(x:zF.ι),(((R8 e x)/\True)/\b0F x)/\((!N6 x)=true->(0:Int)=(↑(C4 e):Int)/\(1:Int)=(0:Int)/\True)/\((!N6 x)=false->∃(x:Eng),(((R8 e x)/\True)/\uK x)/\(↑(C4 x):Int)=(↑(C4
  e):Int)/\(0:Int)=(0:Int)/\True)):
  U1 Tryz.prog 12 [.agg e.ts] (.tup [.int .i64 (C4 e),.int .i64 0]):=
 Q5 (gC dE (gC m8 gN)) Tryz.func12 Y5 h
theorem b1v:GK 12 b5P:=gk Tryz.func12<|λ(e:Eng) (h:EI e)=>
 b4z e ⟨e,⟨⟨R4 _,trivial⟩,b8C h⟩,λhq=>(by rw[h.ok] at hq;cases hq),λ_=>⟨e,⟨⟨R4 _,trivial⟩,fO h⟩,rfl,Z9⟩⟩
noncomputable def b3z:Con:=.rel ⟨Eng×Int,λx=>[.agg x.1.ts,.int .i64 x.2],λx=>.tup [.agg (v7 x.1 x.2).1.ts,.int .i64 (v7 x.1 x.2).2],λx=>EI x.1⟩
theorem a95:GK 13 b3z:=gk Tryz.func13<|by
 rintro⟨e,tx⟩ (h:EI e);have ho:=h.ok;have h2:=h.sm;have ht:=h.h.t10;have hs:=b8D (tx:=tx) h2 ho;refine Q5 (gC qI (gC b2Z (gC a7s (gC b3s gN)))) Tryz.func13 Y5 (α:=let p:=(v7 e tx);let z:=p.1.s;∃(x:zF.ι),(((R8 e x)/\True)/\b0F x)/\((!N6 x)=true->(z.d.E.length=0/\z.d.C.length=0/\false=z.d.A/\z.d.keep.length=0/\0=z.ep/\z.L.length=0/\0=z.S/\z.fr.length=0/\0=z.J/\false=p.1.up/\p.1.X.length=0/\p.1.lk.H.length=0/\p.1.lk.W.length=0/\0=p.1.N/\True)/\1=p.2/\True)/\((!N6 x)=false->∃(x:Eng),(((R8 e x)/\True)/\y8 x)/\∃(x_1:(Eng×Int)),let q:=(V4 x_1.1 x_1.2).2;((LeG x)/\((a2f x x_1.1)/\tx=x_1.2/\True)/\O6 x_1.1.X.length)/\((q==0)=true->∃(x_2:(Eng×Int×Nat)),let r:=(T4 x_2.1 x_2.2.2);(((0=0/\0=0)/\tx=x_2.2.1/\True)/\((1=1/\1=1/\uR x x_2.1)/\rO (0) (0) x x_2.1)/\UI x_2.1 x_2.2.2 x_2.2.1 (x_2.1.X.getD x_2.2.2 dz).Z)/\∃(x:Eng),((LeG r.1.1)/\((a2f r.1.1 x)/\True)/\y8 x)/\(LeG x)/\(a2f x p.1)/\r.2=p.2/\True)/\((q==0)=false->∃(x_2:Eng),((LeG x)/\((a2f x x_2)/\True)/\y8 x_2)/\(LeG x_2)/\(a2f x_2 p.1)/\q=p.2/\True))) ⟨e,⟨⟨R4 _,trivial⟩,b8C h⟩,λhq=>(by rw[ho] at hq;cases hq),λhq=> ?_⟩
 rw[ab2 hq];refine⟨e,⟨⟨R4 _,trivial⟩,h2⟩,(e,tx),⟨⟨S8 _,S8 _,S8 _,S8 _,S8 _,S8 _,S8 _,S8 _⟩,⟨⟨Z7,Z7,rfl,Z7,rfl,Z7,rfl,⟨rfl,λ_ _=>rfl⟩,rfl,rfl,Z7,Z7,Z7,Z9⟩,Z9⟩,by unfold O6;dsimp only;omega⟩,λhk=> ?_,λhk=> ?_⟩
 ·have h0:(V4 e tx).2=0:=by simpa using hk
  obtain⟨hu,k,e1,hk,hi,ha⟩:=x4 h0;rw[a2X h0 e1] at hs ⊢;exact⟨(e,tx,k),⟨⟨Z8,Z9⟩,⟨⟨rfl,rfl,Z8,Z8,rfl,Z8,rfl,Z8,rfl,Z8,rfl,rfl,Z8,Z8,Z8,Z9⟩,Z7,Z7,Z7,Z7,Q2,Z7,Z7,X5⟩,a1N ho h2 hu ha hk hi⟩,(T4 e k).1.1,⟨⟨S8 _,S8 _,S8 _,S8 _,S8 _,S8 _,S8 _,S8 _⟩,⟨⟨Z7,Z7,rfl,Z7,rfl,Z7,rfl,⟨rfl,λ_ _=>rfl⟩,rfl,rfl,Z7,Z7,Z7,Z9⟩,trivial⟩,hs⟩,⟨S8 _,S8 _,S8 _,S8 _,S8 _,S8 _,S8 _,S8 _⟩,⟨Z7,Z7,rfl,Z7,rfl,Z7,rfl,⟨rfl,λ_ _=>rfl⟩,rfl,rfl,Z7,Z7,Z7,Z9⟩,Z9⟩
 ·have h0:¬ (V4 e tx).2=0:=by simpa using hk
  rw[a6u h0];exact⟨e,⟨⟨S8 _,S8 _,S8 _,S8 _,S8 _,S8 _,S8 _,S8 _⟩,⟨⟨Z7,Z7,rfl,Z7,rfl,Z7,rfl,⟨rfl,λ_ _=>rfl⟩,rfl,rfl,Z7,Z7,Z7,Z9⟩,trivial⟩,h2⟩,⟨S8 _,S8 _,S8 _,S8 _,S8 _,S8 _,S8 _,S8 _⟩,⟨Z7,Z7,rfl,Z7,rfl,Z7,rfl,⟨rfl,λ_ _=>rfl⟩,rfl,rfl,Z7,Z7,Z7,Z9⟩,Z9⟩
def EnY:Type:={x:List UInt8×Eng//x.2=(a0l x.1).2}
noncomputable def b8r:Con:=.rel ⟨EnY,λx=>[.bys x.1.1],λx=>.agg x.1.2.ts,λx=>x.1.1.length<=1048576⟩
def b9h(e:Eng)(n:Nat)(D:Nat->Eng):Nat->Ann
 |0=>.one {k:Nat//k<=n} (λx=>⟨[(3,.ref 0 0 0),(4,.int .i64 (C4 e)),(8,.int .i64 e.s.L.length),(9,.int .i64 x.1)],[B9 (D x.1)]⟩) (λx=>n-x.1) [.box 0] [.box 0] (λ_=>Y5)
 |_=>.none
theorem b5h:GK 10 b8r:=gk Tryz.func10<|λx h=>by
 obtain⟨⟨c,e⟩,he⟩:=x;have he:e=(a0l c).2:=he;subst he;exact a1m.1 c h
theorem b9R(c:List UInt8)(e:Eng)(n:Nat)(D:Nat->Eng)(h:
  (decide ((c.length:Int)>(1048576:Int))=true->true=true)/\(decide ((c.length:Int)>(1048576:Int))=false->∃(x:EnY),((c=x.val.1/\True)/\x.val.1.length<=1048576)/\∃(x_1:Eng),(((R8 x.val.2 x_1)/\
  True)/\EI x_1)/\∃(x_2:Eng),(((R8 x.val.2 x_2)/\True)/\EI x_2)/\((false||(↑(C4 x_1):Int) !=(↑(C4 x_2):Int))=false->W7 .i64 ((x.val.2.s.L.length:Int)+(↑(C4 x_1):Int)))/\((false||(↑(C4 x_1):
  Int) !=(↑(C4 x_2):Int)||decide ((x.val.2.s.L.length:Int)+(↑(C4 x_1):Int)>(60:Int)))=true->false=true)/\((false||(↑(C4 x_1):Int) !=(↑(C4 x_2):Int)||decide ((x.val.2.s.L.length:Int)+(↑(C4
  x_1):Int)>(60:Int)))=false->(∃(x_3:{k:Nat//k<=n}),((0=0/\0=0)/\(↑(C4 x_1):Int)=(↑(C4 e):Int)/\(x.val.2.s.L.length:Int)=(e.s.L.length:Int)/\(0:Int)=(x_3.val:Int)/\True)/\(1=1/\1
  =1/\R8 x.val.2 (D x_3.val))/\True)/\∀(x:{k:Nat//k<=n}),((decide ((x.val:Int)<(10:Int))&&decide ((↑(D x.val).X.length:Int)>(0:Int)))=true->V3 (0:Int) (D x.val).X.length/\∃(x_3:(Eng×
  Int)),(((R8 (D x.val) x_3.1)/\((D x.val).X.getD 0 dz).id=x_3.2/\True)/\EI x_3.1)/\(((v7 x_3.1 x_3.2).2 !=(0:Int))=true->false=true)/\(((v7 x_3.1 x_3.2).2 !=(0:Int))=false->W7
  .i64 ((x.val:Int)+(1:Int))/\∃(y:{k:Nat//k<=n}),(((0=0/\0=0)/\(↑(C4 e):Int)=(↑(C4 e):Int)/\(e.s.L.length:Int)=(e.s.L.length:Int)/\(x.val:Int)+(1:Int)=(y.val:Int)/\True)/\(1=1/\1=1
  /\R8 (v7 x_3.1 x_3.2).1 (D y.val))/\True)/\Lt (n-y.val) (n-x.val)))/\((decide ((x.val:Int)<(10:Int))&&decide ((↑(D x.val).X.length:Int)>(0:Int)))=false->W7 .i64 ((e.s.L.length:Int)+(↑(C4 e):
  Int))/\((↑(D x.val).s.L.length:Int)==(e.s.L.length:Int)+(↑(C4 e):Int)&&(↑(D x.val).X.length:Int)==(0:Int))=true)))):
  U1 Tryz.prog 3 [.bys c] (.bool true):=
 Q5 (gC b5h (gC b0B (gC b1v (gC a95 gN)))) Tryz.func3 (b9h e n D) h
theorem b8Q{e:Eng}(hu:e.up=true)(h:0<e.X.length):V4 e (e.X.getD 0 dz).id=(0,0):=by
 have ht:U4 e.X (e.X.getD 0 dz).id=((0:Nat):Int):=M6 (i:=0) h (by unfold C9;simp) (λj hj=>absurd hj (J5 _))
 unfold V4;rw[if_pos hu,ht,if_neg (by omega)]
 rfl
noncomputable def aSt(e:Eng):Eng:=(v7 e (e.X.getD 0 dz).id).1
noncomputable def aIt(e:Eng):Nat->Eng
 |0=>e
 |i+1=>aSt (aIt e i)
theorem b2Q{e:Eng}(h:EI e)(h0:0<e.X.length):EI (aSt e)/\phi (aSt e)=phi e/\(aSt e).X.length+1=e.X.length/\(v7 e (e.X.getD 0 dz).id).2=0:=by
 have hk:=b8Q h.up h0;have e1:yJ e (e.X.getD 0 dz).id=T4 e 0:=a2X (by rw[hk]) (by rw[hk];rfl)
 obtain⟨a,b,c,d⟩:=dC h h0;unfold aSt;rw[ab2 (by rw[h.ok];rfl),e1]
 exact⟨a,c,d,b⟩
theorem b83{e:Eng}(h:EI e):∀k,k<=e.X.length->EI (aIt e k)/\phi (aIt e k)=phi e/\(aIt e k).X.length+k=e.X.length
 |0,_=>⟨h,rfl,rfl⟩
 |k+1,hk=>by
  obtain⟨a,b,c⟩:=b83 h k (by omega)
  obtain⟨x,y,z,_⟩:=b2Q a (by omega)
  exact⟨x,y.trans b,by have z:(aIt e (k+1)).X.length+1=(aIt e k).X.length:=z;omega⟩
theorem b9K{e:Eng}(h:e.X.length=0):phi e=e.s.L.length:=by unfold phi C4;rw[h];rfl
theorem b4d(c:List UInt8){e:Eng}(hE:e=(a0l c).2)(he:EI e):U1 Tryz.prog 3 [.bys c] (.bool true):=by
 have hrm:e.s.L.length+C4 e<=60:=he.h.rm;have ht:=he.h.t10;refine b9R c e e.X.length (aIt e) ⟨λ_=>rfl,λhc=>⟨⟨(c,e),hE⟩,⟨Z9,by have:=l7 hc;show c.length<=1048576;omega⟩,e,⟨⟨R4 _,trivial⟩,he⟩,e,⟨⟨R4 _,trivial⟩,he⟩,λ_=>Z4 (by dsimp only;omega),λhb=> ?_,λ_=>⟨⟨⟨0,S7 _⟩,⟨Z8,rfl,rfl,Z9⟩,⟨rfl,rfl,R4 _⟩,trivial⟩,λx=>⟨λhx=> ?_,λhx=> ?_⟩⟩⟩⟩
 ·have hd:decide ((e.s.L.length:Int)+(C4 e:Int)>60)=false:=uV (by omega)
  have hb:(false||((C4 e:Int) !=(C4 e:Int))||decide ((e.s.L.length:Int)+(C4 e:Int)>60))=true:=hb;rw[hd,bne_self_eq_false] at hb;cases hb
 ·obtain⟨a,b,d⟩:=b83 he x.val x.2;obtain⟨hx1,hx2⟩:=Bool.and_eq_true_iff.1 hx;have hx2:0<(aIt e x.val).X.length:=by have:=C7 hx2;omega
  obtain⟨p,q,r,z⟩:=b2Q a hx2;refine⟨⟨Int.le_refl _,by omega⟩,(aIt e x.val,((aIt e x.val).X.getD 0 dz).id),⟨⟨R4 _,Z9⟩,a⟩,λhb=> ?_,λ_=>⟨Z4 (by omega),⟨x.val+1,by omega⟩,⟨⟨Z8,rfl,rfl,by dsimp only;omega,trivial⟩,⟨rfl,rfl,R4 _⟩,trivial⟩,by unfold Lt;dsimp only;omega⟩⟩
  dsimp only at hb;rw[z] at hb;cases hb
 ·obtain⟨a,b,d⟩:=b83 he x.val x.2;have h0:(aIt e x.val).X.length=0:=Classical.byContradiction λhn=>by
   have h1:decide ((x.val:Int)<10)=true:=pO (by omega)
   have h2:decide (((aIt e x.val).X.length:Int)>0)=true:=pO (by omega)
   rw[h1,h2] at hx;cases hx
  have hp:=b9K h0;rw[b] at hp;unfold phi at hp;refine⟨Z4 (by omega),Bool.and_eq_true_iff.2 ⟨beq_iff_eq.2 (by omega),beq_iff_eq.2 (by omega)⟩⟩
theorem a8O(c:List UInt8):U1 Tryz.prog 3 [.bys c] (.bool true):=b4d c rfl (b8V c)
end Go.Proofs.YtghgljelnhfihaaGreat

