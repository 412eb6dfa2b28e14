/- A part of the proof. -/
import Derived.Test.YtghgljelnhfihaaGreatU1U2
import Derived.Test.YtghgljelnhfihaaGreatW4W6W7
namespace Go.Proofs.YtghgljelnhfihaaGreat
set_option maxRecDepth 100000
open Go.SS

def Eng.tn(e:Eng)(a b c d f g h i:Nat):List T:=[.osl a 0 e.s.d.E.length,.osl b 0 e.s.d.C.length,.bool e.s.d.A,.osl c 0 e.s.d.keep.length,.int .i64 e.s.ep,.osl d 0 e.s.L.length,.int .i64 e.s.S,.osl f 0 e.s.fr.length,.int .i64 e.s.J,.bool e.up,.osl g 0 e.X.length,.osl h 0 e.lk.H.length,.osl i 0 e.lk.W.length,.int .i64 e.N]
def fZ(l:List T):Option Ob:=some (.arr false 1000000 14 1 λ_=>l)
def Eng.bx(e:Eng)(v:Nat):Y1:=[fZ (e.tn 1 2 3 4 5 6 7 8),A1 e.s.d.E,C8 e.s.d.C,x7 e.s.d.keep,b9 e.s.L,vL v e.s.fr e.s.fr.length,qM e.X,xH e.lk.H,nC e.lk.W]
def Eng.nx(e:Eng)(v:Nat):Y1:=[fZ (e.tn 9 10 11 12 13 14 15 16),none,none,none,none,none,none,none,none,A1 e.s.d.E,C8 e.s.d.C,x7 e.s.d.keep,b9 e.s.L,vL v e.s.fr e.s.fr.length,qM e.X,xH e.lk.H,nC e.lk.W]
def v4:Eng:=⟨c1U,false,[],⟨[],[]⟩,0⟩
end Go.Proofs.YtghgljelnhfihaaGreat

namespace Go.Proofs.YtghgljelnhfihaaGreat
set_option maxRecDepth 100000
open Go.SS

def apx(s:Sto)(r:Rec):Sto:=⟨s.d,s.ep,s.L++[R9 s r],s.S,s.fr,s.J⟩
def M3(e:Eng)(k:Nat)(r:Rec):Rec:={r with t:=(e.X.getD k dz).id,p:=(e.X.getD k dz).Z}
def J0(e:Eng)(k:Nat)(r:Rec):Eng:={e with s:=apx e.s (M3 e k r),X:=e.X.set k ⟨(e.X.getD k dz).id,(e.s.L.length:Int)+1⟩}
structure AddB(e:Eng)(tx:Int)(k:Nat)(r:Rec):Prop where
 at_:U4 e.X tx=k
 lt:k<e.X.length
 id:(e.X.getD k dz).id=tx
 ok:R1 (R9 e.s (M3 e k r))=true
 tl:e.X.length<=1000
 ll:e.s.L.length<=1000
 sm:SmR r
noncomputable def c1I:Con:=.reff ⟨Eng×Int×Rec×Nat×Nat,λx=>[.ref 0 0 0,.int .i64 x.2.1,.agg x.2.2.1.ts],λx=>x.1.bx x.2.2.2.2,λx=>.agg (R9 x.1.s (M3 x.1 x.2.2.2.1 x.2.2.1)).ts,λx=>(J0 x.1 x.2.2.2.1 x.2.2.1).nx x.2.2.2.2,λx=>AddB x.1 x.2.1 x.2.2.2.1 x.2.2.1⟩
theorem a58{L:List Txn}{k:Nat}{n:Int}(hk:k<L.length)(j:Nat):setRow (X0 L) k 1 [.int .i64 n] j=X0 (L.set k ⟨(L.getD k dz).id,n⟩) j:=by
 by_cases h:j=k
 ·subst h;rw[lP (by show 1<2;decide)]
  unfold X0;rw[P8 (l:=L.set j _),j_j hk]
  rfl
 ·rw[M8 (by show 1+1<=2;decide) h]
  unfold X0;rw[P8 (l:=L.set k _),aP (Ne.symm h),←P8]
theorem b5T{s:Sto}{r:Rec}(h:R1 (R9 s r)=true):Q7 s r=apx s r:=by unfold Q7;rw[if_pos h];rfl
theorem a2r(s:Sto)(r:Rec):(apx s r).L.getD s.L.length dz=R9 s r:=by
 show(s.L++[R9 s r]).getD _ _=_;rw[P8,rK (W4 _)]
 simp
theorem b0d:GK 106 c1I:=gk Tryz.func106<|by
 rintro⟨e,tx,r,k,v⟩ ⟨ha,hlt,hid,hok,htl,hll,hsm⟩;dsimp only at ha hlt hid hok htl hll hsm;have hl:(apx e.s (M3 e k r)).L.length=e.s.L.length+1:=by show(e.s.L++[_]).length=_;simp
 have h60:e.s.L.length<=60:=by
  have:=(R7 _).1 hok;have:=this.2.2.2.1;have e1:(R9 e.s (M3 e k r)).l=(e.s.L.length:Int)+1:=rfl;omega
 refine v8 (gC tP (gC oK gN)) Tryz.func106 Y5 [[.box 0,.arr 1,.arr 2,.arr 3,.arr 4,.arr 5,.arr 6,.arr 7,.arr 8,.cel 0 0,.cel 0 1,.cel 0 3,.cel 0 5,.cel 0 7,.cel 0 10,.cel 0 11,.cel 0 12]] (α:=let i:=(e.s.L.length:Int);let c:=(e.s.L++[R9 e.s (M3 e k r)]);let f:=(e.X.getD k dz);let w:=(e.X.set k (Txn.mk f.id (i+1)));∃(x:(Eng×Int)),let y:=(0+(U4 x.1.X x.2).toNat);((LeG e)/\((a2f e x.1)/\tx=x.2/\True)/\O6 x.1.X.length)/\V3 (U4 x.1.X x.2) e.X.length/\Lt y e.X.length/\∃(x_1:a2K.ι),let j:=x_1.2.1;let z:=(Q7 x_1.1 j);let m:=z.L.length;let q:=((bif y.beq y then(↑m:Int) else(e.X.getD y dz).Z)-1);let u:=(z.L.getD (0+q.toNat) dz);(((0=0/\0=0)/\(r.e=j.e/\r.l=j.l/\tx=j.t/\r.k=j.k/\(e.X.getD y dz).Z=j.p/\r.n=j.n/\r.g=j.g/\r.s=j.s/\r.b=j.b/\r.a=j.a/\True)/\True)/\((1=1/\1=1/\oE e.s x_1.1)/\EqH (v) (x_1.2.2) e.s x_1.1)/\x_1.1.L.length<=60/\SmR j)/\Lt y e.X.length/\Lt y e.X.length/\W7 .i64 q/\V3 q m/\Lt (0+q.toNat) m/\((u.e=e.s.ep/\u.l=i+1/\u.t=f.id/\u.k=r.k/\u.p=f.Z/\u.n=r.n/\u.g=r.g/\u.s=r.s/\u.b=r.b/\u.a=r.a/\True)/\True)/\(1=1/\1=1/\(0=0/\z.d.E.length=e.s.d.E.length)/\(0=0/\z.d.C.length=e.s.d.C.length)/\z.d.A=e.s.d.A/\(0=0/\z.d.keep.length=e.s.d.keep.length)/\z.ep=e.s.ep/\(0=0/\m=c.length)/\z.S=e.s.S/\(0=0/\z.fr.length=e.s.fr.length)/\z.J=e.s.J/\e.up=e.up/\(0=0/\e.X.length=w.length)/\(0=0/\e.lk.H.length=e.lk.H.length)/\(0=0/\e.lk.W.length=e.lk.W.length)/\e.N=e.N/\True)/\True/\True/\True/\True/\True/\True/\True/\True/\(Y8 Z5 z.d.E e.s.d.E)/\(Y8 Y9 z.d.C e.s.d.C)/\(Y8 Y6 z.d.keep e.s.d.keep)/\(Y8 Y3 z.L c)/\(x_1.2.2=v/\z.fr.length=e.s.fr.length/\T9 z.fr.length (Y2 z.fr) (Y2 e.s.fr))/\(e.X.length=w.length/\Z6 e.X.length (setRow (X0 e.X) y 1 [T.int .i64 (↑m:Int)]) (X0 w))/\(Y8 Y7 e.lk.H e.lk.H)/\(Y8 Y0 e.lk.W e.lk.W)/\True) ⟨(e,tx),⟨⟨S8 _,S8 _,S8 _,S8 _,S8 _,S8 _,S8 _,S8 _⟩,⟨⟨Z7,Z7,rfl,Z7,rfl,Z7,rfl,⟨rfl,λ_ _=>rfl⟩,rfl,rfl,Z7,Z7,Z7,Z9⟩,Z9⟩,by unfold O6;dsimp only;omega⟩,?_⟩
 dsimp only;rw[ha,F5,G9];refine⟨X8 hlt,hlt,(e.s,M3 e k r,v),⟨⟨Z8,⟨rfl,rfl,hid.symm,rfl,rfl,rfl,rfl,rfl,rfl,Z9⟩,trivial⟩,⟨⟨rfl,rfl,Z8,Z8,rfl,Z8,rfl,Z8,rfl,Z8,Z9⟩,Z7,Z7,Z7,Z7,Q2,trivial⟩,h60,hsm⟩,hlt,hlt,?_⟩
 dsimp only;rw[b5T hok,Nat.beq_refl,cond_true];have hx:(0+(((apx e.s (M3 e k r)).L.length:Int)-1).toNat)=e.s.L.length:=by omega
 rw[hx,a2r];refine⟨Z4 (by omega),⟨by omega,by omega⟩,by unfold Lt;omega,⟨⟨rfl,rfl,rfl,rfl,rfl,rfl,rfl,rfl,rfl,Z9⟩,trivial⟩,⟨rfl,rfl,Z8,Z8,rfl,Z8,rfl,Z8,rfl,Z8,rfl,rfl,⟨rfl,(B1 ..).symm⟩,Z8,Z8,Z9⟩,trivial,trivial,trivial,trivial,trivial,trivial,trivial,trivial,Z7,Z7,Z7,Z7,Q2,⟨(B1 ..).symm,λj _=> ?_⟩,Z7,X5⟩
 rw[a58 hlt,hl];rfl
def a2v:Rec:=⟨0,0,0,1,0,0,0,0,[],[]⟩
def a2s(e:Eng):Eng:={e with X:=e.X++[⟨e.N,0⟩],N:=e.N+1}
def H9(e:Eng):Eng×Int×Int:=if e.up=true then
  if e.N>60∨e.X.length=10 then(e,0,6)
  else if(e.s.L.length:Int)+C4 e+2<=60 then(J0 (a2s e) e.X.length a2v,e.N,0) else(e,0,7)
 else(e,0,15)
theorem J4{e:Eng}(h:N6 e=true):J8 e.s=true/\xY e=true/\(if e.up then upE e else a1X e)=true:=by
 unfold N6 uW at h;simp only[L3] at h;exact⟨h.1,h.2.1,h.2.2⟩
theorem b6R{e:Eng}(h:N6 e=true)(hu:e.up=true):∀i,i<e.X.length->D1 e i=false:=by
 have h3:=(J4 h).2.2;rw[if_pos hu] at h3;unfold upE at h3;simp only[L3,xP] at h3;exact Q8.1 h3.1.1.1
theorem b7j{e:Eng}(h:N6 e=true)(hu:e.up=true){i:Nat}(hi:i<e.X.length):1<=(e.X.getD i dz).id/\(e.X.getD i dz).id<=e.N-1:=by
 have:=b6R h hu i hi;unfold D1 at this;simp only[yP,yT,Q1] at this;exact this.1.1
theorem b4e(L:List Txn)(t:Txn):Z6 (L.length+1) (X3 (X0 L) L.length λk=>List.take 2 (List.drop (k*2) t.ts)) (X0 (L++[t])):=by
 intro i hi;unfold X3 X0;by_cases h:i<L.length
 ·rw[uY h,P8,P8,tX h]
 ·have:i=L.length:=by omega
  subst this;rw[sW h];have:(L++[t]).getD L.length dz=t:=by rw[P8,rK (W4 _)];simp
  rw[this];simp[Txn.ts]
theorem b2T{s:Sto}(h:J8 s=true):1<=s.ep/\s.ep<=60:=by
 obtain⟨⟨h1,_⟩,_⟩:=(M2 s).1 h;obtain⟨_,_,a,b,_⟩:=(B7 s).1 h1;exact⟨a,b⟩
theorem c2e{e:Eng}(h:(!e.up)=true):H9 e=(e,0,15):=by unfold H9;rw[if_neg (by simpa using h)]
theorem c2b{e:Eng}(h:(!e.up)=false)(h2:(decide (e.N>60)||(e.X.length:Int)==10)=true):H9 e=(e,0,6):=by
 simp only[pP,k4,beq_iff_eq] at h2;unfold H9;rw[if_pos (by simpa using h),if_pos (by omega)]
theorem c1V{e:Eng}(h:(!e.up)=false)(h2:(decide (e.N>60)||(e.X.length:Int)==10)=false)(h3:¬ (e.s.L.length:Int)+C4 e+2<=60):H9 e=(e,0,7):=by
 simp only[yP,rX,beq_eq_false_iff_ne,ne_eq] at h2;unfold H9;rw[if_pos (by simpa using h),if_neg (by omega),if_neg h3]
theorem c2k{e:Eng}(h:(!e.up)=false)(h2:(decide (e.N>60)||(e.X.length:Int)==10)=false)(h3:(e.s.L.length:Int)+C4 e+2<=60):H9 e=(J0 (a2s e) e.X.length a2v,e.N,0):=by
 simp only[yP,rX,beq_eq_false_iff_ne,ne_eq] at h2;unfold H9;rw[if_pos (by simpa using h),if_neg (by omega),if_pos h3]
end Go.Proofs.YtghgljelnhfihaaGreat

namespace Go.Proofs.YtghgljelnhfihaaGreat
set_option maxRecDepth 100000
open Go.SS

theorem tA{f g:Nat->List T}:X3 f 0 g=g:=funext λi=>by unfold X3;rw[show Nat.blt i 0=false from rfl];rfl
def c1i:Con:=.rel ⟨Sto×Rec,λx=>[.agg x.1.ts,.agg x.2.ts],λx=>.tup [.agg (apx x.1 x.2).ts,.int .i64 (x.1.L.length+1:Nat)],λx=>x.1.L.length<=1000⟩
theorem b72:GK 154 c1i:=gk Tryz.func154<|by
 rintro⟨s,r⟩ (h:s.L.length<=1000);have hl:(s.L++[R9 s r]).length=s.L.length+1:=by simp
 refine Q5 (gC N5 gN) Tryz.func154 Y5 (α:=let u:=(0+s.L.length+1);let z:=(s.L.length:Int);let q:=(0+s.L.length);W7 .i64 (z+1)/\(Le 0 0/\W6 0 s.L.length 96)/\(Le q q/\W6 q 1 96)/\Le (0+u) u/\((Y8 Z5 s.d.E s.d.E)/\(Y8 Y9 s.d.C s.d.C)/\s.d.A=s.d.A/\(Y8 Y6 s.d.keep s.d.keep)/\s.ep=s.ep/\(0+s.L.length+1=(s.L++[R9 s r]).length/\Z6 u (X3 (X3 (λ(k:Nat)=>List.take 10 (List.drop (k*10) [])) 0 (Y3 s.L)) q λ(k:Nat)=>List.take 10 (List.drop (k*10) [T.int .i64 s.ep,T.int .i64 (z+1),T.int .i64 r.t,T.int .i64 r.k,T.int .i64 r.p,T.int .i64 r.n,T.int .i64 r.g,T.int .i64 r.s,T.str r.b,T.str r.a])) (Y3 (s.L++[R9 s r])))/\s.S=s.S/\(Y8 X2 s.fr s.fr)/\s.J=s.J/\True)/\z+1=(↑(s.L.length+1):Int)/\True) ⟨Z4 (by omega),⟨W4 _,by unfold W6;omega⟩,⟨W4 _,by unfold W6;omega⟩,by unfold Le;omega,⟨(by repeat' first|exact trivial|exact rfl|exact Z2 _ _|exact U2 _|exact V7|exact S8 _|exact W4 _|exact S7 _|refine And.intro ?_ ?_),(by repeat' first|exact trivial|exact rfl|exact Z2 _ _|exact U2 _|exact V7|exact S8 _|exact W4 _|exact S7 _|refine And.intro ?_ ?_),rfl,(by repeat' first|exact trivial|exact rfl|exact Z2 _ _|exact U2 _|exact V7|exact S8 _|exact W4 _|exact S7 _|refine And.intro ?_ ?_),rfl,⟨by omega,?_⟩,rfl,(by repeat' first|exact trivial|exact rfl|exact Z2 _ _|exact U2 _|exact V7|exact S8 _|exact W4 _|exact S7 _|refine And.intro ?_ ?_),rfl,trivial⟩,rfl,trivial⟩
 rw[G9,tA];exact mM s.L (R9 s r)
def b7G:Con:=.rfz ⟨Eng×Nat×Rec,λx=>[.agg x.1.ts,.int .i64 x.2.1,.agg x.2.2.ts],λx=>.tup [.agg (J0 x.1 x.2.1 x.2.2).ts,.int .i64 (x.1.s.L.length+1:Nat)],λx=>x.2.1<x.1.X.length/\x.1.X.length<=1000/\x.1.s.L.length<=1000⟩
theorem qO:GK 230 b7G:=gk Tryz.func230<|by
 rintro⟨e,k,r⟩ ⟨hk,ht,hl⟩;dsimp only at hk ht hl;refine Q5 (gC b72 (gC N5 gN)) Tryz.func230 Y5 (α:=let u:=(k:Int).toNat;let z:=(0+e.X.length);let q:=(e.X.set k (Txn.mk (e.X.getD k dz).id ((e.s.L.length:Int)+1)));V3 (k:Int) e.X.length/\V3 (k:Int) e.X.length/\∃(x:(Sto×Rec)),let v:=(↑(x.1.L.length+1):Int);(((yL e.s x.1)/\(r.e=x.2.e/\r.l=x.2.l/\(e.X.getD u dz).id=x.2.t/\r.k=x.2.k/\(e.X.getD u dz).Z=x.2.p/\r.n=x.2.n/\r.g=x.2.g/\r.s=x.2.s/\r.b=x.2.b/\r.a=x.2.a/\True)/\True)/\x.1.L.length<=1000)/\(Le 0 0/\W6 0 e.X.length 16)/\V3 (k:Int) z/\Lt (0+u) z/\Le (0+z) z/\((Y8 Z5 x.1.d.E e.s.d.E)/\(Y8 Y9 x.1.d.C e.s.d.C)/\x.1.d.A=e.s.d.A/\(Y8 Y6 x.1.d.keep e.s.d.keep)/\x.1.ep=e.s.ep/\(Y8 Y3 (x.1.L++[R9 x.1 x.2]) (e.s.L++[R9 e.s (M3 e k r)]))/\x.1.S=e.s.S/\(Y8 X2 x.1.fr e.s.fr)/\x.1.J=e.s.J/\e.up=e.up/\(0+e.X.length=q.length/\Z6 z (setRow (X3 (λ(k:Nat)=>List.take 2 (List.drop (k*2) [])) 0 (X0 e.X)) (0+u) 1 [T.int .i64 v]) (X0 q))/\(Y8 Y7 e.lk.H e.lk.H)/\(Y8 Y0 e.lk.W e.lk.W)/\e.N=e.N/\True)/\v=(↑(e.s.L.length+1):Int)/\True) ⟨X8 hk,X8 hk,(e.s,M3 e k r),⟨⟨zE _,⟨rfl,rfl,by rw[F5];rfl,rfl,by rw[F5];rfl,rfl,rfl,rfl,rfl,rfl,trivial⟩,trivial⟩,by dsimp only;omega⟩,⟨W4 _,by unfold W6;omega⟩,by rw[G9];exact X8 hk,by unfold Lt;omega,by unfold Le;omega,⟨Z7,Z7,rfl,Z7,rfl,Z7,rfl,Z7,rfl,rfl,⟨by rw[B1];omega,λj _=> ?_⟩,Z7,Z7,Z9⟩,Z9⟩
 rw[F5,G9,tA];exact a58 hk j
def b87:Con:=.rel ⟨Eng,λe=>[.agg e.ts],λe=>.tup [.agg (H9 e).1.ts,.int .i64 (H9 e).2.1,.int .i64 (H9 e).2.2],λe=>uK e/\0<=e.N/\e.N<=1000⟩
theorem b5K:GK 187 b87:=gk Tryz.func187<|by
 rintro(e:Eng) ⟨hn,hx0,hx⟩;have hb:=jG e.s.L e.X e.X.length;have h1:=hn.1.1;have h2:=hn.2.1;have he:C4 e=A0 e.s.L e.X e.X.length:=rfl;refine Q5 (gC m8 (gC qO (gC N5 gN))) Tryz.func187 Y5 (α:=let f:=(H9 e).2.2;let m:=(H9 e).2.1;let j:=(R8 e (H9 e).1);let y:=(0+e.X.length);let v:=(decide (e.N>60)||(e.X.length:Int)==10);let z:=(0+e.X.length+1);let q:=(e.s.L.length:Int);((!e.up)=true->j/\0=m/\15=f/\True)/\((!e.up)=false->(v=true->j/\0=m/\6=f/\True)/\(v=false->W7 .i64 (q+1)/\∃(x:Eng),let u:=(↑(C4 x):Int);(((R8 e x)/\True)/\uK x)/\W7 .i64 (q+1+u)/\W7 .i64 (q+1+u+1)/\(decide (q+1+u+1>60)=true->j/\0=m/\7=f/\True)/\(decide (q+1+u+1>60)=false->W7 .i64 (e.N+1)/\(Le 0 0/\W6 0 e.X.length 16)/\(Le y y/\W6 y 1 16)/\W7 .i64 ((↑z:Int)-1)/\∃(x:(Eng×Nat×Rec)),let c:=x.1.X.length;let w:=x.2.2;let r:=x.1.s;(Le (0+z) z/\(((Y8 Z5 e.s.d.E r.d.E)/\(Y8 Y9 e.s.d.C r.d.C)/\e.s.d.A=r.d.A/\(Y8 Y6 e.s.d.keep r.d.keep)/\e.s.ep=r.ep/\(Y8 Y3 e.s.L r.L)/\e.s.S=r.S/\(Y8 X2 e.s.fr r.fr)/\e.s.J=r.J/\e.up=x.1.up/\(0+e.X.length+1=c/\Z6 z (X3 (X3 (λ(k:Nat)=>List.take 2 (List.drop (k*2) [])) 0 (X0 e.X)) y λ(k:Nat)=>List.take 2 (List.drop (k*2) [T.int .i64 e.N,T.int .i64 0])) (X0 x.1.X))/\(Y8 Y7 e.lk.H x.1.lk.H)/\(Y8 Y0 e.lk.W x.1.lk.W)/\e.N+1=x.1.N/\True)/\(↑z:Int)-1=(x.2.1:Int)/\(0=w.e/\0=w.l/\0=w.t/\1=w.k/\0=w.p/\0=w.n/\0=w.g/\0=w.s/\[]=w.b/\[]=w.a/\True)/\True)/\x.2.1<c/\c<=1000/\r.L.length<=1000)/\((Y8 Z5 r.d.E (H9 e).1.s.d.E)/\(Y8 Y9 r.d.C (H9 e).1.s.d.C)/\r.d.A=(H9 e).1.s.d.A/\(Y8 Y6 r.d.keep (H9 e).1.s.d.keep)/\r.ep=(H9 e).1.s.ep/\(Y8 Y3 (r.L++[R9 x.1.s (M3 x.1 x.2.1 w)]) (H9 e).1.s.L)/\r.S=(H9 e).1.s.S/\(Y8 X2 r.fr (H9 e).1.s.fr)/\r.J=(H9 e).1.s.J/\x.1.up=(H9 e).1.up/\(Y8 X0 (x.1.X.set x.2.1 (Txn.mk (x.1.X.getD x.2.1 dz).id ((r.L.length:Int)+1))) (H9 e).1.X)/\(Y8 Y7 x.1.lk.H (H9 e).1.lk.H)/\(Y8 Y0 x.1.lk.W (H9 e).1.lk.W)/\x.1.N=(H9 e).1.N/\True)/\e.N=m/\0=f/\True)))) ⟨λhu=> ?_,λhu=>⟨λhq=> ?_,λhq=>⟨Z4 (by omega),e,⟨⟨R4 _,trivial⟩,hn⟩,Z4 (by omega),Z4 (by omega),λhr=> ?_,λhr=> ?_⟩⟩⟩
 ·rw[c2e hu];exact⟨R4 _,rfl,Z9⟩
 ·rw[c2b hu hq];exact⟨R4 _,rfl,Z9⟩
 ·rw[c1V hu hq (by have:=C7 hr;omega)]
  exact⟨R4 _,rfl,Z9⟩
 ·have hL:e.X.length+1=(e.X++[(⟨e.N,0⟩:Txn)]).length:=by simp
  rw[c2k hu hq (by have:=l7 hr;omega)]
  refine⟨Z4 (by omega),⟨W4 _,by unfold W6;omega⟩,⟨W4 _,by unfold W6;omega⟩,Z4 (by omega),(a2s e,e.X.length,a2v),⟨by unfold Le;omega,⟨⟨Z7,Z7,rfl,Z7,rfl,Z7,rfl,Z7,rfl,rfl,⟨by rw[G9];exact hL,?_⟩,Z7,Z7,Z9⟩,by dsimp only;omega,⟨rfl,rfl,rfl,rfl,rfl,rfl,rfl,rfl,rfl,rfl,trivial⟩,trivial⟩,by show e.X.length<(e.X++[_]).length;omega,by show(e.X++[_]).length<=_;omega,by show e.s.L.length<=_;omega⟩,R4 (J0 (a2s e) e.X.length a2v),rfl,rfl,trivial⟩
  rw[G9,tA];exact b4e e.X ⟨e.N,0⟩
end Go.Proofs.YtghgljelnhfihaaGreat

