/- A part of the proof. -/
import Derived.Test.YtcobnbfhkpbokaaGreatX1
import Derived.Test.YtcobnbfhkpbokaaGreatE4
import Derived.WalkKit
import Derived.Deep.RegionLaw
import Derived.Deep.LoopGhost
import Derived.Lib.SliceRun
import Derived.Deep.MidRow
import Derived.Shelf.RegionOpenPlain
import Derived.Laws.IdiomCopy
namespace Go.Proofs.YtcobnbfhkpbokaaGreat
set_option maxRecDepth 100000
open Go.SS Go.Proofs.Tryz
noncomputable section
def pA(L:List Txn):Option Ob:=some (.arr true 0 2 L.length (X4 L))
theorem a0f(L:List Txn):C4 [pA L]:=B1 (λi _ t h=>by
 simp only[X4,Txn.ts,vT,j_h,or_false] at h;rcases h with rfl|rfl<;>rfl) v8
def c0g:Con:=.rmk ⟨List Txn,λL=>[a3G L],λ_=>[],λL=>.osl 0 0 L.length,λL=>[pA L],λL=>L.length<=1048576⟩
theorem b9I(L:List Txn)(h:
  ∀(b:Bool),(b=true->L.length=0)->br b (((0=0/\0=L.length)/\True)/\(0=L.length/\Z7 0 (λ(x:Nat)=>[]) (X4 L))/\True) ((Le 0 0/\U2 0 L.length 16)/\((0=0/\0+L.length=L.length)/\True)/\(0+L.length=L.length/\Z7 (0+L.length) (X6 (tk 2 []) 0 (X4 L)) (X4 L))/\True)):
  G8 prog 52 [a3G L] [] (.osl 0 0 L.length) [pA L]:=
 r9 gN func52 Y5 c4b h
theorem b5D:GK 52 c0g:=gk func52<|λ(L:List Txn) (hL:L.length<=1048576)=>
 ⟨b9I L (λb B=>⟨λh=>⟨⟨⟨rfl,(B h).symm⟩,Z5⟩,⟨(B h).symm,λi hi=>absurd hi (J2 _)⟩,Z5⟩,λ_=>⟨⟨U9 _,O6⟩,⟨⟨rfl,Z9⟩,Z5⟩,⟨Z9,v6⟩,Z5⟩⟩),rfl,a0f L⟩
def oD(L:List Lck):Option Ob:=some (.arr true 0 4 L.length (Y2 L))
theorem a0U(L:List Lck):C4 [oD L]:=B1 (λi _ t h=>by
 simp only[Y2,Lck.ts,vT,j_h,or_false] at h;rcases h with rfl|rfl|rfl|rfl<;>rfl) v8
def b8G:Con:=.rmk ⟨List Lck,λL=>[dT L],λ_=>[],λL=>.osl 0 0 L.length,λL=>[oD L],λL=>L.length<=1048576⟩
theorem b8D(L:List Lck)(h:
  ∀(b:Bool),(b=true->L.length=0)->br b (((0=0/\0=L.length)/\True)/\(0=L.length/\Z7 0 (λ(x:Nat)=>[]) (Y2 L))/\True) ((Le 0 0/\U2 0 L.length 32)/\((0=0/\0+L.length=L.length)/\True)/\(0+L.length=L.length/\Z7 (0+L.length) (X6 (tk 4 []) 0 (Y2 L)) (Y2 L))/\True)):
  G8 prog 112 [dT L] [] (.osl 0 0 L.length) [oD L]:=
 r9 gN func112 Y5 [[.arr 1],[.nilS 0 [] 0 4,.arr 0]] h
theorem b4C:GK 112 b8G:=gk func112<|λ(L:List Lck) (hL:L.length<=1048576)=>
 ⟨b8D L (λb B=>⟨λh=>⟨⟨⟨rfl,(B h).symm⟩,Z5⟩,⟨(B h).symm,λi hi=>absurd hi (J2 _)⟩,Z5⟩,λ_=>⟨⟨U9 _,O6⟩,⟨⟨rfl,Z9⟩,Z5⟩,⟨Z9,v6⟩,Z5⟩⟩),rfl,a0U L⟩
def iF(L:List Wt):Option Ob:=some (.arr true 0 2 L.length (X8 L))
theorem nD(L:List Wt):C4 [iF L]:=B1 (λi _ t h=>by
 simp only[X8,Wt.ts,vT,j_h,or_false] at h;rcases h with rfl|rfl<;>rfl) v8
def c3n:Con:=.rmk ⟨List Wt,λL=>[wtS L],λ_=>[],λL=>.osl 0 0 L.length,λL=>[iF L],λL=>L.length<=1048576⟩
theorem c33(L:List Wt)(h:
  ∀(b:Bool),(b=true->L.length=0)->br b (((0=0/\0=L.length)/\True)/\(0=L.length/\Z7 0 (λ(x:Nat)=>[]) (X8 L))/\True) ((Le 0 0/\U2 0 L.length 16)/\((0=0/\0+L.length=L.length)/\True)/\(0+L.length=L.length/\Z7 (0+L.length) (X6 (tk 2 []) 0 (X8 L)) (X8 L))/\True)):
  G8 prog 113 [wtS L] [] (.osl 0 0 L.length) [iF L]:=
 r9 gN func113 Y5 c4b h
theorem b9f:GK 113 c3n:=gk func113<|λ(L:List Wt) (hL:L.length<=1048576)=>
 ⟨c33 L (λb B=>⟨λh=>⟨⟨⟨rfl,(B h).symm⟩,Z5⟩,⟨(B h).symm,λi hi=>absurd hi (J2 _)⟩,Z5⟩,λ_=>⟨⟨U9 _,O6⟩,⟨⟨rfl,Z9⟩,Z5⟩,⟨Z9,v6⟩,Z5⟩⟩),rfl,nD L⟩
def c5y:Con:=.tmp
theorem H7:GK 42 c5y:=gk func42<|trivial
def c4p:Con:=.tmp
theorem b9E:GK 93 c4p:=gk func93<|trivial
def c5c:Con:=.tmp
theorem c1c:GK 155 c5c:=gk func155<|trivial
def Lks.tm(l:Lks)(b:Nat):List T:=[.osl b 0 l.H.length,.osl (b+1) 0 l.W.length]
def Lks.hp(l:Lks):Y4:=[oD l.H,iF l.W]
theorem aM(l:Lks):C4 l.hp:=h9 (a0U _) (nD _)
def b9U:Con:=.rmk ⟨Lks,λl=>[.agg l.ts],λ_=>[],λl=>.agg (l.tm 0),λl=>l.hp,a3C⟩
theorem b3R:GK 53 b9U:=gk func53<|by
 rintro(l:Lks) ⟨h1,h2⟩;exact⟨r9 (gC b4C (gC b9f gN)) func53 Y5 [[.arr 2,.arr 3]] (α:=∃(x:(List Lck)),let p:=x.length;(((Z3 Y2 l.H x)/\True)/\p<=1048576)/\∃(X:(List Wt)),(((Z3 X8 l.W X)/\True)/\X.length<=1048576)/\(((0=0/\p=l.H.length)/\(0=0/\X.length=l.W.length)/\True)/\True)/\(p=l.H.length/\Z7 (p) (Y2 x) (Y2 l.H))/\(X.length=l.W.length/\Z7 (X.length) (X8 X) (X8 l.W))/\True) ⟨l.H,⟨Z8,h1⟩,l.W,⟨Z8,h2⟩,Z8⟩,rfl,aM l⟩
def b7C:Con:=.rel ⟨Lks,λl=>[.agg l.ts],λl=>.agg l.ts,a3C⟩
theorem b2f:GK 94 b7C:=gk func94<|by
 rintro(l:Lks) ⟨h1,h2⟩;exact R1 (gC H7 (gC b9E (gC c1c gN))) func94 Y5 (α:=U2 0 l.H.length 32/\U2 0 l.W.length 16/\(Z3 Y2 l.H l.H)/\(Z3 X8 l.W l.W)/\True) ⟨O6,O6,Z8⟩
def Eng.tm(e:Eng)(b:Nat):List T:=[.osl b 0 e.s.d.E.length,.osl (b+1) 0 e.s.d.C.length,.bool e.s.d.A,.osl (b+2) 0 e.s.d.keep.length,Ji e.s.ep,.osl (b+3) 0 e.s.L.length,Ji e.s.S,.osl (b+4) 0 e.s.fr.length,Ji e.s.J,.bool e.up,.osl (b+5) 0 e.X.length,.osl (b+6) 0 e.lk.H.length,.osl (b+7) 0 e.lk.W.length,Ji e.N]
def Eng.hp(e:Eng)(v:Nat):Y4:=[u5 e.s.d.E,z9 e.s.d.C,u2 e.s.d.keep,yV e.s.L,uV v e.s.fr e.s.fr.length,pA e.X,oD e.lk.H,iF e.lk.W]
abbrev qT(a b:Eng):Prop:=Z3 Z6 a.s.d.E b.s.d.E/\Z3 Z2 a.s.d.C b.s.d.C/\a.s.d.A=b.s.d.A/\Z3 Z0 a.s.d.keep b.s.d.keep/\a.s.ep=b.s.ep/\Z3 Y6 a.s.L b.s.L/\a.s.S=b.s.S/\(a.s.fr.length=b.s.fr.length/\Z7 a.s.fr.length (sO (Y9 a.s.fr)) (X2 b.s.fr))/\a.s.J=b.s.J/\a.up=b.up/\Z3 X4 a.X b.X/\Z3 Y2 a.lk.H b.lk.H/\Z3 X8 a.lk.W b.lk.W/\a.N=b.N/\True
abbrev c7j(a b:Eng):Prop:=((0:Nat)=0/\a.s.d.E.length=b.s.d.E.length)/\((0:Nat)=0/\a.s.d.C.length=b.s.d.C.length)/\a.s.d.A=b.s.d.A/\((0:Nat)=0/\a.s.d.keep.length=b.s.d.keep.length)/\a.s.ep=b.s.ep/\((0:Nat)=0/\a.s.L.length=b.s.L.length)/\a.s.S=b.s.S/\((0:Nat)=0/\a.s.fr.length=b.s.fr.length)/\a.s.J=b.s.J/\a.up=b.up/\((0:Nat)=0/\a.X.length=b.X.length)/\((0:Nat)=0/\a.lk.H.length=b.lk.H.length)/\((0:Nat)=0/\a.lk.W.length=b.lk.W.length)/\a.N=b.N/\True
abbrev sC(v u:Nat)(a b:Eng):Prop:=Z3 Z6 a.s.d.E b.s.d.E/\Z3 Z2 a.s.d.C b.s.d.C/\Z3 Z0 a.s.d.keep b.s.d.keep/\Z3 Y6 a.s.L b.s.L/\(v=u/\a.s.fr.length=b.s.fr.length/\V0 a.s.fr.length (Y9 a.s.fr) (Y9 b.s.fr))/\Z3 X4 a.X b.X/\Z3 Y2 a.lk.H b.lk.H/\Z3 X8 a.lk.W b.lk.W/\True
abbrev bO(a b:Eng):Prop:=(1:Nat)=1/\(1:Nat)=1/\c7j a b
abbrev lZ(v u:Nat)(a b:Eng):Prop:=bO a b/\sC v u a b
abbrev tB(v u:Nat)(a b:Eng):Prop:=bO a b/\True/\True/\True/\True/\True/\True/\True/\True/\sC v u a b
abbrev LeG(a:Eng):Prop:=Le (0+a.s.d.E.length) a.s.d.E.length/\Le (0+a.s.d.C.length) a.s.d.C.length/\Le (0+a.s.d.keep.length) a.s.d.keep.length/\Le (0+a.s.L.length) a.s.L.length/\Le (0+a.s.fr.length) a.s.fr.length/\Le (0+a.X.length) a.X.length/\Le (0+a.lk.H.length) a.lk.H.length/\Le (0+a.lk.W.length) a.lk.W.length
theorem b3m(e:Eng)(v:Nat):C4 (e.hp v):=h9 (H:=e.s.hp v) (lW _ _) (h9 (H:=[pA e.X]) (a0f _) (aM e.lk))
def b9Q:Con:=.rmk ⟨Eng,λe=>[.agg e.ts],λ_=>[],λe=>.agg (e.tm 0),λe=>e.hp 0,O3⟩
theorem vA:GK 23 b9Q:=gk func23<|by
 rintro(e:Eng) ⟨h1,h2,h3⟩;exact⟨r9 (gC b3C (gC b5D (gC b3R gN))) func23 Y5 [[.arr 2,.arr 3,.arr 4,.arr 5,.arr 6,.arr 7,.arr 8,.arr 9]] (α:=∃(x:Sto),(((yJ e.s x)/\True)/\SmS x)/\∃(f:(List Txn)),let p:=f.length;(((Z3 X4 e.X f)/\True)/\p<=1048576)/\∃(X:Lks),((((Z3 Y2 e.lk.H X.H)/\(Z3 X8 e.lk.W X.W)/\True)/\True)/\a3C X)/\(((0=0/\x.d.E.length=e.s.d.E.length)/\(0=0/\x.d.C.length=e.s.d.C.length)/\x.d.A=e.s.d.A/\(0=0/\x.d.keep.length=e.s.d.keep.length)/\x.ep=e.s.ep/\(0=0/\x.L.length=e.s.L.length)/\x.S=e.s.S/\(0=0/\x.fr.length=e.s.fr.length)/\x.J=e.s.J/\e.up=e.up/\(0=0/\p=e.X.length)/\(0=0/\X.H.length=e.lk.H.length)/\(0=0/\X.W.length=e.lk.W.length)/\e.N=e.N/\True)/\True)/\(Z3 Z6 x.d.E e.s.d.E)/\(Z3 Z2 x.d.C e.s.d.C)/\(Z3 Z0 x.d.keep e.s.d.keep)/\(Z3 Y6 x.L e.s.L)/\(0=0/\x.fr.length=e.s.fr.length/\V0 x.fr.length (Y9 x.fr) (Y9 e.s.fr))/\(p=e.X.length/\Z7 (p) (X4 f) (X4 e.X))/\(Z3 Y2 X.H e.lk.H)/\(Z3 X8 X.W e.lk.W)/\True) ⟨e.s,⟨⟨(iT _),Z5⟩,h1⟩,e.X,⟨Z8,h2⟩,e.lk,⟨Z8,h3⟩,Z8⟩,rfl,b3m e 0⟩
def b4y:Con:=.rel ⟨Eng,λe=>[.agg e.ts],λe=>.agg e.ts,O3⟩
theorem b1K:GK 42 b4y:=gk func42<|by
 rintro(e:Eng) ⟨h1,h2,h3⟩;exact R1 (gC b1t (gC b2f gN)) func42 Y5 (α:=let p:=(0+e.X.length);∃(x:Sto),let q:=x.fr.length;(((yJ e.s x)/\True)/\SmS x)/\(Le 0 0/\U2 0 e.X.length 16)/\∃(X:Lks),((((Z3 Y2 e.lk.H X.H)/\(Z3 X8 e.lk.W X.W)/\True)/\True)/\a3C X)/\(Le (0+x.d.E.length) x.d.E.length/\Le (0+x.d.C.length) x.d.C.length/\Le (0+x.d.keep.length) x.d.keep.length/\Le (0+x.L.length) x.L.length/\Le (0+q) q/\Le (0+p) p)/\(Z3 Z6 x.d.E e.s.d.E)/\(Z3 Z2 x.d.C e.s.d.C)/\x.d.A=e.s.d.A/\(Z3 Z0 x.d.keep e.s.d.keep)/\x.ep=e.s.ep/\(Z3 Y6 x.L e.s.L)/\x.S=e.s.S/\(q=e.s.fr.length/\Z7 x.fr.length (sO (Y9 x.fr)) (X2 e.s.fr))/\x.J=e.s.J/\e.up=e.up/\(0+e.X.length=e.X.length/\Z7 p (X6 (tk 2 []) 0 (X4 e.X)) (X4 e.X))/\(Z3 Y2 X.H e.lk.H)/\(Z3 X8 X.W e.lk.W)/\e.N=e.N/\True) ⟨e.s,⟨⟨(iT _),Z5⟩,h1⟩,⟨U9 _,O6⟩,e.lk,⟨Z8,h3⟩,⟨cM _,cM _,cM _,cM _,cM _,C9⟩,Z8,Z8,rfl,Z8,rfl,Z8,rfl,Z8,rfl,rfl,⟨Z9,v6⟩,Z8⟩
def Eng.tn(e:Eng)(a b c d f g h i:Nat):List T:=[.osl a 0 e.s.d.E.length,.osl b 0 e.s.d.C.length,.bool e.s.d.A,.osl c 0 e.s.d.keep.length,Ji e.s.ep,.osl d 0 e.s.L.length,Ji e.s.S,.osl f 0 e.s.fr.length,Ji e.s.J,.bool e.up,.osl g 0 e.X.length,.osl h 0 e.lk.H.length,.osl i 0 e.lk.W.length,Ji e.N]
def gY(l:List T):Option Ob:=some (.arr false 1000000 14 1 λ_=>l)
def Eng.bx(e:Eng)(v:Nat):Y4:=[gY (e.tn 1 2 3 4 5 6 7 8),u5 e.s.d.E,z9 e.s.d.C,u2 e.s.d.keep,yV e.s.L,uV v e.s.fr e.s.fr.length,pA e.X,oD e.lk.H,iF e.lk.W]
def Eng.nx(e:Eng)(v:Nat):Y4:=[gY (e.tn 9 10 11 12 13 14 15 16),none,none,none,none,none,none,none,none,u5 e.s.d.E,z9 e.s.d.C,u2 e.s.d.keep,yV e.s.L,uV v e.s.fr e.s.fr.length,pA e.X,oD e.lk.H,iF e.lk.W]
def b1R:Eng:=⟨c7p,false,[],⟨[],[]⟩,0⟩
def apx(s:Sto)(r:Rec):Sto:=⟨s.d,s.ep,s.L++[U0 s r],s.S,s.fr,s.J⟩
def Q9(e:Eng)(k:Nat)(r:Rec):Rec:={r with t:=(e.X.getD k dz).id,p:=(e.X.getD k dz).Z}
def K7(e:Eng)(k:Nat)(r:Rec):Eng:={e with s:=apx e.s (Q9 e k r),X:=e.X.set k ⟨(e.X.getD k dz).id,(e.s.L.length:Int)+1⟩}
structure AddB(e:Eng)(tx:Int)(k:Nat)(r:Rec):Prop where
 at_:T9 e.X tx=k
 lt:k<e.X.length
 id:(e.X.getD k dz).id=tx
 ok:O9 (U0 e.s (Q9 e k r))=true
 tl:e.X.length<=1000
 ll:e.s.L.length<=1000
 sm:SmR r
def c7b:Con:=.reff ⟨Eng×Int×Rec×Nat×Nat,λx=>[.ref 0 0 0,Ji x.2.1,.agg x.2.2.1.ts],λx=>x.1.bx x.2.2.2.2,λx=>.agg (U0 x.1.s (Q9 x.1 x.2.2.2.1 x.2.2.1)).ts,λx=>(K7 x.1 x.2.2.2.1 x.2.2.1).nx x.2.2.2.2,λx=>AddB x.1 x.2.1 x.2.2.2.1 x.2.2.1⟩
theorem a85{L:List Txn}{k:Nat}{n:Int}(d:k<L.length)(j:Nat):setRow (X4 L) k 1 [Ji n] j=X4 (L.set k ⟨(L.getD k dz).id,n⟩) j:=by
 by_cases h:j=k
 ·subst h;rw[gM (by show 1<2;decide)]
  unfold X4;rw[Q8 (l:=L.set j _),j_k d]
  rfl
 ·rw[K6 (by show 1+1<=2;decide) h]
  unfold X4;rw[Q8 (l:=L.set k _),bI (Ne.symm h),←Q8]
theorem c0n{s:Sto}{r:Rec}(h:O9 (U0 s r)=true):P6 s r=apx s r:=by unfold P6;rw[if_pos h];rfl
theorem a4K(s:Sto)(r:Rec):(apx s r).L.getD s.L.length dz=U0 s r:=by
 show(s.L++[U0 s r]).getD _ _=_;rw[Q8,tD (U9 _)]
 simp
theorem iC:GK 55 c7b:=gk func55<|by
 rintro⟨e,tx,r,k,v⟩ ⟨A,h,i,f,q,L,M⟩;dsimp only at A h i f q L M;have u:(apx e.s (Q9 e k r)).L.length=e.s.L.length+1:=by show(e.s.L++[_]).length=_;simp
 have o:e.s.L.length<=60:=by
  have:=(R6 _).1 f;have:=this.2.2.2.1;have B:(U0 e.s (Q9 e k r)).l=(e.s.L.length:Int)+1:=rfl;omega
 refine r9 (gC uD (gC kQ gN)) func55 Y5 kP (α:=let c:=(e.s.L.length:Int);let f:=(e.s.L++[U0 e.s (Q9 e k r)]);let m:=(e.X.getD k dz);let w:=(e.X.set k (Txn.mk m.id (c+1)));∃(x:(Eng×Int)),let y:=(0+(T9 x.1.X x.2).toNat);let i:=(e.X.getD y dz).Z;((LeG e)/\((qT e x.1)/\tx=x.2/\True)/\M3 x.1.X.length)/\V3 (T9 x.1.X x.2) e.X.length/\Lt y e.X.length/\∃(X:a47.ι),let z:=(P6 X.1 X.2.1);let j:=z.L.length;let q:=((bif y.beq y then(↑j:Int) else i)-1);let u:=(z.L.getD (0+q.toNat) dz);(((0=0/\0=0)/\(r.e=X.2.1.e/\r.l=X.2.1.l/\tx=X.2.1.t/\r.k=X.2.1.k/\i=X.2.1.p/\r.n=X.2.1.n/\r.g=X.2.1.g/\r.s=X.2.1.s/\r.b=X.2.1.b/\r.a=X.2.1.a/\True)/\True)/\(LnS (v) (X.2.2) e.s X.1)/\X.1.L.length<=60/\SmR X.2.1)/\Lt y e.X.length/\Lt y e.X.length/\Ri q/\V3 q j/\Lt (0+q.toNat) j/\((u.e=e.s.ep/\u.l=c+1/\u.t=m.id/\u.k=r.k/\u.p=m.Z/\u.n=r.n/\u.g=r.g/\u.s=r.s/\u.b=r.b/\u.a=r.a/\True)/\True)/\(oo ((0=0/\z.d.E.length=e.s.d.E.length)/\(0=0/\z.d.C.length=e.s.d.C.length)/\z.d.A=e.s.d.A/\(0=0/\z.d.keep.length=e.s.d.keep.length)/\z.ep=e.s.ep/\(0=0/\j=f.length)/\z.S=e.s.S/\(0=0/\z.fr.length=e.s.fr.length)/\z.J=e.s.J/\e.up=e.up/\(0=0/\e.X.length=w.length)/\(0=0/\e.lk.H.length=e.lk.H.length)/\(0=0/\e.lk.W.length=e.lk.W.length)/\e.N=e.N/\True))/\T8 ((Z3 Z6 z.d.E e.s.d.E)/\(Z3 Z2 z.d.C e.s.d.C)/\(Z3 Z0 z.d.keep e.s.d.keep)/\(Z3 Y6 z.L f)/\(X.2.2=v/\z.fr.length=e.s.fr.length/\V0 z.fr.length (Y9 z.fr) (Y9 e.s.fr))/\(e.X.length=w.length/\Z7 e.X.length (setRow (X4 e.X) y 1 [Ji (↑j:Int)]) (X4 w))/\(Z3 Y2 e.lk.H e.lk.H)/\(Z3 X8 e.lk.W e.lk.W)/\True)) ⟨(e,tx),⟨Z8,Z8,vY⟩,?_⟩
 dsimp only;rw[A,C8,D8];refine⟨X9 h,h,(e.s,Q9 e k r,v),⟨⟨Z8,⟨rfl,rfl,i.symm,Z8⟩,Z5⟩,Z8,o,M⟩,h,h,?_⟩
 dsimp only;rw[c0n f,Nat.beq_refl,cond_true];have z:(0+(((apx e.s (Q9 e k r)).L.length:Int)-1).toNat)=e.s.L.length:=Z9
 rw[z,a4K];refine⟨Z1 Z9,⟨Z9,Z9⟩,H3,Z8,⟨rfl,rfl,Z8,Z8,rfl,Z8,rfl,Z8,rfl,Z8,rfl,rfl,⟨rfl,(w6 ..).symm⟩,Z8⟩,Z5,Z5,Z5,Z5,Z5,Z5,Z5,Z5,Z8,Z8,Z8,Z8,Z8,⟨(w6 ..).symm,λj _=>?_⟩,Z8⟩
 rw[a85 h,u];rfl
def uA:Rec:=⟨0,0,0,1,0,0,0,0,[],[]⟩
def yY(e:Eng):Eng:={e with X:=e.X++[⟨e.N,0⟩],N:=e.N+1}
def V5(e:Eng):Eng×Int×Int:=if e.up=true then
  if e.N>60∨e.X.length=10 then(e,0,6)
  else if(e.s.L.length:Int)+vN e+2<=60 then(K7 (yY e) e.X.length uA,e.N,0) else(e,0,7)
 else(e,0,15)
def b9x:Con:=.reff ⟨Eng×Nat,λx=>[.ref 0 0 0],λx=>x.1.bx x.2,λx=>.tup [Ji (V5 x.1).2.1,Ji (V5 x.1).2.2],λx=>(V5 x.1).1.nx x.2,λx=>U3 x.1=true/\tF x.1⟩
theorem Q1{e:Eng}(h:U3 e=true):G2 e.s=true/\wI e=true/\(if e.up then upE e else a4a e)=true:=by
 unfold U3 tC at h;simp only[M1] at h;exact⟨h.1,h.2.1,h.2.2⟩
theorem b4z{e:Eng}(h:U3 e=true)(u:e.up=true):∀i,i<e.X.length->y9 e i=false:=by
 have d:=(Q1 h).2.2;rw[if_pos u] at d;unfold upE at d;simp only[M1,wG] at d;exact P8.1 d.1.1.1
theorem c2t{e:Eng}(h:U3 e=true)(u:e.up=true):tE e:=b5g (rA (Q1 h).1) (Q1 h).2.1 (b4z h u)
theorem b63{e:Eng}(h:U3 e=true)(u:e.up=true){i:Nat}(hi:i<e.X.length):1<=(e.X.getD i dz).id/\(e.X.getD i dz).id<=e.N-1:=by
 have:=b4z h u i hi;unfold y9 at this;simp only[zY,yL,S2] at this;exact this.1.1
theorem b8v(L:List Txn)(t:Txn):Z7 (L.length+1) (X6 (X4 L) L.length λk=>List.take 2 (List.drop (k*2) t.ts)) (X4 (L++[t])):=by
 intro i hi;unfold X6 X4;by_cases h:i<L.length
 ·rw[sN h,Q8,Q8,tI h]
 ·have:i=L.length:=by omega
  subst this;rw[mT h];have:(L++[t]).getD L.length dz=t:=by rw[Q8,tD (U9 _)];simp
  rw[this];simp[Txn.ts]
theorem a7E{s:Sto}(h:G2 s=true):1<=s.ep/\s.ep<=60:=by
 obtain⟨⟨d,_⟩,_⟩:=(J8 s).1 h;obtain⟨_,_,a,b,_⟩:=(v9 s).1 d;exact⟨a,b⟩
theorem c0f{e:Eng}(h:U3 e=true)(u:e.up=true)(N:e.N<=60)(r:(e.s.L.length:Int)+vN e+2<=60):AddB (yY e) e.N e.X.length uA:=by
 obtain⟨A,l,n,_⟩:=E4 (Q1 h).2.1;have d:=a7E (Q1 h).1;have hL:(yY e).X.length=e.X.length+1:=by unfold yY;simp
 have g:(yY e).X.getD e.X.length dz=⟨e.N,0⟩:=by
  show(e.X++[_]).getD _ _=_;rw[Q8,tD (U9 _)]
  simp
 refine⟨?_,Z9,by rw[g],?_,Z9,by show e.s.L.length<=_;omega,⟨L8 _,L8 _⟩⟩
 ·unfold T9;rw[hL];refine O8 (Nat.lt_succ_self _) ?_ λj hj=>?_
  ·unfold G7;rw[g];simp
  ·have:=b63 h u hj;have f:(yY e).X.getD j dz=e.X.getD j dz:=by
    show(e.X++[_]).getD _ _=_;rw[Q8,tI hj,←Q8]
   unfold G7;rw[f];exact beq_eq_false_iff_ne.2 Z9
 ·refine(R6 _).2 ?_
  unfold D0 U0 Q9 uA;rw[g];show 1<=e.s.ep/\e.s.ep<=60/\_;dsimp only;have i:(yY e).s.L.length=e.s.L.length:=rfl;rw[i];refine⟨d.1,d.2,Z9,Z9,Z9,Z9,Z9,Z9,Z9,Z9,Z9,Z9,Z9,Z9,U4,λe=>Z9,λ_=>⟨Z9,Z9,U4,λ_ _=>Z8,λ_=>rfl,λe=>Z9,⟨λ_=>rfl,λ_=>rfl⟩⟩⟩
theorem c67{e:Eng}(h:(!e.up)=true):V5 e=(e,0,15):=by unfold V5;rw[if_neg F6]
theorem c7I{e:Eng}(h:(!e.up)=false)(d:(decide (e.N>60)||(e.X.length:Int)==10)=true):V5 e=(e,0,6):=by
 simp only[qY,g7,beq_iff_eq] at d;unfold V5;rw[if_pos F6,if_pos Z9]
theorem c7q{e:Eng}(h:(!e.up)=false)(d:(decide (e.N>60)||(e.X.length:Int)==10)=false)(f:¬ (e.s.L.length:Int)+vN e+2<=60):V5 e=(e,0,7):=by
 simp only[zY,qW,beq_eq_false_iff_ne,ne_eq] at d;unfold V5;rw[if_pos F6,if_neg Z9,if_neg f]
theorem c7R{e:Eng}(h:(!e.up)=false)(d:(decide (e.N>60)||(e.X.length:Int)==10)=false)(f:(e.s.L.length:Int)+vN e+2<=60):V5 e=(K7 (yY e) e.X.length uA,e.N,0):=by
 simp only[zY,qW,beq_eq_false_iff_ne,ne_eq] at d;unfold V5;rw[if_pos F6,if_neg Z9,if_pos f]
theorem b8a:GK 24 b9x:=gk func24<|by
 rintro⟨e,v⟩ ⟨h,B⟩;dsimp only at h B;refine r9 (gC pU (gC iC gN)) func24 Y5 kP (α:=let y:=(V5 e).2.2;let u:=(V5 e).2.1;br (!e.up) (((0=u/\15=y/\True)/\True)/\tB (v) (v) e (V5 e).1) (br (decide (e.N>60)||(e.X.length:Int)==10) (((0=u/\6=y/\True)/\True)/\tB (v) (v) e (V5 e).1) (∃(x:(Eng×Int)),((LeG e)/\((qT e x.1)/\2=x.2/\True)/\tE x.1/\o4 x.2)/\br (!decide ((x.1.s.L.length:Int)+(↑(vN x.1):Int)+x.2<=60)) (((0=u/\7=y/\True)/\True)/\tB (v) (v) e (V5 e).1) ((Le 1 1/\Le e.X.length e.X.length/\U2 e.X.length 1 16)/\Ri (e.N+1)/\∃(x:(Eng×Int×Rec×Nat×Nat)),let z:=x.2.2.2;let r:=x.1.s;let q:=x.2.2.1;(((0=0/\0=0)/\e.N=x.2.1/\(0=q.e/\0=q.l/\0=q.t/\1=q.k/\0=q.p/\0=q.n/\0=q.g/\0=q.s/\[]=q.b/\[]=q.a/\True)/\True)/\((oo ((0=0/\e.s.d.E.length=r.d.E.length)/\(0=0/\e.s.d.C.length=r.d.C.length)/\e.s.d.A=r.d.A/\(0=0/\e.s.d.keep.length=r.d.keep.length)/\e.s.ep=r.ep/\(0=0/\e.s.L.length=r.L.length)/\e.s.S=r.S/\(0=0/\e.s.fr.length=r.fr.length)/\e.s.J=r.J/\e.up=x.1.up/\(0=0/\e.X.length+1=x.1.X.length)/\(0=0/\e.lk.H.length=x.1.lk.H.length)/\(0=0/\e.lk.W.length=x.1.lk.W.length)/\e.N+1=x.1.N/\True))/\(Z3 Z6 e.s.d.E r.d.E)/\(Z3 Z2 e.s.d.C r.d.C)/\(Z3 Z0 e.s.d.keep r.d.keep)/\(Z3 Y6 e.s.L r.L)/\(v=z.2/\e.s.fr.length=r.fr.length/\V0 e.s.fr.length (Y9 e.s.fr) (Y9 r.fr))/\(e.X.length+1=x.1.X.length/\Z7 (e.X.length+1) (X6 (X4 e.X) e.X.length (tk 2 [Ji e.N,Ji 0])) (X4 x.1.X))/\(Z3 Y2 e.lk.H x.1.lk.H)/\(Z3 X8 e.lk.W x.1.lk.W)/\True)/\AddB x.1 x.2.1 z.1 q)/\((e.N=u/\0=y/\True)/\True)/\tB (z.2) (v) {x.1 with s:={x.1.s with L:=(r.L++[U0 x.1.s (Q9 x.1 z.1 q)])},X:=(x.1.X.set z.1 (Txn.mk (x.1.X.getD z.1 dz).id ((r.L.length:Int)+1)))} (V5 e).1)))) ⟨λhu=>?_,λhu=>⟨λhn=>?_,λhn=>?_⟩⟩
 ·rw[c67 hu];exact Z8
 ·rw[c7I hu hn];exact Z8
 ·have hu':e.up=true:=by simpa using hu
  refine⟨(e,2),⟨Z8,Z8,c2t h hu',a8K⟩,λhr=>?_,λhr=>?_⟩
  ·rw[c7q hu hn (by simpa using hr)]
   exact Z8
  ·have hr':(e.s.L.length:Int)+vN e+2<=60:=by simpa using hr
   obtain⟨A,i,j,_⟩:=E4 (Q1 h).2.1;have f:=hn;simp only[zY,qW] at f;have L:e.X.length+1=(e.X++[(⟨e.N,0⟩:Txn)]).length:=W6
   rw[c7R hu hn hr'];exact⟨⟨U9 _,U9 _,O6⟩,Z1 Z9,(yY e,e.N,uA,e.X.length,v),⟨Z8,⟨⟨rfl,rfl,Z8,Z8,rfl,Z8,rfl,Z8,rfl,Z8,rfl,rfl,⟨rfl,L⟩,Z8⟩,Z8,Z8,Z8,Z8,Z8,⟨L,b8v e.X ⟨e.N,0⟩⟩,Z8⟩,c0f h hu' Z9 hr'⟩,Z8⟩
theorem c1Q{f g:Nat->List T}:X6 f 0 g=g:=funext λi=>by unfold X6;rw[show Nat.blt i 0=false from rfl];rfl
def c6N:Con:=.rel ⟨Sto×Rec,λx=>[.agg x.1.ts,.agg x.2.ts],λx=>.tup [.agg (apx x.1 x.2).ts,Ji (x.1.L.length+1:Nat)],λx=>x.1.L.length<=1000⟩
theorem c3d:GK 215 c6N:=gk func215<|by
 rintro⟨s,r⟩ (h:s.L.length<=1000);have l:(s.L++[U0 s r]).length=s.L.length+1:=W6
 refine R1 (gC H7 gN) func215 Y5 (α:=let u:=(0+s.L.length+1);let z:=(s.L.length:Int);let q:=(0+s.L.length);Ri (z+1)/\(Le 0 0/\U2 0 s.L.length 96)/\(Le q q/\U2 q 1 96)/\Le (0+u) u/\((Z3 Z6 s.d.E s.d.E)/\(Z3 Z2 s.d.C s.d.C)/\s.d.A=s.d.A/\(Z3 Z0 s.d.keep s.d.keep)/\s.ep=s.ep/\(0+s.L.length+1=(s.L++[U0 s r]).length/\Z7 u (X6 (X6 (tk 10 []) 0 (Y6 s.L)) q (tk 10 [Ji s.ep,Ji (z+1),Ji r.t,Ji r.k,Ji r.p,Ji r.n,Ji r.g,Ji r.s,T.str r.b,T.str r.a])) (Y6 (s.L++[U0 s r])))/\s.S=s.S/\(Z3 X2 s.fr s.fr)/\s.J=s.J/\True)/\z+1=(↑(s.L.length+1):Int)/\True) ⟨Z1 Z9,⟨U9 _,O6⟩,⟨U9 _,O6⟩,C9,⟨P2,P2,rfl,P2,rfl,⟨Z9,?_⟩,rfl,P2,Z8⟩,Z8⟩
 rw[D8,c1Q];exact iN s.L (U0 s r)
def c2M:Con:=.rfz ⟨Eng×Nat×Rec,λx=>[.agg x.1.ts,Ji x.2.1,.agg x.2.2.ts],λx=>.tup [.agg (K7 x.1 x.2.1 x.2.2).ts,Ji (x.1.s.L.length+1:Nat)],λx=>x.2.1<x.1.X.length/\x.1.X.length<=1000/\x.1.s.L.length<=1000⟩
theorem b9s:GK 155 c2M:=gk func155<|by
 rintro⟨e,k,r⟩ ⟨h,f,L⟩;dsimp only at h f L;refine R1 (gC c3d (gC H7 gN)) func155 Y5 (α:=let u:=(k:Int).toNat;let z:=(0+e.X.length);let q:=(e.X.set k (Txn.mk (e.X.getD k dz).id ((e.s.L.length:Int)+1)));V3 (k:Int) e.X.length/\V3 (k:Int) e.X.length/\∃(x:(Sto×Rec)),let v:=(↑(x.1.L.length+1):Int);(((yJ e.s x.1)/\(r.e=x.2.e/\r.l=x.2.l/\(e.X.getD u dz).id=x.2.t/\r.k=x.2.k/\(e.X.getD u dz).Z=x.2.p/\r.n=x.2.n/\r.g=x.2.g/\r.s=x.2.s/\r.b=x.2.b/\r.a=x.2.a/\True)/\True)/\x.1.L.length<=1000)/\(Le 0 0/\U2 0 e.X.length 16)/\V3 (k:Int) z/\Lt (0+u) z/\Le (0+z) z/\((Z3 Z6 x.1.d.E e.s.d.E)/\(Z3 Z2 x.1.d.C e.s.d.C)/\x.1.d.A=e.s.d.A/\(Z3 Z0 x.1.d.keep e.s.d.keep)/\x.1.ep=e.s.ep/\(Z3 Y6 (x.1.L++[U0 x.1 x.2]) (e.s.L++[U0 e.s (Q9 e k r)]))/\x.1.S=e.s.S/\(Z3 X2 x.1.fr e.s.fr)/\x.1.J=e.s.J/\e.up=e.up/\(0+e.X.length=q.length/\Z7 z (setRow (X6 (tk 2 []) 0 (X4 e.X)) (0+u) 1 [Ji v]) (X4 q))/\(Z3 Y2 e.lk.H e.lk.H)/\(Z3 X8 e.lk.W e.lk.W)/\e.N=e.N/\True)/\v=(↑(e.s.L.length+1):Int)/\True) ⟨X9 h,X9 h,(e.s,Q9 e k r),⟨⟨iT _,⟨rfl,rfl,by rw[C8];rfl,rfl,by rw[C8];rfl,rfl,rfl,rfl,rfl,rfl,Z5⟩,Z5⟩,W5⟩,⟨U9 _,O6⟩,by rw[D8];exact X9 h,H3,C9,⟨Z8,Z8,rfl,Z8,rfl,Z8,rfl,Z8,rfl,rfl,⟨by rw[w6];omega,λj _=>?_⟩,Z8⟩,Z8⟩
 rw[C8,D8,c1Q];exact a85 h j
theorem c4j{e:Eng}(h:O3 e)(n:tE e):O3 (V5 e).1:=by
 have d:=n.1.1;have f:=n.2.1;unfold V5;split
 ·split
  ·exact h
  ·split
   ·refine⟨⟨h.1.1,?_,h.1.2.2⟩,?_,h.2.2⟩
    ·show(e.s.L++[_]).length<=_;simp;omega
    ·show((e.X++[_]).set _ _).length<=_;simp;omega
   ·exact h
 ·exact h
theorem c3x{e:Eng}(h:e.up=false):V5 e=(e,0,15):=c67 a0c
theorem c4X{e:Eng}(h:O3 e)(o:U3 e=true):O3 (V5 e).1:=by
 cases u:e.up with
 |true=>exact c4j h (c2t o u)
 |false=>rw[c3x u];exact h
def dr(x:Bz):Nat->Bz
 |0=>x
 |i+1=>(dr x i).drop 1
def sX(x:Bz):Nat->Bool
 |0=>false
 |i+1=>sX x i||(dr x i).isEmpty
def rcE(x:Bz):Fst:=T4 (dr x 9) (sX x 9)
def rcX(x:Bz):Rec:=⟨numR (dr x 1),numR (dr x 2),numR (dr x 3),numR (dr x 4),numR (dr x 5),numR (dr x 6),numR (dr x 7),numR (dr x 8),(rcE x).out.getD 0 [],(rcE x).out.getD 1 []⟩
def o5(x:Bz):Bool:= !(!(rcE x).fl&&(rcE x).l.isEmpty)||numR x !=108||(((rcE x).out.length:Nat):Int) !=2
def a1x:Rec:=⟨0,0,0,0,0,0,0,0,[],[]⟩
def R0(b:Bz):Rec×Int:=if R3 b=true then
  if o5 (X0 b)=true then(a1x,3) else if O9 (rcX (X0 b))=true then(rcX (X0 b),0) else(a1x,3)
 else(a1x,8)
def c4l:Con:=.reff ⟨Bz×Nat,λ_=>[.ref 0 0 0],λx=>[rdr (dr x.1 x.2) (sX x.1 x.2)],λx=>Ji (numR (dr x.1 x.2)),λx=>[rdr (dr x.1 (x.2+1)) (sX x.1 (x.2+1))],λ_=>True⟩
theorem b9p:GK 201 c4l:=gk func201<|λx _=>eR.1 _ _ _ _ none rfl trivial
def a2z:Con:=.rel ⟨Bz,λb=>[.bys b],λb=>.tup [.agg (R0 b).1.ts,Ji (R0 b).2],RdB⟩
theorem c0M(l:Bz)(n:Int)(d:0<=n)(h:n<=255):(S7 l n).length<=255:=by
 unfold S7;split
 ·rw[List.length_replicate];omega
 ·rw[List.length_take];omega
theorem yT{α:Type}(d:α)(L:List α)(x:α)(i:Nat)(hi:i<L.length+1):(L++[x]).getD i d=if i=L.length then x else L.getD i d:=by
 by_cases h:i=L.length
 ·subst h;rw[if_pos rfl,Q8,tD (U9 _)]
  simp
 ·rw[if_neg h,Q8,tI Z9,←Q8]
theorem b7g(l:Bz)(fl:Bool):∀i j,((F3 l fl i).out.getD j []).length<=255
 |0,j=>L8 _
 |i+1,j=>by
  have h:=r6 (F3 l fl i).l;show(((F3 l fl i).out++[S7 ((F3 l fl i).l.drop 1) (numR (F3 l fl i).l)]).getD j []).length<=255;by_cases hj:j<(F3 l fl i).out.length+1
  ·rw[yT [] _ _ _ hj];split
   ·exact c0M _ _ h.1 Z9
   ·exact b7g l fl i j
  ·rw[Q8,List.getElem?_eq_none (by rw[J6];simp;omega)]
   exact L8 _
theorem c2e{b:Bz}(h:R3 b=false):R0 b=(a1x,8):=by unfold R0;rw[if_neg gD]
theorem b5L{b:Bz}(h:R3 b=true)(B:o5 (X0 b)=true):R0 b=(a1x,3):=by unfold R0;rw[if_pos h,if_pos B]
theorem b45{b:Bz}(h:R3 b=true)(B:o5 (X0 b)=false)(r:O9 (rcX (X0 b))=false):R0 b=(a1x,3):=by unfold R0;rw[if_pos h,if_neg (by rw[B];simp),if_neg (by rw[r];simp)]
theorem a8n{b:Bz}(h:R3 b=true)(B:o5 (X0 b)=false)(r:O9 (rcX (X0 b))=true):R0 b=(rcX (X0 b),0):=by unfold R0;rw[if_pos h,if_neg (by rw[B];simp),if_pos r]
theorem bY:GK 133 a2z:=gk func133<|by
 intro(b:Bz) (hb:b.length<=1000);refine R1 (gC sW (gC b9p (gC aS (gC rK (gC tW gN))))) func133 Y5 (α:=let v:=((0=0/\0=0)/\True);let z:=(0=(R0 b).1.e/\0=(R0 b).1.l/\0=(R0 b).1.t/\0=(R0 b).1.k/\0=(R0 b).1.p/\0=(R0 b).1.n/\0=(R0 b).1.g/\0=(R0 b).1.s/\[]=(R0 b).1.b/\[]=(R0 b).1.a/\True);let pf:=(z/\3=(R0 b).2/\True);bd ((b.length:Int)>65536) (z/\2=(R0 b).2/\True) (∃(x:tR.ι),((b=x/\True)/\v5 x)/\br (!R3 x) (z/\8=(R0 b).2/\True) (∃(r:(Bz×Nat)),(v/\((1=1/\Z7 1 (λ(d:Nat)=>[T.bys (X0 x),T.bool false]) λ(x:Nat)=>[T.bys (dr r.1 r.2),T.bool (sX r.1 r.2)])/\True)/\True)/\∃(x:(Bz×Nat)),let w:=(dr x.1 x.2);(v/\((1=1/\Z7 1 (λ(x:Nat)=>[T.bys (dr r.1 (r.2+1)),T.bool (sX r.1 (r.2+1))]) λ(d:Nat)=>[T.bys w,T.bool (sX x.1 x.2)])/\True)/\True)/\∃(d:(Bz×Nat)),let m:=(dr d.1 d.2);(v/\((1=1/\Z7 1 (λ(f:Nat)=>[T.bys (dr x.1 (x.2+1)),T.bool (sX x.1 (x.2+1))]) λ(x:Nat)=>[T.bys m,T.bool (sX d.1 d.2)])/\True)/\True)/\∃(f:(Bz×Nat)),let c:=(dr f.1 f.2);(v/\((1=1/\Z7 1 (λ(x:Nat)=>[T.bys (dr d.1 (d.2+1)),T.bool (sX d.1 (d.2+1))]) λ(x:Nat)=>[T.bys c,T.bool (sX f.1 f.2)])/\True)/\True)/\∃(q:(Bz×Nat)),let pa:=(dr q.1 q.2);(v/\((1=1/\Z7 1 (λ(x:Nat)=>[T.bys (dr f.1 (f.2+1)),T.bool (sX f.1 (f.2+1))]) λ(x:Nat)=>[T.bys pa,T.bool (sX q.1 q.2)])/\True)/\True)/\∃(o:(Bz×Nat)),let pb:=(dr o.1 o.2);(v/\((1=1/\Z7 1 (λ(x:Nat)=>[T.bys (dr q.1 (q.2+1)),T.bool (sX q.1 (q.2+1))]) λ(x:Nat)=>[T.bys pb,T.bool (sX o.1 o.2)])/\True)/\True)/\∃(i:(Bz×Nat)),let pc:=(dr i.1 i.2);(v/\((1=1/\Z7 1 (λ(x:Nat)=>[T.bys (dr o.1 (o.2+1)),T.bool (sX o.1 (o.2+1))]) λ(x:Nat)=>[T.bys pc,T.bool (sX i.1 i.2)])/\True)/\True)/\∃(j:(Bz×Nat)),let pd:=(dr j.1 j.2);(v/\((1=1/\Z7 1 (λ(x:Nat)=>[T.bys (dr i.1 (i.2+1)),T.bool (sX i.1 (i.2+1))]) λ(x:Nat)=>[T.bys pd,T.bool (sX j.1 j.2)])/\True)/\True)/\∃(X:(Bz×Nat)),let pe:=(dr X.1 X.2);let u:=(T4 (dr X.1 (X.2+1)) (sX X.1 (X.2+1)));let y:=u.out;(v/\((1=1/\Z7 1 (λ(x:Nat)=>[T.bys (dr j.1 (j.2+1)),T.bool (sX j.1 (j.2+1))]) λ(x:Nat)=>[T.bys pe,T.bool (sX X.1 X.2)])/\True)/\True)/\br (!(! u.fl&&u.l.isEmpty)||numR (dr r.1 r.2) !=108||(↑y.length:Int) !=2) pf (V3 (0:Int) y.length/\V3 (1:Int) y.length/\b2q (y.getD 1 [])/\br (!O9 (Rec.mk (numR w) (numR m) (numR c) (numR pa) (numR pb) (numR pc) (numR pd) (numR pe) (y.getD 0 []) (y.getD 1 []))) pf ((numR w=(R0 b).1.e/\numR m=(R0 b).1.l/\numR c=(R0 b).1.t/\numR pa=(R0 b).1.k/\numR pb=(R0 b).1.p/\numR pc=(R0 b).1.n/\numR pd=(R0 b).1.g/\numR pe=(R0 b).1.s/\y.getD 0 []=(R0 b).1.b/\y.getD 1 []=(R0 b).1.a/\True)/\0=(R0 b).2/\True))))) ⟨λh=>by have:=B3 h;omega,λ_=>⟨b,⟨Z8,a0v⟩,λh=>?_,λh=>⟨(X0 b,0),⟨P2,Z8⟩,(X0 b,1),⟨P2,Z8⟩,(X0 b,2),⟨P2,Z8⟩,(X0 b,3),⟨P2,Z8⟩,(X0 b,4),⟨P2,Z8⟩,(X0 b,5),⟨P2,Z8⟩,(X0 b,6),⟨P2,Z8⟩,(X0 b,7),⟨P2,Z8⟩,(X0 b,8),⟨P2,Z8⟩,λhc=>?_,λhc=>?_⟩⟩⟩
 ·rw[c2e F6]
  exact P2
 ·rw[b5L F6 hc]
  exact P2
 ·have hu:R3 b=true:=by simpa using h
  have hc:o5 (X0 b)=false:=hc;have u:(rcE (X0 b)).out.length=2:=by
   unfold o5 at hc;simp only[zY,bne_eq_false_iff_eq] at hc;omega
  refine⟨⟨Z9,by show(0:Int)<((rcE (X0 b)).out.length:Int);omega⟩,⟨Z9,by show(1:Int)<((rcE (X0 b)).out.length:Int);omega⟩,by have:=b7g (dr (X0 b) 9) (sX (X0 b) 9) (numR (dr (X0 b) 9)).toNat 1;unfold b2q;show((F3 (dr (X0 b) 9) (sX (X0 b) 9) (numR (dr (X0 b) 9)).toNat).out.getD 1 []).length<_;omega,λR=>?_,λR=>?_⟩
  ·have R:(!O9 (rcX (X0 b)))=true:=by
    unfold rcX rcE;dsimp only[Nat.reduceAdd] at R ⊢;exact R
   have R:O9 (rcX (X0 b))=false:=by rw[wG] at R;exact R
   rw[b45 hu hc R];exact P2
  ·have R:(!O9 (rcX (X0 b)))=false:=by
    unfold rcX rcE;dsimp only[Nat.reduceAdd] at R ⊢;exact R
   have R:O9 (rcX (X0 b))=true:=by rw[yL] at R;exact R
   rw[a8n hu hc R];unfold rcX rcE;dsimp only[Nat.reduceAdd];exact Z8
def lgR(d:Dsk)(i:Nat):Rec×Int:=R0 (U1 d (9+i))
def lgE(d:Dsk)(i:Nat):Int:=if i=0 then 1 else(lgR d (i-1)).1.e
def lgB(d:Dsk)(ep:Int)(i:Nat):Bool:=((lgR d i).2 !=0||(lgR d i).1.l !=(i:Int)+1|| !V8 (lgR d i).1.e (lgE d i) ep)
def yX(d:Dsk)(m:Nat):List Rec:=(List.range m).map λi=>(lgR d i).1
def oA(d:Dsk)(ep:Int):Nat:=if S5 (d.E.length-9) (lgB d ep)= -1 then d.E.length-9 else(S5 (d.E.length-9) (lgB d ep)).toNat
def LgS(x:Dsk×Int):Prop:=H9 x.1
def b1j(d:Dsk)(ep:Int):Nat->Ann
 |0=>.one (V2 (d.E.length-9) (lgB d ep)) (λx=>⟨[(1,Ji ep),(2,.ref 0 0 0),(5,.osl 1 0 x.1),(6,Ji (lgE d x.1)),(7,Ji (9+x.1:Nat))],[oN d,yV (yX d x.1)]⟩) (λx=>d.E.length-x.1) a5O [.box 0,.arr 3] (λ_=>Y5)
 |_=>.none
def b1Z:Con:=.rmk ⟨Dsk×Int,λx=>[.agg x.1.ts,Ji x.2],λ_=>[],λx=>.osl 0 0 (oA x.1 x.2),λx=>[yV (yX x.1 (oA x.1 x.2))],LgS⟩
theorem xX(d:Dsk)(m:Nat):(yX d m).length=m:=by unfold yX;simp
theorem c3P(d:Dsk){m i:Nat}(h:i<m):(yX d m).getD i dz=(lgR d i).1:=by
 unfold yX;rw[Q8,oB,List.getElem?_range h]
 rfl
theorem a38(d:Dsk)(m:Nat):yX d (m+1)=yX d m++[(lgR d m).1]:=by
 unfold yX;rw[List.range_succ,List.map_append];rfl
theorem b56{d:Dsk}{ep:Int}{m:Nat}(M:m<d.E.length-9)(h:lgB d ep m=true)(hp:∀i,i<m->lgB d ep i=false):oA d ep=m:=by
 unfold oA;rw[O8 M h hp,if_neg Z9,C8]
theorem b0C{d:Dsk}{ep:Int}{m:Nat}(h:m=d.E.length-9)(hp:∀i,i<m->lgB d ep i=false):oA d ep=m:=by
 unfold oA;rw[L5 (λi hi=>hp i Z9),if_pos rfl,h]
theorem a8F:GK 75 b1Z:=gk func75<|by
 rintro⟨d,ep⟩ (hd:H9 d);have h:=hd;obtain⟨Q,o,j,q,_⟩:=h;refine⟨r9 (gC H7 (gC dM (gC bY (gC P1 gN)))) func75 (b1j d ep) [[.arr 1]] (α:=(∃(x:V2 (d.E.length-9) (lgB d ep)),(ep=ep/\(0=0/\0=0)/\(0=0/\0=x.1)/\1=lgE d x.1/\9=(↑(9+x.1):Int)/\True)/\(oo (zA d d))/\(0=(yX d x.1).length/\Z7 0 (tk 10 []) (Y6 (yX d x.1)))/\True)/\∀(x:V2 (d.E.length-9) (lgB d ep)),let z:=x.1;let r:=(↑(9+z):Int);let q:=(((0=0/\z=oA d ep)/\True)/\(Z3 Y6 (yX d z) (yX d (oA d ep)))/\True);bd (r<(d.E.length:Int)) (∃(f:oO.ι),(((zA d f.1)/\r=(f.2:Int)/\True)/\AtB f)/\Lt (U1 f.1 f.2).length 140737488355329/\∃(X:(Bz)),let u:=(R0 X).1.e;((U1 f.1 f.2=X/\True)/\RdB X)/\(((R0 X).2 !=0)=false->Ri ((z:Int)+1))/\br ((R0 X).2 !=0||(R0 X).1.l !=(z:Int)+1|| !V8 u (lgE d z) ep) q ((Le x.1 (yX d z).length/\U2 x.1 1 96)/\Ri (r+1)/\∃(y:V2 (d.E.length-9) (lgB d ep)),let v:=y.1;((ep=ep/\(0=0/\0=0)/\(0=0/\z+1=v)/\u=lgE d v/\r+1=(↑(9+v):Int)/\True)/\(oo (zA d d))/\(z+1=(yX d v).length/\Z7 (z+1) (X6 (Y6 (yX d z)) x.1 (tk 10 [Ji u,Ji (R0 X).1.l,Ji (R0 X).1.t,Ji (R0 X).1.k,Ji (R0 X).1.p,Ji (R0 X).1.n,Ji (R0 X).1.g,Ji (R0 X).1.s,T.str (R0 X).1.b,T.str (R0 X).1.a])) (Y6 (yX d v)))/\True)/\Lt (d.E.length-v) (d.E.length-z))) q) ⟨⟨E7,Z8,Z8,⟨(xX d 0).symm,A8⟩,Z5⟩,λx=>⟨λhc=>?_,λhc=>?_⟩⟩,rfl,kU _⟩
 ·have hc:9+x.1<d.E.length:=by have:=B3 hc;omega
  have i:=mK hd hc;have hx:=xX d x.1;refine⟨(d,9+x.1),⟨Z8,hc,W5⟩,D1,U1 d (9+x.1),⟨Z8,by show(U1 d (9+x.1)).length<=1000;omega⟩,λ_=>Z1 Z9,λhb=>?_,λhb=>?_⟩
  ·have hb:lgB d ep x.1=true:=hb;rw[b56 Z9 hb x.2.2]
   exact Z8
  ·have hb:lgB d ep x.1=false:=hb;refine⟨⟨by rw[hx];exact U9 _,O6⟩,Z1 Z9,x.succ Z9 hb,⟨⟨rfl,Z8,Z8,?_,by dsimp only[V2.succ];omega,Z5⟩,⟨rfl,rfl,eqD _⟩,⟨(xX d (x.1+1)).symm,?_⟩,Z5⟩,by unfold Lt;dsimp only[V2.succ];omega⟩
   ·dsimp only[V2.succ];unfold lgE;rw[if_neg Z9]
    rfl
   ·show Z7 _ _ (Y6 (yX d (x.1+1)));rw[a38];have:=iN (yX d x.1) (lgR d x.1).1;rw[hx] at this;exact this
 ·have hx:x.1=d.E.length-9:=by have:=x.2.1;have:=k5 hc;omega
  rw[b0C hx x.2.2];exact Z8
theorem c5E{r:Bz}(R:0<r.length):(∃out,P3 r=some out/\out.length=2/\T4 r false=⟨[],false,out⟩)∨((∀out,P3 r=some out->out.length≠2)/\(!(!(T4 r false).fl&&(T4 r false).l.isEmpty)||(((T4 r false).out.length:Nat):Int) !=2)=true):=by
 have d:=b34 r R (C1 r);have n:(numR r).toNat=C1 r:=by unfold numR C1;exact C8 _
 have e:T4 r false=F3 r false (C1 r):=by unfold T4;rw[n]
 have hall:P3 r=if C1 r>100 then none else match xM r (C1 r) with
   |some (p,out)=>if p=r.length then some out else none
   |none=>none:=by
  unfold P3;by_cases hc:C1 r>100
  ·rw[if_pos (.inr hc),if_pos hc]
  ·rw[if_neg Z9,if_neg hc]
   rfl
 rw[e];cases f:xM r (C1 r) with
 |none=>
  rw[f] at d hall;simp only at d;have hall:P3 r=none:=by rw[hall];split<;>rfl
  refine .inr ⟨λout h=>(by rw[hall] at h;cases h),?_⟩
  rw[d];rfl
 |some y=>
  obtain⟨p,out⟩:=y;rw[f] at d hall;simp only at d hall;obtain⟨d,L⟩:=d;rw[d];have O:out.length=C1 r:=fZ f;by_cases hp:p=r.length
  ·have hem:r.drop p=[]:=by rw[List.drop_eq_nil_iff];omega
   rw[if_pos hp] at hall;by_cases g:out.length=2
   ·rw[if_neg Z9] at hall
    exact .inl ⟨out,hall,g,by rw[hem]⟩
   ·refine .inr ⟨λo h=>?_,?_⟩
    ·rw[hall] at h;split at h
     ·cases h
     ·cases h;exact g
    ·simp only[bne_iff_ne.2 (show((out.length:Nat):Int)≠2 by omega),Bool.or_true]
  ·have hem:(r.drop p).isEmpty=false:=by
    rw[Bool.eq_false_iff,ne_eq,List.isEmpty_iff,List.drop_eq_nil_iff];omega
   have hall:P3 r=none:=by rw[hall,if_neg hp];split<;>rfl
   refine .inr ⟨λout h=>(by rw[hall] at h;cases h),?_⟩
   simp[hem]
theorem nJ(x:Bz):∀i,dr x i=x.drop i
 |0=>rfl
 |i+1=>by
  show(dr x i).drop 1=_;rw[nJ x i,List.drop_drop]
theorem a1u(x:Bz):∀i,sX x i=decide (x.length<i)
 |0=>rfl
 |i+1=>by
  show(sX x i||(dr x i).isEmpty)=_;rw[a1u x i,nJ,Bool.eq_iff_iff,qY,g7,List.isEmpty_iff,List.drop_eq_nil_iff,g7];omega
theorem b2M{x:Bz}(h:x.length<10):o5 x=true:=by
 have f:(rcE x).fl=true:=by
  unfold rcE;rw[nJ,a1u];by_cases d:x.length=9
  ·rw[List.drop_eq_nil_iff.2 Z9]
   exact a7a _ _
  ·rw[pH Z9]
   exact a14 _ _
 unfold o5;rw[f];rfl
def wS(t:Bz):{r:Bz×Bool//r=(X0 t,R3 t)}:=Classical.choice ⟨⟨_,rfl⟩⟩
def a1m:Con:=.rel ⟨Bz,λt=>[.str t],λt=>.tup [.str (wS t).1.1,.bool (wS t).1.2],v5⟩
theorem bT:GK 240 a1m:=gk func240<|by
 intro(t:Bz) ht;have h:=nK.1 t ht;have d:(wS t).1.1=X0 t:=by rw[(wS t).2]
 have e:(wS t).1.2=R3 t:=by rw[(wS t).2]
 show U5 _ _ _ (.tup [.str (wS t).1.1,.bool (wS t).1.2]);rw[d,e];exact h
def bQ(t:Bz):{r:List (Bz)×Bool//r=((P3 t).getD [],(P3 t).isSome)}:=Classical.choice ⟨⟨_,rfl⟩⟩
def a7V:Con:=.rel ⟨Bz,λt=>[.str t],λt=>.tup [yC (bQ t).1.1,.bool (bQ t).1.2],v5⟩
theorem a5I:GK 241 a7V:=gk func241<|by
 intro(t:Bz) ht;have h:=fV.1 t ht;have d:(bQ t).1.1=(P3 t).getD []:=by rw[(bQ t).2]
 have e:(bQ t).1.2=(P3 t).isSome:=by rw[(bQ t).2]
 show U5 _ _ _ (.tup [yC (bQ t).1.1,.bool (bQ t).1.2]);rw[d,e];exact h
def l4p(t:Bz):{r:Rec×Bool//r=(if R3 t=true/\o5 (X0 t)=false then rcX (X0 t) else a1x,(R0 t).2==0)}:=Classical.choice ⟨⟨_,rfl⟩⟩
def x7(t:Bz):Rec:=(l4p t).1.1
def l4k(t:Bz):Bool:=(l4p t).1.2
theorem b6g(t:Bz):x7 t=if R3 t=true/\o5 (X0 t)=false then rcX (X0 t) else a1x:=by unfold x7;rw[(l4p t).2]
theorem a6k(t:Bz):l4k t=((R0 t).2==0):=by unfold l4k;rw[(l4p t).2]
def b12:Con:=.rel ⟨Bz,λt=>[.str t],λt=>.tup [.agg (x7 t).ts,.bool (l4k t)],RdB⟩
theorem b7U{x:Bz}(h:10<=x.length):rcE x=T4 (x.drop 9) false:=by
 unfold rcE;rw[nJ,a1u,tH Z9]
theorem c3w(x:Bz)(i:Nat):IntKind.i64.wrap ((x.getD i 0).toNat:Int)=numR (dr x i):=by
 rw[uW,nJ];unfold numR;rw[Q8,Q8,List.getElem?_drop,Nat.add_zero]
theorem b6e{t:Bz}(h:¬ (R3 t=true/\o5 (X0 t)=false)):x7 t=a1x/\l4k t=false:=by
 rw[b6g,a6k,if_neg h];refine⟨rfl,?_⟩
 cases u:R3 t with
 |false=>rw[c2e u];rfl
 |true=>
  cases B:o5 (X0 t) with
  |true=>rw[b5L u B];rfl
  |false=>exact absurd ⟨u,B⟩ h
theorem a8c{t:Bz}(h:R3 t=true)(B:o5 (X0 t)=false):x7 t=rcX (X0 t)/\l4k t=O9 (rcX (X0 t)):=by
 rw[b6g,a6k,if_pos ⟨h,B⟩];refine⟨rfl,?_⟩
 cases r:O9 (rcX (X0 t)) with
 |true=>rw[a8n h B r];rfl
 |false=>rw[b45 h B r];rfl
theorem c2U(t:Bz):(X0 t).length<=t.length:=by
 unfold X0;split
 ·rw[List.length_take];omega
 ·exact L8 _
theorem a5K:GK 218 b12:=gk func218<|by
 intro(t:Bz) (hb:t.length<=1000);have v:=c2U t;have o:(wS t).1.1=X0 t:=by rw[(wS t).2]
 have u:(wS t).1.2=R3 t:=by rw[(wS t).2]
 have z:∀{p:Bool},(¬ (R3 t=true/\o5 (X0 t)=false))->((0:Int)=(x7 t).e/\(0:Int)=(x7 t).l/\(0:Int)=(x7 t).t/\(0:Int)=(x7 t).k/\(0:Int)=(x7 t).p/\(0:Int)=(x7 t).n/\(0:Int)=(x7 t).g/\(0:Int)=(x7 t).s/\[]=(x7 t).b/\[]=(x7 t).a/\True)/\false=l4k t/\True:=λh=>by
  rw[(b6e h).1,(b6e h).2];exact Z8
 refine R1 (gC bT (gC a5I (gC mG gN))) func218 Y5 (α:=let u:=(0:UInt8);let z:=((0=(x7 t).e/\0=(x7 t).l/\0=(x7 t).t/\0=(x7 t).k/\0=(x7 t).p/\0=(x7 t).n/\0=(x7 t).g/\0=(x7 t).s/\[]=(x7 t).b/\[]=(x7 t).a/\True)/\false=l4k t/\True);∃(x:(Bz)),let r:=(wS x).val.fst.length;let q:=(wS x).val.fst.getD;let pa:=(↑(q 8 u).toNat:Int);let i:=(↑(q 7 u).toNat:Int);let d:=(↑(q 6 u).toNat:Int);let c:=(↑(q 5 u).toNat:Int);let f:=(↑(q 4 u).toNat:Int);let m:=(↑(q 3 u).toNat:Int);let j:=(↑(q 2 u).toNat:Int);let w:=(↑(q 1 u).toNat:Int);((t=x/\True)/\v5 x)/\((!(wS x).val.snd||decide ((↑r:Int)<10))=false->V3 (0:Int) r)/\br (!(wS x).val.snd||decide ((↑r:Int)<10)||(↑(q 0 u).toNat:Int) !=108) z (lY (9:Int) r/\∃(X:(Bz)),let y:=(bQ X).val.fst.length;let v:=(bQ X).val.fst.getD;((List.drop 9 (wS x).val.fst=X/\True)/\v5 X)/\br (!(bQ X).val.snd||(↑y:Int) !=2) z (V3 (1:Int) r/\V3 (2:Int) r/\V3 (3:Int) r/\V3 (4:Int) r/\V3 (5:Int) r/\V3 (6:Int) r/\V3 (7:Int) r/\V3 (8:Int) r/\V3 (0:Int) y/\V3 (1:Int) y/\M3 (v 1 []).length/\(IntKind.i64.wrap w=(x7 t).e/\IntKind.i64.wrap j=(x7 t).l/\IntKind.i64.wrap m=(x7 t).t/\IntKind.i64.wrap f=(x7 t).k/\IntKind.i64.wrap c=(x7 t).p/\IntKind.i64.wrap d=(x7 t).n/\IntKind.i64.wrap i=(x7 t).g/\IntKind.i64.wrap pa=(x7 t).s/\v 0 []=(x7 t).b/\v 1 []=(x7 t).a/\True)/\O9 (Rec.mk (IntKind.i64.wrap w) (IntKind.i64.wrap j) (IntKind.i64.wrap m) (IntKind.i64.wrap f) (IntKind.i64.wrap c) (IntKind.i64.wrap d) (IntKind.i64.wrap i) (IntKind.i64.wrap pa) (v 0 []) (v 1 []))=l4k t/\True))) ⟨t,⟨Z8,a0v⟩,?_⟩
 rw[o,u];refine⟨λh=>?_,λh=>z (p:=true) λq=>?_,λh=>?_⟩
 ·simp only[zY,qW] at h;exact⟨Z9,Z9⟩
 ·obtain⟨hu,R⟩:=q;have hl:10<=(X0 t).length:=by
   by_cases hl:(X0 t).length<10
   ·rw[b2M hl] at R;cases R
   ·omega
  have h108:numR (X0 t)=108:=by
   unfold o5 at R;simp only[zY,bne_eq_false_iff_eq] at R;exact R.1.2
  have h108:(((X0 t).getD 0 0).toNat:Int)=108:=h108;rw[hu,h108,tH Z9] at h
  cases h
 ·simp only[zY,qW,yL,bne_eq_false_iff_eq] at h;obtain⟨⟨hu,hl⟩,h108⟩:=h;have hl:10<=(X0 t).length:=by omega
  have N:numR (X0 t)=108:=h108;have j:(bQ ((X0 t).drop 9)).1.1=(P3 ((X0 t).drop 9)).getD []:=by rw[(bQ _).2]
  have F:(bQ ((X0 t).drop 9)).1.2=(P3 ((X0 t).drop 9)).isSome:=by rw[(bQ _).2]
  have hd:((X0 t).drop 9).length=(X0 t).length-9:=List.length_drop;refine⟨⟨Z9,Z9⟩,(X0 t).drop 9,⟨Z8,a0v⟩,?_⟩
  rw[j,F];have hbad:o5 (X0 t)=(!(!(T4 ((X0 t).drop 9) false).fl&&(T4 ((X0 t).drop 9) false).l.isEmpty)||(((T4 ((X0 t).drop 9) false).out.length:Nat):Int) !=2):=by
   unfold o5;rw[b7U hl,N];simp
  rcases c5E (r:=(X0 t).drop 9) Z9 with⟨out,A,h2,hf⟩|⟨A,hf⟩
  ·have hg:o5 (X0 t)=false:=by rw[hbad,hf,h2];rfl
   have d:(rcE (X0 t)).out=out:=by rw[b7U hl,hf]
   have f:=b7g (dr (X0 t) 9) (sX (X0 t) 9) (numR (dr (X0 t) 9)).toNat 1;have f:(out.getD 1 []).length<=255:=by rw[←d];exact f
   rw[A];refine⟨λC=>?_,λ_=>?_⟩
   ·simp[h2] at C
   ·simp only[c3w];rw[(a8c hu hg).1,(a8c hu hg).2];unfold rcX;rw[d];show _/\_/\_/\_/\_/\_/\_/\_/\V3 0 out.length/\V3 1 out.length/\_;exact⟨⟨Z9,Z9⟩,⟨Z9,Z9⟩,⟨Z9,Z9⟩,⟨Z9,Z9⟩,⟨Z9,Z9⟩,⟨Z9,Z9⟩,⟨Z9,Z9⟩,⟨Z9,Z9⟩,⟨Z9,Z9⟩,⟨Z9,Z9⟩,by show(out.getD 1 []).length<_;omega,⟨rfl,rfl,rfl,rfl,rfl,rfl,rfl,rfl,rfl,rfl,Z5⟩,rfl,Z5⟩
  ·have hg:o5 (X0 t)=true:=by rw[hbad];exact hf
   refine⟨λ_=>z (p:=true) λq=>(by rw[hg] at q;cases q.2),λC=>?_⟩
   cases i:P3 ((X0 t).drop 9) with
   |none=>rw[i] at C;simp at C
   |some out=>
    rw[i] at C;have:=A out i;simp at C;omega
def b51:Con:=.rel ⟨Dsk×Int,λx=>[.agg x.1.ts,Ji x.2],λx=>pB (yX x.1 (oA x.1 x.2)),λx=>H9 x.1/\x.1.E.length=69⟩
def b5p(d:Dsk)(ep:Int):Nat->Ann
 |0=>.one (V2 (d.E.length-9) (lgB d ep)) (λx=>⟨[(1,Ji ep),(2,.ref 0 0 0),(5,.osl 1 0 x.1),(6,Ji (x.1+1:Nat))],[oN d,yV (yX d x.1)]⟩) (λx=>d.E.length-x.1) a5O [.box 0,.at_ 5] (λ_=>Y5)
 |_=>.none
theorem c5U{t:Bz}(h:l4k t=true):R0 t=(x7 t,0)/\O9 (x7 t)=true:=by
 by_cases q:R3 t=true/\o5 (X0 t)=false
 ·obtain⟨d,e⟩:=a8c q.1 q.2;rw[e] at h;rw[d];exact⟨a8n q.1 q.2 h,h⟩
 ·rw[(b6e q).2] at h;cases h
theorem c6a{r:Rec}(h:O9 r=true):1<=r.e:=by
 have:=(R6 r).1 h;unfold D0 at this;exact this.1
theorem a9K{d:Dsk}{ep:Int}{x:Nat}:(!l4k (U1 d (9+x))||(x7 (U1 d (9+x))).l !=((x+1:Nat):Int)||decide ((x7 (U1 d (9+x))).e>ep)||decide (((x+1:Nat):Int)>1)&&decide (((yX d x).getD (0+(((x+1:Nat):Int)-2).toNat) dz).e>(x7 (U1 d (9+x))).e))=lgB d ep x:=by
 cases f:l4k (U1 d (9+x)) with
 |false=>
  have g:((lgR d x).2==0)=false:=by rw[←f,a6k];rfl
  unfold lgB bne;rw[g];rfl
 |true=>
  obtain⟨h,o⟩:=c5U f;have i:=c6a o;have h:lgR d x=(x7 (U1 d (9+x)),0):=h;unfold lgB;rw[h];by_cases hx:x=0
  ·subst hx;have h1:lgE d 0=1:=by unfold lgE;rw[if_pos rfl]
   rw[h1];simp only[Bool.not_true,Bool.false_or,bne_self_eq_false];rw[Bool.eq_iff_iff];simp only[qY,M1,wG,←Bool.not_eq_true,bne_iff_ne,g7,ne_eq,S2];omega
  ·have L:(yX d x).getD (0+(((x+1:Nat):Int)-2).toNat) dz=(lgR d (x-1)).1:=by
    rw[show 0+(((x+1:Nat):Int)-2).toNat=x-1 by omega]
    exact c3P d Z9
   rw[L];simp only[Bool.not_true,Bool.false_or,bne_self_eq_false];rw[Bool.eq_iff_iff];simp only[lgE,if_neg hx,qY,M1,wG,←Bool.not_eq_true,bne_iff_ne,g7,ne_eq,S2];omega
theorem b2J:GK 157 b51:=gk func157<|by
 rintro⟨d,ep⟩ ⟨hd,j⟩;dsimp only at hd j;refine R1 (gC dN (gC a5K (gC H7 gN))) func157 (b5p d ep) (α:=let w:=(yX d (oA d ep));(∃(x:V2 (d.E.length-9) (lgB d ep)),(ep=ep/\(0=0/\0=0)/\(0=0/\0=x.1)/\1=(↑(x.1+1):Int)/\True)/\(oo (zA d d))/\(0=(yX d x.1).length/\Z7 0 (tk 10 []) (Y6 (yX d x.1)))/\True)/\∀(x:V2 (d.E.length-9) (lgB d ep)),let v:=x.1;let u:=(yX d v);let r:=(Le (0+v) u.length/\v=w.length/\Z7 x.1 (Y6 u) (Y6 w));let q:=(↑(v+1):Int);(decide (q<=60)=true->Ri (9+q))/\(decide (q<=60)=true->Ri (9+q-1))/\br (decide (q<=60)&&decide (9+q-1<(d.E.length:Int))) (Ri (9+q)/\Ri (9+q-1)/\∃(f:oO.ι),(((zA d f.1)/\9+q-1=(f.2:Int)/\True)/\AtB f)/\∃(X:(Bz)),let z:=(!l4k X||(x7 X).l !=q||decide ((x7 X).e>ep));((U1 f.1 f.2=X/\True)/\RdB X)/\(z=false->decide (q>1)=true->Ri (q-2))/\(z=false->decide (q>1)=true->V3 (q-2) v)/\(z=false->decide (q>1)=true->Lt (0+(q-2).toNat) u.length)/\br (!l4k X||(x7 X).l !=q||decide ((x7 X).e>ep)||decide (q>1)&&decide ((u.getD (0+(q-2).toNat) dz).e>(x7 X).e)) r ((Le x.1 u.length/\U2 x.1 1 96)/\Ri (q+1)/\∃(y:V2 (d.E.length-9) (lgB d ep)),((ep=ep/\(0=0/\0=0)/\(0=0/\v+1=y.1)/\q+1=(↑(y.1+1):Int)/\True)/\(oo (zA d d))/\(v+1=(yX d y.1).length/\Z7 (v+1) (X6 (Y6 u) x.1 (tk 10 [Ji (x7 X).e,Ji (x7 X).l,Ji (x7 X).t,Ji (x7 X).k,Ji (x7 X).p,Ji (x7 X).n,Ji (x7 X).g,Ji (x7 X).s,T.str (x7 X).b,T.str (x7 X).a])) (Y6 (yX d y.1)))/\True)/\Lt (d.E.length-y.1) (d.E.length-v))) r) ⟨⟨E7,Z8,Z8,⟨(xX d 0).symm,A8⟩,Z5⟩,λx=>?_⟩
 have L:=x.2.1;have C:=hd.2.2.1;have i:=xX d x.1;refine⟨λ_=>Z1 Z9,λ_=>Z1 Z9,λhc=>?_,λhc=>?_⟩
 ·have hc:9+x.1<d.E.length:=by
   simp only[M1,g7] at hc;omega
  have u:=mK hd hc;refine⟨Z1 Z9,Z1 Z9,(d,9+x.1),⟨⟨eqD _,W5,Z5⟩,hc,W5⟩,U1 d (9+x.1),⟨Z8,by show(U1 d (9+x.1)).length<=1000;omega⟩,λ_ h=>Z1 Z9,λ_ h=>?_,λ_ h=>?_,?_⟩
  ·have:=B3 h;exact⟨Z9,Z9⟩
  ·have:=B3 h;unfold Lt;omega
  rw[a9K (d:=d) (ep:=ep)];refine⟨λhb=>?_,λhb=>?_⟩
  ·rw[b56 Z9 hb x.2.2]
   exact⟨C9,i.symm,W2 _ _⟩
  ·refine⟨⟨C9,O6⟩,Z1 Z9,x.succ Z9 hb,⟨⟨rfl,Z8,Z8,by dsimp only[V2.succ];omega,Z5⟩,⟨rfl,rfl,eqD _⟩,⟨(xX d (x.1+1)).symm,?_⟩,Z5⟩,by unfold Lt;dsimp only[V2.succ];omega⟩
   show Z7 _ _ (Y6 (yX d (x.1+1)));have o:=iN (yX d x.1) (lgR d x.1).1;have q:l4k (U1 d (9+x.1))=true:=by
    rw[←a9K] at hb;simp only[zY,yL] at hb;exact hb.1.1.1
   have r:(lgR d x.1).1=x7 (U1 d (9+x.1)):=by
    show(R0 (U1 d (9+x.1))).1=_;rw[(c5U q).1]
   rw[a38,r];rw[i,r] at o;exact o
 ·have Q:x.1=d.E.length-9:=by
   by_cases N:x.1=d.E.length-9
   ·exact N
   ·rw[pH (show((x.1+1:Nat):Int)<=60 by omega),pH (show(9:Int)+((x.1+1:Nat):Int)-1<(d.E.length:Int) by omega)] at hc
    cases hc
  rw[b0C Q x.2.2];exact⟨C9,i.symm,W2 _ _⟩
def yD(e:Eng):Eng:=⟨⟨e.s.d,e.s.ep,yX e.s.d (oA e.s.d e.s.ep),(oA e.s.d e.s.ep:Nat),[],0⟩,false,[],⟨[],[]⟩,e.N⟩
def c23:Con:=.reff ⟨Eng×Nat,λx=>[.ref 0 0 0],λx=>x.1.bx x.2,λ_=>.int .i64 15,λx=>(yD x.1).nx 0,λx=>H9 x.1.s.d⟩
theorem a1F:GK 60 c23:=gk func60<|by
 rintro⟨e,v⟩ (hd:H9 e.s.d);have h:=(xX e.s.d (oA e.s.d e.s.ep)).symm;exact r9 (gC a8F gN) func60 Y5 [[.nilC 0 7 0 5,.fac 0 7,.nilC 0 10 0 2,.nilC 0 11 0 4,.nilC 0 12 0 2,.box 0,.arr 1,.arr 2,.arr 3,.arr 4,.arr 5,.arr 6,.arr 7,.arr 8,.cel 0 0,.cel 0 1,.cel 0 3,.cel 0 5,.cel 0 7,.cel 0 10,.cel 0 11,.cel 0 12]] (α:=let r:=(0=0/\0=0);let q:=(oA e.s.d e.s.ep);∃(x:(Dsk×Int)),let p:=(λ(x:Nat)=>[]);((Le (0+e.s.d.E.length) e.s.d.E.length/\Le (0+e.s.d.C.length) e.s.d.C.length/\Le (0+e.s.d.keep.length) e.s.d.keep.length)/\((zA e.s.d x.1)/\e.s.ep=x.2/\True)/\LgS x)/\((15:Int)=15/\True)/\(oo ((0=0/\e.s.d.E.length=e.s.d.E.length)/\(0=0/\e.s.d.C.length=e.s.d.C.length)/\e.s.d.A=e.s.d.A/\(0=0/\e.s.d.keep.length=e.s.d.keep.length)/\e.s.ep=e.s.ep/\(0=0/\oA x.1 x.2=(yX e.s.d q).length)/\(↑(oA x.1 x.2):Int)=(↑q:Int)/\r/\(0:Int)=0/\false=false/\r/\r/\r/\e.N=e.N/\True))/\T8 ((Z3 Z6 e.s.d.E e.s.d.E)/\(Z3 Z2 e.s.d.C e.s.d.C)/\(Z3 Z0 e.s.d.keep e.s.d.keep)/\(Z3 Y6 (yX x.1 (oA x.1 x.2)) (yX e.s.d q))/\(0=0/\0=0/\V0 0 p (Y9 []))/\(0=0/\Z7 0 p (X4 []))/\(0=0/\Z7 0 p (Y2 []))/\(0=0/\Z7 0 p (X8 []))/\True)) ⟨(e.s.d,e.s.ep),⟨Z8,Z8,hd⟩,Z8,⟨rfl,rfl,Z8,Z8,rfl,Z8,rfl,⟨rfl,h⟩,Z8⟩,Z5,Z5,Z5,Z5,Z5,Z5,Z5,Z5,Z8,Z8,Z8,Z8,⟨rfl,rfl,λi hi=>absurd hi (J2 _)⟩,⟨rfl,A8⟩,⟨rfl,A8⟩,⟨rfl,A8⟩,Z5⟩
def sdE(e:Eng)(d:Dsk):Eng:={e with s:=e.s.sd d}
theorem b46(sec:List (Bz))(C:List Pend)(Q:Nat->Bool)(h:∀i,i<sec.length->(sec.getD i []).length<=160)(e:∀i,i<C.length->(C.getD i dz).d.length<=160):∀n,n<=C.length->∀i,i<sec.length->((zI sec C Q n).getD i []).length<=160
 |0,_,i,hi=>h i hi
 |n+1,hn,i,hi=>by
  unfold zI;have I:=b46 sec C Q h e n Z9 i hi
  split
  ·by_cases hj:i=(C.getD n dz).at_.toNat
   ·subst hj;rw[Q8,j_k (by rw[A9];exact hi)]
    exact e n Z9
   ·rw[Q8,bI (Ne.symm hj),←Q8]
    exact I
  ·exact I
theorem eM{m:Nat}{p:Pend}(h:O4 m p=false):0<=p.at_/\p.at_<m/\p.d.length<=160:=by
 unfold O4 at h;simp only[zY,yL,S2,qW] at h;omega
theorem c4H{d:Dsk}(h:H9 d):cB d:=λi hi=>by
 have:=eM (h.2.2.2.2.2.2 i hi);exact⟨this.1,this.2.1⟩
theorem b9J{e:Eng}(h:U3 e=true):H9 e.s.d/\e.s.d.E.length=69:=by
 have:=(v9 e.s).1 ((J8 e.s).1 (Q1 h).1).1.1;exact⟨this.1,this.2.1⟩
theorem tY{n:Nat}{p:Nat->Bool}(h:¬S5 n p<0):∃i,i<n/\p i=true/\(∀j,j<i->p j=false)/\S5 n p=(i:Int):=by
 cases A:anyI n p with
 |false=>exact absurd (by rw[L5 (P8.1 A)];omega) h
 |true=>
  obtain⟨i,hi,hp⟩:=R2.1 A;have key:∀m,m<=n->(∀j,j<m->p j=false)∨∃i,i<n/\p i=true/\(∀j,j<i->p j=false):=by
   intro m;induction m with
   |zero=>intro _;exact .inl λj J=>absurd J (J2 j)
   |succ m I=>
    intro d;rcases I Z9 with h0|h0
    ·cases hq:p m with
     |true=>exact .inr ⟨m,d,hq,h0⟩
     |false=>
      refine .inl λj J=>?_
      by_cases M:j=m
      ·rw[M];exact hq
      ·exact h0 j Z9
    ·exact .inr h0
  rcases key n (U9 n) with h0|⟨k,hk,hpk,hn⟩
  ·rw[h0 i hi] at hp;cases hp
  ·exact⟨k,hk,hpk,hn,O8 hk hpk hn⟩
theorem c4k(d:Dsk)(ep:Int):oA d ep<=d.E.length-9:=by
 unfold oA;split
 ·exact U9 _
 ·rename_i h;by_cases hn:S5 (d.E.length-9) (lgB d ep)<0
  ·omega
  ·obtain⟨i,hi,_,_,e⟩:=tY hn;omega
def c4M:Con:=.tmp
theorem c1s:GK 94 c4M:=gk func94<|trivial
def b2s:Con:=.rel ⟨Eng×Dsk,λx=>[.agg x.1.ts,.agg x.2.ts],λx=>.agg (yD (sdE x.1 x.2)).ts,λx=>H9 x.2/\x.2.E.length=69⟩
theorem a7L:GK 92 b2s:=gk func92<|by
 rintro⟨e,d⟩ ⟨h,f⟩;dsimp only at h f;exact R1 (gC b2J (gC H7 (gC c1s gN))) func92 Y5 (α:=∃(x:(Dsk×Int)),let p:=(yX x.1 (oA x.1 x.2));(((zA d x.1)/\e.s.ep=x.2/\True)/\H9 x.1/\x.1.E.length=69)/\(Z3 Z6 d.E d.E)/\(Z3 Z2 d.C d.C)/\d.A=d.A/\(Z3 Z0 d.keep d.keep)/\e.s.ep=e.s.ep/\(Z3 Y6 p (yX d (oA d e.s.ep)))/\(↑p.length:Int)=(↑(oA d e.s.ep):Int)/\0=0/\(0:Int)=0/\false=false/\0=0/\0=0/\0=0/\e.N=e.N/\True) ⟨(d,e.s.ep),⟨Z8,h,f⟩,Z8,Z8,rfl,Z8,rfl,Z8,congrArg _ (xX _ _),Z8⟩
def X1{α:Type}[Inhabited α](f:α->Bool)(L:List α):Nat->List α
 |0=>[]
 |i+1=>if f (L.getD i dz)=true then X1 f L i++[L.getD i dz] else X1 f L i
def hF(tx:Int)(x:Lck):Bool:=x.tx !=tx
def wF(tx:Int)(w:Wt):Bool:=w.tx !=tx&&w.fo !=tx
def frK(l:Lks)(tx:Int):Lks:=⟨X1 (hF tx) l.H l.H.length,X1 (wF tx) l.W l.W.length⟩
def lkB(l:Lks):Option Ob:=some (.arr true 1000000 2 1 λ_=>l.ts)
theorem a3D{α:Type}[Inhabited α](f:α->List T)(n:Nat)(F:∀a,(f a).length=n)(L:List α)(x:α):Z7 (L.length+1) (X6 (λi=>f (L.getD i dz)) L.length λk=>List.take n (List.drop (k*n) (f x))) (λi=>f ((L++[x]).getD i dz)):=by
 intro i hi;unfold X6;by_cases h:i<L.length
 ·rw[sN h];dsimp only;rw[Q8,Q8,tI h]
 ·have:i=L.length:=by omega
  subst this;rw[mT h];dsimp only;have:(L++[x]).getD L.length dz=x:=by rw[Q8,tD (U9 _)];simp
  rw[this,j_i,Nat.zero_mul,List.drop_zero,List.take_of_length_le (by rw[F];exact U9 _)]
theorem b4D{α:Type}[Inhabited α]{f:α->Bool}{L:List α}{i:Nat}(h:f (L.getD i dz)=true):X1 f L (i+1)=X1 f L i++[L.getD i dz]:=by
 conv=>lhs;unfold X1
 rw[if_pos h]
theorem eJ{α:Type}[Inhabited α]{f:α->Bool}{L:List α}{i:Nat}(h:f (L.getD i dz)=false):X1 f L (i+1)=X1 f L i:=by
 conv=>lhs;unfold X1
 rw[if_neg gD]
theorem g9{α:Type}[Inhabited α](f:α->Bool)(L:List α):∀i,(X1 f L i).length<=i
 |0=>U9 _
 |i+1=>by
  have:=g9 f L i;unfold X1;split
  ·rw[J6,List.length_singleton];omega
  ·omega
theorem a07{α:Type}[Inhabited α]{f:α->Bool}{L:List α}{i:Nat}(h:f (L.getD i dz)=true):(X1 f L i).length+1=(X1 f L (i+1)).length:=by
 rw[b4D h,J6,List.length_singleton]
def lK(e:Eng)(k:Nat):Eng:={e with X:=e.X.take k++e.X.drop (k+1),lk:=frK e.lk (e.X.getD k dz).id}
def a4N:Rec:=⟨0,0,0,4,0,0,0,0,[],[]⟩
def S8(e:Eng)(tx:Int):Int×Int:=if e.up=true then(if T9 e.X tx<0 then(0,19) else(T9 e.X tx,0)) else(0,15)
def a67:Con:=.rel ⟨Eng×Int,λx=>[.agg x.1.ts,Ji x.2],λx=>.tup [Ji (S8 x.1 x.2).1,Ji (S8 x.1 x.2).2],λx=>M3 x.1.X.length⟩
theorem c6b{e:Eng}{tx:Int}(h:(!e.up)=true):S8 e tx=(0,15):=by unfold S8;rw[if_neg F6]
theorem c6v{e:Eng}{tx:Int}(h:(!e.up)=false)(d:decide (T9 e.X tx<0)=true):S8 e tx=(0,19):=by unfold S8;rw[if_pos F6,if_pos (B3 d)]
theorem c58{e:Eng}{tx:Int}(h:(!e.up)=false)(d:decide (T9 e.X tx<0)=false):S8 e tx=(T9 e.X tx,0):=by unfold S8;rw[if_pos F6,if_neg (k5 d)]
theorem a3v:GK 90 a67:=gk func90<|by
 rintro⟨e,tx⟩ (hL:M3 e.X.length);refine R1 (gC a5m gN) func90 Y5 (α:=let p:=(S8 e tx);br (!e.up) (0=p.1/\15=p.2/\True) (∃(x:(Eng×Int)),(((F9 e x.1)/\tx=x.2/\True)/\M3 x.1.X.length)/\bd (T9 x.1.X x.2<0) (0=p.1/\19=p.2/\True) (T9 x.1.X x.2=p.1/\0=p.2/\True))) ⟨λh=>?_,λh=>⟨(e,tx),⟨Z8,hL⟩,λq=>?_,λq=>?_⟩⟩
 ·rw[c6b h];exact Z8
 ·rw[c6v h q];exact Z8
 ·rw[c58 h q];exact Z8
def jN(e:Eng)(k:Nat):Eng:=K7 e k a4N
def vF(e:Eng)(k:Nat):Sto×Bool:=W7 (jN e k).s (e.s.L.length+1:Nat)
def pQ(e:Eng)(k:Nat):Eng:={jN e k with s:=(vF e k).1}
def U8(e:Eng)(tx:Int):Eng×Int:=if(S8 e tx).2=0 then(if(vF e (S8 e tx).1.toNat).2=true then(lK (pQ e (S8 e tx).1.toNat) (S8 e tx).1.toNat,0) else(yD (pQ e (S8 e tx).1.toNat),15)) else(e,(S8 e tx).2)
def c7m(e:Eng)(tx:Int):Prop:=M3 e.X.length/\((S8 e tx).2=0->(S8 e tx).1.toNat<e.X.length/\e.X.length<=1000/\e.s.L.length<=1000/\vD (jN e (S8 e tx).1.toNat).s (e.s.L.length+1:Nat)/\H9 (vF e (S8 e tx).1.toNat).1.d/\(vF e (S8 e tx).1.toNat).1.d.E.length=69/\e.lk.H.length<=1000000/\e.lk.W.length<=1000000)
theorem b9N{r:Rec}(h:O9 r=true):r.b.length<=30/\r.a.length<=38:=by
 have h:=(R6 r).1 h;unfold D0 at h;obtain⟨_,_,_,_,_,_,_,_,_,_,_,_,_,_,B,f,e⟩:=h;refine⟨Z9,?_⟩
 by_cases d:r.k=6
 ·exact a1l (f d).2.2.2.2.2.2
 ·have:=(e d).2.2.1;omega
theorem c5n{r:Rec}(h:O9 r=true):(P0 r).length<=160:=by
 obtain⟨d,e⟩:=b9N h;have f:(z7 (j3 (a5w r))).length=4:=rfl;have l:(P0 r).length=16+(r.b.length+r.a.length):=by
  unfold P0 a5w;rw[J6];simp only[R7,V6,J6,List.length_cons,List.length_nil];show _+4=_;simp;omega
 omega
def b7H(d:Dsk):Prop:=d.E.length=69/\d.keep.length<=500/\(d.A=false->d.keep.length=0)/\(∀i,i<d.E.length->(d.E.getD i []).length<=160)/\∀i,i<d.C.length->(d.C.getD i dz).d.length<=160
theorem b0f{d:Dsk}(h:b7H d):H9 (U7 d).1/\(U7 d).1.E.length=69:=by
 obtain⟨l,g,j,e,f⟩:=h;unfold U7;split
 ·have hl:(crD d d.keep).E.length=d.E.length:=A9 _ _ _ _;refine⟨⟨W5,W5,L8 _,L8 _,λ_=>rfl,λi hi=>?_,λi hi=>absurd hi (J2 _)⟩,W5⟩
  dsimp only at hi;rw[hl] at hi;exact b46 d.E d.C (kp d.keep) e f _ (U9 _) i hi
 ·have hl:(zI d.E d.C (λ_=>true) d.C.length).length=d.E.length:=A9 _ _ _ _
  refine⟨⟨W5,W5,L8 _,g,j,λi hi=>?_,λi hi=>absurd hi (J2 _)⟩,W5⟩
  dsimp only at hi;rw[hl] at hi;exact b46 d.E d.C (λ_=>true) e f _ (U9 _) i hi
theorem c5C{s:Sto}{l:Int}(hd:H9 s.d)(B:vD s l)(r:w9 s.L):b7H (qP s (L9 s l)):=by
 have h:=B.2.2.2.1;refine⟨h,hd.2.2.2.1,hd.2.2.2.2.1,hd.2.2.2.2.2.1,λi hi=>?_⟩
 have hi:i<(s.d.C++List.map (qI s) (List.range (L9 s l))).length:=hi;show((s.d.C++List.map (qI s) (List.range (L9 s l))).getD i dz).d.length<=160;rw[Q8]
 by_cases hc:i<s.d.C.length
 ·rw[tI hc,←Q8]
  exact(eM (hd.2.2.2.2.2.2 i hc)).2.2
 ·rw[tD Z9,←Q8]
  simp only[J6,List.length_map,j_g] at hi;rw[c1N _ Z9]
  have n:=lN (i:=i-s.d.C.length) B Z9
  obtain⟨_,_,_,_,e,_,_,f,_⟩:=B;exact c5n ((R6 _).2 (r.2 _ Z9).1)
theorem a2h{s:Sto}{l:Int}(hd:H9 s.d)(h:vD s l)(r:w9 s.L):H9 (W7 s l).1.d/\(W7 s l).1.d.E.length=69:=by
 by_cases L:l<=s.S
 ·rw[o8 L];exact⟨hd,h.2.2.2.1⟩
 ·rw[m5 L];exact b0f (c5C hd h r)
theorem b7e(s:Sto)(l:Int):(W7 s l).1.L=s.L/\(W7 s l).1.fr=s.fr:=by
 by_cases h:l<=s.S
 ·rw[o8 h];exact Z8
 ·rw[m5 h];exact Z8
theorem a8Z{e:Eng}(h:U3 e=true)(u:e.up=true):e.s.L.length+vN e<=60:=by
 have d:=(Q1 h).2.2;rw[if_pos u] at d;unfold upE at d;simp only[M1,g7] at d;exact d.2
theorem c3h{e:Eng}{k:Nat}(h:k<e.X.length):1<=vN e:=by
 unfold vN;cases d:e.X.length with
 |zero=>omega
 |succ n=>unfold q7;omega
theorem nU{e:Eng}(h:U3 e=true)(u:e.up=true){i:Nat}(hi:i<e.X.length):1<=(e.X.getD i dz).Z/\(e.X.getD i dz).Z<=e.s.L.length:=by
 have:=b4z h u i hi;unfold y9 nR at this;simp only[zY,yL,M1,S2] at this;exact this.2.1
theorem fU{l:Lks}(h:F8 l=true):l.H.length<=60/\l.W.length<=100:=by
 unfold F8 at h;simp only[M1,g7] at h;exact h.2.1
theorem i3{e:Eng}{tx:Int}(h:(S8 e tx).2=0):e.up=true/\∃k:Nat,(S8 e tx).1=(k:Int)/\k<e.X.length/\(e.X.getD k dz).id=tx/\T9 e.X tx=k:=by
 revert h;unfold S8;split
 ·rename_i hu;split
  ·intro h;cases h
  ·rename_i d;intro _;have d:¬S5 e.X.length (G7 e.X tx)<0:=d;obtain⟨i,hi,hp,_,f⟩:=tY d;exact⟨hu,i,f,hi,by unfold G7 at hp;simpa using hp,f⟩
 ·intro h;cases h
def fX(e:Eng)(k:Nat)(r:Rec):Prop:=r.k≠6/\r.k≠1/\1<=r.k/\r.k<=6/\(r.k≠3->r.n=0)/\(r.k≠2->r.k≠3->r.g=0/\r.s=0/\r.b=[]/\r.a=[])/\0<=r.n/\r.n<=(e.s.L.length:Int)/\0<=r.g/\r.g<=7/\0<=r.s/\r.s<=3/\r.b.length<=30/\r.a.length<=30/\(r.k=3->r.b=[])/\k<e.X.length
theorem c1E{e:Eng}{tx:Int}{k:Nat}{r:Rec}(h:U3 e=true)(u:e.up=true)(A:T9 e.X tx=k)(f:k<e.X.length)(hi:(e.X.getD k dz).id=tx)(l:fX e k r):AddB e tx k r/\(O9 (U0 e.s (Q9 e k r))=true/\e.s.L.length+1<=60):=by
 obtain⟨O,Q,V,_⟩:=E4 (Q1 h).2.1;have g:=a7E (Q1 h).1;have L:=nU h u f;have z:=b63 h u f;have o:=a8Z h u;have N:=c3h f;obtain⟨j,q,F,J,B,n,M,U,I,x,C,v,i,t,R,_⟩:=l;have d:O9 (U0 e.s (Q9 e k r))=true:=by
  refine(R6 _).2 ?_
  unfold D0 U0 Q9;dsimp only;refine⟨g.1,g.2,Z9,Z9,Z9,Z9,Z9,Z9,Z9,Z9,Z9,Z9,Z9,Z9,Z9,λe=>absurd e j,λ_=>⟨Z9,Z9,Z9,n,B,R,⟨λe=>absurd e q,λe=>Z9⟩⟩⟩
 exact⟨⟨A,f,hi,d,Z9,Z9,⟨Z9,Z9⟩⟩,d,Z9⟩
theorem a4j{s:Sto}{r:Rec}(L:w9 s.L)(h:O9 (U0 s r)=true)(l:s.L.length+1<=60):w9 (apx s r).L:=by
 have e:(apx s r).L=s.L++[U0 s r]:=rfl;rw[e];refine⟨E3,λi hi=>?_⟩
 rw[J6,List.length_singleton] at hi;by_cases C:i<s.L.length
 ·have:(s.L++[U0 s r]).getD i dz=s.L.getD i dz:=by
   rw[Q8,tI C,←Q8]
  rw[this];exact L.2 i C
 ·have:i=s.L.length:=by omega
  subst this;have:(s.L++[U0 s r]).getD s.L.length dz=U0 s r:=a4K s r;rw[this];exact⟨(R6 _).1 h,rfl⟩
theorem c3C{s:Sto}{l:Int}(hd:H9 s.d)(h:s.d.E.length=69)(r:w9 s.L)(f:0<=s.S)(e:s.S<=s.L.length)(L:l<=s.L.length):vD s l:=by
 have hp:=c4H hd;obtain⟨d1,d2,j,g,_⟩:=hd;refine⟨⟨Z9,Z9,Z9⟩,Z9,hp,h,f,e,r.1,L,λi hi=>?_⟩
 obtain⟨a,b⟩:=r.2 i hi;exact⟨b,a8q ((R6 _).2 a)⟩
theorem b65{e:Eng}{k:Nat}(h:k<e.X.length):fX e k a4N:=by
 unfold fX a4N;dsimp only;exact⟨Z9,Z9,Z9,Z9,λ_=>rfl,λ_ _=>Z8,Z9,Z9,Z9,Z9,Z9,Z9,U4,U4,λ_=>rfl,h⟩
theorem a1c{e:Eng}{tx:Int}{k:Nat}(o:U3 e=true)(u:e.up=true)(A:T9 e.X tx=k)(i:k<e.X.length)(hi:(e.X.getD k dz).id=tx):w9 (jN e k).s.L/\vD (jN e k).s (e.s.L.length+1:Nat)/\H9 (vF e k).1.d/\(vF e k).1.d.E.length=69:=by
 obtain⟨_,f,l⟩:=c1E o u A i hi (b65 i);obtain⟨hd,g⟩:=b9J o;have h:=a4j (rA (Q1 o).1) f l;have h:w9 (jN e k).s.L:=h;have n:(jN e k).s.L.length=e.s.L.length+1:=by show(e.s.L++[_]).length=_;simp
 have j:=yM ((J8 e.s).1 (Q1 o).1).1.2.2;have F:vD (jN e k).s (e.s.L.length+1:Nat):=c3C hd g h j.1 (by have:(jN e k).s.S=e.s.S:=rfl;omega) Z9
 exact⟨h,F,a2h hd F h⟩
theorem c6L{e:Eng}(tx:Int)(h:U3 e=true):c7m e tx:=by
 obtain⟨l,n,o,A⟩:=E4 (Q1 h).2.1;obtain⟨L,l2⟩:=fU A;refine⟨pX,λg=>?_⟩
 obtain⟨u,k,i,f,hi,j⟩:=i3 g;rw[i,C8];obtain⟨_,F,hd,d⟩:=a1c h u j f hi;exact⟨f,Z9,by have:=(rA (Q1 h).1).1;omega,F,hd,d,Z9,Z9⟩
theorem b6v{d:Dsk}(h:H9 d):kT d:=by
 obtain⟨d1,d2,f,e,_⟩:=h;exact⟨Z9,Z9,Z9⟩
theorem gX{e:Eng}(hd:H9 e.s.d):O3 (yD e):=by
 have M:=c4k e.s.d e.s.ep;have h:=hd.2.1;refine⟨⟨b6v hd,?_,L8 _,λi hi=>absurd hi (J2 _)⟩,Z8⟩
 show(yX _ _).length<=_;rw[xX];omega
theorem b86{e:Eng}{tx:Int}(h:O3 e)(ho:U3 e=true):O3 (U8 e tx).1:=by
 unfold U8;split
 ·rename_i h0;obtain⟨hu,k,e1,hk,hi,ha⟩:=i3 h0;rw[e1,C8];obtain⟨hL,hf,hd,h69⟩:=a1c ho hu ha hk hi;obtain⟨a1,a2,a3,a4⟩:=E4 (Q1 ho).2.1;obtain⟨l1,l2⟩:=fU a4;split
  ·obtain⟨f1,f2⟩:=b7e (jN e k).s (e.s.L.length+1:Nat);have b1:=g9 (hF ((pQ e k).X.getD k dz).id) e.lk.H e.lk.H.length;have b2:=g9 (wF ((pQ e k).X.getD k dz).id) e.lk.W e.lk.W.length;refine⟨⟨b6v hd,?_,?_,?_⟩,?_,?_,?_⟩
   ·show(vF e k).1.L.length<=_;unfold vF;rw[f1];have:=hL.1;omega
   ·show(vF e k).1.fr.length<=_;unfold vF;rw[f2];exact h.1.2.2.1
   ·show ∀i,i<(vF e k).1.fr.length->SmF ((vF e k).1.fr.getD i dz);unfold vF;rw[f2];exact h.1.2.2.2
   ·show(List.take k (pQ e k).X++List.drop (k+1) (pQ e k).X).length<=_;have:(pQ e k).X.length=e.X.length:=w6;rw[J6,List.length_take,List.length_drop,this];omega
   ·show(X1 _ e.lk.H e.lk.H.length).length<=_;omega
   ·show(X1 _ e.lk.W e.lk.W.length).length<=_;omega
  ·exact gX hd
 ·exact h
open Go.SS Go.RowKit Go.Proofs.Tryz
def jH:List Value:=[.int .i64 0,.int .i64 0]
theorem a39:(prog.info? 59).map (λi=>(i.zero,i.size,i.bytes))=some (some (.agg jH.toArray),2,16):=J1
theorem a0I:prog.underlying 32=some (.slice 59):=J1
theorem cG(w:World)(ty:TypeId)(b o c:Nat)(g:∀j,j<2->(w.cell? ⟨b,o+j,none⟩).isSome=true)(f:∀j,j<2->w.frozen? ⟨b,o+j,none⟩=false):
  (Builtin.clear_ #[32] ty #[.slice (some ⟨b,o,none⟩) 1 c]).run prog w= .ok (.tuple #[]) (w.setCells b o jH):=by
 obtain⟨i,e,d,_⟩:=info_parts a39;have hv:∀w,(zeroValue 59).run prog w= .ok (.agg jH.toArray) w:=λw=>by
  simp[zeroValue,typeInfo,e,d]
 have t:=run_storeCells_cells (P:=prog) b o jH 0 w (λj (hj:j<2)=>by rw[Nat.add_zero];exact g j hj) (λj (hj:j<2)=>by rw[Nat.add_zero];exact f j hj) (by intro v h;simp only[jH,vT,j_h,or_false] at h;rcases h with rfl|rfl<;>rfl)
 simp only[Nat.add_zero] at t;have C:(Builtin.zeroCells (Value.agg jH.toArray).cells 1).toList=jH:=J1
 simp[Builtin.clear_,run_underlying a0I,hv,C,t]
set_option maxHeartbeats 4000000 in
set_option maxRecDepth 1000000 in
theorem b1S(b cap n i j:Nat)(news:List Value)(w:World)(hj1:j=i+1)(hj:j<=n)(hn:n<=cap)(hl:news.length=(n-j)*2)(h1:∀u ∈ news,u.oneCell'=true)
  (hs:∀q u,news[q]? =some u->w.cell? ⟨b,j*2+q,none⟩=some u) (hc:∀q,q<n*2->(w.cell? ⟨b,q,none⟩).isSome=true) (hf:∀q,q<n*2->w.frozen? ⟨b,q,none⟩=false):
  Calls prog 126 #[.slice (some ⟨b,0,none⟩) n cap,.int .i64 i,.int .i64 j] w λe w'=>e= .returned (.slice (some ⟨b,0,none⟩) (i+(n-j)) cap)/\w'=(w.drew.setCells b (i*2) news).setCells b ((i+(n-j))*2) jH:=by
 have a87:prog.follows .mixedOrders=true:=J1
 obtain⟨i0,hi0,hz0,hz1,hz2⟩:=info_parts a39;obtain⟨A,hA,hnews⟩:∃A:Addr,(if cap=j then some (⟨b,0,none⟩:Addr) else some ⟨b,j*2,none⟩)=some A/\Hid (∀q u,news[q]? =some u->w.drew.cell? (A.add q)=some u):=by
  by_cases h:cap=j
  ·refine⟨⟨b,0,none⟩,cZ,λq u hu=>?_⟩
   have h0:news.length=0:=by rw[hl];omega
   rw[List.length_eq_zero_iff.1 h0] at hu;simp at hu
  ·exact⟨⟨b,j*2,none⟩,cZ,λq u hu=>by rw[Addr.add_lit];exact hs q u hu⟩
 have s1:Hid (news.length=(n-j)*2):=hl;have s2:Hid (∀u ∈ news,u.oneCell'=true):=h1;have s3:Hid (∀q,q<news.length->(w.drew.cell? ⟨b,0+i*2+q,none⟩).isSome=true/\w.drew.frozen? ⟨b,0+i*2+q,none⟩=false):=by
  intro q hq;rw[hl] at hq;exact⟨hc _ Z9,hf _ Z9⟩
 obtain⟨W1,hW1⟩:∃W1,W1=w.drew.setCells b (0+i*2) news:=⟨_,rfl⟩;have hcl:∀ty,(Builtin.clear_ #[32] ty #[.slice (some ⟨b,(i+(n-j))*2,none⟩) (n- (i+(n-j))) (cap- (i+(n-j)))]).run prog W1= .ok (.tuple #[]) (W1.setCells b ((i+(n-j))*2) jH):=by
  intro ty;rw[show n- (i+(n-j))=1 by omega]
  refine cG W1 ty b _ _ (λq hq=>?_) (λq hq=>?_)
  ·rw[hW1];exact World.isSome_setCells b _ _ _ _ (hc _ Z9)
  ·rw[hW1,World.frozen?_setCells]
   exact hf _ Z9
 have hW:Hid (W1=w.drew.setCells b (0+i*2) news):=hW1;have X:Aside (W1=w.drew.setCells b (i*2) news):=by rw[hW1,D8];exact rfl
 have hic:i<=cap:=Z9
 have hjc:j<=cap:=Z9
 have hlt:i<j:=Z9
 have heq:¬i=j:=Z9
 have hij:i<=j:=Z9
 have hin:i<=n:=Z9
 clear hW1 hc hf hs h1 hl hj1
 go_enter func126,Tryz.ntmps126
 go_wp2_with fail
 go_region_law_o (refine step_append_room rfl (.tmp 22) (.tmp 25) 32 rfl 59 i0 2 a0I hi0 hz1 b 0 i cap (by simp[Act.eval,Act.put]) A (n-j) (cap-j) news (by simp[Act.eval,Act.put]) s1.out hnews.out s2.out Z9 s3.out ?_;rw[←hW.out])
 go_wp2
 go_ret
 exact⟨rfl,by rw[X]⟩
theorem pZ(w:World)(b o:Nat)(ty:TypeId)(cs:Array Value)(news:List Value)(B:w.heap[b]? =some (.cells cs ty (0,0)))(t:o+news.length<=cs.size)(e:∀v ∈ news,v.oneCell'=true):
  (w.setCells b o news).os=w.os/\(w.setCells b o news).tape=w.tape/\(w.setCells b o news).output=w.output/\(w.setCells b o news).heap.size=w.heap.size/\(∀k,k≠b->(w.setCells b o news).heap[k]? =w.heap[k]?)/\
   ∃cs',(w.setCells b o news).heap[b]? =some (.cells cs' ty (0,0))/\cs'.size=cs.size/\(∀i,i<o∨o+news.length<=i->cs'[i]? =cs[i]?)/\∀i,i<news.length->cs'[o+i]? =news[i]? :=by
 obtain⟨w',d,h⟩:=u3 prog w b o ty cs news B t e;have r:=run_storeCells_cells (P:=prog) b o news 0 w (λj J=>by rw[R5 B,uB (show o+0+j<cs.size by omega)];rfl) (λj J=>by simp[World.frozen?,B]) e
 rw[Nat.add_zero,d] at r;simp only[Result.ok.injEq,true_and] at r;rw[←r];exact h
def shJ(k r:Nat):Nat:=if r<k then r else r+1
def xH{α:Type}(L:List α)(k:Nat):List α:=L.take k++L.drop (k+1)
theorem b9d{α:Type}{L:List α}{k:Nat}(h:k<L.length):(xH L k).length=k+(L.length- (k+1)):=by
 unfold xH;rw[J6,List.length_take,List.length_drop];omega
theorem c4n{α:Type}[Inhabited α]{L:List α}{k:Nat}(d:k<L.length)(i:Nat):(xH L k).getD i dz=L.getD (shJ k i) dz:=by
 have l:(L.take k).length=k:=by rw[List.length_take];omega
 unfold xH shJ;rw[Q8,Q8]
 split
 ·rename_i h;rw[tI Z9,List.getElem?_take_of_lt h]
 ·rename_i h;rw[tD Z9,l,List.getElem?_drop,show k+1+(i-k)=i+1 by omega]
def b5e:Con:=.reff ⟨List Txn×Nat,λx=>[.osl 0 0 x.1.length,Ji x.2,Ji (x.2+1:Nat)],λx=>[pA x.1],λx=>.osl 0 0 (xH x.1 x.2).length,λx=>[pA (xH x.1 x.2)],λx=>x.2<x.1.length⟩
theorem a8G{E:Env}{w:World}{k off n:Nat}{v:Value}(h:Rd E w (.osl k off n) v):∃a o,v= .slice a n (E.κ k-off)/\E.L k/\off+n<=E.κ k/\(off<E.κ k∨off=0->o=off*(E.z k).1)/\(E.κ k≠0->a=some ⟨E.β k,o,none⟩):=by
 cases h with
 |osl k off n o a f d g e=>exact⟨a,o,rfl,f,d,g,e⟩
theorem c7o{E:Env}{w:World}{H:Y4}(f:HeapOk E w H)(i:∀b,E.N b->b<w.heap.size):Inv ⟨w,XB E H,E.N,0,E,0⟩ E H w:=⟨f,i,λb B=>.inl B,λk ob b g e=>.inr ⟨k,ob,g,e⟩,⟨rfl,rfl,rfl,U9 _,λ_ _ _=>rfl⟩,⟨λ_ h=>h,λk d=>absurd d (J2 _),λ_ _=>rfl,λk v d=>absurd d (J2 _)⟩⟩
theorem b1c:GK 126 b5e:=gk func126<|by
 rintro⟨L,k⟩ (hk:k<L.length);intro E w vs hH hN X;dsimp only at hH X ⊢;have O:Y8 [pA L] 0=some (.arr true 0 2 L.length (X4 L)):=rfl;obtain⟨hL,hF,aj⟩:=hH.live 0 _ O;obtain⟨e1,e2,e3,e4,_,cs,B,M,e7,e8⟩:=(show S9 E w 0 ⟨true,0,2,L.length,X4 L⟩ from hF)
 dsimp only at e1 e2 e3 e4 e7 e8;have hκ:E.κ 0≠0:=Z9
 have M:=M hκ;have ai:=e7.le;obtain⟨aa,hv⟩:=X;obtain⟨v0,Z,v2,rfl⟩:∃v0 Z v2,vs= #[v0,Z,v2]:=by
  have f:vs.size=3:=aa.symm;exact⟨vs[0],vs[1],vs[2],by apply Array.ext<;>simp[f];intro i hi _;match i,hi with|0,_=>rfl|1,_=>rfl|2,_=>rfl⟩
 obtain rfl:=tS (hv 1 (.int .i64 k) Z rfl rfl);obtain rfl:=tS (hv 2 (.int .i64 (k+1:Nat)) v2 rfl rfl);obtain⟨a,o,rfl,_,_,ho,ha⟩:=a8G (hv 0 (.osl 0 0 L.length) v0 rfl rfl);have ho:o=0:=by have:=ho (.inr rfl);omega
 subst ho;rw[ha hκ,Nat.sub_zero];have W:∀i q,i<L.length->q<2->∃t u,(X4 L i)[q]? =some t/\cs[i*2+q]? =some u/\Rd E w t u/\u.oneCell'=true:=λi q hi Q=>by
  have h5:(X4 L i).length=2:=rfl;obtain⟨t,d⟩:∃t,(X4 L i)[q]? =some t:=⟨_,I9 Z9⟩
  obtain⟨u,hu,U⟩:=e8 i q _ hi d;exact⟨t,u,d,hu,U,jB U (e4 i _ hi (y0 d))⟩
 have l:∀j,j<L.length*2->∃u,cs[j]? =some u/\u.oneCell'=true:=λj J=>by
  obtain⟨_,u,_,f,_,h4⟩:=W (j/2) (j % 2) Z9 Z9
  exact⟨u,by rw[show j=j/2*2+j % 2 by omega];exact f,h4⟩
 have ah:L.length*2<=cs.size:=Z9
 have hnl:((cs.toList.drop ((k+1)*2)).take ((L.length- (k+1))*2)).length=(L.length- (k+1))*2:=by
  rw[List.length_take,List.length_drop,Array.length_toList (xs:=cs)];omega
 have g:∀q,q<(L.length- (k+1))*2->((cs.toList.drop ((k+1)*2)).take ((L.length- (k+1))*2))[q]? =cs[(k+1)*2+q]? :=λq Q=>by
  rw[List.getElem?_take,if_pos Q,List.getElem?_drop,Array.getElem?_toList]
 have n:∀u ∈ (cs.toList.drop ((k+1)*2)).take ((L.length- (k+1))*2),u.oneCell'=true:=λu hu=>by
  obtain⟨q,Q⟩:=List.getElem?_of_mem hu
  have x:q<(L.length- (k+1))*2:=by rw[←hnl];exact(u4.1 Q).1
  rw[g q x] at Q;obtain⟨u',z,f⟩:=l ((k+1)*2+q) Z9
  rw[z] at Q;simp only[W9] at Q;rw[←Q];exact f
 generalize ad:(cs.toList.drop ((k+1)*2)).take ((L.length- (k+1))*2)=news at hnl g n;have hb:∀j,w.cell? ⟨E.β 0,j,none⟩=cs[j]? :=λj=>R5 M
 have hs:∀q u,news[q]? =some u->w.cell? ⟨E.β 0,(k+1)*2+q,none⟩=some u:=λq u Q=>by
  have x:q<(L.length- (k+1))*2:=by rw[←hnl];exact(u4.1 Q).1
  rw[hb,←g q x];exact Q
 have hc:∀q,q<L.length*2->(w.cell? ⟨E.β 0,q,none⟩).isSome=true:=λq Q=>by
  obtain⟨u,z,_⟩:=l q Q;rw[hb,z];rfl
 have hf:∀q,q<L.length*2->w.frozen? ⟨E.β 0,q,none⟩=false:=λq _=>by simp[World.frozen?,M]
 refine(b1S (E.β 0) (E.κ 0) L.length k (k+1) news w rfl hk e2 hnl n hs hc hf).mono ?_
 rintro e w' ⟨rfl,F⟩;have ac:w.drew.heap[E.β 0]? =some (.cells cs B (0,0)):=M;obtain⟨a1,a2,a3,a4,a5,af,a6,a7,a8,a9⟩:=pZ w.drew (E.β 0) (k*2) B cs news ac (by rw[hnl];omega) n
 generalize w.drew.setCells (E.β 0) (k*2) news=w1 at F a1 a2 a3 a4 a5 a6;obtain⟨b1,b2,b3,b4,b5,C,b6,b7,b8,_⟩:=pZ w1 (E.β 0) ((k+(L.length- (k+1)))*2) B af jH a6 (by rw[a7];show _+2<=_;omega) (by intro v I;simp only[jH,vT,j_h,or_false] at I;rcases I with rfl|rfl<;>rfl)
 rw[←F] at b1 b2 b3 b4 b5 b6;have N:(xH L k).length=k+(L.length- (k+1)):=b9d hk;have ab:jH.length=2:=rfl;have R:∀r q,r<(xH L k).length->q<2->C[r*2+q]? =cs[shJ k r*2+q]? :=λr q X Q=>by
  rw[b8 _ (.inl Z9)]
  unfold shJ;by_cases h:r<k
  ·rw[if_pos h,a8 _ (.inl Z9)]
  ·rw[if_neg h];have:=a9 ((r-k)*2+q) (by rw[hnl];omega)
   rw[show k*2+((r-k)*2+q)=r*2+q by omega] at this
   rw[this,g _ Z9]
   congr 1
   omega
 have ag:∀r,r<(xH L k).length->shJ k r<L.length:=λr X=>by unfold shJ;split<;>omega
 have Y:∀r,X4 (xH L k) r=X4 L (shJ k r):=λr=>by unfold X4;rw[c4n hk]
 obtain⟨hI,ae⟩:=(c7o hH hN).write (w':=w') O rfl (b1.trans a1) (b2.trans a2) (b3.trans a3) (Nat.le_of_eq (b4.trans a4).symm) (λb _ A=>(b5 b A).trans (a5 b A)) hκ (.arr true 0 2 (xH L k).length (X4 (xH L k))) C B b6 e1.symm (by
   rw[e1];refine e7.keep (b7.trans a7) λq Q=>?_
   rw[b8 q (.inr (by rw[ab];omega)),a8 q (.inr (by rw[hnl];omega))]) (show(xH L k).length<=E.κ 0 by omega) (λi _=>rfl) (λi t _ d=>by
   simp only[Ob.toArr,X4,Txn.ts,vT,j_h,or_false] at d;rcases d with rfl|rfl<;>rfl) (λ_ i t _ d=>by
   simp only[Ob.toArr,X4,Txn.ts,vT,j_h,or_false] at d;rcases d with rfl|rfl<;>rfl) (λi j t hi J=>by
   have hi:i<(xH L k).length:=hi;have J:(X4 (xH L k) i)[j]? =some t:=J;have V:j<2:=(u4.1 J).1
   rw[Y i] at J;obtain⟨t',u,z,f,h3,_⟩:=W (shJ k i) j (ag i hi) V;rw[J] at z;simp only[W9] at z;subst z;exact⟨u,by show C[i*2+j]? =_;rw[R i j hi V];exact f,h3⟩)
 refine⟨_,_,rfl,hI,ae.stp,?_⟩
 rw[N];have:=Rd.osl (E:=E) (w:=w') 0 0 (k+(L.length- (k+1))) 0 (some ⟨E.β 0,0,none⟩) hL (show 0+_<=E.κ 0 by omega) (λ_=>W6) (λ_=>rfl)
 rw[Nat.sub_zero] at this;exact this
def aJ(o o':Ob):Prop:=o=o'∨∃cl ty sz n n' row row',o= .arr cl ty sz n row/\o'= .arr cl ty sz n' row'/\n'<=n/\∀i,i<n'->row' i=row i
def c49(H H':Y4):Prop:=H'.length=H.length/\∀k o',Y8 H' k=some o'->∃o,Y8 H k=some o/\aJ o o'
theorem aJ.blk{E:Env}{k:Nat}{o o':Ob}{b:Nat}(h:aJ o o')(B:A3 E k o' b):A3 E k o b:=by
 rcases h with rfl|⟨cl,ty,sz,n,n',row,row',rfl,rfl,_,_⟩
 ·exact B
 ·exact .inl (B.arr rfl)
theorem aJ.ok{E:Env}{w:World}{k:Nat}{o o':Ob}(h:aJ o o')(ho:zS E w k o):zS E w k o':=by
 rcases h with rfl|⟨cl,ty,sz,n,n',row,row',rfl,rfl,hn,hr⟩
 ·exact ho
 ·obtain⟨e1,e2,e3,e4,e5,cs,tyb,e6,e7,e8⟩:=(show S9 E w k ⟨cl,ty,sz,n,row⟩ from ho)
  dsimp only at e1 e2 e3 e4 e5 e7 e8;refine(show S9 E w k ⟨cl,ty,sz,n',row'⟩ from⟨e1,Nat.le_trans hn e2,λi hi=>?_,λi t hi d=>?_,λC i t hi d=>?_,cs,tyb,e6,e7,λi j t hi J=>?_⟩)
  ·have hi:i<n':=hi;show(row' i).length=sz;rw[hr i hi];exact e3 i Z9
  ·have hi:i<n':=hi;have d:t ∈ row' i:=d;rw[hr i hi] at d;exact e4 i t Z9 d
  ·have hi:i<n':=hi;have d:t ∈ row' i:=d;rw[hr i hi] at d;exact e5 C i t Z9 d
  ·have hi:i<n':=hi;have J:(row' i)[j]? =some t:=J;rw[hr i hi] at J;exact e8 i j t Z9 J
theorem iH{P:Program}{f:FuncId}{args:List T}{H H1 H2:Y4}{res:T}(h:G8 P f args H res H1)(hc:c49 H1 H2):G8 P f args H res H2:=by
 intro E w vs q N r;refine(h E w vs q N r).mono ?_
 rintro e w' ⟨v,E',rfl,hI,t,g⟩;refine⟨v,E',rfl,⟨⟨λk o hk=>?_,λk k' o o' b hk i B j=>?_,λk hk=>by rw[hc.1];exact hI.heap.lt k hk,hI.heap.l2,λk o v hk hv=>?_⟩,hI.nlt,hI.nnew,λk o b hk B=>?_,hI.fr,hI.keep⟩,t,g⟩
 ·obtain⟨o0,h0,hcut⟩:=hc.2 k o hk;obtain⟨u,x,A⟩:=hI.heap.live k o0 h0;exact⟨u,hcut.ok x,λb B=>A b (hcut.blk B)⟩
 ·obtain⟨o0,h0,hcut⟩:=hc.2 k o hk;obtain⟨O,l,d⟩:=hc.2 k' o' i;exact hI.heap.inj k k' o0 O b h0 l (hcut.blk B) (d.blk j)
 ·obtain⟨o0,h0,hcut⟩:=hc.2 k o hk;obtain⟨v0,ty,sz,n,row,rfl,hle⟩:=hI.heap.cur k o0 v h0 hv;rcases hcut with rfl|⟨_,_,_,_,_,_,_,e,_⟩
  ·exact⟨v0,ty,sz,n,row,rfl,hle⟩
  ·cases e
 ·obtain⟨o0,h0,hcut⟩:=hc.2 k o hk;exact hI.bnew k o0 b h0 (hcut.blk B)
theorem b9b{a b c:Option Ob}(h:∀o',c=some o'->∃o,a=some o/\aJ o o'):c49 [a,b] [c,b]:=by
 refine⟨rfl,λk o' d=>?_⟩
 match k,d with
 |0,d=>exact h o' d
 |1,d=>exact⟨o',d,.inl rfl⟩
 |k+2,d=>simp[Y8] at d
def D6{α:Type}[Inhabited α](f:α->Bool)(L:List α)(j:Nat):List α:=X1 f L j++L.drop (X1 f L j).length
theorem b4K{α:Type}[Inhabited α]{f:α->Bool}{L:List α}{j q:Nat}(h:(X1 f L j).length<=q):(D6 f L j).getD q dz=L.getD q dz:=by
 unfold D6;rw[Q8,tD h,List.getElem?_drop,←Q8]
 congr 1
 omega
theorem c6q{α:Type}[Inhabited α]{f:α->Bool}{L:List α}{j q:Nat}(h:q<(X1 f L j).length):(D6 f L j).getD q dz=(X1 f L j).getD q dz:=by
 unfold D6;rw[Q8,tI h,←Q8]
theorem b17{α:Type}[Inhabited α]{f:α->Bool}{L:List α}{j:Nat}(h:f (L.getD j dz)=false):D6 f L (j+1)=D6 f L j:=by
 unfold D6;rw[eJ h]
theorem c7G{α:Type}[Inhabited α]{f:α->Bool}{L:List α}{j:Nat}(h:f (L.getD j dz)=true)(q:Nat):(D6 f L (j+1)).getD q dz=if q=(X1 f L j).length then L.getD j dz else(D6 f L j).getD q dz:=by
 have e:D6 f L (j+1)=X1 f L j++(L.getD j dz::L.drop ((X1 f L j).length+1)):=by
  unfold D6;rw[b4D h,J6,List.length_singleton,List.append_assoc];rfl
 rw[e];unfold D6;generalize X1 f L j=A;generalize L.getD j dz=x;rcases Nat.lt_trichotomy q A.length with h1|h1|h1
 ·rw[if_neg Z9,Q8,Q8,tI h1,tI h1]
 ·rw[if_pos h1,Q8,h1,tD (U9 _),j_i]
  rfl
 ·rw[if_neg Z9,Q8,Q8,tD Z9,tD Z9]
  obtain⟨d,hd⟩:∃d,q-A.length=d+1:=⟨q-A.length-1,Z9⟩
  rw[hd,List.getElem?_cons_succ,List.getElem?_drop,List.getElem?_drop]
  congr 2
  omega
theorem a9U{α:Type}[Inhabited α]{f:α->Bool}{L:List α}:∀j,j<=L.length->(∀q,q<j->f (L.getD q dz)=true)->X1 f L j=L.take j
 |0,_,_=>by simp[X1]
 |j+1,hj,h=>by
  rw[b4D (h j Z9),a9U j Z9 λq Q=>h q Z9,List.take_add_one,Q8,I9 (show j<L.length by omega)]
  rfl
theorem lV{α:Type}[Inhabited α]{f:α->Bool}{L:List α}{j:Nat}(J:j<=L.length)(h:∀q,q<j->f (L.getD q dz)=true):(X1 f L j).length=j/\D6 f L j=L:=by
 have e:=a9U j J h;have l:(L.take j).length=j:=by rw[List.length_take];omega
 unfold D6;rw[e,l];exact⟨rfl,List.take_append_drop j L⟩
def sY(n:Int):Option Ob:=some (.arr true 1000000 1 1 λ_=>[Ji n])
def c0X:Con:=.rel ⟨Lck×Int,λx=>[.agg x.1.ts,.bref [Ji x.2]],λx=>.bool (x.1.tx==x.2),λ_=>True⟩
theorem b9w(x:Lck)(tx:Int)(h:
  (x.tx==tx)=(x.tx==tx)):
  U5 prog 191 [.agg x.ts,.bref [Ji tx]] (.bool (x.tx==tx)):=
 R1 gN func191 Y5 h
theorem a44:GK 191 c0X:=gk func191<|λx _=>b9w x.1 x.2 rfl
def b9m:Con:=.rel ⟨Wt×Int,λx=>[.agg x.1.ts,.bref [Ji x.2]],λx=>.bool (x.1.tx==x.2||x.1.fo==x.2),λ_=>True⟩
theorem b9O(x:Wt)(tx:Int)(h:
let p:=(x.tx==tx||x.fo==tx);  p=p):
  U5 prog 193 [.agg x.ts,.bref [Ji tx]] (.bool (x.tx==tx||x.fo==tx)):=
 R1 gN func193 Y5 h
theorem a31:GK 193 b9m:=gk func193<|λx _=>b9O x.1 x.2 rfl
def c7d(tx:Int):T:=.fn (.func 191) [.bref [Ji tx]]
def c6k(tx:Int):T:=.fn (.func 193) [.bref [Ji tx]]
def d1(L:List Lck)(tx:Int)(i:Nat):Bool:=(L.getD i dz).tx==tx
def d2(L:List Wt)(tx:Int)(i:Nat):Bool:=(L.getD i dz).tx==tx||(L.getD i dz).fo==tx
def b1d:Con:=.rel ⟨List Lck×Int,λx=>[dT x.1,c7d x.2],λx=>Ji (S5 x.1.length (d1 x.1 x.2)),λx=>M3 x.1.length⟩
def b3c(L:List Lck)(tx:Int):Nat->Ann
 |0=>.one (V2 L.length (d1 L tx)) (λx=>⟨[(0,dT L),(1,c7d tx),(7,Ji L.length),(8,Ji x.1)],[]⟩) (λx=>L.length-x.1) [] [] (λ_=>Y5)
 |_=>.none
theorem a7q:GK 177 b1d:=gk func177<|by
 rintro⟨L,tx⟩ (hL:L.length<1000000000000);refine R1 (gC a44 gN) func177 (b3c L tx) (α:=let r:=(L.length:Int);let q:=(T.bref [Ji tx]);(∃(x:V2 L.length (d1 L tx)),((Z3 Y2 L L)/\(Fn.func 191=Fn.func 191/\K4 (λ(x:Nat)=>none) q q/\True)/\r=r/\0=(x.1:Int)/\True)/\True)/\∀(x:V2 L.length (d1 L tx)),let z:=(x.1:Int);let p:=(L.getD z.toNat dz);bd (z<r) (V3 z L.length/\∃(X:(Lck×Int)),(((p.tx=X.1.tx/\p.ta=X.1.ta/\p.row=X.1.row/\p.mo=X.1.mo/\True)/\(tx=X.2/\True)/\True)/\True)/\br (X.1.tx==X.2) (z=S5 L.length (d1 L tx)) (Ri (z+1)/\∃(y:V2 L.length (d1 L tx)),(((Z3 Y2 L L)/\(Fn.func 191=Fn.func 191/\K4 (λ(x:Nat)=>none) q q/\True)/\r=r/\z+1=(y.1:Int)/\True)/\True)/\Lt (L.length-y.1) (L.length-x.1))) ((-1:Int)=S5 L.length (d1 L tx))) ⟨⟨E7,⟨Z8,⟨rfl,T3 _,Z5⟩,Z8⟩,Z5⟩,λx=>⟨λC=>?_,λC=>?_⟩⟩
 ·have h:=Y0 C;refine⟨X9 h,(L.getD x.1 dz,tx),Z8,λhp=>(O8 h hp x.2.2).symm,λhp=>⟨V4 h Z9,x.succ h hp,⟨⟨Z8,⟨rfl,T3 _,Z5⟩,rfl,J0,Z5⟩,Z5⟩,V2.ext_lt h⟩⟩
 ·have e:=X3 C;exact(L5 λj J=>x.2.2 j (xC J e)).symm
def b7L:Con:=.rel ⟨List Wt×Int,λx=>[wtS x.1,c6k x.2],λx=>Ji (S5 x.1.length (d2 x.1 x.2)),λx=>M3 x.1.length⟩
def b5t(L:List Wt)(tx:Int):Nat->Ann
 |0=>.one (V2 L.length (d2 L tx)) (λx=>⟨[(0,wtS L),(1,c6k tx),(7,Ji L.length),(8,Ji x.1)],[]⟩) (λx=>L.length-x.1) [] [] (λ_=>Y5)
 |_=>.none
theorem b1o:GK 178 b7L:=gk func178<|by
 rintro⟨L,tx⟩ (hL:L.length<1000000000000);refine R1 (gC a31 gN) func178 (b5t L tx) (α:=let r:=(L.length:Int);let p:=(T.bref [Ji tx]);(∃(x:V2 L.length (d2 L tx)),((Z3 X8 L L)/\(Fn.func 193=Fn.func 193/\K4 (λ(x:Nat)=>none) p p/\True)/\r=r/\0=(x.1:Int)/\True)/\True)/\∀(x:V2 L.length (d2 L tx)),let q:=(x.1:Int);let z:=(L.getD q.toNat dz);bd (q<r) (V3 q L.length/\∃(X:(Wt×Int)),(((z.tx=X.1.tx/\z.fo=X.1.fo/\True)/\(tx=X.2/\True)/\True)/\True)/\br (X.1.tx==X.2||X.1.fo==X.2) (q=S5 L.length (d2 L tx)) (Ri (q+1)/\∃(y:V2 L.length (d2 L tx)),(((Z3 X8 L L)/\(Fn.func 193=Fn.func 193/\K4 (λ(x:Nat)=>none) p p/\True)/\r=r/\q+1=(y.1:Int)/\True)/\True)/\Lt (L.length-y.1) (L.length-x.1))) ((-1:Int)=S5 L.length (d2 L tx))) ⟨⟨E7,⟨Z8,⟨rfl,T3 _,Z5⟩,Z8⟩,Z5⟩,λx=>⟨λC=>?_,λC=>?_⟩⟩
 ·have h:=Y0 C;refine⟨X9 h,(L.getD x.1 dz,tx),Z8,λhp=>(O8 h hp x.2.2).symm,λhp=>⟨V4 h Z9,x.succ h hp,⟨⟨Z8,⟨rfl,T3 _,Z5⟩,rfl,J0,Z5⟩,Z5⟩,V2.ext_lt h⟩⟩
 ·have e:=X3 C;exact(L5 λj J=>x.2.2 j (xC J e)).symm
def c5R:List T:=[Ji 0,Ji 0,Ji 0,Ji 0]
def zWt:List T:=[Ji 0,Ji 0]
def c6w(L:List Lck)(tx:Int):Option Ob:=some (.arr true 0 4 L.length (I4 (Y2 (D6 (hF tx) L L.length)) (X1 (hF tx) L L.length).length (L.length- (X1 (hF tx) L L.length).length) c5R))
def c7n(L:List Wt)(tx:Int):Option Ob:=some (.arr true 0 2 L.length (I4 (X8 (D6 (wF tx) L L.length)) (X1 (wF tx) L L.length).length (L.length- (X1 (wF tx) L L.length).length) zWt))
def b7q:Con:=.reff ⟨List Lck×Int,λx=>[.osl 0 0 x.1.length,.fn (.func 191) [.ref 1 0 0]],λx=>[oD x.1,sY x.2],λx=>.osl 0 0 (X1 (hF x.2) x.1 x.1.length).length,λx=>[oD (X1 (hF x.2) x.1 x.1.length),sY x.2],λx=>x.1.length<=1048576⟩
def b4a(L:List Lck)(tx:Int):Nat->Ann
 |0=>.one {j:Nat//j<=L.length} (λx=>⟨[(0,.osl 0 0 L.length),(1,.fn (.func 191) [.ref 1 0 0]),(5,Ji (X1 (hF tx) L x.1).length),(6,Ji x.1)],[some (.arr true 0 4 L.length (Y2 (D6 (hF tx) L x.1))),sY tx]⟩) (λx=>L.length-x.1) dD dD (λ_=>Y5)
 |_=>.none
theorem b4e(L:List Lck)(tx:Int)(h:
  ∃(x:(List Lck×Int)),(Le (0+L.length) L.length/\((Z3 Y2 L x.1)/\(Fn.func 191=Fn.func 191/\(tx=x.2/\True)/\True)/\True)/\M3 x.1.length)/\br (S5 x.1.length (d1 x.1 x.2)==(-1:Int)) (((0=0/\L.length=(X1 (hF tx) L L.length).length)/\True)/\(L.length=L.length/\Z7 L.length (Y2 L) λ(j:Nat)=>match(X1 (hF tx) L L.length).length.ble j&&j.blt ((X1 (hF tx) L L.length).length+(L.length- (X1 (hF tx) L L.length).length)) with|true=>[Ji 0,Ji 0,Ji 0,Ji 0]|false=>[Ji ((D6 (hF tx) L L.length).getD j dz).tx,Ji ((D6 (hF tx) L L.length).getD j dz).ta,Ji ((D6 (hF tx) L L.length).getD j dz).row,Ji ((D6 (hF tx) L L.length).getD j dz).mo])/\(oo (tx=tx/\True))/\True) (Ri (S5 x.1.length (d1 x.1 x.2)+1)/\(∃(X:{j:Nat//j<=L.length}),((0=0/\L.length=L.length)/\(Fn.func 191=Fn.func 191/\(0=0/\0=0)/\True)/\S5 x.1.length (d1 x.1 x.2)=(↑(X1 (hF tx) L X.val).length:Int)/\S5 x.1.length (d1 x.1 x.2)+1=(X.val:Int)/\True)/\(L.length=L.length/\Z7 L.length (Y2 L) (Y2 (D6 (hF tx) L X.val)))/\(oo (tx=tx/\True))/\True)/\∀(x:{j:Nat//j<=L.length}),bd ((x.1:Int)<(L.length:Int)) (V3 (x.1:Int) L.length/\Lt (0+(x.1:Int).toNat) L.length/\∃(X:(Lck×Int)),(((((D6 (hF tx) L x.1).getD (0+(x.1:Int).toNat) dz).tx=X.1.tx/\((D6 (hF tx) L x.1).getD (0+(x.1:Int).toNat) dz).ta=X.1.ta/\((D6 (hF tx) L x.1).getD (0+(x.1:Int).toNat) dz).row=X.1.row/\((D6 (hF tx) L x.1).getD (0+(x.1:Int).toNat) dz).mo=X.1.mo/\True)/\(tx=X.2/\True)/\True)/\True)/\br (!X.1.tx==X.2) (V3 (↑(X1 (hF tx) L x.1).length:Int) L.length/\Lt (0+(↑(X1 (hF tx) L x.1).length:Int).toNat) L.length/\Ri ((↑(X1 (hF tx) L x.1).length:Int)+1)/\Ri ((x.1:Int)+1)/\∃(y:{j:Nat//j<=L.length}),(((0=0/\L.length=L.length)/\(Fn.func 191=Fn.func 191/\(0=0/\0=0)/\True)/\(↑(X1 (hF tx) L x.1).length:Int)+1=(↑(X1 (hF tx) L y.1).length:Int)/\(x.1:Int)+1=(y.1:Int)/\True)/\(L.length=L.length/\Z7 L.length (setRow (Y2 (D6 (hF tx) L x.1)) (0+(↑(X1 (hF tx) L x.1).length:Int).toNat) 0 [Ji ((D6 (hF tx) L x.1).getD (0+(x.1:Int).toNat) dz).tx,Ji ((D6 (hF tx) L x.1).getD (0+(x.1:Int).toNat) dz).ta,Ji ((D6 (hF tx) L x.1).getD (0+(x.1:Int).toNat) dz).row,Ji ((D6 (hF tx) L x.1).getD (0+(x.1:Int).toNat) dz).mo]) (Y2 (D6 (hF tx) L y.1)))/\(oo (tx=tx/\True))/\True)/\Lt (L.length-y.1) (L.length-x.1)) (Ri ((x.1:Int)+1)/\∃(y:{j:Nat//j<=L.length}),(((0=0/\L.length=L.length)/\(Fn.func 191=Fn.func 191/\(0=0/\0=0)/\True)/\(↑(X1 (hF tx) L x.1).length:Int)=(↑(X1 (hF tx) L y.1).length:Int)/\(x.1:Int)+1=(y.1:Int)/\True)/\(L.length=L.length/\Z7 L.length (Y2 (D6 (hF tx) L x.1)) (Y2 (D6 (hF tx) L y.1)))/\(oo (tx=tx/\True))/\True)/\Lt (L.length-y.1) (L.length-x.1))) (lY (↑(X1 (hF tx) L x.1).length:Int) L.length/\Le (0+(↑(X1 (hF tx) L x.1).length:Int).toNat+(L.length- (↑(X1 (hF tx) L x.1).length:Int).toNat)) L.length/\lY (↑(X1 (hF tx) L x.1).length:Int) L.length/\((0=0/\(↑(X1 (hF tx) L x.1).length:Int).toNat=(X1 (hF tx) L L.length).length)/\True)/\(L.length=L.length/\Z7 L.length (λ(j:Nat)=>match(0+(↑(X1 (hF tx) L x.1).length:Int).toNat).ble j&&j.blt (0+(↑(X1 (hF tx) L x.1).length:Int).toNat+(L.length- (↑(X1 (hF tx) L x.1).length:Int).toNat)) with|true=>[Ji 0,Ji 0,Ji 0,Ji 0]|false=>[Ji ((D6 (hF tx) L x.1).getD j dz).tx,Ji ((D6 (hF tx) L x.1).getD j dz).ta,Ji ((D6 (hF tx) L x.1).getD j dz).row,Ji ((D6 (hF tx) L x.1).getD j dz).mo]) λ(j:Nat)=>match(X1 (hF tx) L L.length).length.ble j&&j.blt ((X1 (hF tx) L L.length).length+(L.length- (X1 (hF tx) L L.length).length)) with|true=>[Ji 0,Ji 0,Ji 0,Ji 0]|false=>[Ji ((D6 (hF tx) L L.length).getD j dz).tx,Ji ((D6 (hF tx) L L.length).getD j dz).ta,Ji ((D6 (hF tx) L L.length).getD j dz).row,Ji ((D6 (hF tx) L L.length).getD j dz).mo])/\(oo (tx=tx/\True))/\True))):
  G8 prog 190 [.osl 0 0 L.length,.fn (.func 191) [.ref 1 0 0]] [oD L,sY tx] (.osl 0 0 (X1 (hF tx) L L.length).length) [c6w L tx,sY tx]:=
 r9 (gC a7q (gC a44 gN)) func190 (b4a L tx) [dD] h
def b8M:Con:=.reff ⟨List Wt×Int,λx=>[.osl 0 0 x.1.length,.fn (.func 193) [.ref 1 0 0]],λx=>[iF x.1,sY x.2],λx=>.osl 0 0 (X1 (wF x.2) x.1 x.1.length).length,λx=>[iF (X1 (wF x.2) x.1 x.1.length),sY x.2],λx=>x.1.length<=1048576⟩
def c0B(L:List Wt)(tx:Int):Nat->Ann
 |0=>.one {j:Nat//j<=L.length} (λx=>⟨[(0,.osl 0 0 L.length),(1,.fn (.func 193) [.ref 1 0 0]),(5,Ji (X1 (wF tx) L x.1).length),(6,Ji x.1)],[some (.arr true 0 2 L.length (X8 (D6 (wF tx) L x.1))),sY tx]⟩) (λx=>L.length-x.1) dD dD (λ_=>Y5)
 |_=>.none
theorem b8L(L:List Wt)(tx:Int)(h:
  ∃(x:(List Wt×Int)),(Le (0+L.length) L.length/\((Z3 X8 L x.1)/\(Fn.func 193=Fn.func 193/\(tx=x.2/\True)/\True)/\True)/\M3 x.1.length)/\br (S5 x.1.length (d2 x.1 x.2)==(-1:Int)) (((0=0/\L.length=(X1 (wF tx) L L.length).length)/\True)/\(L.length=L.length/\Z7 L.length (X8 L) λ(j:Nat)=>match(X1 (wF tx) L L.length).length.ble j&&j.blt ((X1 (wF tx) L L.length).length+(L.length- (X1 (wF tx) L L.length).length)) with|true=>[Ji 0,Ji 0]|false=>[Ji ((D6 (wF tx) L L.length).getD j dz).tx,Ji ((D6 (wF tx) L L.length).getD j dz).fo])/\(oo (tx=tx/\True))/\True) (Ri (S5 x.1.length (d2 x.1 x.2)+1)/\(∃(X:{j:Nat//j<=L.length}),((0=0/\L.length=L.length)/\(Fn.func 193=Fn.func 193/\(0=0/\0=0)/\True)/\S5 x.1.length (d2 x.1 x.2)=(↑(X1 (wF tx) L X.val).length:Int)/\S5 x.1.length (d2 x.1 x.2)+1=(X.val:Int)/\True)/\(L.length=L.length/\Z7 L.length (X8 L) (X8 (D6 (wF tx) L X.val)))/\(oo (tx=tx/\True))/\True)/\∀(x:{j:Nat//j<=L.length}),bd ((x.1:Int)<(L.length:Int)) (V3 (x.1:Int) L.length/\Lt (0+(x.1:Int).toNat) L.length/\∃(X:(Wt×Int)),(((((D6 (wF tx) L x.1).getD (0+(x.1:Int).toNat) dz).tx=X.1.tx/\((D6 (wF tx) L x.1).getD (0+(x.1:Int).toNat) dz).fo=X.1.fo/\True)/\(tx=X.2/\True)/\True)/\True)/\br (!(X.1.tx==X.2||X.1.fo==X.2)) (V3 (↑(X1 (wF tx) L x.1).length:Int) L.length/\Lt (0+(↑(X1 (wF tx) L x.1).length:Int).toNat) L.length/\Ri ((↑(X1 (wF tx) L x.1).length:Int)+1)/\Ri ((x.1:Int)+1)/\∃(y:{j:Nat//j<=L.length}),(((0=0/\L.length=L.length)/\(Fn.func 193=Fn.func 193/\(0=0/\0=0)/\True)/\(↑(X1 (wF tx) L x.1).length:Int)+1=(↑(X1 (wF tx) L y.1).length:Int)/\(x.1:Int)+1=(y.1:Int)/\True)/\(L.length=L.length/\Z7 L.length (setRow (X8 (D6 (wF tx) L x.1)) (0+(↑(X1 (wF tx) L x.1).length:Int).toNat) 0 [Ji ((D6 (wF tx) L x.1).getD (0+(x.1:Int).toNat) dz).tx,Ji ((D6 (wF tx) L x.1).getD (0+(x.1:Int).toNat) dz).fo]) (X8 (D6 (wF tx) L y.1)))/\(oo (tx=tx/\True))/\True)/\Lt (L.length-y.1) (L.length-x.1)) (Ri ((x.1:Int)+1)/\∃(y:{j:Nat//j<=L.length}),(((0=0/\L.length=L.length)/\(Fn.func 193=Fn.func 193/\(0=0/\0=0)/\True)/\(↑(X1 (wF tx) L x.1).length:Int)=(↑(X1 (wF tx) L y.1).length:Int)/\(x.1:Int)+1=(y.1:Int)/\True)/\(L.length=L.length/\Z7 L.length (X8 (D6 (wF tx) L x.1)) (X8 (D6 (wF tx) L y.1)))/\(oo (tx=tx/\True))/\True)/\Lt (L.length-y.1) (L.length-x.1))) (lY (↑(X1 (wF tx) L x.1).length:Int) L.length/\Le (0+(↑(X1 (wF tx) L x.1).length:Int).toNat+(L.length- (↑(X1 (wF tx) L x.1).length:Int).toNat)) L.length/\lY (↑(X1 (wF tx) L x.1).length:Int) L.length/\((0=0/\(↑(X1 (wF tx) L x.1).length:Int).toNat=(X1 (wF tx) L L.length).length)/\True)/\(L.length=L.length/\Z7 L.length (λ(j:Nat)=>match(0+(↑(X1 (wF tx) L x.1).length:Int).toNat).ble j&&j.blt (0+(↑(X1 (wF tx) L x.1).length:Int).toNat+(L.length- (↑(X1 (wF tx) L x.1).length:Int).toNat)) with|true=>[Ji 0,Ji 0]|false=>[Ji ((D6 (wF tx) L x.1).getD j dz).tx,Ji ((D6 (wF tx) L x.1).getD j dz).fo]) λ(j:Nat)=>match(X1 (wF tx) L L.length).length.ble j&&j.blt ((X1 (wF tx) L L.length).length+(L.length- (X1 (wF tx) L L.length).length)) with|true=>[Ji 0,Ji 0]|false=>[Ji ((D6 (wF tx) L L.length).getD j dz).tx,Ji ((D6 (wF tx) L L.length).getD j dz).fo])/\(oo (tx=tx/\True))/\True))):
  G8 prog 192 [.osl 0 0 L.length,.fn (.func 193) [.ref 1 0 0]] [iF L,sY tx] (.osl 0 0 (X1 (wF tx) L L.length).length) [c7n L tx,sY tx]:=
 r9 (gC b1o (gC a31 gN)) func192 (c0B L tx) [dD] h
theorem a15{n:Nat}{p:Nat->Bool}(h:S5 n p= -1):∀q,q<n->p q=false:=by
 intro q;induction q using Nat.strongRecOn with
 |ind q i=>
  intro Q;cases hp:p q with
  |false=>rfl
  |true=>
   have:=O8 Q hp λj J=>i j J Z9
   rw[this] at h;omega
theorem fY{n:Nat}{p:Nat->Bool}(h:(S5 n p==(-1:Int))=false):∃i,i<n/\p i=true/\(∀j,j<i->p j=false)/\S5 n p=(i:Int):=by
 refine tY λN=>?_
 cases A:anyI n p with
 |false=>
  rw[L5 (P8.1 A)] at h;cases h
 |true=>
  obtain⟨i,hi,hp⟩:=R2.1 A;have f:∃i,i<n/\p i=true/\∀j,j<i->p j=false:=by
   induction i using Nat.strongRecOn with
   |ind i I=>
    by_cases d:∃j,j<i/\p j=true
    ·obtain⟨j,d,J⟩:=d;exact I j d Z9 J
    ·refine⟨i,hi,hp,λj hj'=>?_⟩
     cases J:p j with
     |false=>rfl
     |true=>exact absurd ⟨j,hj',J⟩ d
  obtain⟨i,hi,hp,l⟩:=f;rw[O8 hi hp l] at N;omega
theorem a10{α:Type}[Inhabited α]{ts:α->List T}{m:Nat}(M:∀a,(ts a).length=m){f:α->Bool}{L:List α}{j:Nat}(h:f (L.getD j dz)=true):Z7 L.length (setRow (λi=>ts ((D6 f L j).getD i dz)) (X1 f L j).length 0 (ts (L.getD j dz))) λi=>ts ((D6 f L (j+1)).getD i dz):=λi _=>by
 rw[zQ (by rw[M,M])]
 dsimp only;rw[c7G h];cases B:Nat.beq i (X1 f L j).length with
 |true=>
  rw[if_pos (F5 B)]
 |false=>
  rw[if_neg λe=>by rw[e,Nat.beq_refl] at B;cases B]
theorem eQ{row row':Nat->List T}{n m:Nat}{z:List T}(h:∀i,i<n->row i=row' i)(M:n<=m):Z7 n row (I4 row' m (n-m) z):=λi hi=>by
 unfold I4;cases B:Nat.ble m i with
 |true=>exact absurd (yQ B) Z9
 |false=>exact h i hi
theorem a2s{α:Type}[Inhabited α]{ts:α->List T}{sz:Nat}{f:α->Bool}{L:List α}{z:List T}{b:Option Ob}(h:(X1 f L L.length).length<=L.length):c49 [some (.arr true 0 sz L.length (I4 (λi=>ts ((D6 f L L.length).getD i dz)) (X1 f L L.length).length (L.length- (X1 f L L.length).length) z)),b] [some (.arr true 0 sz (X1 f L L.length).length (λi=>ts ((X1 f L L.length).getD i dz))),b]:=b9b λo' o=>by
 simp only[W9] at o;subst o;refine⟨_,rfl,.inr ⟨_,_,_,_,_,_,_,rfl,rfl,h,λi hi=>?_⟩⟩
 unfold I4;cases B:Nat.ble (X1 f L L.length).length i with
 |true=>exact absurd (yQ B) Z9
 |false=>exact(congrArg ts (c6q hi)).symm
theorem b2m:GK 190 b7q:=gk func190<|by
 rintro⟨L,tx⟩ (hL:L.length<=1048576);have l:=g9 (hF tx) L L.length;refine iH (b4e L tx ⟨(L,tx),⟨cM _,Z8,vY⟩,λn=>?_,λn=>?_⟩) (a2s (ts:=Lck.ts) l)
 ·obtain⟨e,d⟩:=lV (f:=hF tx) (U9 L.length) λq Q=>by
   have:=a15 (beq_iff_eq.1 n) q Q;unfold d1 at this;unfold hF bne;rw[this];rfl
  refine⟨⟨⟨rfl,e.symm⟩,Z5⟩,⟨rfl,?_⟩,Z8⟩
  exact eQ (row:=Y2 L) (row':=Y2 (D6 (hF tx) L L.length)) (z:=c5R) (λi _=>by rw[d]) (Nat.le_of_eq e.symm)
 ·obtain⟨i,hi,hp,g,h⟩:=fY n;have hi:i<L.length:=hi;obtain⟨e,d⟩:=lV (f:=hF tx) (L:=L) (j:=i) Z9 λq Q=>by
   have:=g q Q;unfold d1 at this;unfold hF bne;rw[this];rfl
  have I:hF tx (L.getD i dz)=false:=by
   unfold d1 at hp;unfold hF bne;rw[hp];rfl
  have o:(X1 (hF tx) L (i+1)).length=i:=by rw[eJ I];exact e
  have r:D6 (hF tx) L (i+1)=L:=by rw[b17 I];exact d
  have h:S5 L.length (d1 L tx)=(i:Int):=h;refine⟨?_,⟨⟨i+1,hi⟩,⟨Z8,Z8,?_,?_,Z5⟩,⟨rfl,?_⟩,Z8⟩,λx=>⟨λhc=>?_,λhc=>?_⟩⟩
  ·dsimp only;rw[h];exact Z1 Z9
  ·dsimp only;rw[h,o]
  ·dsimp only;rw[h];omega
  ·dsimp only;rw[r];exact W2 _ _
  ·have hlt:=Y0 hc;have hle:=g9 (hF tx) L x.1;have e0:(D6 (hF tx) L x.1).getD x.1 dz=L.getD x.1 dz:=b4K hle;rw[C8,C8,D8,D8,e0];refine⟨X9 hlt,hlt,(L.getD x.1 dz,tx),Z8,λhd=>?_,λhd=>?_⟩
   ·have hd:hF tx (L.getD x.1 dz)=true:=by
     exact hd
    exact⟨X9 Z9,H3,Z1 Z9,Z1 Z9,⟨x.1+1,hlt⟩,⟨⟨Z8,Z8,congrArg Int.ofNat (a07 hd),W5,Z5⟩,⟨rfl,a10 (m:=4) (ts:=Lck.ts) (λ_=>rfl) hd⟩,Z8⟩,V2.ext_lt hlt⟩
   ·have hd:hF tx (L.getD x.1 dz)=false:=by
     exact hd
    refine⟨Z1 Z9,⟨x.1+1,hlt⟩,⟨⟨Z8,Z8,?_,W5,Z5⟩,⟨rfl,?_⟩,Z8⟩,V2.ext_lt hlt⟩
    ·dsimp only;rw[eJ hd]
    ·dsimp only;rw[b17 hd];exact W2 _ _
  ·have hx:x.1=L.length:=by have:=x.2;have:=X3 hc;omega
   rw[hx,C8,D8];exact⟨⟨Z9,Z9⟩,C9,⟨Z9,Z9⟩,Z8⟩
theorem b7l:GK 192 b8M:=gk func192<|by
 rintro⟨L,tx⟩ (hL:L.length<=1048576);have l:=g9 (wF tx) L L.length;refine iH (b8L L tx ⟨(L,tx),⟨cM _,Z8,vY⟩,λn=>?_,λn=>?_⟩) (a2s (ts:=Wt.ts) l)
 ·obtain⟨e,d⟩:=lV (f:=wF tx) (U9 L.length) λq Q=>by
   have:=a15 (beq_iff_eq.1 n) q Q;unfold d2 at this;unfold wF bne;rw[←Bool.not_or,this];rfl
  refine⟨⟨⟨rfl,e.symm⟩,Z5⟩,⟨rfl,?_⟩,Z8⟩
  exact eQ (row:=X8 L) (row':=X8 (D6 (wF tx) L L.length)) (z:=zWt) (λi _=>by rw[d]) (Nat.le_of_eq e.symm)
 ·obtain⟨i,hi,hp,g,h⟩:=fY n;have hi:i<L.length:=hi;obtain⟨e,d⟩:=lV (f:=wF tx) (L:=L) (j:=i) Z9 λq Q=>by
   have:=g q Q;unfold d2 at this;unfold wF bne;rw[←Bool.not_or,this];rfl
  have I:wF tx (L.getD i dz)=false:=by
   unfold d2 at hp;unfold wF bne;rw[←Bool.not_or,hp];rfl
  have o:(X1 (wF tx) L (i+1)).length=i:=by rw[eJ I];exact e
  have r:D6 (wF tx) L (i+1)=L:=by rw[b17 I];exact d
  have h:S5 L.length (d2 L tx)=(i:Int):=h;refine⟨?_,⟨⟨i+1,hi⟩,⟨Z8,Z8,?_,?_,Z5⟩,⟨rfl,?_⟩,Z8⟩,λx=>⟨λhc=>?_,λhc=>?_⟩⟩
  ·dsimp only;rw[h];exact Z1 Z9
  ·dsimp only;rw[h,o]
  ·dsimp only;rw[h];omega
  ·dsimp only;rw[r];exact W2 _ _
  ·have hlt:=Y0 hc;have hle:=g9 (wF tx) L x.1;have e0:(D6 (wF tx) L x.1).getD x.1 dz=L.getD x.1 dz:=b4K hle;rw[C8,C8,D8,D8,e0];refine⟨X9 hlt,hlt,(L.getD x.1 dz,tx),Z8,λhd=>?_,λhd=>?_⟩
   ·have hd:wF tx (L.getD x.1 dz)=true:=by
     unfold wF bne;rw[←Bool.not_or];exact hd
    exact⟨X9 Z9,H3,Z1 Z9,Z1 Z9,⟨x.1+1,hlt⟩,⟨⟨Z8,Z8,congrArg Int.ofNat (a07 hd),W5,Z5⟩,⟨rfl,a10 (m:=2) (ts:=Wt.ts) (λ_=>rfl) hd⟩,Z8⟩,V2.ext_lt hlt⟩
   ·have hd:wF tx (L.getD x.1 dz)=false:=by
     unfold wF bne;rw[←Bool.not_or];exact hd
    refine⟨Z1 Z9,⟨x.1+1,hlt⟩,⟨⟨Z8,Z8,?_,W5,Z5⟩,⟨rfl,?_⟩,Z8⟩,V2.ext_lt hlt⟩
    ·dsimp only;rw[eJ hd]
    ·dsimp only;rw[b17 hd];exact W2 _ _
  ·have hx:x.1=L.length:=by have:=x.2;have:=X3 hc;omega
   rw[hx,C8,D8];exact⟨⟨Z9,Z9⟩,C9,⟨Z9,Z9⟩,Z8⟩
def frE(e:Eng)(tx:Int):Eng:={e with lk:=frK e.lk tx}
def c2B:Con:=.reff ⟨Eng×Int×Nat,λx=>[.ref 0 0 11,Ji x.2.1],λx=>x.1.bx x.2.2,λ_=>.tup [],λx=>(frE x.1 x.2.1).nx x.2.2,λx=>x.1.lk.H.length<=1048576/\x.1.lk.W.length<=1048576⟩
theorem b8C:GK 127 c2B:=gk func127<|by
 rintro⟨e,tx,v⟩ ⟨h,f⟩;dsimp only at h f;exact r9 (gC b2m (gC b7l gN)) func127 Y5 kP (α:=let q:=(X1 (wF tx) e.lk.W e.lk.W.length);let p:=(X1 (hF tx) e.lk.H e.lk.H.length);∃(x:(List Lck×Int)),let u:=x.1.length;let r:=(X1 (hF x.2) x.1 u);(((0=0/\e.lk.H.length=u)/\(Fn.func 191=Fn.func 191/\(0=0/\0=0)/\True)/\True)/\((Z3 Y2 e.lk.H x.1)/\(1=1/\Z7 1 (λ(x:Nat)=>[Ji tx]) λ(X:Nat)=>[Ji x.2])/\True)/\u<=1048576)/\∃(X:(List Wt×Int)),let z:=(X1 (wF X.2) X.1 X.1.length);(((0=0/\e.lk.W.length=X.1.length)/\(Fn.func 193=Fn.func 193/\(0=0/\0=0)/\True)/\True)/\((Z3 X8 e.lk.W X.1)/\(1=1/\Z7 1 (λ(x_2:Nat)=>[Ji x.2]) λ(x:Nat)=>[Ji X.2])/\True)/\X.1.length<=1048576)/\(True/\True)/\(oo ((0=0/\e.s.d.E.length=e.s.d.E.length)/\(0=0/\e.s.d.C.length=e.s.d.C.length)/\e.s.d.A=e.s.d.A/\(0=0/\e.s.d.keep.length=e.s.d.keep.length)/\e.s.ep=e.s.ep/\(0=0/\e.s.L.length=e.s.L.length)/\e.s.S=e.s.S/\(0=0/\e.s.fr.length=e.s.fr.length)/\e.s.J=e.s.J/\e.up=e.up/\(0=0/\e.X.length=e.X.length)/\(0=0/\r.length=p.length)/\(0=0/\z.length=q.length)/\e.N=e.N/\True))/\T8 ((Z3 Z6 e.s.d.E e.s.d.E)/\(Z3 Z2 e.s.d.C e.s.d.C)/\(Z3 Z0 e.s.d.keep e.s.d.keep)/\(Z3 Y6 e.s.L e.s.L)/\(v=v/\e.s.fr.length=e.s.fr.length/\V0 e.s.fr.length (Y9 e.s.fr) (Y9 e.s.fr))/\(Z3 X4 e.X e.X)/\(Z3 Y2 r p)/\(Z3 X8 z q)/\True)) ⟨(e.lk.H,tx),⟨Z8,Z8,h⟩,(e.lk.W,tx),⟨Z8,Z8,f⟩,Z8⟩
def OvB(e:Eng)(tx:Int)(k:Nat):Prop:=T9 e.X tx=k/\k<e.X.length/\(e.X.getD k dz).id=tx/\e.X.length<=1000/\e.lk.H.length<=1048576/\e.lk.W.length<=1048576
def c5e:Con:=.reff ⟨Eng×Int×Nat×Nat,λx=>[.ref 0 0 0,Ji x.2.1],λx=>x.1.bx x.2.2.2,λ_=>.tup [],λx=>(lK x.1 x.2.2.1).nx x.2.2.2,λx=>OvB x.1 x.2.1 x.2.2.1⟩
theorem c46(e:Eng)(tx:Int)(k v:Nat)(h:
let u:=(List.take k e.X++List.drop (k+1) e.X);let p:=(e.X.getD k dz).id;let w:=(X1 (wF p) e.lk.W e.lk.W.length);let y:=(X1 (hF p) e.lk.H e.lk.H.length);  ∃(x:(Eng×Int)),((LeG e)/\((qT e x.1)/\tx=x.2/\True)/\M3 x.1.X.length)/\Ri (T9 x.1.X x.2+1)/\∃(X:(List Txn×Nat)),(((0=0/\e.X.length=X.1.length)/\T9 x.1.X x.2=(X.2:Int)/\T9 x.1.X x.2+1=(↑(X.2+1):Int)/\True)/\((Z3 X4 e.X X.1)/\True)/\X.2<X.1.length)/\∃(x:(Eng×Int×Nat)),let j:=x.1.lk;let z:=(X1 (wF x.2.1) j.W j.W.length);let r:=(X1 (hF x.2.1) j.H j.H.length);let q:=x.1.s;(((0=0/\11=11)/\tx=x.2.1/\True)/\(lZ (v) (x.2.2) {e with X:=(xH X.1 X.2)} x.1)/\j.H.length<=1048576/\j.W.length<=1048576)/\(True/\True)/\(oo ((0=0/\q.d.E.length=e.s.d.E.length)/\(0=0/\q.d.C.length=e.s.d.C.length)/\q.d.A=e.s.d.A/\(0=0/\q.d.keep.length=e.s.d.keep.length)/\q.ep=e.s.ep/\(0=0/\q.L.length=e.s.L.length)/\q.S=e.s.S/\(0=0/\q.fr.length=e.s.fr.length)/\q.J=e.s.J/\x.1.up=e.up/\(0=0/\x.1.X.length=u.length)/\(0=0/\r.length=y.length)/\(0=0/\z.length=w.length)/\x.1.N=e.N/\True))/\T8 ((Z3 Z6 q.d.E e.s.d.E)/\(Z3 Z2 q.d.C e.s.d.C)/\(Z3 Z0 q.d.keep e.s.d.keep)/\(Z3 Y6 q.L e.s.L)/\(x.2.2=v/\q.fr.length=e.s.fr.length/\V0 q.fr.length (Y9 q.fr) (Y9 e.s.fr))/\(Z3 X4 x.1.X u)/\(Z3 Y2 r y)/\(Z3 X8 z w)/\True)):
  G8 prog 68 [.ref 0 0 0,Ji tx] (e.bx v) (.tup []) ((lK e k).nx v):=
 r9 (gC uD (gC b1c (gC b8C gN))) func68 Y5 kP h
theorem a9N:GK 68 c5e:=gk func68<|by
 rintro⟨e,tx,k,v⟩ ⟨h,d,hi,i,f,g⟩;dsimp only at h d hi i f g;subst hi;refine c46 e _ k v ⟨(e,_),⟨Z8,Z8,vY⟩,by rw[h];exact Z1 Z9,(e.X,k),⟨⟨Z8,h,a0c,Z5⟩,Z8,d⟩,({e with X:=xH e.X k},_,v),⟨Z8,Z8,f,g⟩,Z8⟩
def b6m:Con:=.rel ⟨Eng×Int,λx=>[.bref x.1.ts,Ji x.2],λx=>Ji (S8 x.1 x.2).2,λx=>M3 x.1.X.length⟩
theorem rY:GK 43 b6m:=gk func43<|by
 rintro⟨e,tx⟩ (hL:M3 e.X.length);refine R1 (gC uD gN) func43 Y5 (α:=let p:=(S8 e tx).2;br (!e.up) (15=p) (∃(x:(Eng×Int)),(((F9 e x.1)/\tx=x.2/\True)/\M3 x.1.X.length)/\bd (T9 x.1.X x.2<0) (19=p) (0=p))) ⟨λh=>by rw[c6b h],λh=>⟨(e,tx),⟨Z8,hL⟩,λq=>by rw[c6v h q],λq=>by rw[c58 h q]⟩⟩
def b44:Con:=.reff ⟨Eng×Int,λx=>[.ref 0 0 0,Ji x.2],λx=>x.1.bx 0,λx=>Ji (U8 x.1 x.2).2,λx=>(U8 x.1 x.2).1.nx 0,λx=>U3 x.1=true/\tF x.1⟩
theorem b76{L:List Txn}{id n:Int}{k:Nat}(hk:k<L.length)(A:T9 L id=k):T9 (L.set k ⟨(L.getD k dz).id,n⟩) id=k:=by
 have g:¬S5 L.length (G7 L id)<0:=by
  have:S5 L.length (G7 L id)=k:=A;omega
 obtain⟨i,hi,hp,f,o⟩:=tY g;have d:i=k:=by
  have:S5 L.length (G7 L id)=k:=A;omega
 subst d;have e:∀j,G7 (L.set i ⟨(L.getD i dz).id,n⟩) id j=G7 L id j:=λj=>by
  unfold G7;by_cases h:j=i
  ·subst h;rw[Q8 (l:=L.set j _),j_k hk]
   rfl
  ·rw[Q8 (l:=L.set i _),bI (Ne.symm h),←Q8]
 unfold T9;rw[w6];exact O8 hi (by rw[e];exact hp) λj J=>by rw[e];exact f j J
theorem c3a{L:List Txn}{n:Int}{k:Nat}(h:k<L.length):((L.set k ⟨(L.getD k dz).id,n⟩).getD k dz).id=(L.getD k dz).id:=by
 rw[Q8 (l:=L.set k _),j_k h]
 rfl
theorem b3i:GK 31 b44:=gk func31<|by
 rintro⟨e,tx⟩ ⟨o,B⟩;dsimp only at o B;have C:=c6L tx o;refine r9 (gC rY (gC iC (gC a4D (gC a1F (gC a9N gN))))) func31 Y5 kP (α:=let c:=(0=0/\0=0);let q:=(U8 e tx);∃(x:(Eng×Int)),((LeG e)/\((qT e x.1)/\tx=x.2/\True)/\M3 x.1.X.length)/\br ((S8 x.1 x.2).2 !=0) (((S8 x.1 x.2).2=q.2/\True)/\tB (0) (0) e q.1) (∃(x:(Eng×Int×Rec×Nat×Nat)),let pa:=(x.1.s.L.length:Int);let m:=x.2.2.2;let u:=x.2.2.1;let y:=(x.1.s.L++[U0 x.1.s (Q9 x.1 m.1 u)]);let r:=(x.1.X.set m.1 (Txn.mk (x.1.X.getD m.1 dz).id (pa+1)));((c/\tx=x.2.1/\(0=u.e/\0=u.l/\0=u.t/\4=u.k/\0=u.p/\0=u.n/\0=u.g/\0=u.s/\[]=u.b/\[]=u.a/\True)/\True)/\(lZ (0) (m.2) e x.1)/\AddB x.1 x.2.1 m.1 u)/\∃(f:(Sto×Int×Nat)),let i:=(W7 f.1 f.2.1);((c/\pa+1=f.2.1/\True)/\(oM {x.1.s with L:=y} f.1/\(Z3 Z6 x.1.s.d.E f.1.d.E)/\(Z3 Z2 x.1.s.d.C f.1.d.C)/\(Z3 Z0 x.1.s.d.keep f.1.d.keep)/\(Z3 Y6 y f.1.L)/\(m.2=f.2.2/\x.1.s.fr.length=f.1.fr.length/\V0 x.1.s.fr.length (Y9 x.1.s.fr) (Y9 f.1.fr))/\True)/\vD f.1 f.2.1)/\br (! i.2) (∃(X:(Eng×Nat)),((c/\True)/\(lZ (f.2.2) (X.2) {x.1 with s:=i.1,X:=r} X.1)/\H9 X.1.s.d)/\(15=q.2/\True)/\tB (0) (0) (yD X.1) q.1) (∃(X:(Eng×Int×Nat×Nat)),let v:=(List.take X.2.2.1 X.1.X++List.drop (X.2.2.1+1) X.1.X);let z:=(X.1.X.getD X.2.2.1 dz).id;let j:=(X1 (wF z) X.1.lk.W X.1.lk.W.length);let w:=(X1 (hF z) X.1.lk.H X.1.lk.H.length);((c/\tx=X.2.1/\True)/\(lZ (f.2.2) (X.2.2.2) {x.1 with s:=i.1,X:=r} X.1)/\OvB X.1 X.2.1 X.2.2.1)/\(0=q.2/\True)/\bO {X.1 with X:=v,lk:=⟨w,j⟩} q.1/\T8 ((Z3 Z6 X.1.s.d.E q.1.s.d.E)/\(Z3 Z2 X.1.s.d.C q.1.s.d.C)/\(Z3 Z0 X.1.s.d.keep q.1.s.d.keep)/\(Z3 Y6 X.1.s.L q.1.s.L)/\(X.2.2.2=0/\X.1.s.fr.length=q.1.s.fr.length/\V0 X.1.s.fr.length (Y9 X.1.s.fr) (Y9 q.1.s.fr))/\(Z3 X4 v q.1.X)/\(Z3 Y2 w q.1.lk.H)/\(Z3 X8 j q.1.lk.W)/\True)))) ⟨(e,tx),⟨Z8,Z8,C.1⟩,λhq=>?_,λhq=>?_⟩
 ·have h0:¬ (S8 e tx).2=0:=by simpa using hq
  have i:U8 e tx=(e,(S8 e tx).2):=by unfold U8;rw[if_neg h0]
  rw[i];exact Z8
 ·have h0:(S8 e tx).2=0:=by simpa using hq
  obtain⟨u,k,q,j,hi,A⟩:=i3 h0;obtain⟨J,M,I,v⟩:=E4 (Q1 o).2.1;obtain⟨O,l2⟩:=fU v;have r:=(c1E o u A j hi (b65 j)).1;obtain⟨L,F,hd,z⟩:=a1c o u A j hi;refine⟨(e,tx,a4N,k,0),⟨Z8,Z8,r⟩,((jN e k).s,(e.s.L.length+1:Nat),0),⟨Z8,Z8,F⟩,λY=>?_,λY=>?_⟩
  ·have Y:¬ (vF e k).2=true:=λh=>by
    have Y:(!(vF e k).2)=true:=Y;rw[h] at Y;cases Y
   have i:U8 e tx=(yD (pQ e k),15):=by unfold U8;rw[if_pos h0,q,C8,if_neg Y]
   rw[i];exact⟨(pQ e k,0),⟨Z8,Z8,hd⟩,Z8⟩
  ·have Y:(vF e k).2=true:=by
    have Y:(!(vF e k).2)=false:=Y
    simpa using Y
   have i:U8 e tx=(lK (pQ e k) k,0):=by unfold U8;rw[if_pos h0,q,C8,if_pos Y]
   have N:(pQ e k).X.length=e.X.length:=w6;rw[i];exact⟨(pQ e k,tx,k,0),⟨Z8,Z8,b76 j A,W5,(c3a j).trans hi,W5,by show e.lk.H.length<=_;omega,by show e.lk.W.length<=_;omega⟩,⟨rfl,Z5⟩,⟨rfl,rfl,⟨rfl,rfl⟩,⟨rfl,rfl⟩,rfl,⟨rfl,rfl⟩,rfl,⟨rfl,rfl⟩,rfl,⟨rfl,rfl⟩,rfl,rfl,⟨rfl,rfl⟩,⟨rfl,rfl⟩,⟨rfl,rfl⟩,rfl,Z5⟩,Z5,Z5,Z5,Z5,Z5,Z5,Z5,Z5,⟨rfl,W2 _ _⟩,⟨rfl,W2 _ _⟩,⟨rfl,W2 _ _⟩,⟨rfl,W2 _ _⟩,⟨rfl,rfl,jJ _⟩,⟨rfl,W2 _ _⟩,⟨rfl,W2 _ _⟩,⟨rfl,W2 _ _⟩,Z5⟩
theorem tO(n:Int):((zC n).toNat:Int)=n % 256:=by
 unfold zC;rw[a2r (N9 _),IntKind.wrap_u8]
theorem a7F{n:Int}(h:0<=n)(d:n<=255):((zC n).toNat:Int)=n:=by
 rw[tO];omega
theorem c4R{n:Nat}(h:n<65536):be (wZ n)=n:=by
 have d:=tO ((n:Int).fdiv 256);have e:=tO ((n:Int).fdiv 1);rw[Int.fdiv_eq_ediv_of_nonneg _ U4] at d e
 show(0*256+(zC ((n:Int).fdiv 256)).toNat)*256+(zC ((n:Int).fdiv 1)).toNat=n;rw[Int.fdiv_eq_ediv_of_nonneg _ U4,Int.fdiv_eq_ediv_of_nonneg _ U4]
 omega
theorem c5u{n:Nat}(h:n<4294967296):be (z7 n)=n:=by
 have e:=tO ((n:Int).fdiv 16777216);have f:=tO ((n:Int).fdiv 65536);have d:=tO ((n:Int).fdiv 256);have g:=tO ((n:Int).fdiv 1);rw[Int.fdiv_eq_ediv_of_nonneg _ U4] at e f d g
 show(((0*256+(zC ((n:Int).fdiv 16777216)).toNat)*256+(zC ((n:Int).fdiv 65536)).toNat)*256+(zC ((n:Int).fdiv 256)).toNat)*256+(zC ((n:Int).fdiv 1)).toNat=n;rw[Int.fdiv_eq_ediv_of_nonneg _ U4,Int.fdiv_eq_ediv_of_nonneg _ U4,Int.fdiv_eq_ediv_of_nonneg _ U4,Int.fdiv_eq_ediv_of_nonneg _ U4]
 omega
theorem b6x(l:Bz):R3 (l++z7 (j3 l))=true/\X0 (l++z7 (j3 l))=l:=by
 have d:(z7 (j3 l)).length=4:=rfl;have L:(l++z7 (j3 l)).length-4=l.length:=by rw[J6,d];omega
 have h:(l++z7 (j3 l)).take l.length=l:=List.take_left;have hd:(l++z7 (j3 l)).drop l.length=z7 (j3 l):=List.drop_left;have ok:R3 (l++z7 (j3 l))=true:=by
  unfold R3;rw[L,h,hd,c5u (a1Q l),J6,d];simp
 refine⟨ok,?_⟩
 unfold X0;rw[if_pos ok,L,h]
def b5C(L:List (Bz)):Prop:=L.length<=100/\∀i,i<L.length->(L.getD i []).length<=255
theorem jC(L:List (Bz))(i:Nat):∀k,∃r,V6 L (i+k)=V6 L i++r
 |0=>⟨[],W6⟩
 |k+1=>by
  obtain⟨r,h⟩:=jC L i k;refine⟨r++[zC (L.getD (i+k) []).length]++L.getD (i+k) [],?_⟩
  show V6 L (i+k)++[zC (L.getD (i+k) []).length]++L.getD (i+k) []=_;rw[h];simp only[List.append_assoc]
theorem a8t{α:Type}(d:α)(L:List α){i:Nat}(h:i<L.length):L.take (i+1)=L.take i++[L.getD i d]:=by
 rw[List.take_add_one,Q8,I9 h]
 rfl
theorem b3D{L:List (Bz)}(h:b5C L):∀i,i<=L.length->xM (R7 L) i=some ((V6 L i).length,L.take i)
 |0,_=>rfl
 |i+1,hi=>by
  obtain⟨r,R⟩:=jC L (i+1) (L.length- (i+1));rw[show i+1+(L.length- (i+1))=L.length by omega] at R
  have C:((zC (L.getD i []).length).toNat:Int)=(L.getD i []).length:=a7F Z9 (by have:=h.2 i Z9;omega)
  have B:R7 L=V6 L i++([zC (L.getD i []).length]++(L.getD i []++r)):=by
   unfold R7;rw[R];show V6 L i++[zC (L.getD i []).length]++L.getD i []++r=_;simp only[List.append_assoc]
  have g:(R7 L).getD (V6 L i).length 0=zC (L.getD i []).length:=by
   rw[B,Q8,tD (U9 _)]
   simp
  have l:(R7 L).length=(V6 L i).length+(1+((L.getD i []).length+r.length)):=by rw[B];simp only[J6,List.length_cons,List.length_nil]
  have n:(zC (L.getD i []).length).toNat=(L.getD i []).length:=Z9
  have e:List.drop ((V6 L i).length+1) (List.take ((V6 L i).length+1+(L.getD i []).length) (R7 L))=L.getD i []:=by
   rw[B,←List.append_assoc,←List.append_assoc];rw[List.take_left' (by simp only[J6,List.length_cons,List.length_nil]),List.drop_left' (by simp only[J6,List.length_cons,List.length_nil])]
  conv=>lhs;unfold xM
  rw[b3D h i Z9]
  dsimp only;rw[g,n,if_pos ⟨Z9,Z9⟩,e,a8t [] L Z9]
  congr 2
  simp only[V6,J6,List.length_cons,List.length_nil]
theorem a0X{L:List (Bz)}(h:b5C L):P3 (R7 L)=some L:=by
 obtain⟨r,R⟩:=jC L 0 L.length;rw[D8] at R;have C:((zC L.length).toNat:Int)=L.length:=a7F Z9 (by have:=h.1;omega)
 have f:C1 (R7 L)=L.length:=by
  unfold C1 R7;rw[R];show(zC L.length).toNat=_;omega
 have l:(R7 L).length≠0:=by
  unfold R7;rw[R];simp[V6]
 unfold P3;rw[f,if_neg (by have:=h.1;omega),b3D h _ (U9 _)]
 dsimp only;rw[show(V6 L L.length).length=(R7 L).length from rfl,if_pos rfl,j_j]
theorem c2d{no:Int}{p:Pg}(h:PgP p)(t:0<=no)(v:no<=255):E8 no (S3 no p)=(p,true):=by
 obtain⟨l,q,j,d⟩:=h;obtain⟨U,u⟩:=b6x (sT no p);have hF:b5C p.sl:=⟨Z9,λi hi=>Nat.le_trans (d i hi) U4⟩
 obtain⟨r,R⟩:=jC p.sl 0 p.sl.length;have n:1<=(R7 p.sl).length:=by
  unfold R7;rw[←D8 p.sl.length,R];simp[V6]
 have f:sT no p=P9 112::zC no::(wZ p.Q.toNat++R7 p.sl):=by unfold sT;simp
 have e:(wZ p.Q.toNat).length=2:=rfl;have o:vH no (sT no p)=true:=by
  unfold vH;rw[f];simp only[List.length_cons,J6,e,M1,g7];exact⟨Z9,rfl,a7F t v⟩
 have g:(sT no p).drop 4=R7 p.sl:=by
  unfold sT;exact List.drop_left' (by simp[e])
 have d2:((sT no p).drop 2).take 2=wZ p.Q.toNat:=by
  rw[f];exact List.take_left' e
 have x:pgX (sT no p)=p:=by
  unfold pgX;rw[g,d2,a0X hF,c4R Z9,Option.getD_some,show((p.Q.toNat:Nat):Int)=p.Q by omega]
 have ok:j8 p=true:=pH ⟨l,q,j,d⟩;unfold E8 S3;rw[U,u,o,x,g,a0X hF,ok];rfl
theorem b7n(L:List (Bz))(h:∀i,i<L.length->(L.getD i []).length<=30):∀i,i<=L.length->(V6 L i).length<=1+31*i
 |0,_=>by simp[V6]
 |i+1,hi=>by
  have d:=b7n L h i Z9
  have e:=h i Z9
  simp only[V6,J6,List.length_cons,List.length_nil];omega
theorem b4M{no:Int}{p:Pg}(h:PgP p):(S3 no p).length<=160/\S3 no p≠[]:=by
 obtain⟨j,n,i,d⟩:=h;have:=b7n p.sl d p.sl.length (U9 _);have f:(z7 (j3 (sT no p))).length=4:=rfl;have g:(wZ p.Q.toNat).length=2:=rfl;have l:(S3 no p).length=8+(R7 p.sl).length:=by
  unfold S3;rw[J6,f];unfold sT;simp only[J6,List.length_cons,List.length_nil,g];omega
 refine⟨by rw[l];unfold R7;omega,λe=>?_⟩
 rw[e] at l;simp at l;omega
structure SI(s:Sto):Prop where
 iv:SInv s
 dw:b7H s.d
 pl:∀no,no<8->(V1 s.d no).1.Q<=s.L.length
theorem b8E{s:Sto}(h:SInv s)(W:b7H s.d):H9 s.d:=by
 obtain⟨l,g,f,e,j⟩:=W;refine⟨Z9,Z9,h.c,g,f,e,λi hi=>?_⟩
 have:=h.pd i hi;have:=j i hi;unfold O4;rw[S2.2 Z9,tH Z9]
 rfl
theorem SI.dk{s:Sto}(h:SI s):H9 s.d:=b8E h.iv h.dw
theorem dX{d:Dsk}(h:H9 d)(e:d.E.length=69):b7H d:=by
 obtain⟨o,n,q,g,l,f,j⟩:=h;exact⟨e,g,l,f,λi hi=>(eM (j i hi)).2.2⟩
theorem SI.logP{s:Sto}(h:SI s):w9 s.L:=⟨h.iv.l60,λi hi=>by
 obtain⟨a,b⟩:=G9.1 h.iv.rc i hi;exact⟨(R6 _).1 a,b⟩⟩
theorem c2k{s:Sto}(h:G2 s=true)(M:SmS s):SI s:=by
 have hd:=((v9 s).1 ((J8 s).1 h).1.1);refine⟨a8N h M,dX hd.1 hd.2.1,λno n=>?_⟩
 have B:=((J8 s).1 h).2.2.1 no n;have d:=yM ((J8 s).1 h).1.2.2;unfold zN at B;simp only[zY,qW] at B;omega
theorem a75{s:Sto}{r:Rec}(h:SI s)(R:O9 (U0 s r)=true)(l:s.L.length+1<=60):SI (apx s r):=by
 have e:(apx s r).L.length=s.L.length+1:=by show(s.L++[_]).length=_;simp
 have L:=a4j h.logP R l;have hi:=h.iv;have u:=hi.su;refine⟨⟨⟨hi.sm.1,Z9,hi.sm.2.2⟩,hi.c,hi.pd,hi.n69,⟨u.1,by have:(apx s r).S=s.S:=rfl;omega⟩,Z9,G9.2 λi hi=>⟨(R6 _).2 (L.2 i hi).1,(L.2 i hi).2⟩,hi.fr3,λi f=>?_,hi.hd,hi.pg⟩,h.dw,λno n=>?_⟩
 ·obtain⟨a,b,c,d⟩:=hi.frp i f;exact⟨a,b,c,by have:((apx s r).fr.getD i dz).pg.Q<=s.L.length:=d;omega⟩
 ·have:(V1 (apx s r).d no).1.Q<=s.L.length:=h.pl no n;omega
theorem a2A{L:List Frm}{k:Nat}(f:Frm)(i:Nat)(hk:k<L.length):(L.set k f).getD i dz=if i=k then f else L.getD i dz:=by
 by_cases h:i=k
 ·subst h;rw[if_pos rfl,Q8,j_k hk]
  rfl
 ·rw[if_neg h,Q8,bI (Ne.symm h),←Q8]
theorem b3A{d:Dsk}(h:H9 d)(e:d.E.length=69):H9 (B9 d).1/\(B9 d).1.E.length=69:=by
 unfold B9;split
 ·exact b0f (dX h e)
 ·exact⟨h,e⟩
theorem b8x{s:Sto}{l:Int}(h:vD s l)(e:0<=l):0<=(W7 s l).1.S/\(W7 s l).1.S<=s.L.length:=by
 obtain⟨_,_,_,_,B,d,_,f,_⟩:=h;by_cases hl:l<=s.S
 ·rw[o8 hl];exact⟨B,d⟩
 ·rw[m5 hl];dsimp only;split
  ·exact⟨e,f⟩
  ·exact⟨B,d⟩
theorem c42{s:Sto}{k:Nat}(h:SI s)(g:k<s.fr.length)(u:(X5 s k).2=false):H9 (X5 s k).1.d/\(X5 s k).1.d.E.length=69:=by
 obtain⟨i,F,j,f4⟩:=h.iv.frp k g;have f:=h.iv.flu f4;have e:=a2h h.dk f h.logP;cases hd:(s.fr.getD k dz).D with
 |false=>rw[b9 hd] at u;cases u
 |true=>
  cases hF:(W7 s (s.fr.getD k dz).pg.Q).2 with
  |false=>rw[sJ hd hF];exact e
  |true=>
   cases B:(B9 (W7 s (s.fr.getD k dz).pg.Q).1.d).2 with
   |false=>rw[nF hd hF B];exact b3A e.1 e.2
   |true=>rw[pD hd hF B] at u;cases u
theorem c2H{s:Sto}{k:Nat}(h:SI s)(hk:k<s.fr.length)(u:(X5 s k).2=true):SI (X5 s k).1/\(X5 s k).1.L=s.L/\(X5 s k).1.fr.length=s.fr.length/\(X5 s k).1.J=s.J:=by
 obtain⟨r1,z,r3,O,C⟩:=s7 s k;refine⟨?_,r3,r1,z⟩
 cases hd:(s.fr.getD k dz).D with
 |false=>rw[b9 hd];exact h
 |true=>
  have hi:=h.iv;obtain⟨v,I,F,f4⟩:=hi.frp k hk;have x:=hi.flu f4;have j:=a2h h.dk x h.logP;have r:=vC s (s.fr.getD k dz).pg.Q;have f:=b8x x F.1;have M:=a9h hi hk;have e:=λno o q=>a42 (no:=no) hi hk o q u
  have t:=a12 (l:=(s.fr.getD k dz).pg.Q) hi.pd;cases hF:(W7 s (s.fr.getD k dz).pg.Q).2 with
  |false=>rw[sJ hd hF] at u;cases u
  |true=>
   cases B:(B9 (W7 s (s.fr.getD k dz).pg.Q).1.d).2 with
   |false=>rw[nF hd hF B] at u;cases u
   |true=>
    have hw:=b3A j.1 j.2;have hpd5:cB (B9 (W7 s (s.fr.getD k dz).pg.Q).1.d).1:=by
     unfold B9;split
     ·exact b7V (g8 _)
     ·exact t
    have J:(X5 s k).1.d.C.length<=500:=by
     by_cases L:(s.fr.getD k dz).no=0
     ·exact(e 1 Z9 Z9).2
     ·exact(e 0 Z9 Z9).2
    obtain⟨A,Z⟩:=b4M (no:=(s.fr.getD k dz).no) F;have n:(X5 s k).1=wrF ((W7 s (s.fr.getD k dz).pg.Q).1.sd (B9 (W7 s (s.fr.getD k dz).pg.Q).1.d).1) k:=by rw[pD hd hF B]
    have efr:(X5 s k).1.fr=s.fr.set k (jY (s.fr.getD k dz)):=by
     rw[n];show(W7 s _).1.fr.set k (jY ((W7 s _).1.fr.getD k dz))=_;rw[r.1]
    have ed:(X5 s k).1.d=wrD (B9 (W7 s (s.fr.getD k dz).pg.Q).1.d).1 (1+(s.fr.getD k dz).no) (S3 (s.fr.getD k dz).no (s.fr.getD k dz).pg):=by
     rw[n];show wrD _ (1+((W7 s _).1.fr.getD k dz).no) (S3 ((W7 s _).1.fr.getD k dz).no ((W7 s _).1.fr.getD k dz).pg)=_;rw[r.1];rfl
    have U:(X5 s k).1.S=(W7 s (s.fr.getD k dz).pg.Q).1.S:=by rw[n];rfl
    have g:∀no,no<8->(V1 (X5 s k).1.d no).2=true/\(U1 (X5 s k).1.d (1+no)).length<=1000/\(V1 (X5 s k).1.d no).1.Q<=s.L.length:=λno o=>by
     by_cases N:(s.fr.getD k dz).no=no
     ·have R:U1 (X5 s k).1.d (1+no)=S3 (s.fr.getD k dz).no (s.fr.getD k dz).pg:=by
       rw[ed,lI,if_pos Z9]
      have hp:V1 (X5 s k).1.d no=((s.fr.getD k dz).pg,true):=by
       unfold V1;rw[R,if_neg Z,←N];exact c2d F v Z9
      rw[hp,R];exact⟨rfl,Z9,f4⟩
     ·have Q:=(e no o N).1;have hp:=(w7 (d:=(X5 s k).1.d) (d':=s.d) (no:=no) Q).1;rw[hp,Q];exact⟨(hi.pg no o).1,(hi.pg no o).2,h.pl no o⟩
    refine⟨⟨M,J,?_,by rw[C];exact hi.n69,⟨by rw[U];exact f.1,by rw[U,r3];exact f.2⟩,by rw[r3];exact hi.l60,by rw[r3];exact hi.rc,by rw[r1];exact hi.fr3,λi hi'=>?_,by rw[z];exact hi.hd,λno o=>⟨(g no o).1,(g no o).2.1⟩⟩,?_,λno o=>by rw[r3];exact(g no o).2.2⟩
    ·rw[ed];intro i hi';have hi':i<((B9 (W7 s (s.fr.getD k dz).pg.Q).1.d).1.C++[(⟨1+(s.fr.getD k dz).no,S3 (s.fr.getD k dz).no (s.fr.getD k dz).pg⟩:Pend)]).length:=hi';rw[J6,List.length_singleton] at hi';show 0<=(((B9 (W7 s (s.fr.getD k dz).pg.Q).1.d).1.C++[(⟨1+(s.fr.getD k dz).no,S3 (s.fr.getD k dz).no (s.fr.getD k dz).pg⟩:Pend)]).getD i dz).at_/\(((B9 (W7 s (s.fr.getD k dz).pg.Q).1.d).1.C++[(⟨1+(s.fr.getD k dz).no,S3 (s.fr.getD k dz).no (s.fr.getD k dz).pg⟩:Pend)]).getD i dz).at_<((B9 (W7 s (s.fr.getD k dz).pg.Q).1.d).1.E.length:Int);rw[yT dz _ _ i hi',hw.2];split
     ·exact⟨W5,W5⟩
     ·have:=hpd5 i Z9
      rw[hw.2] at this;exact this
    ·rw[r1] at hi';rw[efr,a2A _ _ hk,r3];split
     ·exact⟨v,I,F,f4⟩
     ·exact hi.frp i hi'
    ·rw[ed];obtain⟨w1,w2,w3,w4,w5⟩:=dX hw.1 hw.2;refine⟨w1,w2,w3,w4,λi hi'=>?_⟩
     have hi':i<((B9 (W7 s (s.fr.getD k dz).pg.Q).1.d).1.C++[(⟨1+(s.fr.getD k dz).no,S3 (s.fr.getD k dz).no (s.fr.getD k dz).pg⟩:Pend)]).length:=hi';rw[J6,List.length_singleton] at hi';show(((B9 (W7 s (s.fr.getD k dz).pg.Q).1.d).1.C++[(⟨1+(s.fr.getD k dz).no,S3 (s.fr.getD k dz).no (s.fr.getD k dz).pg⟩:Pend)]).getD i dz).d.length<=160;rw[yT dz _ _ i hi'];split
     ·exact A
     ·exact w5 i Z9
theorem b4B{s:Sto}{no:Nat}(h:SI s)(o:no<8):0<=(G0 no (V1 s.d no).1).no/\(G0 no (V1 s.d no).1).no<=7/\PgP (G0 no (V1 s.d no).1).pg/\(G0 no (V1 s.d no).1).pg.Q<=s.L.length:=⟨by show(0:Int)<=no;omega,by show(no:Int)<=7;omega,nB (h.iv.pg no o).1,h.pl no o⟩
theorem b4H{s:Sto}{L:List Frm}{hand:Int}(h:SI s)(M:SmS ⟨s.d,s.ep,s.L,s.S,L,hand⟩)(g:L.length<=3)(f:∀i,i<L.length->0<=(L.getD i dz).no/\(L.getD i dz).no<=7/\PgP (L.getD i dz).pg/\(L.getD i dz).pg.Q<=s.L.length)(e:0<=hand/\hand<=2):SI ⟨s.d,s.ep,s.L,s.S,L,hand⟩:=
 ⟨⟨M,h.iv.c,h.iv.pd,h.iv.n69,h.iv.su,h.iv.l60,h.iv.rc,g,f,e,h.iv.pg⟩,h.dw,h.pl⟩
theorem c6f{a:Int}(h:0<=a):0<=a.tmod 3/\a.tmod 3<=2:=by
 rw[Int.tmod_eq_emod_of_nonneg h];omega
theorem a2e{s:Sto}{no:Nat}(h:SI s)(u:(Y7 s no).2.2=false):H9 (Y7 s no).1.d/\(Y7 s no).1.d.E.length=69:=by
 by_cases C:0<=frAt s.fr no
 ·rw[(m4 0 C).1] at u;cases u
 ·by_cases h3:s.fr.length=3
  ·have hh:=h.iv.hd;cases ho:(X5 s s.J.toNat).2 with
   |true=>rw[(x4 0 C h3 ho).1] at u;cases u
   |false=>
    rw[(l8 0 C h3 ho).1];exact c42 h Z9 ho
  ·rw[(k7 0 C h3).1] at u;cases u
theorem eS{s:Sto}{no:Nat}(h:SI s)(o:no<8)(u:(Y7 s no).2.2=true):SI (Y7 s no).1/\(Y7 s no).1.L=s.L:=by
 have hm:=a9k h.iv o;have f:=h.iv.hd;have g:=h.iv.fr3;by_cases hc:0<=frAt s.fr no
 ·rw[(m4 0 hc).1];exact⟨h,rfl⟩
 ·by_cases h3:s.fr.length=3
  ·cases ho:(X5 s s.J.toNat).2 with
   |false=>rw[(l8 0 hc h3 ho).1] at u;cases u
   |true=>
    obtain⟨O,l,e,j⟩:=c2H h (show s.J.toNat<s.fr.length by omega) ho
    rw[(x4 0 hc h3 ho).1] at hm ⊢;have hlen:((X5 s s.J.toNat).1.fr.set s.J.toNat (G0 no (V1 (X5 s s.J.toNat).1.d no).1)).length=3:=by rw[w6,e];exact h3
    refine⟨b4H O hm Z9 (λi hi=>?_) (by rw[j];exact c6f Z9),l⟩
    rw[a2A _ _ Z9]
    split
    ·exact b4B O o
    ·exact O.iv.frp i Z9
  ·rw[(k7 0 hc h3).1] at hm ⊢;have hlen:(s.fr++[G0 no (V1 s.d no).1]).length=s.fr.length+1:=by rw[J6];rfl
   refine⟨b4H h hm Z9 (λi hi=>?_) f,rfl⟩
   rw[yT dz _ _ i Z9]
   split
   ·exact b4B h o
   ·exact h.iv.frp i Z9
theorem b5Q{s:Sto}{r:Rec}(h:SI s)(u:(T7 s r).2=false):H9 (T7 s r).1.d/\(T7 s r).1.d.E.length=69:=by
 cases f:(Y7 s r.g.toNat).2.2 with
 |true=>
  unfold T7 at u;rw[if_pos f] at u;cases u
 |false=>
  have e:T7 s r=((Y7 s r.g.toNat).1,false):=if_neg (by rw[f];simp)
  rw[e];exact a2e h f
theorem b4G{s:Sto}{r:Rec}(h:SI s)(B:mP s r)(hl:0<=r.l/\r.l<=s.L.length)(A:r.a.length<=30)(u:(T7 s r).2=true):SI (T7 s r).1/\(T7 s r).1.L=s.L:=by
 have M:=c0F B;obtain⟨_,v,C,F,q⟩:=B;have o:r.g.toNat<8:=Z9
 cases f:(Y7 s r.g.toNat).2.2 with
 |false=>
  unfold T7 at u;rw[if_neg (by rw[f];simp)] at u
  cases u
 |true=>
  have e:T7 s r=(b11 (Y7 s r.g.toNat).1 (Y7 s r.g.toNat).2.1 r,true):=if_pos f;obtain⟨i1,I⟩:=eS h o f;obtain⟨k1,t,x,d,n⟩:=oX h.iv o f;have z:=i1.iv.fr3;rw[e] at M ⊢;refine⟨b4H i1 M (by rw[w6];omega) (λi hi=>?_) i1.iv.hd,I⟩
  rw[w6] at hi;rw[a2A _ _ k1];split
  ·obtain⟨b1,b2,b3,b4⟩:=i1.iv.frp _ k1;refine⟨b1,b2,⟨hl.1,?_,?_,λj hj=>?_⟩,?_⟩
   ·have:=h.iv.l60;show r.l<=_;omega
   ·show(List.set _ _ _).length=_;rw[w6];exact d
   ·show((List.set _ _ _).getD j []).length<=30;have hj:j<(List.set ((Y7 s r.g.toNat).1.fr.getD (Y7 s r.g.toNat).2.1 dz).pg.sl r.s.toNat r.a).length:=hj;rw[w6] at hj;by_cases hjs:j=r.s.toNat
    ·subst hjs;rw[Q8,j_k hj]
     exact A
    ·rw[Q8,bI (Ne.symm hjs),←Q8]
     exact n j hj
   ·rw[I];exact hl.2
  ·exact i1.iv.frp i hi
theorem a0n{L:List Txn}{id n:Int}{k:Nat}(hk:k<L.length)(A:T9 L id=k):T9 (L.set k ⟨(L.getD k dz).id,n⟩) id=k:=by
 have g:¬S5 L.length (G7 L id)<0:=by
  have:S5 L.length (G7 L id)=k:=A;omega
 obtain⟨i,hi,hp,f,o⟩:=tY g;have d:i=k:=by
  have:S5 L.length (G7 L id)=k:=A;omega
 subst d;have e:∀j,G7 (L.set i ⟨(L.getD i dz).id,n⟩) id j=G7 L id j:=λj=>by
  unfold G7;by_cases h:j=i
  ·subst h;rw[Q8 (l:=L.set j _),j_k hk]
   rfl
  ·rw[Q8 (l:=L.set i _),bI (Ne.symm h),←Q8]
 unfold T9;rw[w6];exact O8 hi (by rw[e];exact hp) λj J=>by rw[e];exact f j J
theorem a2b{L:List Txn}{n:Int}{k:Nat}(h:k<L.length):((L.set k ⟨(L.getD k dz).id,n⟩).getD k dz).id=(L.getD k dz).id:=by
 rw[Q8 (l:=L.set k _),j_k h]
 rfl
theorem c5d(s:Sto)(r:Rec):(T7 s r).1.ep=s.ep:=by
 have hF:(Y7 s r.g.toNat).1.ep=s.ep:=by
  by_cases h:0<=frAt s.fr r.g.toNat
  ·rw[(m4 0 h).1]
  ·by_cases h3:s.fr.length=3
   ·cases ho:(X5 s s.J.toNat).2 with
    |true=>rw[(x4 0 h h3 ho).1];exact(s7 s s.J.toNat).2.2.2.1
    |false=>rw[(l8 0 h h3 ho).1];exact(s7 s s.J.toNat).2.2.2.1
   ·rw[(k7 0 h h3).1];rfl
 unfold T7;split
 ·exact hF
 ·exact hF
def s6(r:Rec):Rec:=⟨0,0,0,3,0,r.p,r.g,r.s,[],r.b⟩
theorem b0c{p:Prop}(h:p:=by unfold s6;dsimp only;omega):p:=h
def uX(e:Eng)(k:Nat)(r:Rec):Rec:=U0 e.s (Q9 e k (s6 r))
def J5(e:Eng)(k:Nat)(r:Rec):Eng×Bool:=({K7 e k (s6 r) with s:=(T7 (K7 e k (s6 r)).s (uX e k r)).1},(T7 (K7 e k (s6 r)).s (uX e k r)).2)
def jL(e:Eng)(k:Nat)(r:Rec)(v:Nat):Nat:=M9 (K7 e k (s6 r)).s r.g.toNat v
def I5(k:Nat)(to:Int):Nat->Eng->Nat->Int->(Eng×Nat)×Bool
 |0,e,v,_=>((e,v),true)
 |f+1,e,v,a=>if a<=to then((e,v),true) else if(Z4 e.s.L a).k=3 then I5 k to f e v (Z4 e.s.L a).n
  else if(Z4 e.s.L a).k=2 then(if(J5 e k (Z4 e.s.L a)).2=true then I5 k to f (J5 e k (Z4 e.s.L a)).1 (jL e k (Z4 e.s.L a) v) (Z4 e.s.L a).p else(((J5 e k (Z4 e.s.L a)).1,jL e k (Z4 e.s.L a) v),false))
  else I5 k to f e v (Z4 e.s.L a).p
structure UE(e:Eng)(k:Nat)(tx:Int):Prop where
 si:SI e.s
 at_:T9 e.X tx=k
 lt:k<e.X.length
 id:(e.X.getD k dz).id=tx
 txr:1<=tx/\tx<=60
 la:1<=(e.X.getD k dz).Z/\(e.X.getD k dz).Z<=e.s.L.length
 ep:1<=e.s.ep/\e.s.ep<=60
 t10:e.X.length<=10
 lk:e.lk.H.length<=60/\e.lk.W.length<=100
 rm:e.s.L.length+1<=60
structure UI(e:Eng)(k:Nat)(tx a:Int):Prop where
 u:UE e k tx
 ar:0<=a/\a<=(e.s.L.length:Int)
 fu:∃f,a.toNat<f/\e.s.L.length+1+und e.s.L f a<=60
theorem a4b{e:Eng}{k:Nat}{tx:Int}{r:Rec}(h:UE e k tx)(l:fX e k r):AddB e tx k r/\O9 (U0 e.s (Q9 e k r))=true:=by
 have f:=h.id;have x:=h.txr;have L:=h.la;have M:=h.rm;have B:=h.t10;have g:=h.ep;obtain⟨j,o,A,F,v,n,I,J,C,u,z,t,i,q,R,_⟩:=l;have d:O9 (U0 e.s (Q9 e k r))=true:=by
  refine(R6 _).2 ?_
  unfold D0 U0 Q9;dsimp only;refine⟨g.1,g.2,Z9,Z9,Z9,Z9,Z9,Z9,Z9,Z9,Z9,Z9,Z9,Z9,Z9,λe=>absurd e j,λ_=>⟨Z9,Z9,Z9,n,v,R,⟨λe=>absurd e o,λe=>Z9⟩⟩⟩
 exact⟨⟨h.at_,h.lt,f,d,Z9,Z9,⟨Z9,Z9⟩⟩,d⟩
theorem wT{L:List Rec}{x:Rec}(d:w9 L):∀(f:Nat) (a:Int),a<=L.length->und (L++[x]) f a=und L f a
 |0,_,_=>rfl
 |f+1,a,ha=>by
  unfold und;by_cases h:a<=0
  ·rw[if_pos h,if_pos h]
  ·have e:Z4 (L++[x]) a=Z4 L a:=by
    unfold Z4;rw[Q8,tI Z9,←Q8]
   obtain⟨j,l,g,i⟩:=d.prev (show 1<=a by omega) ha
   rw[if_neg h,if_neg h,e,wT d f _ Z9,wT d f _ Z9]
theorem m3(e:Eng)(k:Nat)(r:Rec):(K7 e k r).s.L.length=e.s.L.length+1:=by
 show(e.s.L++[_]).length=_;simp
theorem a9c{e:Eng}{k:Nat}{tx a:Int}(h:UE e k tx)(n:1<=a)(i:a<=e.s.L.length)(z:(Z4 e.s.L a).k=2):fX e k (s6 (Z4 e.s.L a))/\mP (K7 e k (s6 (Z4 e.s.L a))).s (uX e k (Z4 e.s.L a))/\(Z4 e.s.L a).b.length<=30/\SI (K7 e k (s6 (Z4 e.s.L a))).s:=by
 have L:=h.si.logP;obtain⟨r,_⟩:=L.at n i;obtain⟨v,x,t,u⟩:=L.prev n i;obtain⟨_,_,_,_,_,_,_,_,_,_,f,o,j,q,B,_,_⟩:=r;have R:fX e k (s6 (Z4 e.s.L a)):=by
  unfold fX s6;dsimp only;exact⟨Z9,Z9,Z9,Z9,λh=>absurd rfl h,λ_ h=>absurd rfl h,Z9,Z9,f,o,j,q,U4,B,λ_=>rfl,h.lt⟩
 have d:=(a4b h R).2;have l:SI (K7 e k (s6 (Z4 e.s.L a))).s:=a75 h.si d h.rm;exact⟨R,⟨l.iv,f,b79,j,b5b⟩,B,l⟩
theorem c2P{e:Eng}{k:Nat}{tx a:Int}(h:UE e k tx)(g:1<=a)(f:a<=e.s.L.length)(i:(Z4 e.s.L a).k=2)(u:(J5 e k (Z4 e.s.L a)).2=false):H9 (J5 e k (Z4 e.s.L a)).1.s.d/\(J5 e k (Z4 e.s.L a)).1.s.d.E.length=69:=
 b5Q (a9c h g f i).2.2.2 u
theorem a8D{e:Eng}{k:Nat}{tx a:Int}(h:UI e k tx a)(l:1<=a)(j:(Z4 e.s.L a).k=2)(u:(J5 e k (Z4 e.s.L a)).2=true):UI (J5 e k (Z4 e.s.L a)).1 k tx (Z4 e.s.L a).p:=by
 obtain⟨d,⟨R,A⟩,f,F,Q⟩:=h;have L:=d.si.logP;obtain⟨o,O,C,I⟩:=L.prev l A;obtain⟨U,z,B,v⟩:=a9c d l A j;have M:=d.rm;have N:=m3 e k (s6 (Z4 e.s.L a));obtain⟨q,r⟩:=b4G v z ⟨by show(0:Int)<=(e.s.L.length:Int)+1;omega,by show(e.s.L.length:Int)+1<=_;omega⟩ B u
 have g:(J5 e k (Z4 e.s.L a)).1.s.L=e.s.L++[uX e k (Z4 e.s.L a)]:=r;have n:(J5 e k (Z4 e.s.L a)).1.s.L.length=e.s.L.length+1:=by rw[g];simp
 have i:(J5 e k (Z4 e.s.L a)).1.s.ep=e.s.ep:=c5d (K7 e k (s6 (Z4 e.s.L a))).s (uX e k (Z4 e.s.L a));have x:(J5 e k (Z4 e.s.L a)).1.X=e.X.set k ⟨(e.X.getD k dz).id,(e.s.L.length:Int)+1⟩:=rfl;have J:und e.s.L f a=1+und e.s.L (f-1) (Z4 e.s.L a).p:=by
  rw[uL Z9 F Z9,if_pos j]
 have t:und (e.s.L++[uX e k (Z4 e.s.L a)]) (f-1) (Z4 e.s.L a).p=und e.s.L (f-1) (Z4 e.s.L a).p:=wT L _ _ Z9
 refine⟨⟨q,by rw[x];exact a0n d.lt d.at_,by rw[x,w6];exact d.lt,by rw[x];exact(a2b d.lt).trans d.id,d.txr,?_,by rw[i];exact d.ep,by rw[x,w6];exact d.t10,d.lk,by rw[n];omega⟩,⟨o,by rw[n];omega⟩,f-1,Z9,by rw[n,g,t];omega⟩
 rw[x,n,Q8,j_k d.lt]
 show 1<=(e.s.L.length:Int)+1/\(e.s.L.length:Int)+1<=_;omega
theorem c4d{e:Eng}{k:Nat}{tx a:Int}(h:UI e k tx a)(i:1<=a)(j:(Z4 e.s.L a).k=3):UI e k tx (Z4 e.s.L a).n:=by
 obtain⟨d,⟨r,A⟩,f,F,l⟩:=h;obtain⟨o,u,g,q⟩:=d.si.logP.prev i A;have t:=mI (L:=e.s.L) Z9 F j
 exact⟨d,⟨g,Z9⟩,f-1,Z9,Z9⟩
theorem c3J{e:Eng}{k:Nat}{tx a:Int}(h:UI e k tx a)(i:1<=a)(j:(Z4 e.s.L a).k≠3):UI e k tx (Z4 e.s.L a).p:=by
 obtain⟨d,⟨q,A⟩,f,F,l⟩:=h;obtain⟨g,t,n,o⟩:=d.si.logP.prev i A;have r:=uL (L:=e.s.L) Z9 F j
 exact⟨d,⟨g,Z9⟩,f-1,Z9,Z9⟩
theorem vS{k:Nat}{to a:Int}{f:Nat}{e:Eng}{v:Nat}(h:a<=to):I5 k to f e v a=((e,v),true):=by
 cases f with
 |zero=>rfl
 |succ f=>unfold I5;rw[if_pos h]
theorem dR{k:Nat}{to a:Int}{f:Nat}{e:Eng}{v:Nat}(h:¬a<=to)(F:0<f)(d:(Z4 e.s.L a).k=3):I5 k to f e v a=I5 k to (f-1) e v (Z4 e.s.L a).n:=by
 obtain⟨g,rfl⟩:∃g,f=g+1:=⟨f-1,Z9⟩
 conv=>lhs;unfold I5
 rw[if_neg h,if_pos d];rfl
theorem dU{k:Nat}{to a:Int}{f:Nat}{e:Eng}{v:Nat}(h:¬a<=to)(F:0<f)(i:(Z4 e.s.L a).k≠3)(d:(Z4 e.s.L a).k≠2):I5 k to f e v a=I5 k to (f-1) e v (Z4 e.s.L a).p:=by
 obtain⟨g,rfl⟩:∃g,f=g+1:=⟨f-1,Z9⟩
 conv=>lhs;unfold I5
 rw[if_neg h,if_neg i,if_neg d];rfl
theorem dC{k:Nat}{to a:Int}{f:Nat}{e:Eng}{v:Nat}(h:¬a<=to)(F:0<f)(d:(Z4 e.s.L a).k=2)(u:(J5 e k (Z4 e.s.L a)).2=true):I5 k to f e v a=I5 k to (f-1) (J5 e k (Z4 e.s.L a)).1 (jL e k (Z4 e.s.L a) v) (Z4 e.s.L a).p:=by
 obtain⟨g,rfl⟩:∃g,f=g+1:=⟨f-1,Z9⟩
 conv=>lhs;unfold I5
 rw[if_neg h,if_neg Z9,if_pos d,if_pos u]
 rfl
theorem a5W{k:Nat}{to a:Int}{f:Nat}{e:Eng}{v:Nat}(h:¬a<=to)(F:0<f)(d:(Z4 e.s.L a).k=2)(u:(J5 e k (Z4 e.s.L a)).2=false):I5 k to f e v a=(((J5 e k (Z4 e.s.L a)).1,jL e k (Z4 e.s.L a) v),false):=by
 obtain⟨g,rfl⟩:∃g,f=g+1:=⟨f-1,Z9⟩
 conv=>lhs;unfold I5
 rw[if_neg h,if_neg Z9,if_pos d,if_neg (by rw[u];simp)]
def b8j(u:(Eng×Nat)×Bool)(k:Nat)(tx:Int):Prop:=(u.2=true->UE u.1.1 k tx)/\(u.2=false->H9 u.1.1.s.d/\u.1.1.s.d.E.length=69)
theorem a8S{k:Nat}{tx to:Int}(d:0<=to):∀(f:Nat) (e:Eng) (v:Nat) (a:Int),a.toNat<f->UI e k tx a->b8j (I5 k to f e v a) k tx
 |0,_,_,_,hf,_=>absurd hf (J2 _)
 |f+1,e,v,a,hf,h=>by
  by_cases ht:a<=to
  ·rw[vS ht];exact⟨λ_=>h.u,λe=>by cases e⟩
  ·have h1:1<=a:=by omega
   obtain⟨j,l,g,i⟩:=h.u.si.logP.prev h1 h.ar.2;by_cases h3:(Z4 e.s.L a).k=3
   ·rw[dR ht Z9 h3]
    exact a8S d f _ _ _ Z9 (c4d h h1 h3)
   ·by_cases h2:(Z4 e.s.L a).k=2
    ·cases hu:(J5 e k (Z4 e.s.L a)).2 with
     |true=>
      rw[dC ht Z9 h2 hu]
      exact a8S d f _ _ _ Z9 (a8D h h1 h2 hu)
     |false=>
      rw[a5W ht Z9 h2 hu]
      exact⟨λe=>(by cases e),λ_=>c2P h.u h1 h.ar.2 h2 hu⟩
    ·rw[dU ht Z9 h3 h2]
     exact a8S d f _ _ _ Z9 (c3J h h1 h3)
theorem b7X{L:List Rec}{T:List Txn}{k:Nat}:∀n,k<n->1+und L 61 (T.getD k dz).Z<=q7 L T n
 |0,h=>absurd h (J2 k)
 |n+1,h=>by
  unfold q7;by_cases e:k=n
  ·subst e;omega
  ·have:=b7X (L:=L) (T:=T) (k:=k) n Z9
   omega
theorem fA{e:Eng}{tx:Int}{k:Nat}(h:U3 e=true)(M:O3 e)(u:e.up=true)(j:T9 e.X tx=k)(f:k<e.X.length)(hi:(e.X.getD k dz).id=tx):UI e k tx (e.X.getD k dz).Z:=by
 obtain⟨i,q,r,A⟩:=E4 (Q1 h).2.1;have l:=nU h u f;have n:=b63 h u f;have o:=a8Z h u;have d:=b7X (L:=e.s.L) (T:=e.X) e.X.length f;have d:1+und e.s.L 61 (e.X.getD k dz).Z<=vN e:=d;have g:=(rA (Q1 h).1).1;exact⟨⟨c2k (Q1 h).1 M.1,j,f,hi,Z9,l,a7E (Q1 h).1,i,fU A,Z9⟩,Z9,61,Z9,Z9⟩
def a99(k:Nat):Option Ob:=some (.arr false 1000000 1 1 λ_=>[.ref k 0 0])
def fS(b:Bool):Option Ob:=some (.arr true 1000000 1 1 λ_=>[.bool b])
def qU(e:Eng)(k:Nat)(r:Rec)(lsn:Int)(v:Nat):(Eng×Nat)×Bool×Bool:=if r.l<=lsn then((e,v),true,false) else(((J5 e k r).1,jL e k r v),(J5 e k r).2,(J5 e k r).2)
def Eng.ux(e:Eng)(v:Nat)(lsn tx:Int)(b:Bool):Y4:=[sY lsn,a99 2,gY (e.tn 3 4 5 6 7 8 9 10),u5 e.s.d.E,z9 e.s.d.C,u2 e.s.d.keep,yV e.s.L,uV v e.s.fr e.s.fr.length,pA e.X,oD e.lk.H,iF e.lk.W,sY tx,fS b]
def Eng.uy(e:Eng)(v:Nat)(lsn tx:Int)(b:Bool):Y4:=[sY lsn,a99 2,gY (e.tn 13 14 15 16 17 18 19 20),none,none,none,none,none,none,none,none,sY tx,fS b,u5 e.s.d.E,z9 e.s.d.C,u2 e.s.d.keep,yV e.s.L,uV v e.s.fr e.s.fr.length,pA e.X,oD e.lk.H,iF e.lk.W]
def b8V:Con:=.reff ⟨Eng×Rec×Int×Int×Nat×Nat,λx=>[.agg x.2.1.ts,.ref 0 0 0,.ref 1 0 0,.ref 11 0 0,.ref 12 0 0],λx=>x.1.ux x.2.2.2.2.2 x.2.2.1 x.2.2.2.1 true,λx=>.bool (qU x.1 x.2.2.2.2.1 x.2.1 x.2.2.1 x.2.2.2.2.2).2.2,λx=>(qU x.1 x.2.2.2.2.1 x.2.1 x.2.2.1 x.2.2.2.2.2).1.1.uy (qU x.1 x.2.2.2.2.1 x.2.1 x.2.2.1 x.2.2.2.2.2).1.2 x.2.2.1 x.2.2.2.1 (qU x.1 x.2.2.2.2.1 x.2.1 x.2.2.1 x.2.2.2.2.2).2.1,
 λx=>x.2.2.1<x.2.1.l->(AddB x.1 x.2.2.2.1 x.2.2.2.2.1 (s6 x.2.1)/\mP (K7 x.1 x.2.2.2.2.1 (s6 x.2.1)).s (uX x.1 x.2.2.2.2.1 x.2.1))⟩
theorem b3Q:GK 148 b8V:=gk func148<|by
 rintro⟨e,r,lsn,tx,k,v⟩ h;dsimp only at h;refine r9 (gC iC (gC a46 gN)) func148 Y5 [[.box 0,.box 1,.box 2,.arr 3,.arr 4,.arr 5,.arr 6,.arr 7,.arr 8,.arr 9,.arr 10,.box 11,.box 12,.cel 2 0,.cel 2 1,.cel 2 3,.cel 2 5,.cel 2 7,.cel 2 10,.cel 2 11,.cel 2 12]] (α:=let i:=(oo (lsn=lsn/\True));let c:=(0=0/\0=0);let q:=(qU e k r lsn v);bd (r.l<=lsn) ((false=q.2.2/\True)/\i/\(oo (c/\True))/\bO e q.1.1/\T8 ((oo (tx=tx/\True))/\(oo (true=q.2.1/\True))/\sC (v) (q.1.2) e q.1.1)) (∃(x:(Eng×Int×Rec×Nat×Nat)),let f:=x.2.2.2;let m:=x.1.s;let y:=(x.1.X.getD f.1 dz);let u:=(x.1.X.set f.1 (Txn.mk y.id ((m.L.length:Int)+1)));let z:=x.2.2.1;let w:=(m.L++[U0 x.1.s (Q9 x.1 f.1 z)]);((c/\tx=x.2.1/\(0=z.e/\0=z.l/\0=z.t/\3=z.k/\0=z.p/\r.p=z.n/\r.g=z.g/\r.s=z.s/\[]=z.b/\r.b=z.a/\True)/\True)/\(lZ (v) (f.2) e x.1)/\AddB x.1 x.2.1 f.1 z)/\∃(X:(Sto×Rec×Nat)),let j:=(T7 X.1 X.2.1);((c/\(m.ep=X.2.1.e/\(m.L.length:Int)+1=X.2.1.l/\y.id=X.2.1.t/\z.k=X.2.1.k/\y.Z=X.2.1.p/\z.n=X.2.1.n/\z.g=X.2.1.g/\z.s=X.2.1.s/\z.b=X.2.1.b/\z.a=X.2.1.a/\True)/\True)/\(oM {x.1.s with L:=w} X.1/\(Z3 Z6 m.d.E X.1.d.E)/\(Z3 Z2 m.d.C X.1.d.C)/\(Z3 Z0 m.d.keep X.1.d.keep)/\(Z3 Y6 w X.1.L)/\(f.2=X.2.2/\m.fr.length=X.1.fr.length/\V0 m.fr.length (Y9 m.fr) (Y9 X.1.fr))/\True)/\mP X.1 X.2.1)/\(j.2=q.2.2/\True)/\i/\(oo (c/\True))/\bO {x.1 with s:=j.1,X:=u} q.1.1/\T8 ((oo (tx=tx/\True))/\(oo (j.2=q.2.1/\True))/\sC (M9 X.1 X.2.1.g.toNat X.2.2) (q.1.2) {x.1 with s:=j.1,X:=u} q.1.1))) ⟨λhc=>?_,λhc=>?_⟩
 ·have f:qU e k r lsn v=((e,v),true,false):=if_pos (B3 hc);rw[f];exact Z8
 ·have hc:=k5 hc;obtain⟨hA,hP⟩:=h Z9
  have f:qU e k r lsn v=(((J5 e k r).1,jL e k r v),(J5 e k r).2,(J5 e k r).2):=if_neg hc;rw[f];exact⟨(e,tx,s6 r,k,v),⟨Z8,Z8,hA⟩,((K7 e k (s6 r)).s,uX e k r,v),⟨Z8,Z8,hP⟩,Z8⟩
def Eng.vx(e:Eng)(v:Nat)(lsn tx:Int):Y4:=[gY (e.tn 1 2 3 4 5 6 7 8),u5 e.s.d.E,z9 e.s.d.C,u2 e.s.d.keep,yV e.s.L,uV v e.s.fr e.s.fr.length,pA e.X,oD e.lk.H,iF e.lk.W,sY lsn,a99 0,sY tx,fS true]
def Eng.vy(e:Eng)(v:Nat)(lsn tx:Int)(b:Bool):Y4:=[gY (e.tn 13 14 15 16 17 18 19 20),none,none,none,none,none,none,none,none,sY lsn,a99 0,sY tx,fS b,u5 e.s.d.E,z9 e.s.d.C,u2 e.s.d.keep,yV e.s.L,uV v e.s.fr e.s.fr.length,pA e.X,oD e.lk.H,iF e.lk.W]
def c4V:Con:=.reff ⟨Eng×Int×Int×Int×Nat×Nat,λx=>[.ref 0 0 0,Ji x.2.1,.fn (.func 148) [.ref 9 0 0,.ref 10 0 0,.ref 11 0 0,.ref 12 0 0]],λx=>x.1.vx x.2.2.2.2.2 x.2.2.1 x.2.2.2.1,λ_=>.tup [],λx=>(I5 x.2.2.2.2.1 x.2.2.1 61 x.1 x.2.2.2.2.2 x.2.1).1.1.vy (I5 x.2.2.2.2.1 x.2.2.1 61 x.1 x.2.2.2.2.2 x.2.1).1.2 x.2.2.1 x.2.2.2.1 (I5 x.2.2.2.2.1 x.2.2.1 61 x.1 x.2.2.2.2.2 x.2.1).2,λx=>UI x.1 x.2.2.2.2.1 x.2.2.2.1 x.2.1/\0<=x.2.2.1⟩
structure UdI(u0:(Eng×Nat)×Bool)(k:Nat)(tx to:Int) where
 e:Eng
 v:Nat
 a:Int
 f:Nat
 h:UI e k tx a
 hf:a.toNat<f
 eq:I5 k to f e v a=u0
def c3G(e:Eng)(F lsn tx:Int)(k v:Nat):Nat->Ann
 |0=>.one (UdI (I5 k lsn 61 e v F) k tx lsn) (λx=>⟨[(0,.ref 0 0 0),(1,Ji x.a),(2,.fn (.func 148) [.ref 9 0 0,.ref 10 0 0,.ref 11 0 0,.ref 12 0 0])],x.e.vy x.v lsn tx true⟩) (λx=>x.f) a8i a8i (λ_=>Y5)
 |_=>.none
theorem c7K{k:Nat}{to a:Int}{f:Nat}{e:Eng}{v:Nat}(F:0<f)(d:(Z4 e.s.L a).k=3)(N:(Z4 e.s.L a).n<=a):I5 k to (f-1) e v (Z4 e.s.L a).n=I5 k to f e v a:=by
 by_cases h:a<=to
 ·rw[vS h,vS Z9]
 ·rw[dR h F d]
theorem c7J{k:Nat}{to a:Int}{f:Nat}{e:Eng}{v:Nat}(F:0<f)(g:(Z4 e.s.L a).k≠3)(d:(Z4 e.s.L a).k≠2)(n:(Z4 e.s.L a).p<=a):I5 k to (f-1) e v (Z4 e.s.L a).p=I5 k to f e v a:=by
 by_cases h:a<=to
 ·rw[vS h,vS Z9]
 ·rw[dU h F g d]
theorem c0W:GK 147 c4V:=gk func147<|by
 rintro⟨e,F,lsn,tx,k,v⟩ ⟨i,o⟩;dsimp only at i o;have j:=i.u.rm;have r:=i.ar;refine r9 (gC b3Q gN) func147 (c3G e F lsn tx k v) [a8i] (α:=let c:=(oo (true=true/\True));let b:=(oo (tx=tx/\True));let g:=(oo (lsn=lsn/\True));let j:=(I5 k lsn 61 e v F);let z:=(0=0/\0=0);let m:=(oo (z/\True));let w:=(Fn.func 148=Fn.func 148/\z/\z/\z/\z/\True);(∃(x:UdI (I5 k lsn 61 e v F) k tx lsn),(z/\F=x.a/\w/\True)/\bO e x.e/\T8 (g/\m/\b/\c/\sC (v) (x.v) e x.e))/\∀(x:UdI (I5 k lsn 61 e v F) k tx lsn),let i:=x.e.s;let u:=((True/\True)/\bO x.e j.1.1/\T8 (g/\m/\b/\(oo (true=j.2/\True))/\sC (x.v) (j.1.2) x.e j.1.1));let r:=(i.L.getD (0+(x.a-1).toNat) dz);bd (x.a>0) (Ri (x.a-1)/\V3 (x.a-1) i.L.length/\Lt (0+(x.a-1).toNat) i.L.length/\br (r.k==3) (∃(y:UdI (I5 k lsn 61 e v F) k tx lsn),((z/\r.n=y.a/\w/\True)/\bO x.e y.e/\T8 (g/\m/\b/\c/\sC (x.v) (y.v) x.e y.e))/\Lt y.f x.f) (∃(X:(Eng×Rec×Int×Int×Nat×Nat)),let pa:=(oo (X.2.2.1=lsn/\True));let t:=(oo (X.2.2.2.1=tx/\True));let q:=(qU X.1 X.2.2.2.2.1 X.2.1 X.2.2.1 X.2.2.2.2.2);((r.k==2)=true->((EqR r X.2.1)/\z/\z/\z/\z/\True)/\((1=1/\Z7 1 (λ(x:Nat)=>[Ji lsn]) λ(x:Nat)=>[Ji X.2.2.1])/\m/\bO x.e X.1/\(Z3 Z6 i.d.E X.1.s.d.E)/\(Z3 Z2 i.d.C X.1.s.d.C)/\(Z3 Z0 i.d.keep X.1.s.d.keep)/\(Z3 Y6 i.L X.1.s.L)/\(x.v=X.2.2.2.2.2/\i.fr.length=X.1.s.fr.length/\V0 i.fr.length (Y9 i.fr) (Y9 X.1.s.fr))/\(Z3 X4 x.e.X X.1.X)/\(Z3 Y2 x.e.lk.H X.1.lk.H)/\(Z3 X8 x.e.lk.W X.1.lk.W)/\(1=1/\Z7 1 (λ(x:Nat)=>[Ji tx]) λ(x:Nat)=>[Ji X.2.2.2.1])/\(1=1/\Z7 1 (λ(x:Nat)=>[T.bool true]) λ(x:Nat)=>[T.bool true])/\True)/\(X.2.2.1<X.2.1.l->AddB X.1 X.2.2.2.1 X.2.2.2.2.1 (s6 X.2.1)/\mP (apx X.1.s (Q9 X.1 X.2.2.2.2.1 (s6 X.2.1))) (uX X.1 X.2.2.2.2.1 X.2.1)))/\((r.k==2)=true->br (r.k==2&& ! q.2.2) ((True/\True)/\bO q.1.1 j.1.1/\T8 (pa/\m/\t/\(oo (q.2.1=j.2/\True))/\sC (q.1.2) (j.1.2) q.1.1 j.1.1)) (∃(y:UdI (I5 k lsn 61 e v F) k tx lsn),((z/\r.p=y.a/\w/\True)/\bO q.1.1 y.e/\T8 (pa/\m/\t/\(oo (q.2.1=true/\True))/\sC (q.1.2) (y.v) q.1.1 y.e))/\Lt y.f x.f))/\(((r.k==2)=true->False)->br (r.k==2&& ! q.2.2) u (∃(y:UdI (I5 k lsn 61 e v F) k tx lsn),((z/\r.p=y.a/\w/\True)/\bO x.e y.e/\T8 (g/\m/\b/\c/\sC (x.v) (y.v) x.e y.e))/\Lt y.f x.f)))) u) ⟨⟨⟨e,v,F,61,i,Z9,rfl⟩,Z8⟩,λx=>?_⟩
 obtain⟨e',v',a,f,h,C,q⟩:=x;dsimp only;have j:=h.u.rm;have r:=h.ar;refine⟨λhc=>?_,λhc=>?_⟩
 ·have h1:1<=a:=by have:=B3 hc;omega
  obtain⟨J,L⟩:=h.u.si.logP.at h1 r.2;obtain⟨I,B,t,z⟩:=h.u.si.logP.prev h1 r.2;rw[D8];refine⟨Z1 Z9,⟨Z9,Z9⟩,H3,λg=>?_,λg=>?_⟩
  ·have g:(Z4 e'.s.L a).k=3:=beq_iff_eq.1 g;exact⟨⟨e',v',(Z4 e'.s.L a).n,f-1,c4d h h1 g,Z9,(c7K Z9 g Z9).trans q⟩,Z8,D1⟩
  ·have g:(Z4 e'.s.L a).k≠3:=λe=>by
    have g:((Z4 e'.s.L a).k==3)=false:=g;rw[e] at g;cases g
   refine⟨(e',Z4 e'.s.L a,lsn,tx,k,v'),λh2=>⟨Z8,Z8,λ_=>?_⟩,λh2=>⟨λhq=>?_,λhq=>?_⟩,λh2=>⟨λhq=>?_,λhq=>?_⟩⟩
   ·have h2:(Z4 e'.s.L a).k=2:=beq_iff_eq.1 h2;obtain⟨R,A,_⟩:=a9c h.u h1 r.2 h2;exact⟨(a4b h.u R).1,A⟩
   ·have h2:(Z4 e'.s.L a).k=2:=beq_iff_eq.1 h2;by_cases ht:a<=lsn
    ·have e0:qU e' k (Z4 e'.s.L a) lsn v'=((e',v'),true,false):=if_pos Z9
     dsimp only;rw[e0,←q,vS ht];exact Z8
    ·have e0:qU e' k (Z4 e'.s.L a) lsn v'=(((J5 e' k (Z4 e'.s.L a)).1,jL e' k (Z4 e'.s.L a) v'),(J5 e' k (Z4 e'.s.L a)).2,(J5 e' k (Z4 e'.s.L a)).2):=if_neg Z9
     have U:(J5 e' k (Z4 e'.s.L a)).2=false:=by
      have hq:((Z4 e'.s.L a).k==2&& !(qU e' k (Z4 e'.s.L a) lsn v').2.2)=true:=hq;rw[e0,h2] at hq
      simpa using hq
     dsimp only;rw[e0,←q,a5W ht Z9 h2 U]
     exact⟨Z8,Z8,Z5,Z5,Z5,Z5,Z5,Z5,Z5,Z5,Z8,Z8,Z8,⟨rfl,rfl,U,Z5⟩,Z8⟩
   ·have h2:(Z4 e'.s.L a).k=2:=beq_iff_eq.1 h2;have hq:((Z4 e'.s.L a).k==2&& !(qU e' k (Z4 e'.s.L a) lsn v').2.2)=false:=hq;by_cases ht:a<=lsn
    ·have e0:qU e' k (Z4 e'.s.L a) lsn v'=((e',v'),true,false):=if_pos Z9
     rw[e0,h2] at hq;cases hq
    ·have e0:qU e' k (Z4 e'.s.L a) lsn v'=(((J5 e' k (Z4 e'.s.L a)).1,jL e' k (Z4 e'.s.L a) v'),(J5 e' k (Z4 e'.s.L a)).2,(J5 e' k (Z4 e'.s.L a)).2):=if_neg Z9
     have U:(J5 e' k (Z4 e'.s.L a)).2=true:=by
      rw[e0,h2] at hq
      simpa using hq
     dsimp only;rw[e0];exact⟨⟨(J5 e' k (Z4 e'.s.L a)).1,jL e' k (Z4 e'.s.L a) v',(Z4 e'.s.L a).p,f-1,a8D h h1 h2 U,Z9,(dC ht Z9 h2 U).symm.trans q⟩,⟨Z8,Z8,Z5,Z5,Z5,Z5,Z5,Z5,Z5,Z5,Z8,Z8,Z8,⟨rfl,rfl,U,Z5⟩,Z8⟩,D1⟩
   ·have h2:((Z4 e'.s.L a).k==2)=true->False:=h2;have hq:((Z4 e'.s.L a).k==2&& !(qU e' k (Z4 e'.s.L a) lsn v').2.2)=true:=hq;simp only[M1] at hq;exact absurd hq.1 h2
   ·have h2:(Z4 e'.s.L a).k≠2:=λe=>h2 (beq_iff_eq.2 e)
    exact⟨⟨e',v',(Z4 e'.s.L a).p,f-1,c3J h h1 g,Z9,(c7J Z9 g h2 Z9).trans q⟩,Z8,D1⟩
 ·have ha:a<=lsn:=by have:=k5 hc;omega
  rw[←q,vS ha];exact Z8
def P7(e:Eng)(k:Nat)(lsn:Int):(Eng×Nat)×Bool:=I5 k lsn 61 e 0 (e.X.getD k dz).Z
def A0(e:Eng)(k:Nat)(lsn:Int):(Eng×Nat)×Int:=if(P7 e k lsn).2=true then((P7 e k lsn).1,0) else((yD (P7 e k lsn).1.1,0),15)
theorem a0M{e:Eng}{k:Nat}{tx lsn:Int}(h:UI e k tx (e.X.getD k dz).Z)(d:0<=lsn):b8j (P7 e k lsn) k tx:=by
 have:=h.ar;have:=h.u.rm;exact a8S d 61 e 0 _ Z9 h
theorem mF{e:Eng}{k:Nat}{lsn:Int}(h:(P7 e k lsn).2=true):A0 e k lsn=((P7 e k lsn).1,0):=if_pos h
theorem a4U{e:Eng}{k:Nat}{lsn:Int}(h:(P7 e k lsn).2=false):A0 e k lsn=((yD (P7 e k lsn).1.1,0),15):=if_neg gD
theorem b5z{e:Eng}{k:Nat}{lsn:Int}(h:(A0 e k lsn).2=0):(P7 e k lsn).2=true:=by
 cases u:(P7 e k lsn).2 with
 |true=>rfl
 |false=>rw[a4U u] at h;cases h
def c34:Con:=.reff ⟨Eng×Int×Int×Nat,λx=>[.ref 0 0 0,Ji x.2.1,Ji x.2.2.1],λx=>x.1.bx 0,λx=>Ji (A0 x.1 x.2.2.2 x.2.2.1).2,λx=>(A0 x.1 x.2.2.2 x.2.2.1).1.1.nx (A0 x.1 x.2.2.2 x.2.2.1).1.2,λx=>UI x.1 x.2.2.2 x.2.1 (x.1.X.getD x.2.2.2 dz).Z/\0<=x.2.2.1⟩
theorem a9X:GK 84 c34:=gk func84<|by
 rintro⟨e,tx,lsn,k⟩ ⟨h,f⟩;dsimp only at h f;have A:=h.u.at_;have g:=h.u.lt;have t:=h.u.t10;have R:=a0M h f;refine r9 (gC uD (gC c0W (gC a1F gN))) func84 Y5 kP (α:=let r:=(0=0/\0=0);let q:=(A0 e k lsn);∃(x:(Eng×Int)),let z:=(T9 x.1.X x.2);((LeG e)/\((qT e x.1)/\tx=x.2/\True)/\M3 x.1.X.length)/\V3 z e.X.length/\Lt (0+z.toNat) e.X.length/\∃(X:(Eng×Int×Int×Int×Nat×Nat)),let p:=(I5 X.2.2.2.2.1 X.2.2.1 61 X.1 X.2.2.2.2.2 X.2.1);((r/\(e.X.getD (0+z.toNat) dz).Z=X.2.1/\(Fn.func 148=Fn.func 148/\r/\r/\r/\r/\True)/\True)/\(bO e X.1/\(Z3 Z6 e.s.d.E X.1.s.d.E)/\(Z3 Z2 e.s.d.C X.1.s.d.C)/\(Z3 Z0 e.s.d.keep X.1.s.d.keep)/\(Z3 Y6 e.s.L X.1.s.L)/\(0=X.2.2.2.2.2/\e.s.fr.length=X.1.s.fr.length/\V0 e.s.fr.length (Y9 e.s.fr) (Y9 X.1.s.fr))/\(Z3 X4 e.X X.1.X)/\(Z3 Y2 e.lk.H X.1.lk.H)/\(Z3 X8 e.lk.W X.1.lk.W)/\(1=1/\Z7 1 (λ(x:Nat)=>[Ji lsn]) λ(x:Nat)=>[Ji X.2.2.1])/\(oo (r/\True))/\(1=1/\Z7 1 (λ(x:Nat)=>[Ji tx]) λ(x:Nat)=>[Ji X.2.2.2.1])/\(1=1/\Z7 1 (setRow (λ(x:Nat)=>[T.bool false]) 0 0 [T.bool true]) λ(x:Nat)=>[T.bool true])/\True)/\UI X.1 X.2.2.2.2.1 X.2.2.2.1 X.2.1/\0<=X.2.2.1)/\br (! p.2) (∃(x:(Eng×Nat)),((r/\True)/\(lZ (p.1.2) (x.2) p.1.1 x.1)/\H9 x.1.s.d)/\(15=q.2/\True)/\tB (0) (q.1.2) (yD x.1) q.1.1) ((0=q.2/\True)/\tB (p.1.2) (q.1.2) p.1.1 q.1.1)) ⟨(e,tx),⟨Z8,Z8,vY⟩,?_⟩
 dsimp only;rw[A,C8,D8];refine⟨X9 g,g,(e,(e.X.getD k dz).Z,lsn,tx,k,0),⟨Z8,⟨Z8,Z8,Z8,Z8,Z8,Z8,Z8,Z8,Z8,Z8,Z8,Z8,⟨rfl,λi hi=>by match i,hi with|0,_=>rfl⟩,Z5⟩,h,f⟩,λhy=>?_,λhy=>?_⟩
 ·have hy:(!(P7 e k lsn).2)=true:=hy;have hy:(P7 e k lsn).2=false:=by simpa using hy
  rw[a4U hy];exact⟨((P7 e k lsn).1.1,(P7 e k lsn).1.2),⟨Z8,Z8,(R.2 hy).1⟩,Z8⟩
 ·have hy:(!(P7 e k lsn).2)=false:=hy;have hy:(P7 e k lsn).2=true:=by simpa using hy
  rw[mF hy];exact Z8
def oC:Rec:=⟨0,0,0,5,0,0,0,0,[],[]⟩
def I6(e:Eng)(k:Nat):(Eng×Nat)×Int:=if(A0 e k 0).2=0 then((lK (K7 (A0 e k 0).1.1 k oC) k,(A0 e k 0).1.2),0) else((A0 e k 0).1,(A0 e k 0).2)
theorem c1R{e:Eng}{k:Nat}{tx:Int}(h:UE e k tx):fX e k oC:=by
 unfold fX oC;dsimp only;exact⟨Z9,Z9,Z9,Z9,λ_=>rfl,λ_ _=>Z8,Z9,Z9,Z9,Z9,Z9,Z9,U4,U4,λ_=>rfl,h.lt⟩
theorem c1L{e:Eng}{k:Nat}(h:¬ (A0 e k 0).2=0):I6 e k=((A0 e k 0).1,(A0 e k 0).2):=if_neg h
theorem a8O{e:Eng}{k:Nat}(h:(A0 e k 0).2=0):I6 e k=((lK (K7 (P7 e k 0).1.1 k oC) k,(P7 e k 0).1.2),0):=by
 unfold I6;rw[if_pos h,mF (b5z h)]
def b8k:Con:=.reff ⟨Eng×Int×Nat,λx=>[.ref 0 0 0,Ji x.2.1],λx=>x.1.bx 0,λx=>Ji (I6 x.1 x.2.2).2,λx=>(I6 x.1 x.2.2).1.1.nx (I6 x.1 x.2.2).1.2,λx=>UI x.1 x.2.2 x.2.1 (x.1.X.getD x.2.2 dz).Z⟩
theorem a5j:GK 44 b8k:=gk func44<|by
 rintro⟨e,tx,k⟩ U;dsimp only at U;have R:=a0M U (Int.le_refl 0);refine r9 (gC a9X (gC iC (gC a9N gN))) func44 Y5 kP (α:=let w:=(0=0/\0=0);∃(x:(Eng×Int×Int×Nat)),let j:=x.2.2;let q:=(A0 x.1 j.2 j.1);((w/\tx=x.2.1/\0=j.1/\True)/\(lZ (0) (0) e x.1)/\UI x.1 j.2 x.2.1 (x.1.X.getD j.2 dz).Z/\0<=j.1)/\br (q.2 !=0) ((q.2=(I6 e k).2/\True)/\tB (q.1.2) ((I6 e k).1.2) q.1.1 (I6 e k).1.1) (∃(X:(Eng×Int×Rec×Nat×Nat)),((w/\tx=X.2.1/\(0=X.2.2.1.e/\0=X.2.2.1.l/\0=X.2.2.1.t/\5=X.2.2.1.k/\0=X.2.2.1.p/\0=X.2.2.1.n/\0=X.2.2.1.g/\0=X.2.2.1.s/\[]=X.2.2.1.b/\[]=X.2.2.1.a/\True)/\True)/\(lZ (q.1.2) (X.2.2.2.2) q.1.1 X.1)/\AddB X.1 X.2.1 X.2.2.2.1 X.2.2.1)/\∃(x:(Eng×Int×Nat×Nat)),let m:=x.2.2;let y:=x.1.s;let z:=(List.take m.1 x.1.X++List.drop (m.1+1) x.1.X);let r:=(x.1.X.getD m.1 dz).id;let v:=(X1 (wF r) x.1.lk.W x.1.lk.W.length);let u:=(X1 (hF r) x.1.lk.H x.1.lk.H.length);((w/\tx=x.2.1/\True)/\(lZ (X.2.2.2.2) (m.2) {X.1 with s:={X.1.s with L:=(X.1.s.L++[U0 X.1.s (Q9 X.1 X.2.2.2.1 X.2.2.1)])},X:=(X.1.X.set X.2.2.2.1 (Txn.mk (X.1.X.getD X.2.2.2.1 dz).id ((X.1.s.L.length:Int)+1)))} x.1)/\OvB x.1 x.2.1 m.1)/\(0=(I6 e k).2/\True)/\bO {x.1 with X:=z,lk:=⟨u,v⟩} (I6 e k).1.1/\T8 ((Z3 Z6 y.d.E (I6 e k).1.1.s.d.E)/\(Z3 Z2 y.d.C (I6 e k).1.1.s.d.C)/\(Z3 Z0 y.d.keep (I6 e k).1.1.s.d.keep)/\(Z3 Y6 y.L (I6 e k).1.1.s.L)/\(m.2=(I6 e k).1.2/\y.fr.length=(I6 e k).1.1.s.fr.length/\V0 y.fr.length (Y9 y.fr) (Y9 (I6 e k).1.1.s.fr))/\(Z3 X4 z (I6 e k).1.1.X)/\(Z3 Y2 u (I6 e k).1.1.lk.H)/\(Z3 X8 v (I6 e k).1.1.lk.W)/\True))) ⟨(e,tx,0,k),⟨Z8,Z8,U,Int.le_refl _⟩,λhq=>?_,λhq=>?_⟩
 ·have h0:¬ (A0 e k 0).2=0:=by simpa using hq
  rw[c1L h0];exact Z8
 ·have h0:(A0 e k 0).2=0:=by simpa using hq
  have u:=b5z h0;have h:=R.1 u;have A:=(a4b h (c1R h)).1;have f:=h.lk;have i:=h.t10;rw[a8O h0];dsimp only;rw[mF u];have N:(K7 (P7 e k 0).1.1 k oC).X.length=(P7 e k 0).1.1.X.length:=w6;exact⟨((P7 e k 0).1.1,tx,oC,k,(P7 e k 0).1.2),⟨Z8,Z8,A⟩,(K7 (P7 e k 0).1.1 k oC,tx,k,(P7 e k 0).1.2),⟨Z8,Z8,a0n h.lt h.at_,by dsimp only;rw[N];exact h.lt,(a2b h.lt).trans h.id,W5,by show(P7 e k 0).1.1.lk.H.length<=_;omega,by show(P7 e k 0).1.1.lk.W.length<=_;omega⟩,⟨rfl,Z5⟩,⟨rfl,rfl,⟨rfl,rfl⟩,⟨rfl,rfl⟩,rfl,⟨rfl,rfl⟩,rfl,⟨rfl,rfl⟩,rfl,⟨rfl,rfl⟩,rfl,rfl,⟨rfl,rfl⟩,⟨rfl,rfl⟩,⟨rfl,rfl⟩,rfl,Z5⟩,Z5,Z5,Z5,Z5,Z5,Z5,Z5,Z5,⟨rfl,W2 _ _⟩,⟨rfl,W2 _ _⟩,⟨rfl,W2 _ _⟩,⟨rfl,W2 _ _⟩,⟨rfl,rfl,jJ _⟩,⟨rfl,W2 _ _⟩,⟨rfl,W2 _ _⟩,⟨rfl,W2 _ _⟩,Z5⟩
def V9(e:Eng)(tx lsn:Int):(Eng×Nat)×Int:=if(S8 e tx).2=0 then(if(V8 lsn 1 (e.X.getD (S8 e tx).1.toNat dz).Z&&(e.s.L.getD (lsn-1).toNat dz).t==tx)=true then A0 e (S8 e tx).1.toNat lsn else((e,0),5)) else((e,0),(S8 e tx).2)
theorem b4w{e:Eng}{tx lsn:Int}(h:¬ (S8 e tx).2=0):V9 e tx lsn=((e,0),(S8 e tx).2):=if_neg h
theorem b5S{e:Eng}{tx lsn:Int}{k:Nat}(h:(S8 e tx).2=0)(d:(S8 e tx).1=k)(C:(V8 lsn 1 (e.X.getD k dz).Z&&(e.s.L.getD (lsn-1).toNat dz).t==tx)=false):V9 e tx lsn=((e,0),5):=by
 unfold V9;rw[if_pos h,d,C8,if_neg (by rw[C];simp)]
theorem a9C{e:Eng}{tx lsn:Int}{k:Nat}(h:(S8 e tx).2=0)(d:(S8 e tx).1=k)(C:(V8 lsn 1 (e.X.getD k dz).Z&&(e.s.L.getD (lsn-1).toNat dz).t==tx)=true):V9 e tx lsn=A0 e k lsn:=by
 unfold V9;rw[if_pos h,d,C8,if_pos C]
theorem kA{a:Bool}(h:(!a)=true):a=false:=by cases a with|true=>cases h|false=>rfl
theorem a89{a b:Bool}:(!a|| !b)= !(a&&b):=by cases a<;>rfl
def b9q:Con:=.reff ⟨Eng×Int×Int,λx=>[.ref 0 0 0,Ji x.2.1,Ji x.2.2],λx=>x.1.bx 0,λx=>Ji (V9 x.1 x.2.1 x.2.2).2,λx=>(V9 x.1 x.2.1 x.2.2).1.1.nx (V9 x.1 x.2.1 x.2.2).1.2,λx=>U3 x.1=true/\O3 x.1⟩
theorem b5V:GK 39 b9q:=gk func39<|by
 rintro⟨e,tx,lsn⟩ ⟨o,M⟩;dsimp only at o M;obtain⟨q,r,v,j⟩:=E4 (Q1 o).2.1;refine r9 (gC rY (gC uD (gC P1 (gC a9X gN)))) func39 Y5 kP (α:=let v:=(0+(lsn-1).toNat);let q:=(V9 e tx lsn);∃(x:(Eng×Int)),((LeG e)/\((qT e x.1)/\tx=x.2/\True)/\M3 x.1.X.length)/\br ((S8 x.1 x.2).2 !=0) (((S8 x.1 x.2).2=q.2/\True)/\tB (0) (q.1.2) e q.1.1) (∃(x:(Eng×Int)),let u:=(T9 x.1.X x.2);let p:=(e.X.getD (0+u.toNat) dz).Z;let z:=(!V8 lsn (1:Int) p);((LeG e)/\((qT e x.1)/\tx=x.2/\True)/\M3 x.1.X.length)/\V3 u e.X.length/\Lt (0+u.toNat) e.X.length/\(z=false->Ri (lsn-1))/\(z=false->V3 (lsn-1) e.s.L.length)/\(z=false->Lt v e.s.L.length)/\br (!V8 lsn (1:Int) p||(e.s.L.getD v dz).t !=tx) ((5=q.2/\True)/\tB (0) (q.1.2) e q.1.1) (∃(x:(Eng×Int×Int×Nat)),let y:=x.2.2;let r:=(A0 x.1 y.2 y.1);(((0=0/\0=0)/\tx=x.2.1/\lsn=y.1/\True)/\(lZ (0) (0) e x.1)/\UI x.1 y.2 x.2.1 (x.1.X.getD y.2 dz).Z/\0<=y.1)/\(r.2=q.2/\True)/\tB (r.1.2) (q.1.2) r.1.1 q.1.1))) ⟨(e,tx),⟨Z8,Z8,vY⟩,λhq=>?_,λhq=>⟨(e,tx),⟨Z8,Z8,vY⟩,?_⟩⟩
 ·have h0:¬ (S8 e tx).2=0:=by simpa using hq
  rw[b4w h0];exact Z8
 ·have h0:(S8 e tx).2=0:=by simpa using hq
  obtain⟨U,k,f,d,hi,A⟩:=i3 h0;have l:=nU o U d;have g:=fA o M U A d hi;dsimp only;rw[A,C8,D8,D8];have n:(!V8 lsn 1 (e.X.getD k dz).Z)=false->1<=lsn/\lsn<=(e.X.getD k dz).Z:=λh=>a7B h
  refine⟨X9 d,d,λh=>by have:=n h;exact Z1 (by have:=g.u.rm;omega),λh=>by have:=n h;exact⟨Z9,Z9⟩,λh=>by have:=n h;unfold Lt;omega,λC=>?_,λC=>?_⟩
  ·have C:(V8 lsn 1 (e.X.getD k dz).Z&&(e.s.L.getD (lsn-1).toNat dz).t==tx)=false:=by
    unfold bne at C;rw[a89] at C;exact kA C
   rw[b5S h0 f C];exact Z8
  ·have C:(V8 lsn 1 (e.X.getD k dz).Z&&(e.s.L.getD (lsn-1).toNat dz).t==tx)=true:=by
    unfold bne at C;rw[a89] at C
    simpa using C
   have i:1<=lsn:=by
    simp only[M1] at C;exact(yM C.1).1
   rw[a9C h0 f C];exact⟨(e,tx,lsn,k),⟨Z8,Z8,g,W5⟩,Z8⟩
def qQ(e:Eng)(tx:Int):(Eng×Nat)×Int:=if(S8 e tx).2=0 then I6 e (S8 e tx).1.toNat else((e,0),(S8 e tx).2)
def R4(e:Eng)(tx:Int):Eng×Int:=if U3 e=true then((qQ e tx).1.1,(qQ e tx).2) else(b1R,1)
theorem c2g{e:Eng}{k:Nat}{tx:Int}(h:UE e k tx):O3 e:=by
 have d:=h.t10;have f:=h.lk;exact⟨h.si.iv.sm,Z9,Z9,Z9⟩
theorem b5d{e:Eng}{k:Nat}{tx lsn:Int}(R:b8j (P7 e k lsn) k tx):O3 (A0 e k lsn).1.1:=by
 cases h:(P7 e k lsn).2 with
 |true=>rw[mF h];exact c2g (R.1 h)
 |false=>rw[a4U h];exact gX (R.2 h).1
theorem b60{e:Eng}{k:Nat}{tx:Int}(hR:b8j (P7 e k 0) k tx):O3 (I6 e k).1.1:=by
 by_cases h0:(A0 e k 0).2=0
 ·have hE:=hR.1 (b5z h0);have hA:=a4b hE (c1R hE);have hS:=a75 hE.si hA.2 hE.rm;have h10:=hE.t10;have hlk:=hE.lk;rw[a8O h0];have b1:=g9 (hF ((K7 (P7 e k 0).1.1 k oC).X.getD k dz).id) (P7 e k 0).1.1.lk.H (P7 e k 0).1.1.lk.H.length;have b2:=g9 (wF ((K7 (P7 e k 0).1.1 k oC).X.getD k dz).id) (P7 e k 0).1.1.lk.W (P7 e k 0).1.1.lk.W.length;have hlen:(K7 (P7 e k 0).1.1 k oC).X.length=(P7 e k 0).1.1.X.length:=w6;refine⟨hS.iv.sm,?_,?_,?_⟩
  ·show(List.take k (K7 (P7 e k 0).1.1 k oC).X++List.drop (k+1) (K7 (P7 e k 0).1.1 k oC).X).length<=_;rw[J6,List.length_take,List.length_drop,hlen];omega
  ·show(X1 _ (P7 e k 0).1.1.lk.H (P7 e k 0).1.1.lk.H.length).length<=_;omega
  ·show(X1 _ (P7 e k 0).1.1.lk.W (P7 e k 0).1.1.lk.W.length).length<=_;omega
 ·rw[c1L h0];exact b5d hR
theorem c1Y{e:Eng}{tx:Int}(h:¬ (S8 e tx).2=0):qQ e tx=((e,0),(S8 e tx).2):=if_neg h
theorem b7u{e:Eng}{tx:Int}{k:Nat}(h:(S8 e tx).2=0)(d:(S8 e tx).1=k):qQ e tx=I6 e k:=by
 unfold qQ;rw[if_pos h,d,C8]
theorem c3S{e:Eng}{tx:Int}(h:O3 e)(o:U3 e=true):O3 (qQ e tx).1.1:=by
 by_cases d:(S8 e tx).2=0
 ·obtain⟨u,k,g,f,hi,A⟩:=i3 d;rw[b7u d g];exact b60 (a0M (fA o h u A f hi) (Int.le_refl 0))
 ·rw[c1Y d];exact h
theorem b7d{e:Eng}{tx lsn:Int}(h:O3 e)(o:U3 e=true):O3 (V9 e tx lsn).1.1:=by
 by_cases h0:(S8 e tx).2=0
 ·obtain⟨hu,k,e1,hk,hi,ha⟩:=i3 h0;cases hc:(V8 lsn 1 (e.X.getD k dz).Z&&(e.s.L.getD (lsn-1).toNat dz).t==tx) with
  |true=>
   rw[a9C h0 e1 hc];have d:1<=lsn:=by
    simp only[M1] at hc;exact(yM hc.1).1
   exact b5d (a0M (fA o h hu ha hk hi) Z9)
  |false=>
   rw[b5S h0 e1 hc];exact h
 ·rw[b4w h0];exact h
theorem ab2{e:Eng}{tx:Int}(h:(!U3 e)=false):R4 e tx=((qQ e tx).1.1,(qQ e tx).2):=by unfold R4;rw[if_pos F6]
def yF(e:Eng)(tx lsn:Int):Eng×Int:=if U3 e=true then((V9 e tx lsn).1.1,(V9 e tx lsn).2) else(b1R,1)
theorem ro1{e:Eng}{tx lsn:Int}(h:(!U3 e)=true):yF e tx lsn=(b1R,1):=by unfold yF;rw[if_neg F6]
theorem ro2{e:Eng}{tx lsn:Int}(h:(!U3 e)=false):yF e tx lsn=((V9 e tx lsn).1.1,(V9 e tx lsn).2):=by unfold yF;rw[if_pos F6]
def c3E:Con:=.rel ⟨Eng×Nat×Int×Int,λx=>[.agg x.1.ts,Ji x.2.1,Ji x.2.2.1],λx=>.tup [.agg (P7 x.1 x.2.1 x.2.2.1).1.1.ts,.bool (P7 x.1 x.2.1 x.2.2.1).2],λx=>UI x.1 x.2.1 x.2.2.2 (x.1.X.getD x.2.1 dz).Z/\0<=x.2.2.1⟩
def c2L(e:Eng)(k:Nat)(to tx:Int):Nat->Ann
 |0=>.one (UdI (P7 e k to) k tx to) (λx=>⟨[(1,Ji k),(2,Ji to),(3,.ref 0 0 0),(6,.ref 1 0 0),(7,.bool false),(8,Ji x.a)],[A5 x.e,A5 b1R]⟩) (λx=>x.f) xZ xZ (λ_=>Y5)
 |_=>.none
theorem c0L(e:Eng)(k:Nat)(r:Rec):(K7 e k (s6 r)).s.L.getD (((e.s.L.length+1:Nat):Int)-1).toNat dz=uX e k r:=by
 have d:(((e.s.L.length+1:Nat):Int)-1).toNat=e.s.L.length:=Z9
 rw[d,Q8]
 show((e.s.L++[uX e k r])[e.s.L.length]?).getD dz=_;rw[List.getElem?_concat_length]
 rfl
theorem c08:GK 91 c3E:=gk func91<|by
 rintro⟨e,k,to,tx⟩ ⟨U,r⟩;dsimp only at U r;have har:=U.ar;have M:=U.u.rm;refine R1 (gC b9s (gC a4S (gC H7 gN))) func91 (c2L e k to tx) (α:=let w:=(P7 e k to);let v:=(0=0/\0=0);let q:=(oo ((0=0/\Z7 0 (Z6 []) (Z6 []))/\(0=0/\Z7 0 (Z2 []) (Z2 []))/\false=false/\(0=0/\Z7 0 (Z0 []) (Z0 []))/\(0:Int)=0/\(0=0/\Z7 0 (Y6 []) (Y6 []))/\(0:Int)=0/\(0=0/\Z7 0 (X2 []) (X2 []))/\(0:Int)=0/\false=false/\(0=0/\Z7 0 (X4 []) (X4 []))/\(0=0/\Z7 0 (Y2 []) (Y2 []))/\(0=0/\Z7 0 (X8 []) (X8 []))/\(0:Int)=0/\True));V3 (k:Int) e.X.length/\(∃(x:UdI (P7 e k to) k tx to),((k:Int)=(k:Int)/\to=to/\v/\v/\false=false/\(e.X.getD (k:Int).toNat dz).Z=x.a/\True)/\(oo (F9 e x.e))/\(oo (0=0/\0=0/\false=false/\0=0/\(0:Int)=0/\0=0/\(0:Int)=0/\0=0/\(0:Int)=0/\false=false/\0=0/\0=0/\0=0/\(0:Int)=0/\True))/\True)/\∀(x:UdI (P7 e k to) k tx to),let r:=(x.e.s.L.getD (x.a-1).toNat dz);bd (x.a>to) (Ri (x.a-1)/\V3 (x.a-1) x.e.s.L.length/\br (r.k==3) (∃(y:UdI (P7 e k to) k tx to),(((k:Int)=(k:Int)/\to=to/\v/\v/\false=false/\r.n=y.a/\True)/\(oo (F9 x.e y.e))/\q/\True)/\Lt y.f x.f) (br (r.k==2) (∃(X:(Eng×Nat×Rec)),let z:=(X.1.X.set X.2.1 (Txn.mk (X.1.X.getD X.2.1 dz).id ((X.1.s.L.length:Int)+1)));(((F9 x.e X.1)/\(k:Int)=(X.2.1:Int)/\(0=X.2.2.e/\0=X.2.2.l/\0=X.2.2.t/\3=X.2.2.k/\0=X.2.2.p/\r.p=X.2.2.n/\r.g=X.2.2.g/\r.s=X.2.2.s/\[]=X.2.2.b/\r.b=X.2.2.a/\True)/\True)/\X.2.1<X.1.X.length/\X.1.X.length<=1000/\X.1.s.L.length<=1000)/\∃(d:(Sto×Int)),let u:=(T7 d.1 (d.1.L.getD (d.2-1).toNat dz));(((yJ {X.1.s with L:=(X.1.s.L++[U0 X.1.s (Q9 X.1 X.2.1 X.2.2)])} d.1)/\(↑(X.1.s.L.length+1):Int)=d.2/\True)/\SInv d.1/\1<=d.2/\d.2<=(d.1.L.length:Int))/\br (! u.2) ((F9 {X.1 with s:=u.1,X:=z} w.1.1)/\false=w.2/\True) (∃(y:UdI (P7 e k to) k tx to),(((k:Int)=(k:Int)/\to=to/\v/\v/\false=false/\r.p=y.a/\True)/\(oo (F9 {X.1 with s:=u.1,X:=z} y.e))/\q/\True)/\Lt y.f x.f)) (∃(y:UdI (P7 e k to) k tx to),(((k:Int)=(k:Int)/\to=to/\v/\v/\false=false/\r.p=y.a/\True)/\(oo (F9 x.e y.e))/\q/\True)/\Lt y.f x.f))) ((F9 x.e w.1.1)/\true=w.2/\True)) ⟨X9 U.u.lt,⟨⟨e,0,(e.X.getD k dz).Z,61,U,Z9,rfl⟩,Z8⟩,λx=>?_⟩
 obtain⟨e',V,a,f,h,F,q⟩:=x;dsimp only;have o:=h.u.rm;have har:=h.ar;refine⟨λhc=>?_,λhc=>?_⟩
 ·have h1:1<=a:=by have:=B3 hc;omega
  have j:¬a<=to:=by have:=B3 hc;omega
  obtain⟨I,C,A,B⟩:=h.u.si.logP.prev h1 har.2;refine⟨Z1 Z9,⟨Z9,Z9⟩,λi=>?_,λi=>⟨λh2=>?_,λh2=>?_⟩⟩
  ·have i:(Z4 e'.s.L a).k=3:=beq_iff_eq.1 i;exact⟨⟨e',V,(Z4 e'.s.L a).n,f-1,c4d h h1 i,Z9,(dR j Z9 i).symm.trans q⟩,Z8,D1⟩
  ·have h2:(Z4 e'.s.L a).k=2:=beq_iff_eq.1 h2;obtain⟨hR,hA,hb,hS⟩:=a9c h.u h1 har.2 h2;have e1:=c0L e' k (Z4 e'.s.L a);refine⟨(e',k,s6 (Z4 e'.s.L a)),⟨Z8,h.u.lt,by have:=h.u.t10;dsimp only;omega,W5⟩,((K7 e' k (s6 (Z4 e'.s.L a))).s,((e'.s.L.length+1:Nat):Int)),⟨⟨iT (K7 e' k (s6 (Z4 e'.s.L a))).s,rfl,Z5⟩,hS.iv,W5,by rw[m3];exact Int.le_refl _⟩,λhu=>?_,λhu=>?_⟩
   ·dsimp only at hu ⊢;rw[e1] at hu ⊢;have hu:(J5 e' k (Z4 e'.s.L a)).2=false:=by
     have hu:(!(J5 e' k (Z4 e'.s.L a)).2)=true:=hu
     simpa using hu
    have z:=(a5W (v:=V) j Z9 h2 hu).symm.trans q
    rw[←z];exact⟨tG (J5 e' k (Z4 e'.s.L a)).1,Z8⟩
   ·dsimp only at hu ⊢;rw[e1] at hu ⊢;have hu:(J5 e' k (Z4 e'.s.L a)).2=true:=by
     have hu:(!(J5 e' k (Z4 e'.s.L a)).2)=false:=hu
     simpa using hu
    exact⟨⟨(J5 e' k (Z4 e'.s.L a)).1,jL e' k (Z4 e'.s.L a) V,(Z4 e'.s.L a).p,f-1,a8D h h1 h2 hu,Z9,(dC j Z9 h2 hu).symm.trans q⟩,⟨Z8,⟨rfl,rfl,tG (J5 e' k (Z4 e'.s.L a)).1⟩,Z8⟩,D1⟩
  ·have i:(Z4 e'.s.L a).k≠3:=λe=>by
    have i:((Z4 e'.s.L a).k==3)=false:=i;rw[e] at i;cases i
   have h2:(Z4 e'.s.L a).k≠2:=λe=>by
    have h2:((Z4 e'.s.L a).k==2)=false:=h2;rw[e] at h2;cases h2
   exact⟨⟨e',V,(Z4 e'.s.L a).p,f-1,c3J h h1 i,Z9,(dU j Z9 i h2).symm.trans q⟩,Z8,D1⟩
 ·have ha:a<=to:=by have:=k5 hc;omega
  rw[←q,vS ha];exact Z8
theorem c5N(e:Eng)(k:Nat)(lsn:Int):(A0 e k lsn).2=0∨(A0 e k lsn).2=15:=by
 cases h:(P7 e k lsn).2 with
 |true=>rw[mF h];exact .inl rfl
 |false=>rw[a4U h];exact .inr rfl
theorem c6P(e:Eng)(k:Nat):(I6 e k).2=0∨(I6 e k).2=15:=by
 unfold I6;split
 ·exact .inl rfl
 ·exact c5N e k 0
theorem c5M{e:Eng}{tx:Int}(h:((S8 e tx).2 !=0)=false):(S8 e tx).2=0:=F6
theorem c6Z{e:Eng}{tx:Int}(h:((S8 e tx).2 !=0)=true):¬ (S8 e tx).2=0:=F6
def c68:Con:=.rel ⟨Eng×Int×Int,λx=>[.agg x.1.ts,Ji x.2.1,Ji x.2.2],λx=>.tup [.agg (V9 x.1 x.2.1 x.2.2).1.1.ts,Ji (V9 x.1 x.2.1 x.2.2).2],λx=>U3 x.1=true/\O3 x.1⟩
theorem c3U:GK 41 c68:=gk func41<|by
 rintro⟨e,tx,lsn⟩ ⟨ho,hm⟩;dsimp only at ho hm;have g:=(E4 (Q1 ho).2.1).1;refine R1 (gC a3v (gC C0 (gC c08 (gC a7L gN)))) func41 Y5 (α:=let p:=(V9 e tx lsn);∃(x:(Eng×Int)),let z:=(S8 x.1 x.2);let q:=(e.X.getD z.1.toNat dz).Z;let u:=(!V8 lsn (1:Int) q);(((F9 e x.1)/\tx=x.2/\True)/\M3 x.1.X.length)/\br (z.2 !=0) ((F9 e p.1.1)/\z.2=p.2/\True) (V3 z.1 e.X.length/\(u=false->Ri (lsn-1))/\(u=false->V3 (lsn-1) e.s.L.length)/\br (!V8 lsn (1:Int) q||(e.s.L.getD (lsn-1).toNat dz).t !=tx) ((F9 e p.1.1)/\5=p.2/\True) (∃(X:(Eng×Nat×Int×Int)),let r:=(P7 X.1 X.2.1 X.2.2.1);(((F9 e X.1)/\z.1=(X.2.1:Int)/\lsn=X.2.2.1/\True)/\UI X.1 X.2.1 X.2.2.2 (X.1.X.getD X.2.1 dz).Z/\0<=X.2.2.1)/\br (! r.2) (∃(x:(Eng×Dsk)),(((F9 r.1.1 x.1)/\(zA r.1.1.s.d x.2)/\True)/\H9 x.2/\x.2.E.length=69)/\(F9 (yD (sdE x.1 x.2)) p.1.1)/\15=p.2/\True) ((F9 r.1.1 p.1.1)/\0=p.2/\True)))) ⟨(e,tx),⟨Z8,vY⟩,λhq=>?_,λhq=>?_⟩
 ·rw[b4w (c6Z hq)];exact Z8
 ·have h0:=c5M hq;obtain⟨hu,k,e1,hk,hi,ha⟩:=i3 h0;have hU:=fA ho hm hu ha hk hi;have hl:=nU ho hu hk;have hrm:=hU.u.rm;dsimp only;rw[e1,C8];have hin:(!V8 lsn 1 (e.X.getD k dz).Z)=false->1<=lsn/\lsn<=(e.X.getD k dz).Z:=λh=>a7B h
  refine⟨X9 hk,λh=>by have:=hin h;exact Z1 Z9,λh=>by have:=hin h;exact⟨Z9,Z9⟩,λC=>?_,λC=>?_⟩
  ·have C:(V8 lsn 1 (e.X.getD k dz).Z&&(e.s.L.getD (lsn-1).toNat dz).t==tx)=false:=by
    unfold bne at C;rw[a89] at C;exact kA C
   rw[b5S h0 e1 C];exact Z8
  ·have C:(V8 lsn 1 (e.X.getD k dz).Z&&(e.s.L.getD (lsn-1).toNat dz).t==tx)=true:=by
    unfold bne at C;rw[a89] at C
    simpa using C
   have f:1<=lsn:=by
    simp only[M1] at C;exact(yM C.1).1
   have R:=a0M hU (show 0<=lsn by omega)
   rw[a9C h0 e1 C];refine⟨(e,k,lsn,tx),⟨Z8,hU,W5⟩,λhy=>?_,λhy=>?_⟩
   ·have hu:(P7 e k lsn).2=false:=by simpa using hy
    rw[a4U hu];exact⟨((P7 e k lsn).1.1,(P7 e k lsn).1.1.s.d),⟨⟨tG (P7 e k lsn).1.1,Z8⟩,(R.2 hu).1,(R.2 hu).2⟩,Z8⟩
   ·have hu:(P7 e k lsn).2=true:=by simpa using hy
    rw[mF hu];exact⟨tG (P7 e k lsn).1.1,Z8⟩
def c0N:Con:=.rfz ⟨Eng×Int×Int,λx=>[.agg x.1.ts,Ji x.2.1,Ji x.2.2],λx=>.tup [.agg (yF x.1 x.2.1 x.2.2).1.ts,Ji (yF x.1 x.2.1 x.2.2).2],λx=>tF x.1/\O3 x.1⟩
theorem b5M:GK 18 c0N:=gk func18<|by
 rintro⟨e,tx,lsn⟩ ⟨f,h⟩;dsimp only at f h;refine R1 (gC nV (gC c3U (gC b1K gN))) func18 Y5 (α:=let p:=(yF e tx lsn);let q:=p.1.s;∃(x:D5.ι),(((F9 e x)/\True)/\tF x)/\br (!U3 x) ((q.d.E.length=0/\q.d.C.length=0/\false=q.d.A/\q.d.keep.length=0/\0=q.ep/\q.L.length=0/\0=q.S/\q.fr.length=0/\0=q.J/\false=p.1.up/\p.1.X.length=0/\p.1.lk.H.length=0/\p.1.lk.W.length=0/\0=p.1.N/\True)/\1=p.2/\True) (∃(x:(Eng×Int×Int)),let r:=(V9 x.1 x.2.1 x.2.2);(((F9 e x.1)/\tx=x.2.1/\lsn=x.2.2/\True)/\U3 x.1=true/\O3 x.1)/\∃(X:Eng),(((F9 r.1.1 X)/\True)/\O3 X)/\(F9 X p.1)/\r.2=p.2/\True)) ⟨e,⟨Z8,f⟩,λhq=>?_,λhq=>?_⟩
 ·rw[ro1 hq];exact Z8
 ·have ho:U3 e=true:=by simpa using hq
  rw[ro2 hq];exact⟨(e,tx,lsn),⟨Z8,ho,h⟩,(V9 e tx lsn).1.1,⟨Z8,b7d h ho⟩,Z8⟩
end
end Go.Proofs.YtcobnbfhkpbokaaGreat
