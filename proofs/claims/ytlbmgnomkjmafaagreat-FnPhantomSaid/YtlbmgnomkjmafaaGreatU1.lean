/- A part of the proof. -/
import Derived.Test.YtlbmgnomkjmafaaGreatX1
import Derived.Test.YtlbmgnomkjmafaaGreatE4
import Derived.WalkKit
import Derived.Deep.RegionLaw
import Derived.Deep.LoopGhost
import Derived.Lib.SliceRun
import Derived.Deep.MidRow
import Derived.Shelf.RegionOpenPlain
import Derived.Laws.IdiomCopy
namespace Go.Proofs.YtlbmgnomkjmafaaGreat
set_option maxRecDepth 100000
open Go.SS Go.Proofs.Tryz
noncomputable section
def qD(L:List Txn):Option Ob:=some (.arr true 0 2 L.length (W8 L))
theorem aX(L:List Txn):E6 [qD L]:=C7 (λi _ t h=>by
 simp only[W8,Txn.ts,xX,j_i,or_false] at h;rcases h with rfl|rfl<;>rfl) y5
def b9x:Con:=.rmk ⟨List Txn,λL=>[a3a L],λ_=>[],λL=>.osl 0 0 L.length,λL=>[qD L],λL=>L.length<=1048576⟩
theorem b8Y(L:List Txn)(h:
  ∀(b:Bool),(b=true->L.length=0)->br b (((0=0/\0=L.length)/\True)/\(0=L.length/\Z7 0 (λ(x:Nat)=>[]) (W8 L))/\True) ((Le 0 0/\U8 0 L.length 16)/\((0=0/\0+L.length=L.length)/\True)/\(0+L.length=L.length/\Z7 (0+L.length) (X6 (tk 2 []) 0 (W8 L)) (W8 L))/\True)):
  I8 prog 50 [a3a L] [] (.osl 0 0 L.length) [qD L]:=
 w3 gN func50 Y7 c3R h
theorem b44:GK 50 b9x:=gk func50<|λ(L:List Txn) (hL:L.length<=1048576)=>
 ⟨b8Y L (λb B=>⟨λh=>⟨⟨⟨rfl,(B h).symm⟩,Z6⟩,⟨(B h).symm,λi hi=>absurd hi (J9 _)⟩,Z6⟩,λ_=>⟨⟨U9 _,Q5⟩,⟨⟨rfl,Z9⟩,Z6⟩,⟨Z9,x9⟩,Z6⟩⟩),rfl,aX L⟩
def uG(L:List Lck):Option Ob:=some (.arr true 0 4 L.length (Y6 L))
theorem a0q(L:List Lck):E6 [uG L]:=C7 (λi _ t h=>by
 simp only[Y6,Lck.ts,xX,j_i,or_false] at h;rcases h with rfl|rfl|rfl|rfl<;>rfl) y5
def b7R:Con:=.rmk ⟨List Lck,λL=>[fJ L],λ_=>[],λL=>.osl 0 0 L.length,λL=>[uG L],λL=>L.length<=1048576⟩
theorem b7P(L:List Lck)(h:
  ∀(b:Bool),(b=true->L.length=0)->br b (((0=0/\0=L.length)/\True)/\(0=L.length/\Z7 0 (λ(x:Nat)=>[]) (Y6 L))/\True) ((Le 0 0/\U8 0 L.length 32)/\((0=0/\0+L.length=L.length)/\True)/\(0+L.length=L.length/\Z7 (0+L.length) (X6 (tk 4 []) 0 (Y6 L)) (Y6 L))/\True)):
  I8 prog 108 [fJ L] [] (.osl 0 0 L.length) [uG L]:=
 w3 gN func108 Y7 [[.arr 1],[.nilS 0 [] 0 4,.arr 0]] h
theorem b34:GK 108 b7R:=gk func108<|λ(L:List Lck) (hL:L.length<=1048576)=>
 ⟨b7P L (λb B=>⟨λh=>⟨⟨⟨rfl,(B h).symm⟩,Z6⟩,⟨(B h).symm,λi hi=>absurd hi (J9 _)⟩,Z6⟩,λ_=>⟨⟨U9 _,Q5⟩,⟨⟨rfl,Z9⟩,Z6⟩,⟨Z9,x9⟩,Z6⟩⟩),rfl,a0q L⟩
def qU(L:List Wt):Option Ob:=some (.arr true 0 2 L.length (Y4 L))
theorem oJ(L:List Wt):E6 [qU L]:=C7 (λi _ t h=>by
 simp only[Y4,Wt.ts,xX,j_i,or_false] at h;rcases h with rfl|rfl<;>rfl) y5
def c2E:Con:=.rmk ⟨List Wt,λL=>[wtS L],λ_=>[],λL=>.osl 0 0 L.length,λL=>[qU L],λL=>L.length<=1048576⟩
theorem c3d(L:List Wt)(h:
  ∀(b:Bool),(b=true->L.length=0)->br b (((0=0/\0=L.length)/\True)/\(0=L.length/\Z7 0 (λ(x:Nat)=>[]) (Y4 L))/\True) ((Le 0 0/\U8 0 L.length 16)/\((0=0/\0+L.length=L.length)/\True)/\(0+L.length=L.length/\Z7 (0+L.length) (X6 (tk 2 []) 0 (Y4 L)) (Y4 L))/\True)):
  I8 prog 109 [wtS L] [] (.osl 0 0 L.length) [qU L]:=
 w3 gN func109 Y7 c3R h
theorem b8s:GK 109 c2E:=gk func109<|λ(L:List Wt) (hL:L.length<=1048576)=>
 ⟨c3d L (λb B=>⟨λh=>⟨⟨⟨rfl,(B h).symm⟩,Z6⟩,⟨(B h).symm,λi hi=>absurd hi (J9 _)⟩,Z6⟩,λ_=>⟨⟨U9 _,Q5⟩,⟨⟨rfl,Z9⟩,Z6⟩,⟨Z9,x9⟩,Z6⟩⟩),rfl,oJ L⟩
def c4P:Con:=.tmp
theorem M8:GK 37 c4P:=gk func37<|trivial
def c3z:Con:=.tmp
theorem b8V:GK 78 c3z:=gk func78<|trivial
def c4t:Con:=.tmp
theorem c0C:GK 155 c4t:=gk func155<|trivial
def Lks.tm(l:Lks)(b:Nat):List T:=[.osl b 0 l.H.length,.osl (b+1) 0 l.W.length]
def Lks.hp(l:Lks):Y5:=[uG l.H,qU l.W]
theorem nA(l:Lks):E6 l.hp:=k8 (a0q _) (oJ _)
def b9b:Con:=.rmk ⟨Lks,λl=>[.agg l.ts],λ_=>[],λl=>.agg (l.tm 0),λl=>l.hp,lM⟩
theorem b3l:GK 51 b9b:=gk func51<|by
 rintro(l:Lks) ⟨h1,h2⟩;exact⟨w3 (gC b34 (gC b8s gN)) func51 Y7 [[.arr 2,.arr 3]] (α:=∃(x:(List Lck)),let p:=x.length;(((Z2 Y6 l.H x)/\True)/\p<=1048576)/\∃(X:(List Wt)),(((Z2 Y4 l.W X)/\True)/\X.length<=1048576)/\(((0=0/\p=l.H.length)/\(0=0/\X.length=l.W.length)/\True)/\True)/\(p=l.H.length/\Z7 (p) (Y6 x) (Y6 l.H))/\(X.length=l.W.length/\Z7 (X.length) (Y4 X) (Y4 l.W))/\True) ⟨l.H,⟨Z8,h1⟩,l.W,⟨Z8,h2⟩,Z8⟩,rfl,nA l⟩
def b6T:Con:=.rel ⟨Lks,λl=>[.agg l.ts],λl=>.agg l.ts,lM⟩
theorem b1M:GK 79 b6T:=gk func79<|by
 rintro(l:Lks) ⟨h1,h2⟩;exact S2 (gC M8 (gC b8V (gC c0C gN))) func79 Y7 (α:=U8 0 l.H.length 32/\U8 0 l.W.length 16/\(Z2 Y6 l.H l.H)/\(Z2 Y4 l.W l.W)/\True) ⟨Q5,Q5,Z8⟩
def Eng.tm(e:Eng)(b:Nat):List T:=[.osl b 0 e.s.d.E.length,.osl (b+1) 0 e.s.d.C.length,.bool e.s.d.A,.osl (b+2) 0 e.s.d.keep.length,Ji e.s.ep,.osl (b+3) 0 e.s.L.length,Ji e.s.S,.osl (b+4) 0 e.s.fr.length,Ji e.s.J,.bool e.up,.osl (b+5) 0 e.X.length,.osl (b+6) 0 e.lk.H.length,.osl (b+7) 0 e.lk.W.length,Ji e.N]
def Eng.hp(e:Eng)(v:Nat):Y5:=[w9 e.s.d.E,B7 e.s.d.C,z6 e.s.d.keep,zG e.s.L,vU v e.s.fr e.s.fr.length,qD e.X,uG e.lk.H,qU e.lk.W]
abbrev pY(a b:Eng):Prop:=Z2 Z5 a.s.d.E b.s.d.E/\Z2 Y8 a.s.d.C b.s.d.C/\a.s.d.A=b.s.d.A/\Z2 Y9 a.s.d.keep b.s.d.keep/\a.s.ep=b.s.ep/\Z2 Y0 a.s.L b.s.L/\a.s.S=b.s.S/\(a.s.fr.length=b.s.fr.length/\Z7 a.s.fr.length (gU (Z1 a.s.fr)) (V4 b.s.fr))/\a.s.J=b.s.J/\a.up=b.up/\Z2 W8 a.X b.X/\Z2 Y6 a.lk.H b.lk.H/\Z2 Y4 a.lk.W b.lk.W/\a.N=b.N/\True
abbrev c6x(a b:Eng):Prop:=((0:Nat)=0/\a.s.d.E.length=b.s.d.E.length)/\((0:Nat)=0/\a.s.d.C.length=b.s.d.C.length)/\a.s.d.A=b.s.d.A/\((0:Nat)=0/\a.s.d.keep.length=b.s.d.keep.length)/\a.s.ep=b.s.ep/\((0:Nat)=0/\a.s.L.length=b.s.L.length)/\a.s.S=b.s.S/\((0:Nat)=0/\a.s.fr.length=b.s.fr.length)/\a.s.J=b.s.J/\a.up=b.up/\((0:Nat)=0/\a.X.length=b.X.length)/\((0:Nat)=0/\a.lk.H.length=b.lk.H.length)/\((0:Nat)=0/\a.lk.W.length=b.lk.W.length)/\a.N=b.N/\True
abbrev a4N(v u:Nat)(a b:Eng):Prop:=Z2 Z5 a.s.d.E b.s.d.E/\Z2 Y8 a.s.d.C b.s.d.C/\Z2 Y9 a.s.d.keep b.s.d.keep/\Z2 Y0 a.s.L b.s.L/\(v=u/\a.s.fr.length=b.s.fr.length/\V3 a.s.fr.length (Z1 a.s.fr) (Z1 b.s.fr))/\Z2 W8 a.X b.X/\Z2 Y6 a.lk.H b.lk.H/\Z2 Y4 a.lk.W b.lk.W/\True
abbrev BxG(a b:Eng):Prop:=(1:Nat)=1/\(1:Nat)=1/\c6x a b
abbrev LnG(v u:Nat)(a b:Eng):Prop:=BxG a b/\a4N v u a b
abbrev aH(v u:Nat)(a b:Eng):Prop:=BxG a b/\True/\True/\True/\True/\True/\True/\True/\True/\a4N v u a b
abbrev LeG(a:Eng):Prop:=Le (0+a.s.d.E.length) a.s.d.E.length/\Le (0+a.s.d.C.length) a.s.d.C.length/\Le (0+a.s.d.keep.length) a.s.d.keep.length/\Le (0+a.s.L.length) a.s.L.length/\Le (0+a.s.fr.length) a.s.fr.length/\Le (0+a.X.length) a.X.length/\Le (0+a.lk.H.length) a.lk.H.length/\Le (0+a.lk.W.length) a.lk.W.length
theorem b2S(e:Eng)(v:Nat):E6 (e.hp v):=k8 (H:=e.s.hp v) (nD _ _) (k8 (H:=[qD e.X]) (aX _) (nA e.lk))
def b86:Con:=.rmk ⟨Eng,λe=>[.agg e.ts],λ_=>[],λe=>.agg (e.tm 0),λe=>e.hp 0,x8⟩
theorem tC:GK 22 b86:=gk func22<|by
 rintro(e:Eng) ⟨h1,h2,h3⟩;exact⟨w3 (gC b26 (gC b44 (gC b3l gN))) func22 Y7 [[.arr 2,.arr 3,.arr 4,.arr 5,.arr 6,.arr 7,.arr 8,.arr 9]] (α:=∃(x:Sto),(((zV e.s x)/\True)/\SmS x)/\∃(f:(List Txn)),let p:=f.length;(((Z2 W8 e.X f)/\True)/\p<=1048576)/\∃(X:Lks),((((Z2 Y6 e.lk.H X.H)/\(Z2 Y4 e.lk.W X.W)/\True)/\True)/\lM X)/\(((0=0/\x.d.E.length=e.s.d.E.length)/\(0=0/\x.d.C.length=e.s.d.C.length)/\x.d.A=e.s.d.A/\(0=0/\x.d.keep.length=e.s.d.keep.length)/\x.ep=e.s.ep/\(0=0/\x.L.length=e.s.L.length)/\x.S=e.s.S/\(0=0/\x.fr.length=e.s.fr.length)/\x.J=e.s.J/\e.up=e.up/\(0=0/\p=e.X.length)/\(0=0/\X.H.length=e.lk.H.length)/\(0=0/\X.W.length=e.lk.W.length)/\e.N=e.N/\True)/\True)/\(Z2 Z5 x.d.E e.s.d.E)/\(Z2 Y8 x.d.C e.s.d.C)/\(Z2 Y9 x.d.keep e.s.d.keep)/\(Z2 Y0 x.L e.s.L)/\(0=0/\x.fr.length=e.s.fr.length/\V3 x.fr.length (Z1 x.fr) (Z1 e.s.fr))/\(p=e.X.length/\Z7 (p) (W8 f) (W8 e.X))/\(Z2 Y6 X.H e.lk.H)/\(Z2 Y4 X.W e.lk.W)/\True) ⟨e.s,⟨⟨(gL _),Z6⟩,h1⟩,e.X,⟨Z8,h2⟩,e.lk,⟨Z8,h3⟩,Z8⟩,rfl,b2S e 0⟩
def b31:Con:=.rel ⟨Eng,λe=>[.agg e.ts],λe=>.agg e.ts,x8⟩
theorem b1k:GK 37 b31:=gk func37<|by
 rintro(e:Eng) ⟨h1,h2,h3⟩;exact S2 (gC b00 (gC b1M gN)) func37 Y7 (α:=let p:=(0+e.X.length);∃(x:Sto),let q:=x.fr.length;(((zV e.s x)/\True)/\SmS x)/\(Le 0 0/\U8 0 e.X.length 16)/\∃(X:Lks),((((Z2 Y6 e.lk.H X.H)/\(Z2 Y4 e.lk.W X.W)/\True)/\True)/\lM X)/\(Le (0+x.d.E.length) x.d.E.length/\Le (0+x.d.C.length) x.d.C.length/\Le (0+x.d.keep.length) x.d.keep.length/\Le (0+x.L.length) x.L.length/\Le (0+q) q/\Le (0+p) p)/\(Z2 Z5 x.d.E e.s.d.E)/\(Z2 Y8 x.d.C e.s.d.C)/\x.d.A=e.s.d.A/\(Z2 Y9 x.d.keep e.s.d.keep)/\x.ep=e.s.ep/\(Z2 Y0 x.L e.s.L)/\x.S=e.s.S/\(q=e.s.fr.length/\Z7 x.fr.length (gU (Z1 x.fr)) (V4 e.s.fr))/\x.J=e.s.J/\e.up=e.up/\(0+e.X.length=e.X.length/\Z7 p (X6 (tk 2 []) 0 (W8 e.X)) (W8 e.X))/\(Z2 Y6 X.H e.lk.H)/\(Z2 Y4 X.W e.lk.W)/\e.N=e.N/\True) ⟨e.s,⟨⟨(gL _),Z6⟩,h1⟩,⟨U9 _,Q5⟩,e.lk,⟨Z8,h3⟩,⟨dY _,dY _,dY _,dY _,dY _,K2⟩,Z8,Z8,rfl,Z8,rfl,Z8,rfl,Z8,rfl,rfl,⟨Z9,x9⟩,Z8⟩
def Eng.tn(e:Eng)(a b c d f g h i:Nat):List T:=[.osl a 0 e.s.d.E.length,.osl b 0 e.s.d.C.length,.bool e.s.d.A,.osl c 0 e.s.d.keep.length,Ji e.s.ep,.osl d 0 e.s.L.length,Ji e.s.S,.osl f 0 e.s.fr.length,Ji e.s.J,.bool e.up,.osl g 0 e.X.length,.osl h 0 e.lk.H.length,.osl i 0 e.lk.W.length,Ji e.N]
def jA(l:List T):Option Ob:=some (.arr false 1000000 14 1 λ_=>l)
def Eng.bx(e:Eng)(v:Nat):Y5:=[jA (e.tn 1 2 3 4 5 6 7 8),w9 e.s.d.E,B7 e.s.d.C,z6 e.s.d.keep,zG e.s.L,vU v e.s.fr e.s.fr.length,qD e.X,uG e.lk.H,qU e.lk.W]
def Eng.nx(e:Eng)(v:Nat):Y5:=[jA (e.tn 9 10 11 12 13 14 15 16),none,none,none,none,none,none,none,none,w9 e.s.d.E,B7 e.s.d.C,z6 e.s.d.keep,zG e.s.L,vU v e.s.fr e.s.fr.length,qD e.X,uG e.lk.H,qU e.lk.W]
def nZ:Eng:=⟨c6D,false,[],⟨[],[]⟩,0⟩
def apx(s:Sto)(r:Rec):Sto:=⟨s.d,s.ep,s.L++[T0 s r],s.S,s.fr,s.J⟩
def N5(e:Eng)(k:Nat)(r:Rec):Rec:={r with t:=(e.X.getD k dz).id,p:=(e.X.getD k dz).Z}
def x4(e:Eng)(k:Nat)(r:Rec):Eng:={e with s:=apx e.s (N5 e k r),X:=e.X.set k ⟨(e.X.getD k dz).id,(e.s.L.length:Int)+1⟩}
structure AddB(e:Eng)(tx:Int)(k:Nat)(r:Rec):Prop where
 at_:T5 e.X tx=k
 lt:k<e.X.length
 id:(e.X.getD k dz).id=tx
 ok:M6 (T0 e.s (N5 e k r))=true
 tl:e.X.length<=1000
 ll:e.s.L.length<=1000
 sm:SmR r
def c6s:Con:=.reff ⟨Eng×Int×Rec×Nat×Nat,λx=>[.ref 0 0 0,Ji x.2.1,.agg x.2.2.1.ts],λx=>x.1.bx x.2.2.2.2,λx=>.agg (T0 x.1.s (N5 x.1 x.2.2.2.1 x.2.2.1)).ts,λx=>(x4 x.1 x.2.2.2.1 x.2.2.1).nx x.2.2.2.2,λx=>AddB x.1 x.2.1 x.2.2.2.1 x.2.2.1⟩
theorem a8E{L:List Txn}{k:Nat}{n:Int}(d:k<L.length)(j:Nat):setRow (W8 L) k 1 [Ji n] j=W8 (L.set k ⟨(L.getD k dz).id,n⟩) j:=by
 by_cases h:j=k
 ·subst h;rw[iR (by show 1<2;decide)]
  unfold W8;rw[Q2 (l:=L.set j _),j_j d]
  rfl
 ·rw[L5 (by show 1+1<=2;decide) h]
  unfold W8;rw[Q2 (l:=L.set k _),j_l (Ne.symm h),←Q2]
theorem b9H{s:Sto}{r:Rec}(h:M6 (T0 s r)=true):Q7 s r=apx s r:=by unfold Q7;rw[if_pos h];rfl
theorem a37(s:Sto)(r:Rec):(apx s r).L.getD s.L.length dz=T0 s r:=by
 show(s.L++[T0 s r]).getD _ _=_;rw[Q2,rL (U9 _)]
 simp
theorem a5b:GK 53 c6s:=gk func53<|by
 rintro⟨e,tx,r,k,v⟩ ⟨A,h,i,f,q,L,M⟩;dsimp only at A h i f q L M;have u:(apx e.s (N5 e k r)).L.length=e.s.L.length+1:=by show(e.s.L++[_]).length=_;simp
 have o:e.s.L.length<=60:=by
  have:=(R2 _).1 f;have:=this.2.2.2.1;have B:(T0 e.s (N5 e k r)).l=(e.s.L.length:Int)+1:=rfl;omega
 refine w3 (gC oC (gC lW gN)) func53 Y7 cJ (α:=let c:=(e.s.L.length:Int);let f:=(e.s.L++[T0 e.s (N5 e k r)]);let m:=(e.X.getD k dz);let w:=(e.X.set k (Txn.mk m.id (c+1)));∃(x:(Eng×Int)),let y:=(0+(T5 x.1.X x.2).toNat);let i:=(e.X.getD y dz).Z;((LeG e)/\((pY e x.1)/\tx=x.2/\True)/\N6 x.1.X.length)/\V6 (T5 x.1.X x.2) e.X.length/\Lt y e.X.length/\∃(X:a4s.ι),let z:=(Q7 X.1 X.2.1);let j:=z.L.length;let q:=((bif y.beq y then(↑j:Int) else i)-1);let u:=(z.L.getD (0+q.toNat) dz);(((0=0/\0=0)/\(r.e=X.2.1.e/\r.l=X.2.1.l/\tx=X.2.1.t/\r.k=X.2.1.k/\i=X.2.1.p/\r.n=X.2.1.n/\r.g=X.2.1.g/\r.s=X.2.1.s/\r.b=X.2.1.b/\r.a=X.2.1.a/\True)/\True)/\(LnS (v) (X.2.2) e.s X.1)/\X.1.L.length<=60/\SmR X.2.1)/\Lt y e.X.length/\Lt y e.X.length/\Ri q/\V6 q j/\Lt (0+q.toNat) j/\((u.e=e.s.ep/\u.l=c+1/\u.t=m.id/\u.k=r.k/\u.p=m.Z/\u.n=r.n/\u.g=r.g/\u.s=r.s/\u.b=r.b/\u.a=r.a/\True)/\True)/\(oo ((0=0/\z.d.E.length=e.s.d.E.length)/\(0=0/\z.d.C.length=e.s.d.C.length)/\z.d.A=e.s.d.A/\(0=0/\z.d.keep.length=e.s.d.keep.length)/\z.ep=e.s.ep/\(0=0/\j=f.length)/\z.S=e.s.S/\(0=0/\z.fr.length=e.s.fr.length)/\z.J=e.s.J/\e.up=e.up/\(0=0/\e.X.length=w.length)/\(0=0/\e.lk.H.length=e.lk.H.length)/\(0=0/\e.lk.W.length=e.lk.W.length)/\e.N=e.N/\True))/\T8 ((Z2 Z5 z.d.E e.s.d.E)/\(Z2 Y8 z.d.C e.s.d.C)/\(Z2 Y9 z.d.keep e.s.d.keep)/\(Z2 Y0 z.L f)/\(X.2.2=v/\z.fr.length=e.s.fr.length/\V3 z.fr.length (Z1 z.fr) (Z1 e.s.fr))/\(e.X.length=w.length/\Z7 e.X.length (setRow (W8 e.X) y 1 [Ji (↑j:Int)]) (W8 w))/\(Z2 Y6 e.lk.H e.lk.H)/\(Z2 Y4 e.lk.W e.lk.W)/\True)) ⟨(e,tx),⟨Z8,Z8,uA⟩,?_⟩
 dsimp only;rw[A,E8,E5];refine⟨Y1 h,h,(e.s,N5 e k r,v),⟨⟨Z8,⟨rfl,rfl,i.symm,Z8⟩,Z6⟩,Z8,o,M⟩,h,h,?_⟩
 dsimp only;rw[b9H f,Nat.beq_refl,cond_true];have z:(0+(((apx e.s (N5 e k r)).L.length:Int)-1).toNat)=e.s.L.length:=Z9
 rw[z,a37];refine⟨Z3 Z9,⟨Z9,Z9⟩,I5,Z8,⟨rfl,rfl,Z8,Z8,rfl,Z8,rfl,Z8,rfl,Z8,rfl,rfl,⟨rfl,(zN ..).symm⟩,Z8⟩,Z6,Z6,Z6,Z6,Z6,Z6,Z6,Z6,Z8,Z8,Z8,Z8,Z8,⟨(zN ..).symm,λj _=>?_⟩,Z8⟩
 rw[a8E h,u];rfl
def mG:Rec:=⟨0,0,0,1,0,0,0,0,[],[]⟩
def vX(e:Eng):Eng:={e with X:=e.X++[⟨e.N,0⟩],N:=e.N+1}
def V1(e:Eng):Eng×Int×Int:=if e.up=true then
  if e.N>60∨e.X.length=10 then(e,0,6)
  else if(e.s.L.length:Int)+c9 e+2<=60 then(x4 (vX e) e.X.length mG,e.N,0) else(e,0,7)
 else(e,0,15)
def b8N:Con:=.reff ⟨Eng×Nat,λx=>[.ref 0 0 0],λx=>x.1.bx x.2,λx=>.tup [Ji (V1 x.1).2.1,Ji (V1 x.1).2.2],λx=>(V1 x.1).1.nx x.2,λx=>R6 x.1=true/\oT x.1⟩
theorem M5{e:Eng}(h:R6 e=true):H7 e.s=true/\xJ e=true/\(if e.up then upE e else a3E e)=true:=by
 unfold R6 tV at h;simp only[M1] at h;exact⟨h.1,h.2.1,h.2.2⟩
theorem b32{e:Eng}(h:R6 e=true)(u:e.up=true):∀i,i<e.X.length->A7 e i=false:=by
 have d:=(M5 h).2.2;rw[if_pos u] at d;unfold upE at d;simp only[M1,xO] at d;exact R8.1 d.1.1.1
theorem c1P{e:Eng}(h:R6 e=true)(u:e.up=true):wG e:=b4K (rQ (M5 h).1) (M5 h).2.1 (b32 h u)
theorem b6m{e:Eng}(h:R6 e=true)(u:e.up=true){i:Nat}(hi:i<e.X.length):1<=(e.X.getD i dz).id/\(e.X.getD i dz).id<=e.N-1:=by
 have:=b32 h u i hi;unfold A7 at this;simp only[yY,yC,R9] at this;exact this.1.1
theorem b7J(L:List Txn)(t:Txn):Z7 (L.length+1) (X6 (W8 L) L.length λk=>List.take 2 (List.drop (k*2) t.ts)) (W8 (L++[t])):=by
 intro i hi;unfold X6 W8;by_cases h:i<L.length
 ·rw[tI h,Q2,Q2,tT h]
 ·have:i=L.length:=by omega
  subst this;rw[nW h];have:(L++[t]).getD L.length dz=t:=by rw[Q2,rL (U9 _)];simp
  rw[this];simp[Txn.ts]
theorem a7h{s:Sto}(h:H7 s=true):1<=s.ep/\s.ep<=60:=by
 obtain⟨⟨d,_⟩,_⟩:=(K3 s).1 h;obtain⟨_,_,a,b,_⟩:=(y6 s).1 d;exact⟨a,b⟩
theorem b9w{e:Eng}(h:R6 e=true)(u:e.up=true)(N:e.N<=60)(r:(e.s.L.length:Int)+c9 e+2<=60):AddB (vX e) e.N e.X.length mG:=by
 obtain⟨A,l,n,_⟩:=w7 (M5 h).2.1;have d:=a7h (M5 h).1;have hL:(vX e).X.length=e.X.length+1:=by unfold vX;simp
 have g:(vX e).X.getD e.X.length dz=⟨e.N,0⟩:=by
  show(e.X++[_]).getD _ _=_;rw[Q2,rL (U9 _)]
  simp
 refine⟨?_,Z9,by rw[g],?_,Z9,by show e.s.L.length<=_;omega,⟨N7 _,N7 _⟩⟩
 ·unfold T5;rw[hL];refine P5 (Nat.lt_succ_self _) ?_ λj hj=>?_
  ·unfold B9;rw[g];simp
  ·have:=b6m h u hj;have f:(vX e).X.getD j dz=e.X.getD j dz:=by
    show(e.X++[_]).getD _ _=_;rw[Q2,tT hj,←Q2]
   unfold B9;rw[f];exact beq_eq_false_iff_ne.2 Z9
 ·refine(R2 _).2 ?_
  unfold C8 T0 N5 mG;rw[g];show 1<=e.s.ep/\e.s.ep<=60/\_;dsimp only;have i:(vX e).s.L.length=e.s.L.length:=rfl;rw[i];refine⟨d.1,d.2,Z9,Z9,Z9,Z9,Z9,Z9,Z9,Z9,Z9,Z9,Z9,Z9,W6,λe=>Z9,λ_=>⟨Z9,Z9,W6,λ_ _=>Z8,λ_=>rfl,λe=>Z9,⟨λ_=>rfl,λ_=>rfl⟩⟩⟩
theorem c6n{e:Eng}(h:(!e.up)=true):V1 e=(e,0,15):=by unfold V1;rw[if_neg D3]
theorem c6X{e:Eng}(h:(!e.up)=false)(d:(decide (e.N>60)||(e.X.length:Int)==10)=true):V1 e=(e,0,6):=by
 simp only[qR,i5,beq_iff_eq] at d;unfold V1;rw[if_pos D3,if_pos Z9]
theorem c6E{e:Eng}(h:(!e.up)=false)(d:(decide (e.N>60)||(e.X.length:Int)==10)=false)(f:¬ (e.s.L.length:Int)+c9 e+2<=60):V1 e=(e,0,7):=by
 simp only[yY,pT,beq_eq_false_iff_ne,ne_eq] at d;unfold V1;rw[if_pos D3,if_neg Z9,if_neg f]
theorem c64{e:Eng}(h:(!e.up)=false)(d:(decide (e.N>60)||(e.X.length:Int)==10)=false)(f:(e.s.L.length:Int)+c9 e+2<=60):V1 e=(x4 (vX e) e.X.length mG,e.N,0):=by
 simp only[yY,pT,beq_eq_false_iff_ne,ne_eq] at d;unfold V1;rw[if_pos D3,if_neg Z9,if_pos f]
theorem b7o:GK 23 b8N:=gk func23<|by
 rintro⟨e,v⟩ ⟨h,B⟩;dsimp only at h B;refine w3 (gC qS (gC a5b gN)) func23 Y7 cJ (α:=let y:=(V1 e).2.2;let u:=(V1 e).2.1;br (!e.up) (((0=u/\15=y/\True)/\True)/\aH (v) (v) e (V1 e).1) (br (decide (e.N>60)||(e.X.length:Int)==10) (((0=u/\6=y/\True)/\True)/\aH (v) (v) e (V1 e).1) (∃(x:(Eng×Int)),((LeG e)/\((pY e x.1)/\2=x.2/\True)/\wG x.1/\u3 x.2)/\br (!decide ((x.1.s.L.length:Int)+(↑(c9 x.1):Int)+x.2<=60)) (((0=u/\7=y/\True)/\True)/\aH (v) (v) e (V1 e).1) ((Le 1 1/\Le e.X.length e.X.length/\U8 e.X.length 1 16)/\Ri (e.N+1)/\∃(x:(Eng×Int×Rec×Nat×Nat)),let z:=x.2.2.2;let r:=x.1.s;let q:=x.2.2.1;(((0=0/\0=0)/\e.N=x.2.1/\(0=q.e/\0=q.l/\0=q.t/\1=q.k/\0=q.p/\0=q.n/\0=q.g/\0=q.s/\[]=q.b/\[]=q.a/\True)/\True)/\((oo ((0=0/\e.s.d.E.length=r.d.E.length)/\(0=0/\e.s.d.C.length=r.d.C.length)/\e.s.d.A=r.d.A/\(0=0/\e.s.d.keep.length=r.d.keep.length)/\e.s.ep=r.ep/\(0=0/\e.s.L.length=r.L.length)/\e.s.S=r.S/\(0=0/\e.s.fr.length=r.fr.length)/\e.s.J=r.J/\e.up=x.1.up/\(0=0/\e.X.length+1=x.1.X.length)/\(0=0/\e.lk.H.length=x.1.lk.H.length)/\(0=0/\e.lk.W.length=x.1.lk.W.length)/\e.N+1=x.1.N/\True))/\(Z2 Z5 e.s.d.E r.d.E)/\(Z2 Y8 e.s.d.C r.d.C)/\(Z2 Y9 e.s.d.keep r.d.keep)/\(Z2 Y0 e.s.L r.L)/\(v=z.2/\e.s.fr.length=r.fr.length/\V3 e.s.fr.length (Z1 e.s.fr) (Z1 r.fr))/\(e.X.length+1=x.1.X.length/\Z7 (e.X.length+1) (X6 (W8 e.X) e.X.length (tk 2 [Ji e.N,Ji 0])) (W8 x.1.X))/\(Z2 Y6 e.lk.H x.1.lk.H)/\(Z2 Y4 e.lk.W x.1.lk.W)/\True)/\AddB x.1 x.2.1 z.1 q)/\((e.N=u/\0=y/\True)/\True)/\aH (z.2) (v) {x.1 with s:={x.1.s with L:=(r.L++[T0 x.1.s (N5 x.1 z.1 q)])},X:=(x.1.X.set z.1 (Txn.mk (x.1.X.getD z.1 dz).id ((r.L.length:Int)+1)))} (V1 e).1)))) ⟨λhu=>?_,λhu=>⟨λhn=>?_,λhn=>?_⟩⟩
 ·rw[c6n hu];exact Z8
 ·rw[c6X hu hn];exact Z8
 ·have hu':e.up=true:=by simpa using hu
  refine⟨(e,2),⟨Z8,Z8,c1P h hu',a8t⟩,λhr=>?_,λhr=>?_⟩
  ·rw[c6E hu hn (by simpa using hr)]
   exact Z8
  ·have hr':(e.s.L.length:Int)+c9 e+2<=60:=by simpa using hr
   obtain⟨A,i,j,_⟩:=w7 (M5 h).2.1;have f:=hn;simp only[yY,pT] at f;have L:e.X.length+1=(e.X++[(⟨e.N,0⟩:Txn)]).length:=X3
   rw[c64 hu hn hr'];exact⟨⟨U9 _,U9 _,Q5⟩,Z3 Z9,(vX e,e.N,mG,e.X.length,v),⟨Z8,⟨⟨rfl,rfl,Z8,Z8,rfl,Z8,rfl,Z8,rfl,Z8,rfl,rfl,⟨rfl,L⟩,Z8⟩,Z8,Z8,Z8,Z8,Z8,⟨L,b7J e.X ⟨e.N,0⟩⟩,Z8⟩,b9w h hu' Z9 hr'⟩,Z8⟩
theorem c1e{f g:Nat->List T}:X6 f 0 g=g:=funext λi=>by unfold X6;rw[show Nat.blt i 0=false from rfl];rfl
def c5Z:Con:=.rel ⟨Sto×Rec,λx=>[.agg x.1.ts,.agg x.2.ts],λx=>.tup [.agg (apx x.1 x.2).ts,Ji (x.1.L.length+1:Nat)],λx=>x.1.L.length<=1000⟩
theorem c2w:GK 223 c5Z:=gk func223<|by
 rintro⟨s,r⟩ (h:s.L.length<=1000);have l:(s.L++[T0 s r]).length=s.L.length+1:=X3
 refine S2 (gC M8 gN) func223 Y7 (α:=let u:=(0+s.L.length+1);let z:=(s.L.length:Int);let q:=(0+s.L.length);Ri (z+1)/\(Le 0 0/\U8 0 s.L.length 96)/\(Le q q/\U8 q 1 96)/\Le (0+u) u/\((Z2 Z5 s.d.E s.d.E)/\(Z2 Y8 s.d.C s.d.C)/\s.d.A=s.d.A/\(Z2 Y9 s.d.keep s.d.keep)/\s.ep=s.ep/\(0+s.L.length+1=(s.L++[T0 s r]).length/\Z7 u (X6 (X6 (tk 10 []) 0 (Y0 s.L)) q (tk 10 [Ji s.ep,Ji (z+1),Ji r.t,Ji r.k,Ji r.p,Ji r.n,Ji r.g,Ji r.s,T.str r.b,T.str r.a])) (Y0 (s.L++[T0 s r])))/\s.S=s.S/\(Z2 V4 s.fr s.fr)/\s.J=s.J/\True)/\z+1=(↑(s.L.length+1):Int)/\True) ⟨Z3 Z9,⟨U9 _,Q5⟩,⟨U9 _,Q5⟩,K2,⟨Q6,Q6,rfl,Q6,rfl,⟨Z9,?_⟩,rfl,Q6,Z8⟩,Z8⟩
 rw[E5,c1e];exact a1G s.L (T0 s r)
def c14:Con:=.rfz ⟨Eng×Nat×Rec,λx=>[.agg x.1.ts,Ji x.2.1,.agg x.2.2.ts],λx=>.tup [.agg (x4 x.1 x.2.1 x.2.2).ts,Ji (x.1.s.L.length+1:Nat)],λx=>x.2.1<x.1.X.length/\x.1.X.length<=1000/\x.1.s.L.length<=1000⟩
theorem b8I:GK 155 c14:=gk func155<|by
 rintro⟨e,k,r⟩ ⟨h,f,L⟩;dsimp only at h f L;refine S2 (gC c2w (gC M8 gN)) func155 Y7 (α:=let u:=(k:Int).toNat;let z:=(0+e.X.length);let q:=(e.X.set k (Txn.mk (e.X.getD k dz).id ((e.s.L.length:Int)+1)));V6 (k:Int) e.X.length/\V6 (k:Int) e.X.length/\∃(x:(Sto×Rec)),let v:=(↑(x.1.L.length+1):Int);(((zV e.s x.1)/\(r.e=x.2.e/\r.l=x.2.l/\(e.X.getD u dz).id=x.2.t/\r.k=x.2.k/\(e.X.getD u dz).Z=x.2.p/\r.n=x.2.n/\r.g=x.2.g/\r.s=x.2.s/\r.b=x.2.b/\r.a=x.2.a/\True)/\True)/\x.1.L.length<=1000)/\(Le 0 0/\U8 0 e.X.length 16)/\V6 (k:Int) z/\Lt (0+u) z/\Le (0+z) z/\((Z2 Z5 x.1.d.E e.s.d.E)/\(Z2 Y8 x.1.d.C e.s.d.C)/\x.1.d.A=e.s.d.A/\(Z2 Y9 x.1.d.keep e.s.d.keep)/\x.1.ep=e.s.ep/\(Z2 Y0 (x.1.L++[T0 x.1 x.2]) (e.s.L++[T0 e.s (N5 e k r)]))/\x.1.S=e.s.S/\(Z2 V4 x.1.fr e.s.fr)/\x.1.J=e.s.J/\e.up=e.up/\(0+e.X.length=q.length/\Z7 z (setRow (X6 (tk 2 []) 0 (W8 e.X)) (0+u) 1 [Ji v]) (W8 q))/\(Z2 Y6 e.lk.H e.lk.H)/\(Z2 Y4 e.lk.W e.lk.W)/\e.N=e.N/\True)/\v=(↑(e.s.L.length+1):Int)/\True) ⟨Y1 h,Y1 h,(e.s,N5 e k r),⟨⟨gL _,⟨rfl,rfl,by rw[E8];rfl,rfl,by rw[E8];rfl,rfl,rfl,rfl,rfl,rfl,Z6⟩,Z6⟩,X0⟩,⟨U9 _,Q5⟩,by rw[E5];exact Y1 h,I5,K2,⟨Z8,Z8,rfl,Z8,rfl,Z8,rfl,Z8,rfl,rfl,⟨by rw[zN];omega,λj _=>?_⟩,Z8⟩,Z8⟩
 rw[E8,E5,c1e];exact a8E h j
theorem c3r{e:Eng}(h:x8 e)(n:wG e):x8 (V1 e).1:=by
 have d:=n.1.1;have f:=n.2.1;unfold V1;split
 ·split
  ·exact h
  ·split
   ·refine⟨⟨h.1.1,?_,h.1.2.2⟩,?_,h.2.2⟩
    ·show(e.s.L++[_]).length<=_;simp;omega
    ·show((e.X++[_]).set _ _).length<=_;simp;omega
   ·exact h
 ·exact h
theorem c2M{e:Eng}(h:e.up=false):V1 e=(e,0,15):=c6n aL
theorem c4b{e:Eng}(h:x8 e)(o:R6 e=true):x8 (V1 e).1:=by
 cases u:e.up with
 |true=>exact c3r h (c1P o u)
 |false=>rw[c2M u];exact h
def dr(x:Bz):Nat->Bz
 |0=>x
 |i+1=>(dr x i).drop 1
def rM(x:Bz):Nat->Bool
 |0=>false
 |i+1=>rM x i||(dr x i).isEmpty
def rcE(x:Bz):Fst:=S4 (dr x 9) (rM x 9)
def rcX(x:Bz):Rec:=⟨numR (dr x 1),numR (dr x 2),numR (dr x 3),numR (dr x 4),numR (dr x 5),numR (dr x 6),numR (dr x 7),numR (dr x 8),(rcE x).out.getD 0 [],(rcE x).out.getD 1 []⟩
def bQ(x:Bz):Bool:= !(!(rcE x).fl&&(rcE x).l.isEmpty)||numR x !=108||(((rcE x).out.length:Nat):Int) !=2
def b04:Rec:=⟨0,0,0,0,0,0,0,0,[],[]⟩
def R5(b:Bz):Rec×Int:=if P4 b=true then
  if bQ (V7 b)=true then(b04,3) else if M6 (rcX (V7 b))=true then(rcX (V7 b),0) else(b04,3)
 else(b04,8)
def c3v:Con:=.reff ⟨Bz×Nat,λ_=>[.ref 0 0 0],λx=>[rdr (dr x.1 x.2) (rM x.1 x.2)],λx=>Ji (numR (dr x.1 x.2)),λx=>[rdr (dr x.1 (x.2+1)) (rM x.1 (x.2+1))],λ_=>True⟩
theorem b8F:GK 150 c3v:=gk func150<|λx _=>gE.1 _ _ _ _ none rfl trivial
def a14:Con:=.rel ⟨Bz,λb=>[.bys b],λb=>.tup [.agg (R5 b).1.ts,Ji (R5 b).2],RdB⟩
theorem c0d(l:Bz)(n:Int)(d:0<=n)(h:n<=255):(T2 l n).length<=255:=by
 unfold T2;split
 ·rw[List.length_replicate];omega
 ·rw[List.length_take];omega
theorem uL{α:Type}(d:α)(L:List α)(x:α)(i:Nat)(hi:i<L.length+1):(L++[x]).getD i d=if i=L.length then x else L.getD i d:=by
 by_cases h:i=L.length
 ·subst h;rw[if_pos rfl,Q2,rL (U9 _)]
  simp
 ·rw[if_neg h,Q2,tT Z9,←Q2]
theorem c1G(l:Bz)(fl:Bool):∀i j,((G4 l fl i).out.getD j []).length<=255
 |0,j=>N7 _
 |i+1,j=>by
  have h:=u9 (G4 l fl i).l;show(((G4 l fl i).out++[T2 ((G4 l fl i).l.drop 1) (numR (G4 l fl i).l)]).getD j []).length<=255;by_cases hj:j<(G4 l fl i).out.length+1
  ·rw[uL [] _ _ _ hj];split
   ·exact c0d _ _ h.1 Z9
   ·exact c1G l fl i j
  ·rw[Q2,List.getElem?_eq_none (by rw[J3];simp;omega)]
   exact N7 _
theorem c57{b:Bz}(h:P4 b=false):R5 b=(b04,8):=by unfold R5;rw[if_neg (by rw[h];simp)]
theorem c3l{b:Bz}(h:P4 b=true)(B:bQ (V7 b)=true):R5 b=(b04,3):=by unfold R5;rw[if_pos h,if_pos B]
theorem c2X{b:Bz}(h:P4 b=true)(B:bQ (V7 b)=false)(r:M6 (rcX (V7 b))=false):R5 b=(b04,3):=by unfold R5;rw[if_pos h,if_neg (by rw[B];simp),if_neg (by rw[r];simp)]
theorem c4F{b:Bz}(h:P4 b=true)(B:bQ (V7 b)=false)(r:M6 (rcX (V7 b))=true):R5 b=(rcX (V7 b),0):=by unfold R5;rw[if_pos h,if_neg (by rw[B];simp),if_pos r]
theorem dM:GK 188 a14:=gk func188<|by
 intro(b:Bz) (hb:b.length<=1000);refine S2 (gC tR (gC b8F (gC cE (gC sC (gC uT gN))))) func188 Y7 (α:=let v:=((0=0/\0=0)/\True);let z:=(0=(R5 b).1.e/\0=(R5 b).1.l/\0=(R5 b).1.t/\0=(R5 b).1.k/\0=(R5 b).1.p/\0=(R5 b).1.n/\0=(R5 b).1.g/\0=(R5 b).1.s/\[]=(R5 b).1.b/\[]=(R5 b).1.a/\True);let pf:=(z/\3=(R5 b).2/\True);bd ((b.length:Int)>65536) (z/\2=(R5 b).2/\True) (∃(x:uO.ι),((b=x/\True)/\m5 x)/\br (!P4 x) (z/\8=(R5 b).2/\True) (∃(r:(Bz×Nat)),(v/\((1=1/\Z7 1 (λ(d:Nat)=>[T.bys (V7 x),T.bool false]) λ(x:Nat)=>[T.bys (dr r.1 r.2),T.bool (rM r.1 r.2)])/\True)/\True)/\∃(x:(Bz×Nat)),let w:=(dr x.1 x.2);(v/\((1=1/\Z7 1 (λ(x:Nat)=>[T.bys (dr r.1 (r.2+1)),T.bool (rM r.1 (r.2+1))]) λ(d:Nat)=>[T.bys w,T.bool (rM x.1 x.2)])/\True)/\True)/\∃(d:(Bz×Nat)),let m:=(dr d.1 d.2);(v/\((1=1/\Z7 1 (λ(f:Nat)=>[T.bys (dr x.1 (x.2+1)),T.bool (rM x.1 (x.2+1))]) λ(x:Nat)=>[T.bys m,T.bool (rM d.1 d.2)])/\True)/\True)/\∃(f:(Bz×Nat)),let c:=(dr f.1 f.2);(v/\((1=1/\Z7 1 (λ(x:Nat)=>[T.bys (dr d.1 (d.2+1)),T.bool (rM d.1 (d.2+1))]) λ(x:Nat)=>[T.bys c,T.bool (rM f.1 f.2)])/\True)/\True)/\∃(q:(Bz×Nat)),let pa:=(dr q.1 q.2);(v/\((1=1/\Z7 1 (λ(x:Nat)=>[T.bys (dr f.1 (f.2+1)),T.bool (rM f.1 (f.2+1))]) λ(x:Nat)=>[T.bys pa,T.bool (rM q.1 q.2)])/\True)/\True)/\∃(o:(Bz×Nat)),let pb:=(dr o.1 o.2);(v/\((1=1/\Z7 1 (λ(x:Nat)=>[T.bys (dr q.1 (q.2+1)),T.bool (rM q.1 (q.2+1))]) λ(x:Nat)=>[T.bys pb,T.bool (rM o.1 o.2)])/\True)/\True)/\∃(i:(Bz×Nat)),let pc:=(dr i.1 i.2);(v/\((1=1/\Z7 1 (λ(x:Nat)=>[T.bys (dr o.1 (o.2+1)),T.bool (rM o.1 (o.2+1))]) λ(x:Nat)=>[T.bys pc,T.bool (rM i.1 i.2)])/\True)/\True)/\∃(j:(Bz×Nat)),let pd:=(dr j.1 j.2);(v/\((1=1/\Z7 1 (λ(x:Nat)=>[T.bys (dr i.1 (i.2+1)),T.bool (rM i.1 (i.2+1))]) λ(x:Nat)=>[T.bys pd,T.bool (rM j.1 j.2)])/\True)/\True)/\∃(X:(Bz×Nat)),let pe:=(dr X.1 X.2);let u:=(S4 (dr X.1 (X.2+1)) (rM X.1 (X.2+1)));let y:=u.out;(v/\((1=1/\Z7 1 (λ(x:Nat)=>[T.bys (dr j.1 (j.2+1)),T.bool (rM j.1 (j.2+1))]) λ(x:Nat)=>[T.bys pe,T.bool (rM X.1 X.2)])/\True)/\True)/\br (!(! u.fl&&u.l.isEmpty)||numR (dr r.1 r.2) !=108||(↑y.length:Int) !=2) pf (V6 (0:Int) y.length/\V6 (1:Int) y.length/\b1Z (y.getD 1 [])/\br (!M6 (Rec.mk (numR w) (numR m) (numR c) (numR pa) (numR pb) (numR pc) (numR pd) (numR pe) (y.getD 0 []) (y.getD 1 []))) pf ((numR w=(R5 b).1.e/\numR m=(R5 b).1.l/\numR c=(R5 b).1.t/\numR pa=(R5 b).1.k/\numR pb=(R5 b).1.p/\numR pc=(R5 b).1.n/\numR pd=(R5 b).1.g/\numR pe=(R5 b).1.s/\y.getD 0 []=(R5 b).1.b/\y.getD 1 []=(R5 b).1.a/\True)/\0=(R5 b).2/\True))))) ⟨λh=>by have:=D4 h;omega,λ_=>⟨b,⟨Z8,a8o⟩,λh=>?_,λh=>⟨(V7 b,0),⟨Q6,Z8⟩,(V7 b,1),⟨Q6,Z8⟩,(V7 b,2),⟨Q6,Z8⟩,(V7 b,3),⟨Q6,Z8⟩,(V7 b,4),⟨Q6,Z8⟩,(V7 b,5),⟨Q6,Z8⟩,(V7 b,6),⟨Q6,Z8⟩,(V7 b,7),⟨Q6,Z8⟩,(V7 b,8),⟨Q6,Z8⟩,λhc=>?_,λhc=>?_⟩⟩⟩
 ·rw[c57 D3]
  exact Q6
 ·rw[c3l D3 hc]
  exact Q6
 ·have hu:P4 b=true:=by simpa using h
  have hc:bQ (V7 b)=false:=hc;have u:(rcE (V7 b)).out.length=2:=by
   unfold bQ at hc;simp only[yY,bne_eq_false_iff_eq] at hc;omega
  refine⟨⟨Z9,by show(0:Int)<((rcE (V7 b)).out.length:Int);omega⟩,⟨Z9,by show(1:Int)<((rcE (V7 b)).out.length:Int);omega⟩,by have:=c1G (dr (V7 b) 9) (rM (V7 b) 9) (numR (dr (V7 b) 9)).toNat 1;unfold b1Z;show((G4 (dr (V7 b) 9) (rM (V7 b) 9) (numR (dr (V7 b) 9)).toNat).out.getD 1 []).length<_;omega,λR=>?_,λR=>?_⟩
  ·have R:(!M6 (rcX (V7 b)))=true:=by
    unfold rcX rcE;dsimp only[Nat.reduceAdd] at R ⊢;exact R
   have R:M6 (rcX (V7 b))=false:=by rw[xO] at R;exact R
   rw[c2X hu hc R];exact Q6
  ·have R:(!M6 (rcX (V7 b)))=false:=by
    unfold rcX rcE;dsimp only[Nat.reduceAdd] at R ⊢;exact R
   have R:M6 (rcX (V7 b))=true:=by rw[yC] at R;exact R
   rw[c4F hu hc R];unfold rcX rcE;dsimp only[Nat.reduceAdd];exact Z8
def lgR(d:Dsk)(i:Nat):Rec×Int:=R5 (T7 d (9+i))
def lgE(d:Dsk)(i:Nat):Int:=if i=0 then 1 else(lgR d (i-1)).1.e
def lgB(d:Dsk)(ep:Int)(i:Nat):Bool:=((lgR d i).2 !=0||(lgR d i).1.l !=(i:Int)+1|| !V9 (lgR d i).1.e (lgE d i) ep)
def jS(d:Dsk)(m:Nat):List Rec:=(List.range m).map λi=>(lgR d i).1
def cU(d:Dsk)(ep:Int):Nat:=if S9 (d.E.length-9) (lgB d ep)= -1 then d.E.length-9 else(S9 (d.E.length-9) (lgB d ep)).toNat
def LgS(x:Dsk×Int):Prop:=k6 x.1
def b0Q(d:Dsk)(ep:Int):Nat->Ann
 |0=>.one (V0 (d.E.length-9) (lgB d ep)) (λx=>⟨[(1,Ji ep),(2,.ref 0 0 0),(5,.osl 1 0 x.1),(6,Ji (lgE d x.1)),(7,Ji (9+x.1:Nat))],[lZ d,zG (jS d x.1)]⟩) (λx=>d.E.length-x.1) b7u [.box 0,.arr 3] (λ_=>Y7)
 |_=>.none
def b1z:Con:=.rmk ⟨Dsk×Int,λx=>[.agg x.1.ts,Ji x.2],λ_=>[],λx=>.osl 0 0 (cU x.1 x.2),λx=>[zG (jS x.1 (cU x.1 x.2))],LgS⟩
theorem nH(d:Dsk)(m:Nat):(jS d m).length=m:=by unfold jS;simp
theorem b46(d:Dsk)(m:Nat):jS d (m+1)=jS d m++[(lgR d m).1]:=by
 unfold jS;rw[List.range_succ,List.map_append];rfl
theorem c3q{d:Dsk}{ep:Int}{m:Nat}(M:m<d.E.length-9)(h:lgB d ep m=true)(hp:∀i,i<m->lgB d ep i=false):cU d ep=m:=by
 unfold cU;rw[P5 M h hp,if_neg Z9,E8]
theorem c0N{d:Dsk}{ep:Int}{m:Nat}(h:m=d.E.length-9)(hp:∀i,i<m->lgB d ep i=false):cU d ep=m:=by
 unfold cU;rw[M2 (λi hi=>hp i Z9),if_pos rfl,h]
theorem a8g:GK 116 b1z:=gk func116<|by
 rintro⟨d,ep⟩ (hd:k6 d);have h:=hd;obtain⟨Q,o,j,q,_⟩:=h;refine⟨w3 (gC M8 (gC fE (gC dM (gC P3 gN)))) func116 (b0Q d ep) [[.arr 1]] (α:=(∃(x:V0 (d.E.length-9) (lgB d ep)),(ep=ep/\(0=0/\0=0)/\(0=0/\0=x.1)/\1=lgE d x.1/\9=(↑(9+x.1):Int)/\True)/\(oo (yA d d))/\(0=(jS d x.1).length/\Z7 0 (tk 10 []) (Y0 (jS d x.1)))/\True)/\∀(x:V0 (d.E.length-9) (lgB d ep)),let z:=x.1;let r:=(↑(9+z):Int);let q:=(((0=0/\z=cU d ep)/\True)/\(Z2 Y0 (jS d z) (jS d (cU d ep)))/\True);bd (r<(d.E.length:Int)) (∃(f:mD.ι),(((yA d f.1)/\r=(f.2:Int)/\True)/\AtB f)/\Lt (T7 f.1 f.2).length 140737488355329/\∃(X:(Bz)),let u:=(R5 X).1.e;((T7 f.1 f.2=X/\True)/\RdB X)/\(((R5 X).2 !=0)=false->Ri ((z:Int)+1))/\br ((R5 X).2 !=0||(R5 X).1.l !=(z:Int)+1|| !V9 u (lgE d z) ep) q ((Le x.1 (jS d z).length/\U8 x.1 1 96)/\Ri (r+1)/\∃(y:V0 (d.E.length-9) (lgB d ep)),let v:=y.1;((ep=ep/\(0=0/\0=0)/\(0=0/\z+1=v)/\u=lgE d v/\r+1=(↑(9+v):Int)/\True)/\(oo (yA d d))/\(z+1=(jS d v).length/\Z7 (z+1) (X6 (Y0 (jS d z)) x.1 (tk 10 [Ji u,Ji (R5 X).1.l,Ji (R5 X).1.t,Ji (R5 X).1.k,Ji (R5 X).1.p,Ji (R5 X).1.n,Ji (R5 X).1.g,Ji (R5 X).1.s,T.str (R5 X).1.b,T.str (R5 X).1.a])) (Y0 (jS d v)))/\True)/\Lt (d.E.length-v) (d.E.length-z))) q) ⟨⟨H5,Z8,Z8,⟨(nH d 0).symm,K0⟩,Z6⟩,λx=>⟨λhc=>?_,λhc=>?_⟩⟩,rfl,lY _⟩
 ·have hc:9+x.1<d.E.length:=by have:=D4 hc;omega
  have i:=jR hd hc;have hx:=nH d x.1;refine⟨(d,9+x.1),⟨Z8,hc,X0⟩,K1,T7 d (9+x.1),⟨Z8,by show(T7 d (9+x.1)).length<=1000;omega⟩,λ_=>Z3 Z9,λhb=>?_,λhb=>?_⟩
  ·have hb:lgB d ep x.1=true:=hb;rw[c3q Z9 hb x.2.2]
   exact Z8
  ·have hb:lgB d ep x.1=false:=hb;refine⟨⟨by rw[hx];exact U9 _,Q5⟩,Z3 Z9,x.succ Z9 hb,⟨⟨rfl,Z8,Z8,?_,by dsimp only[V0.succ];omega,Z6⟩,⟨rfl,rfl,eqD _⟩,⟨(nH d (x.1+1)).symm,?_⟩,Z6⟩,by unfold Lt;dsimp only[V0.succ];omega⟩
   ·dsimp only[V0.succ];unfold lgE;rw[if_neg Z9]
    rfl
   ·show Z7 _ _ (Y0 (jS d (x.1+1)));rw[b46];have:=a1G (jS d x.1) (lgR d x.1).1;rw[hx] at this;exact this
 ·have hx:x.1=d.E.length-9:=by have:=x.2.1;have:=q8 hc;omega
  rw[c0N hx x.2.2];exact Z8
def b1x(e:Eng):Eng:=⟨⟨e.s.d,e.s.ep,jS e.s.d (cU e.s.d e.s.ep),(cU e.s.d e.s.ep:Nat),[],0⟩,false,[],⟨[],[]⟩,e.N⟩
def c2k:Con:=.reff ⟨Eng×Nat,λx=>[.ref 0 0 0],λx=>x.1.bx x.2,λ_=>.int .i64 15,λx=>(b1x x.1).nx 0,λx=>k6 x.1.s.d⟩
theorem b8M:GK 58 c2k:=gk func58<|by
 rintro⟨e,v⟩ (hd:k6 e.s.d);have h:=(nH e.s.d (cU e.s.d e.s.ep)).symm;exact w3 (gC a8g gN) func58 Y7 [[.nilC 0 7 0 5,.fac 0 7,.nilC 0 10 0 2,.nilC 0 11 0 4,.nilC 0 12 0 2,.box 0,.arr 1,.arr 2,.arr 3,.arr 4,.arr 5,.arr 6,.arr 7,.arr 8,.cel 0 0,.cel 0 1,.cel 0 3,.cel 0 5,.cel 0 7,.cel 0 10,.cel 0 11,.cel 0 12]] (α:=let r:=(0=0/\0=0);let q:=(cU e.s.d e.s.ep);∃(x:(Dsk×Int)),let p:=(λ(x:Nat)=>[]);((Le (0+e.s.d.E.length) e.s.d.E.length/\Le (0+e.s.d.C.length) e.s.d.C.length/\Le (0+e.s.d.keep.length) e.s.d.keep.length)/\((yA e.s.d x.1)/\e.s.ep=x.2/\True)/\LgS x)/\((15:Int)=15/\True)/\(oo ((0=0/\e.s.d.E.length=e.s.d.E.length)/\(0=0/\e.s.d.C.length=e.s.d.C.length)/\e.s.d.A=e.s.d.A/\(0=0/\e.s.d.keep.length=e.s.d.keep.length)/\e.s.ep=e.s.ep/\(0=0/\cU x.1 x.2=(jS e.s.d q).length)/\(↑(cU x.1 x.2):Int)=(↑q:Int)/\r/\(0:Int)=0/\false=false/\r/\r/\r/\e.N=e.N/\True))/\T8 ((Z2 Z5 e.s.d.E e.s.d.E)/\(Z2 Y8 e.s.d.C e.s.d.C)/\(Z2 Y9 e.s.d.keep e.s.d.keep)/\(Z2 Y0 (jS x.1 (cU x.1 x.2)) (jS e.s.d q))/\(0=0/\0=0/\V3 0 p (Z1 []))/\(0=0/\Z7 0 p (W8 []))/\(0=0/\Z7 0 p (Y6 []))/\(0=0/\Z7 0 p (Y4 []))/\True)) ⟨(e.s.d,e.s.ep),⟨Z8,Z8,hd⟩,Z8,⟨rfl,rfl,Z8,Z8,rfl,Z8,rfl,⟨rfl,h⟩,Z8⟩,Z6,Z6,Z6,Z6,Z6,Z6,Z6,Z6,Z8,Z8,Z8,Z8,⟨rfl,rfl,λi hi=>absurd hi (J9 _)⟩,⟨rfl,K0⟩,⟨rfl,K0⟩,⟨rfl,K0⟩,Z6⟩
theorem b4B(sec:List (Bz))(C:List Pend)(Q:Nat->Bool)(h:∀i,i<sec.length->(sec.getD i []).length<=160)(e:∀i,i<C.length->(C.getD i dz).d.length<=160):∀n,n<=C.length->∀i,i<sec.length->((h9 sec C Q n).getD i []).length<=160
 |0,_,i,hi=>h i hi
 |n+1,hn,i,hi=>by
  unfold h9;have I:=b4B sec C Q h e n Z9 i hi
  split
  ·by_cases hj:i=(C.getD n dz).at_.toNat
   ·subst hj;rw[Q2,j_j (by rw[C5];exact hi)]
    exact e n Z9
   ·rw[Q2,j_l (Ne.symm hj),←Q2]
    exact I
  ·exact I
theorem fY{m:Nat}{p:Pend}(h:O8 m p=false):0<=p.at_/\p.at_<m/\p.d.length<=160:=by
 unfold O8 at h;simp only[yY,yC,R9,pT] at h;omega
theorem c3V{d:Dsk}(h:k6 d):bW d:=λi hi=>by
 have:=fY (h.2.2.2.2.2.2 i hi);exact⟨this.1,this.2.1⟩
theorem b8Z{e:Eng}(h:R6 e=true):k6 e.s.d/\e.s.d.E.length=69:=by
 have:=(y6 e.s).1 ((K3 e.s).1 (M5 h).1).1.1;exact⟨this.1,this.2.1⟩
theorem nN{n:Nat}{p:Nat->Bool}(h:¬S9 n p<0):∃i,i<n/\p i=true/\(∀j,j<i->p j=false)/\S9 n p=(i:Int):=by
 cases A:anyI n p with
 |false=>exact absurd (by rw[M2 (R8.1 A)];omega) h
 |true=>
  obtain⟨i,hi,hp⟩:=S8.1 A;have key:∀m,m<=n->(∀j,j<m->p j=false)∨∃i,i<n/\p i=true/\(∀j,j<i->p j=false):=by
   intro m;induction m with
   |zero=>intro _;exact .inl λj J=>absurd J (J9 j)
   |succ m I=>
    intro d;rcases I Z9 with h0|h0
    ·cases hq:p m with
     |true=>exact .inr ⟨m,d,hq,h0⟩
     |false=>
      refine .inl λj J=>?_
      by_cases M:j=m
      ·rw[M];exact hq
      ·exact h0 j Z9
    ·exact .inr h0
  rcases key n (U9 n) with h0|⟨k,hk,hpk,hn⟩
  ·rw[h0 i hi] at hp;cases hp
  ·exact⟨k,hk,hpk,hn,P5 hk hpk hn⟩
theorem c3s(d:Dsk)(ep:Int):cU d ep<=d.E.length-9:=by
 unfold cU;split
 ·exact U9 _
 ·rename_i h;by_cases hn:S9 (d.E.length-9) (lgB d ep)<0
  ·omega
  ·obtain⟨i,hi,_,_,e⟩:=nN hn;omega
def X8{α:Type}[Inhabited α](f:α->Bool)(L:List α):Nat->List α
 |0=>[]
 |i+1=>if f (L.getD i dz)=true then X8 f L i++[L.getD i dz] else X8 f L i
def hF(tx:Int)(x:Lck):Bool:=x.tx !=tx
def wF(tx:Int)(w:Wt):Bool:=w.tx !=tx&&w.fo !=tx
def frK(l:Lks)(tx:Int):Lks:=⟨X8 (hF tx) l.H l.H.length,X8 (wF tx) l.W l.W.length⟩
def lkB(l:Lks):Option Ob:=some (.arr true 1000000 2 1 λ_=>l.ts)
def lkO(a n b m:Nat):Option Ob:=some (.arr false 1000000 2 1 λ_=>[.osl a 0 n,.osl b 0 m])
theorem yP{α:Type}[Inhabited α](f:α->List T)(n:Nat)(F:∀a,(f a).length=n)(L:List α)(x:α):Z7 (L.length+1) (X6 (λi=>f (L.getD i dz)) L.length λk=>List.take n (List.drop (k*n) (f x))) (λi=>f ((L++[x]).getD i dz)):=by
 intro i hi;unfold X6;by_cases h:i<L.length
 ·rw[tI h];dsimp only;rw[Q2,Q2,tT h]
 ·have:i=L.length:=by omega
  subst this;rw[nW h];dsimp only;have:(L++[x]).getD L.length dz=x:=by rw[Q2,rL (U9 _)];simp
  rw[this,j_h,Nat.zero_mul,List.drop_zero,List.take_of_length_le (by rw[F];exact U9 _)]
theorem a8B{α:Type}[Inhabited α]{f:α->Bool}{L:List α}{i:Nat}(h:f (L.getD i dz)=true):X8 f L (i+1)=X8 f L i++[L.getD i dz]:=by
 conv=>lhs;unfold X8
 rw[if_pos h]
theorem lI{α:Type}[Inhabited α]{f:α->Bool}{L:List α}{i:Nat}(h:f (L.getD i dz)=false):X8 f L (i+1)=X8 f L i:=by
 conv=>lhs;unfold X8
 rw[if_neg (by rw[h];simp)]
theorem zW{α:Type}[Inhabited α](f:α->Bool)(L:List α):∀i,(X8 f L i).length<=i
 |0=>U9 _
 |i+1=>by
  have:=zW f L i;unfold X8;split
  ·rw[J3,List.length_singleton];omega
  ·omega
theorem kF{α:Type}[Inhabited α]{f:α->Bool}{L:List α}{i:Nat}(h:f (L.getD i dz)=true):(X8 f L i).length+1=(X8 f L (i+1)).length:=by
 rw[a8B h,J3,List.length_singleton]
def a2M(e:Eng)(k:Nat):Eng:={e with X:=e.X.take k++e.X.drop (k+1),lk:=frK e.lk (e.X.getD k dz).id}
def a1D:Rec:=⟨0,0,0,4,0,0,0,0,[],[]⟩
def P7(e:Eng)(tx:Int):Int×Int:=if e.up=true then(if T5 e.X tx<0 then(0,19) else(T5 e.X tx,0)) else(0,15)
def a6I:Con:=.rel ⟨Eng×Int,λx=>[.agg x.1.ts,Ji x.2],λx=>.tup [Ji (P7 x.1 x.2).1,Ji (P7 x.1 x.2).2],λx=>N6 x.1.X.length⟩
theorem c5s{e:Eng}{tx:Int}(h:(!e.up)=true):P7 e tx=(0,15):=by unfold P7;rw[if_neg D3]
theorem c5L{e:Eng}{tx:Int}(h:(!e.up)=false)(d:decide (T5 e.X tx<0)=true):P7 e tx=(0,19):=by unfold P7;rw[if_pos D3,if_pos (D4 d)]
theorem c5m{e:Eng}{tx:Int}(h:(!e.up)=false)(d:decide (T5 e.X tx<0)=false):P7 e tx=(T5 e.X tx,0):=by unfold P7;rw[if_pos D3,if_neg (q8 d)]
theorem a2Z:GK 76 a6I:=gk func76<|by
 rintro⟨e,tx⟩ (hL:N6 e.X.length);refine S2 (gC a4G gN) func76 Y7 (α:=let p:=(P7 e tx);br (!e.up) (0=p.1/\15=p.2/\True) (∃(x:(Eng×Int)),(((L0 e x.1)/\tx=x.2/\True)/\N6 x.1.X.length)/\bd (T5 x.1.X x.2<0) (0=p.1/\19=p.2/\True) (T5 x.1.X x.2=p.1/\0=p.2/\True))) ⟨λh=>?_,λh=>⟨(e,tx),⟨Z8,hL⟩,λq=>?_,λq=>?_⟩⟩
 ·rw[c5s h];exact Z8
 ·rw[c5L h q];exact Z8
 ·rw[c5m h q];exact Z8
def oX(e:Eng)(k:Nat):Eng:=x4 e k a1D
def uY(e:Eng)(k:Nat):Sto×Bool:=W5 (oX e k).s (e.s.L.length+1:Nat)
def qN(e:Eng)(k:Nat):Eng:={oX e k with s:=(uY e k).1}
def U3(e:Eng)(tx:Int):Eng×Int:=if(P7 e tx).2=0 then(if(uY e (P7 e tx).1.toNat).2=true then(a2M (qN e (P7 e tx).1.toNat) (P7 e tx).1.toNat,0) else(b1x (qN e (P7 e tx).1.toNat),15)) else(e,(P7 e tx).2)
def c6z(e:Eng)(tx:Int):Prop:=N6 e.X.length/\((P7 e tx).2=0->(P7 e tx).1.toNat<e.X.length/\e.X.length<=1000/\e.s.L.length<=1000/\uW (oX e (P7 e tx).1.toNat).s (e.s.L.length+1:Nat)/\k6 (uY e (P7 e tx).1.toNat).1.d/\(uY e (P7 e tx).1.toNat).1.d.E.length=69/\e.lk.H.length<=1000000/\e.lk.W.length<=1000000)
theorem b83{r:Rec}(h:M6 r=true):r.b.length<=30/\r.a.length<=38:=by
 have h:=(R2 r).1 h;unfold C8 at h;obtain⟨_,_,_,_,_,_,_,_,_,_,_,_,_,_,B,f,e⟩:=h;refine⟨Z9,?_⟩
 by_cases d:r.k=6
 ·exact a0S (f d).2.2.2.2.2.2
 ·have:=(e d).2.2.1;omega
theorem c4D{r:Rec}(h:M6 r=true):(Q3 r).length<=160:=by
 obtain⟨d,e⟩:=b83 h;have f:(D5 (m7 (a4S r))).length=4:=rfl;have l:(Q3 r).length=16+(r.b.length+r.a.length):=by
  unfold Q3 a4S;rw[J3];simp only[S3,W4,J3,List.length_cons,List.length_nil];show _+4=_;simp;omega
 omega
def c0t(d:Dsk):Prop:=d.E.length=69/\d.keep.length<=500/\(d.A=false->d.keep.length=0)/\(∀i,i<d.E.length->(d.E.getD i []).length<=160)/\∀i,i<d.C.length->(d.C.getD i dz).d.length<=160
theorem c0c{d:Dsk}(h:c0t d):k6 (U7 d).1/\(U7 d).1.E.length=69:=by
 obtain⟨l,g,j,e,f⟩:=h;unfold U7;split
 ·have hl:(crD d d.keep).E.length=d.E.length:=C5 _ _ _ _;refine⟨⟨X0,X0,N7 _,N7 _,λ_=>rfl,λi hi=>?_,λi hi=>absurd hi (J9 _)⟩,X0⟩
  dsimp only at hi;rw[hl] at hi;exact b4B d.E d.C (kp d.keep) e f _ (U9 _) i hi
 ·have hl:(h9 d.E d.C (λ_=>true) d.C.length).length=d.E.length:=C5 _ _ _ _
  refine⟨⟨X0,X0,N7 _,g,j,λi hi=>?_,λi hi=>absurd hi (J9 _)⟩,X0⟩
  dsimp only at hi;rw[hl] at hi;exact b4B d.E d.C (λ_=>true) e f _ (U9 _) i hi
theorem c4S{s:Sto}{l:Int}(hd:k6 s.d)(B:uW s l)(r:o8 s.L):c0t (rK s (M7 s l)):=by
 have h:=B.2.2.2.1;refine⟨h,hd.2.2.2.1,hd.2.2.2.2.1,hd.2.2.2.2.2.1,λi hi=>?_⟩
 have hi:i<(s.d.C++List.map (rE s) (List.range (M7 s l))).length:=hi;show((s.d.C++List.map (rE s) (List.range (M7 s l))).getD i dz).d.length<=160;rw[Q2]
 by_cases hc:i<s.d.C.length
 ·rw[tT hc,←Q2]
  exact(fY (hd.2.2.2.2.2.2 i hc)).2.2
 ·rw[rL Z9,←Q2]
  simp only[J3,List.length_map,j_g] at hi;rw[c1b _ Z9]
  have n:=mT (i:=i-s.d.C.length) B Z9
  obtain⟨_,_,_,_,e,_,_,f,_⟩:=B;exact c4D ((R2 _).2 (r.2 _ Z9).1)
theorem b92{s:Sto}{l:Int}(hd:k6 s.d)(h:uW s l)(r:o8 s.L):k6 (W5 s l).1.d/\(W5 s l).1.d.E.length=69:=by
 by_cases L:l<=s.S
 ·rw[r8 L];exact⟨hd,h.2.2.2.1⟩
 ·rw[m4 L];exact c0c (c4S hd h r)
theorem b6y(s:Sto)(l:Int):(W5 s l).1.L=s.L/\(W5 s l).1.fr=s.fr:=by
 by_cases h:l<=s.S
 ·rw[r8 h];exact Z8
 ·rw[m4 h];exact Z8
theorem a8w{e:Eng}(h:R6 e=true)(u:e.up=true):e.s.L.length+c9 e<=60:=by
 have d:=(M5 h).2.2;rw[if_pos u] at d;unfold upE at d;simp only[M1,i5] at d;exact d.2
theorem c2z{e:Eng}{k:Nat}(h:k<e.X.length):1<=c9 e:=by
 unfold c9;cases d:e.X.length with
 |zero=>omega
 |succ n=>unfold v8;omega
theorem a8m{e:Eng}(h:R6 e=true)(u:e.up=true){i:Nat}(hi:i<e.X.length):1<=(e.X.getD i dz).Z/\(e.X.getD i dz).Z<=e.s.L.length:=by
 have:=b32 h u i hi;unfold A7 oV at this;simp only[yY,yC,M1,R9] at this;exact this.2.1
theorem iA{l:Lks}(h:H3 l=true):l.H.length<=60/\l.W.length<=100:=by
 unfold H3 at h;simp only[M1,i5] at h;exact h.2.1
theorem wU{e:Eng}{tx:Int}(h:(P7 e tx).2=0):e.up=true/\∃k:Nat,(P7 e tx).1=(k:Int)/\k<e.X.length/\(e.X.getD k dz).id=tx/\T5 e.X tx=k:=by
 revert h;unfold P7;split
 ·rename_i hu;split
  ·intro h;cases h
  ·rename_i d;intro _;have d:¬S9 e.X.length (B9 e.X tx)<0:=d;obtain⟨i,hi,hp,_,f⟩:=nN d;exact⟨hu,i,f,hi,by unfold B9 at hp;simpa using hp,f⟩
 ·intro h;cases h
def c2R(e:Eng)(k:Nat)(r:Rec):Prop:=r.k≠6/\r.k≠1/\1<=r.k/\r.k<=6/\(r.k≠3->r.n=0)/\(r.k≠2->r.k≠3->r.g=0/\r.s=0/\r.b=[]/\r.a=[])/\0<=r.n/\r.n<=(e.s.L.length:Int)/\0<=r.g/\r.g<=7/\0<=r.s/\r.s<=3/\r.b.length<=30/\r.a.length<=30/\(r.k=3->r.b=[])/\k<e.X.length
theorem c03{e:Eng}{tx:Int}{k:Nat}{r:Rec}(h:R6 e=true)(u:e.up=true)(A:T5 e.X tx=k)(f:k<e.X.length)(hi:(e.X.getD k dz).id=tx)(l:c2R e k r):AddB e tx k r/\(M6 (T0 e.s (N5 e k r))=true/\e.s.L.length+1<=60):=by
 obtain⟨O,Q,V,_⟩:=w7 (M5 h).2.1;have g:=a7h (M5 h).1;have L:=a8m h u f;have z:=b6m h u f;have o:=a8w h u;have N:=c2z f;obtain⟨j,q,F,J,B,n,M,U,I,x,C,v,i,t,R,_⟩:=l;have d:M6 (T0 e.s (N5 e k r))=true:=by
  refine(R2 _).2 ?_
  unfold C8 T0 N5;dsimp only;refine⟨g.1,g.2,Z9,Z9,Z9,Z9,Z9,Z9,Z9,Z9,Z9,Z9,Z9,Z9,Z9,λe=>absurd e j,λ_=>⟨Z9,Z9,Z9,n,B,R,⟨λe=>absurd e q,λe=>Z9⟩⟩⟩
 exact⟨⟨A,f,hi,d,Z9,Z9,⟨Z9,Z9⟩⟩,d,Z9⟩
theorem b5q{s:Sto}{r:Rec}(L:o8 s.L)(h:M6 (T0 s r)=true)(l:s.L.length+1<=60):o8 (apx s r).L:=by
 have e:(apx s r).L=s.L++[T0 s r]:=rfl;rw[e];refine⟨I0,λi hi=>?_⟩
 rw[J3,List.length_singleton] at hi;by_cases C:i<s.L.length
 ·have:(s.L++[T0 s r]).getD i dz=s.L.getD i dz:=by
   rw[Q2,tT C,←Q2]
  rw[this];exact L.2 i C
 ·have:i=s.L.length:=by omega
  subst this;have:(s.L++[T0 s r]).getD s.L.length dz=T0 s r:=a37 s r;rw[this];exact⟨(R2 _).1 h,rfl⟩
theorem c2Q{s:Sto}{l:Int}(hd:k6 s.d)(h:s.d.E.length=69)(r:o8 s.L)(f:0<=s.S)(e:s.S<=s.L.length)(L:l<=s.L.length):uW s l:=by
 have hp:=c3V hd;obtain⟨d1,d2,j,g,_⟩:=hd;refine⟨⟨Z9,Z9,Z9⟩,Z9,hp,h,f,e,r.1,L,λi hi=>?_⟩
 obtain⟨a,b⟩:=r.2 i hi;exact⟨b,a72 ((R2 _).2 a)⟩
theorem b6q{e:Eng}{k:Nat}(h:k<e.X.length):c2R e k a1D:=by
 unfold c2R a1D;dsimp only;exact⟨Z9,Z9,Z9,Z9,λ_=>rfl,λ_ _=>Z8,Z9,Z9,Z9,Z9,Z9,Z9,W6,W6,λ_=>rfl,h⟩
theorem a0E{e:Eng}{tx:Int}{k:Nat}(o:R6 e=true)(u:e.up=true)(A:T5 e.X tx=k)(i:k<e.X.length)(hi:(e.X.getD k dz).id=tx):o8 (oX e k).s.L/\uW (oX e k).s (e.s.L.length+1:Nat)/\k6 (uY e k).1.d/\(uY e k).1.d.E.length=69:=by
 obtain⟨_,f,l⟩:=c03 o u A i hi (b6q i);obtain⟨hd,g⟩:=b8Z o;have h:=b5q (rQ (M5 o).1) f l;have h:o8 (oX e k).s.L:=h;have n:(oX e k).s.L.length=e.s.L.length+1:=by show(e.s.L++[_]).length=_;simp
 have j:=rB ((K3 e.s).1 (M5 o).1).1.2.2;have F:uW (oX e k).s (e.s.L.length+1:Nat):=c2Q hd g h j.1 (by have:(oX e k).s.S=e.s.S:=rfl;omega) Z9
 exact⟨h,F,b92 hd F h⟩
theorem c5X{e:Eng}(tx:Int)(h:R6 e=true):c6z e tx:=by
 obtain⟨l,n,o,A⟩:=w7 (M5 h).2.1;obtain⟨L,l2⟩:=iA A;refine⟨oS,λg=>?_⟩
 obtain⟨u,k,i,f,hi,j⟩:=wU g;rw[i,E8];obtain⟨_,F,hd,d⟩:=a0E h u j f hi;exact⟨f,Z9,by have:=(rQ (M5 h).1).1;omega,F,hd,d,Z9,Z9⟩
theorem b5P{d:Dsk}(h:k6 d):jH d:=by
 obtain⟨d1,d2,f,e,_⟩:=h;exact⟨Z9,Z9,Z9⟩
theorem c2a{e:Eng}(hd:k6 e.s.d):x8 (b1x e):=by
 have M:=c3s e.s.d e.s.ep;have h:=hd.2.1;refine⟨⟨b5P hd,?_,N7 _,λi hi=>absurd hi (J9 _)⟩,Z8⟩
 show(jS _ _).length<=_;rw[nH];omega
theorem b8h{e:Eng}{tx:Int}(h:x8 e)(ho:R6 e=true):x8 (U3 e tx).1:=by
 unfold U3;split
 ·rename_i h0;obtain⟨hu,k,e1,hk,hi,ha⟩:=wU h0;rw[e1,E8];obtain⟨hL,hf,hd,h69⟩:=a0E ho hu ha hk hi;obtain⟨a1,a2,a3,a4⟩:=w7 (M5 ho).2.1;obtain⟨l1,l2⟩:=iA a4;split
  ·obtain⟨f1,f2⟩:=b6y (oX e k).s (e.s.L.length+1:Nat);have b1:=zW (hF ((qN e k).X.getD k dz).id) e.lk.H e.lk.H.length;have b2:=zW (wF ((qN e k).X.getD k dz).id) e.lk.W e.lk.W.length;refine⟨⟨b5P hd,?_,?_,?_⟩,?_,?_,?_⟩
   ·show(uY e k).1.L.length<=_;unfold uY;rw[f1];have:=hL.1;omega
   ·show(uY e k).1.fr.length<=_;unfold uY;rw[f2];exact h.1.2.2.1
   ·show ∀i,i<(uY e k).1.fr.length->SmF ((uY e k).1.fr.getD i dz);unfold uY;rw[f2];exact h.1.2.2.2
   ·show(List.take k (qN e k).X++List.drop (k+1) (qN e k).X).length<=_;have:(qN e k).X.length=e.X.length:=zN;rw[J3,List.length_take,List.length_drop,this];omega
   ·show(X8 _ e.lk.H e.lk.H.length).length<=_;omega
   ·show(X8 _ e.lk.W e.lk.W.length).length<=_;omega
  ·exact c2a hd
 ·exact h
open Go.SS Go.RowKit Go.Proofs.Tryz
def kN:List Value:=[.int .i64 0,.int .i64 0]
theorem a3D:(prog.info? 63).map (λi=>(i.zero,i.size,i.bytes))=some (some (.agg kN.toArray),2,16):=P9
theorem a0e:prog.underlying 32=some (.slice 63):=P9
theorem dQ(w:World)(ty:TypeId)(b o c:Nat)(g:∀j,j<2->(w.cell? ⟨b,o+j,none⟩).isSome=true)(f:∀j,j<2->w.frozen? ⟨b,o+j,none⟩=false):
  (Builtin.clear_ #[32] ty #[.slice (some ⟨b,o,none⟩) 1 c]).run prog w= .ok (.tuple #[]) (w.setCells b o kN):=by
 obtain⟨i,e,d,_⟩:=info_parts a3D;have hv:∀w,(zeroValue 63).run prog w= .ok (.agg kN.toArray) w:=λw=>by
  simp[zeroValue,typeInfo,e,d]
 have t:=run_storeCells_cells (P:=prog) b o kN 0 w (λj (hj:j<2)=>by rw[Nat.add_zero];exact g j hj) (λj (hj:j<2)=>by rw[Nat.add_zero];exact f j hj) (by intro v h;simp only[kN,xX,j_i,or_false] at h;rcases h with rfl|rfl<;>rfl)
 simp only[Nat.add_zero] at t;have C:(Builtin.zeroCells (Value.agg kN.toArray).cells 1).toList=kN:=P9
 simp[Builtin.clear_,run_underlying a0e,hv,C,t]
set_option maxHeartbeats 4000000 in
set_option maxRecDepth 1000000 in
theorem b1q(b cap n i j:Nat)(news:List Value)(w:World)(hj1:j=i+1)(hj:j<=n)(hn:n<=cap)(hl:news.length=(n-j)*2)(h1:∀u ∈ news,u.oneCell'=true)
  (hs:∀q u,news[q]? =some u->w.cell? ⟨b,j*2+q,none⟩=some u) (hc:∀q,q<n*2->(w.cell? ⟨b,q,none⟩).isSome=true) (hf:∀q,q<n*2->w.frozen? ⟨b,q,none⟩=false):
  Calls prog 123 #[.slice (some ⟨b,0,none⟩) n cap,.int .i64 i,.int .i64 j] w λe w'=>e= .returned (.slice (some ⟨b,0,none⟩) (i+(n-j)) cap)/\w'=(w.drew.setCells b (i*2) news).setCells b ((i+(n-j))*2) kN:=by
 have mixed:prog.follows .mixedOrders=true:=P9
 obtain⟨i0,hi0,hz0,hz1,hz2⟩:=info_parts a3D;obtain⟨A,hA,hnews⟩:∃A:Addr,(if cap=j then some (⟨b,0,none⟩:Addr) else some ⟨b,j*2,none⟩)=some A/\Hid (∀q u,news[q]? =some u->w.drew.cell? (A.add q)=some u):=by
  by_cases h:cap=j
  ·refine⟨⟨b,0,none⟩,eZ,λq u hu=>?_⟩
   have h0:news.length=0:=by rw[hl];omega
   rw[List.length_eq_zero_iff.1 h0] at hu;simp at hu
  ·exact⟨⟨b,j*2,none⟩,eZ,λq u hu=>by rw[Addr.add_lit];exact hs q u hu⟩
 have s1:Hid (news.length=(n-j)*2):=hl;have s2:Hid (∀u ∈ news,u.oneCell'=true):=h1;have s3:Hid (∀q,q<news.length->(w.drew.cell? ⟨b,0+i*2+q,none⟩).isSome=true/\w.drew.frozen? ⟨b,0+i*2+q,none⟩=false):=by
  intro q hq;rw[hl] at hq;exact⟨hc _ Z9,hf _ Z9⟩
 obtain⟨W1,hW1⟩:∃W1,W1=w.drew.setCells b (0+i*2) news:=⟨_,rfl⟩;have hcl:∀ty,(Builtin.clear_ #[32] ty #[.slice (some ⟨b,(i+(n-j))*2,none⟩) (n- (i+(n-j))) (cap- (i+(n-j)))]).run prog W1= .ok (.tuple #[]) (W1.setCells b ((i+(n-j))*2) kN):=by
  intro ty;rw[show n- (i+(n-j))=1 by omega]
  refine dQ W1 ty b _ _ (λq hq=>?_) (λq hq=>?_)
  ·rw[hW1];exact World.isSome_setCells b _ _ _ _ (hc _ Z9)
  ·rw[hW1,World.frozen?_setCells]
   exact hf _ Z9
 have hW:Hid (W1=w.drew.setCells b (0+i*2) news):=hW1;have X:Aside (W1=w.drew.setCells b (i*2) news):=by rw[hW1,E5];exact rfl
 have hic:i<=cap:=Z9
 have hjc:j<=cap:=Z9
 have hlt:i<j:=Z9
 have heq:¬i=j:=Z9
 have hij:i<=j:=Z9
 have hin:i<=n:=Z9
 clear hW1 hc hf hs h1 hl hj1
 go_enter func123,Tryz.ntmps123
 go_wp2_with fail
 go_region_law_o (refine step_append_room rfl (.tmp 22) (.tmp 25) 32 rfl 63 i0 2 a0e hi0 hz1 b 0 i cap (by simp[Act.eval,Act.put]) A (n-j) (cap-j) news (by simp[Act.eval,Act.put]) s1.out hnews.out s2.out Z9 s3.out ?_;rw[←hW.out])
 go_wp2
 go_ret
 exact⟨rfl,by rw[X]⟩
theorem qW(w:World)(b o:Nat)(ty:TypeId)(cs:Array Value)(news:List Value)(B:w.heap[b]? =some (.cells cs ty (0,0)))(t:o+news.length<=cs.size)(e:∀v ∈ news,v.oneCell'=true):
  (w.setCells b o news).os=w.os/\(w.setCells b o news).tape=w.tape/\(w.setCells b o news).output=w.output/\(w.setCells b o news).heap.size=w.heap.size/\(∀k,k≠b->(w.setCells b o news).heap[k]? =w.heap[k]?)/\
   ∃cs',(w.setCells b o news).heap[b]? =some (.cells cs' ty (0,0))/\cs'.size=cs.size/\(∀i,i<o∨o+news.length<=i->cs'[i]? =cs[i]?)/\∀i,i<news.length->cs'[o+i]? =news[i]? :=by
 obtain⟨w',d,h⟩:=w8 prog w b o ty cs news B t e;have r:=run_storeCells_cells (P:=prog) b o news 0 w (λj J=>by rw[S1 B,vM (show o+0+j<cs.size by omega)];rfl) (λj J=>by simp[World.frozen?,B]) e
 rw[Nat.add_zero,d] at r;simp only[Result.ok.injEq,true_and] at r;rw[←r];exact h
def shJ(k r:Nat):Nat:=if r<k then r else r+1
def yJ{α:Type}(L:List α)(k:Nat):List α:=L.take k++L.drop (k+1)
theorem b8p{α:Type}{L:List α}{k:Nat}(h:k<L.length):(yJ L k).length=k+(L.length- (k+1)):=by
 unfold yJ;rw[J3,List.length_take,List.length_drop];omega
theorem c3y{α:Type}[Inhabited α]{L:List α}{k:Nat}(d:k<L.length)(i:Nat):(yJ L k).getD i dz=L.getD (shJ k i) dz:=by
 have l:(L.take k).length=k:=by rw[List.length_take];omega
 unfold yJ shJ;rw[Q2,Q2]
 split
 ·rename_i h;rw[tT Z9,List.getElem?_take_of_lt h]
 ·rename_i h;rw[rL Z9,l,List.getElem?_drop,show k+1+(i-k)=i+1 by omega]
def b4I:Con:=.reff ⟨List Txn×Nat,λx=>[.osl 0 0 x.1.length,Ji x.2,Ji (x.2+1:Nat)],λx=>[qD x.1],λx=>.osl 0 0 (yJ x.1 x.2).length,λx=>[qD (yJ x.1 x.2)],λx=>x.2<x.1.length⟩
theorem a8h{E:Env}{w:World}{k off n:Nat}{v:Value}(h:Rd E w (.osl k off n) v):∃a o,v= .slice a n (E.κ k-off)/\E.L k/\off+n<=E.κ k/\(off<E.κ k∨off=0->o=off*(E.z k).1)/\(E.κ k≠0->a=some ⟨E.β k,o,none⟩):=by
 cases h with
 |osl k off n o a f d g e=>exact⟨a,o,rfl,f,d,g,e⟩
theorem c6B{E:Env}{w:World}{H:Y5}(f:HeapOk E w H)(i:∀b,E.N b->b<w.heap.size):Inv ⟨w,XB E H,E.N,0,E,0⟩ E H w:=⟨f,i,λb B=>.inl B,λk ob b g e=>.inr ⟨k,ob,g,e⟩,⟨rfl,rfl,rfl,U9 _,λ_ _ _=>rfl⟩,⟨λ_ h=>h,λk d=>absurd d (J9 _),λ_ _=>rfl,λk v d=>absurd d (J9 _)⟩⟩
theorem b0J:GK 123 b4I:=gk func123<|by
 rintro⟨L,k⟩ (hk:k<L.length);intro E w vs hH hN X;dsimp only at hH X ⊢;have O:Z0 [qD L] 0=some (.arr true 0 2 L.length (W8 L)):=rfl;obtain⟨hL,hF,aj⟩:=hH.live 0 _ O;obtain⟨e1,e2,e3,e4,_,cs,B,M,e7,e8⟩:=(show T3 E w 0 ⟨true,0,2,L.length,W8 L⟩ from hF)
 dsimp only at e1 e2 e3 e4 e7 e8;have hκ:E.κ 0≠0:=Z9
 have M:=M hκ;have ai:=e7.le;obtain⟨aa,hv⟩:=X;obtain⟨v0,Z,v2,rfl⟩:∃v0 Z v2,vs= #[v0,Z,v2]:=by
  have f:vs.size=3:=aa.symm;exact⟨vs[0],vs[1],vs[2],by apply Array.ext<;>simp[f];intro i hi _;match i,hi with|0,_=>rfl|1,_=>rfl|2,_=>rfl⟩
 obtain rfl:=uP (hv 1 (.int .i64 k) Z rfl rfl);obtain rfl:=uP (hv 2 (.int .i64 (k+1:Nat)) v2 rfl rfl);obtain⟨a,o,rfl,_,_,ho,ha⟩:=a8h (hv 0 (.osl 0 0 L.length) v0 rfl rfl);have ho:o=0:=by have:=ho (.inr rfl);omega
 subst ho;rw[ha hκ,Nat.sub_zero];have W:∀i q,i<L.length->q<2->∃t u,(W8 L i)[q]? =some t/\cs[i*2+q]? =some u/\Rd E w t u/\u.oneCell'=true:=λi q hi Q=>by
  have h5:(W8 L i).length=2:=rfl;obtain⟨t,d⟩:∃t,(W8 L i)[q]? =some t:=⟨_,J5 Z9⟩
  obtain⟨u,hu,U⟩:=e8 i q _ hi d;exact⟨t,u,d,hu,U,kD U (e4 i _ hi (A6 d))⟩
 have l:∀j,j<L.length*2->∃u,cs[j]? =some u/\u.oneCell'=true:=λj J=>by
  obtain⟨_,u,_,f,_,h4⟩:=W (j/2) (j % 2) Z9 Z9
  exact⟨u,by rw[show j=j/2*2+j % 2 by omega];exact f,h4⟩
 have ah:L.length*2<=cs.size:=Z9
 have hnl:((cs.toList.drop ((k+1)*2)).take ((L.length- (k+1))*2)).length=(L.length- (k+1))*2:=by
  rw[List.length_take,List.length_drop,Array.length_toList (xs:=cs)];omega
 have g:∀q,q<(L.length- (k+1))*2->((cs.toList.drop ((k+1)*2)).take ((L.length- (k+1))*2))[q]? =cs[(k+1)*2+q]? :=λq Q=>by
  rw[List.getElem?_take,if_pos Q,List.getElem?_drop,Array.getElem?_toList]
 have n:∀u ∈ (cs.toList.drop ((k+1)*2)).take ((L.length- (k+1))*2),u.oneCell'=true:=λu hu=>by
  obtain⟨q,Q⟩:=List.getElem?_of_mem hu
  have x:q<(L.length- (k+1))*2:=by rw[←hnl];exact(x7.1 Q).1
  rw[g q x] at Q;obtain⟨u',z,f⟩:=l ((k+1)*2+q) Z9
  rw[z] at Q;simp only[X4] at Q;rw[←Q];exact f
 generalize ad:(cs.toList.drop ((k+1)*2)).take ((L.length- (k+1))*2)=news at hnl g n;have hb:∀j,w.cell? ⟨E.β 0,j,none⟩=cs[j]? :=λj=>S1 M
 have hs:∀q u,news[q]? =some u->w.cell? ⟨E.β 0,(k+1)*2+q,none⟩=some u:=λq u Q=>by
  have x:q<(L.length- (k+1))*2:=by rw[←hnl];exact(x7.1 Q).1
  rw[hb,←g q x];exact Q
 have hc:∀q,q<L.length*2->(w.cell? ⟨E.β 0,q,none⟩).isSome=true:=λq Q=>by
  obtain⟨u,z,_⟩:=l q Q;rw[hb,z];rfl
 have hf:∀q,q<L.length*2->w.frozen? ⟨E.β 0,q,none⟩=false:=λq _=>by simp[World.frozen?,M]
 refine(b1q (E.β 0) (E.κ 0) L.length k (k+1) news w rfl hk e2 hnl n hs hc hf).mono ?_
 rintro e w' ⟨rfl,F⟩;have ac:w.drew.heap[E.β 0]? =some (.cells cs B (0,0)):=M;obtain⟨a1,a2,a3,a4,a5,af,a6,a7,a8,a9⟩:=qW w.drew (E.β 0) (k*2) B cs news ac (by rw[hnl];omega) n
 generalize w.drew.setCells (E.β 0) (k*2) news=w1 at F a1 a2 a3 a4 a5 a6;obtain⟨b1,b2,b3,b4,b5,C,b6,b7,b8,_⟩:=qW w1 (E.β 0) ((k+(L.length- (k+1)))*2) B af kN a6 (by rw[a7];show _+2<=_;omega) (by intro v I;simp only[kN,xX,j_i,or_false] at I;rcases I with rfl|rfl<;>rfl)
 rw[←F] at b1 b2 b3 b4 b5 b6;have N:(yJ L k).length=k+(L.length- (k+1)):=b8p hk;have ab:kN.length=2:=rfl;have R:∀r q,r<(yJ L k).length->q<2->C[r*2+q]? =cs[shJ k r*2+q]? :=λr q X Q=>by
  rw[b8 _ (.inl Z9)]
  unfold shJ;by_cases h:r<k
  ·rw[if_pos h,a8 _ (.inl Z9)]
  ·rw[if_neg h];have:=a9 ((r-k)*2+q) (by rw[hnl];omega)
   rw[show k*2+((r-k)*2+q)=r*2+q by omega] at this
   rw[this,g _ Z9]
   congr 1
   omega
 have ag:∀r,r<(yJ L k).length->shJ k r<L.length:=λr X=>by unfold shJ;split<;>omega
 have Y:∀r,W8 (yJ L k) r=W8 L (shJ k r):=λr=>by unfold W8;rw[c3y hk]
 obtain⟨hI,ae⟩:=(c6B hH hN).write (w':=w') O rfl (b1.trans a1) (b2.trans a2) (b3.trans a3) (Nat.le_of_eq (b4.trans a4).symm) (λb _ A=>(b5 b A).trans (a5 b A)) hκ (.arr true 0 2 (yJ L k).length (W8 (yJ L k))) C B b6 e1.symm (by
   rw[e1];refine e7.keep (b7.trans a7) λq Q=>?_
   rw[b8 q (.inr (by rw[ab];omega)),a8 q (.inr (by rw[hnl];omega))]) (show(yJ L k).length<=E.κ 0 by omega) (λi _=>rfl) (λi t _ d=>by
   simp only[Ob.toArr,W8,Txn.ts,xX,j_i,or_false] at d;rcases d with rfl|rfl<;>rfl) (λ_ i t _ d=>by
   simp only[Ob.toArr,W8,Txn.ts,xX,j_i,or_false] at d;rcases d with rfl|rfl<;>rfl) (λi j t hi J=>by
   have hi:i<(yJ L k).length:=hi;have J:(W8 (yJ L k) i)[j]? =some t:=J;have V:j<2:=(x7.1 J).1
   rw[Y i] at J;obtain⟨t',u,z,f,h3,_⟩:=W (shJ k i) j (ag i hi) V;rw[J] at z;simp only[X4] at z;subst z;exact⟨u,by show C[i*2+j]? =_;rw[R i j hi V];exact f,h3⟩)
 refine⟨_,_,rfl,hI,ae.stp,?_⟩
 rw[N];have:=Rd.osl (E:=E) (w:=w') 0 0 (k+(L.length- (k+1))) 0 (some ⟨E.β 0,0,none⟩) hL (show 0+_<=E.κ 0 by omega) (λ_=>X3) (λ_=>rfl)
 rw[Nat.sub_zero] at this;exact this
def bT(o o':Ob):Prop:=o=o'∨∃cl ty sz n n' row row',o= .arr cl ty sz n row/\o'= .arr cl ty sz n' row'/\n'<=n/\∀i,i<n'->row' i=row i
def c4n(H H':Y5):Prop:=H'.length=H.length/\∀k o',Z0 H' k=some o'->∃o,Z0 H k=some o/\bT o o'
theorem bT.blk{E:Env}{k:Nat}{o o':Ob}{b:Nat}(h:bT o o')(B:C1 E k o' b):C1 E k o b:=by
 rcases h with rfl|⟨cl,ty,sz,n,n',row,row',rfl,rfl,_,_⟩
 ·exact B
 ·exact .inl (B.arr rfl)
theorem bT.ok{E:Env}{w:World}{k:Nat}{o o':Ob}(h:bT o o')(ho:j4 E w k o):j4 E w k o':=by
 rcases h with rfl|⟨cl,ty,sz,n,n',row,row',rfl,rfl,hn,hr⟩
 ·exact ho
 ·obtain⟨e1,e2,e3,e4,e5,cs,tyb,e6,e7,e8⟩:=(show T3 E w k ⟨cl,ty,sz,n,row⟩ from ho)
  dsimp only at e1 e2 e3 e4 e5 e7 e8;refine(show T3 E w k ⟨cl,ty,sz,n',row'⟩ from⟨e1,Nat.le_trans hn e2,λi hi=>?_,λi t hi d=>?_,λC i t hi d=>?_,cs,tyb,e6,e7,λi j t hi J=>?_⟩)
  ·have hi:i<n':=hi;show(row' i).length=sz;rw[hr i hi];exact e3 i Z9
  ·have hi:i<n':=hi;have d:t ∈ row' i:=d;rw[hr i hi] at d;exact e4 i t Z9 d
  ·have hi:i<n':=hi;have d:t ∈ row' i:=d;rw[hr i hi] at d;exact e5 C i t Z9 d
  ·have hi:i<n':=hi;have J:(row' i)[j]? =some t:=J;rw[hr i hi] at J;exact e8 i j t Z9 J
theorem jJ{P:Program}{f:FuncId}{args:List T}{H H1 H2:Y5}{res:T}(h:I8 P f args H res H1)(hc:c4n H1 H2):I8 P f args H res H2:=by
 intro E w vs q N r;refine(h E w vs q N r).mono ?_
 rintro e w' ⟨v,E',rfl,hI,t,g⟩;refine⟨v,E',rfl,⟨⟨λk o hk=>?_,λk k' o o' b hk i B j=>?_,λk hk=>by rw[hc.1];exact hI.heap.lt k hk,hI.heap.l2,λk o v hk hv=>?_⟩,hI.nlt,hI.nnew,λk o b hk B=>?_,hI.fr,hI.keep⟩,t,g⟩
 ·obtain⟨o0,h0,hcut⟩:=hc.2 k o hk;obtain⟨u,x,A⟩:=hI.heap.live k o0 h0;exact⟨u,hcut.ok x,λb B=>A b (hcut.blk B)⟩
 ·obtain⟨o0,h0,hcut⟩:=hc.2 k o hk;obtain⟨O,l,d⟩:=hc.2 k' o' i;exact hI.heap.inj k k' o0 O b h0 l (hcut.blk B) (d.blk j)
 ·obtain⟨o0,h0,hcut⟩:=hc.2 k o hk;obtain⟨v0,ty,sz,n,row,rfl,hle⟩:=hI.heap.cur k o0 v h0 hv;rcases hcut with rfl|⟨_,_,_,_,_,_,_,e,_⟩
  ·exact⟨v0,ty,sz,n,row,rfl,hle⟩
  ·cases e
 ·obtain⟨o0,h0,hcut⟩:=hc.2 k o hk;exact hI.bnew k o0 b h0 (hcut.blk B)
theorem b8n{a b c:Option Ob}(h:∀o',c=some o'->∃o,a=some o/\bT o o'):c4n [a,b] [c,b]:=by
 refine⟨rfl,λk o' d=>?_⟩
 match k,d with
 |0,d=>exact h o' d
 |1,d=>exact⟨o',d,.inl rfl⟩
 |k+2,d=>simp[Z0] at d
def F6{α:Type}[Inhabited α](f:α->Bool)(L:List α)(j:Nat):List α:=X8 f L j++L.drop (X8 f L j).length
theorem b4d{α:Type}[Inhabited α]{f:α->Bool}{L:List α}{j q:Nat}(h:(X8 f L j).length<=q):(F6 f L j).getD q dz=L.getD q dz:=by
 unfold F6;rw[Q2,rL h,List.getElem?_drop,←Q2]
 congr 1
 omega
theorem c5G{α:Type}[Inhabited α]{f:α->Bool}{L:List α}{j q:Nat}(h:q<(X8 f L j).length):(F6 f L j).getD q dz=(X8 f L j).getD q dz:=by
 unfold F6;rw[Q2,tT h,←Q2]
theorem b1F{α:Type}[Inhabited α]{f:α->Bool}{L:List α}{j:Nat}(h:f (L.getD j dz)=false):F6 f L (j+1)=F6 f L j:=by
 unfold F6;rw[lI h]
theorem c6V{α:Type}[Inhabited α]{f:α->Bool}{L:List α}{j:Nat}(h:f (L.getD j dz)=true)(q:Nat):(F6 f L (j+1)).getD q dz=if q=(X8 f L j).length then L.getD j dz else(F6 f L j).getD q dz:=by
 have e:F6 f L (j+1)=X8 f L j++(L.getD j dz::L.drop ((X8 f L j).length+1)):=by
  unfold F6;rw[a8B h,J3,List.length_singleton,List.append_assoc];rfl
 rw[e];unfold F6;generalize X8 f L j=A;generalize L.getD j dz=x;rcases Nat.lt_trichotomy q A.length with h1|h1|h1
 ·rw[if_neg Z9,Q2,Q2,tT h1,tT h1]
 ·rw[if_pos h1,Q2,h1,rL (U9 _),j_h]
  rfl
 ·rw[if_neg Z9,Q2,Q2,rL Z9,rL Z9]
  obtain⟨d,hd⟩:∃d,q-A.length=d+1:=⟨q-A.length-1,Z9⟩
  rw[hd,List.getElem?_cons_succ,List.getElem?_drop,List.getElem?_drop]
  congr 2
  omega
theorem a9n{α:Type}[Inhabited α]{f:α->Bool}{L:List α}:∀j,j<=L.length->(∀q,q<j->f (L.getD q dz)=true)->X8 f L j=L.take j
 |0,_,_=>by simp[X8]
 |j+1,hj,h=>by
  rw[a8B (h j Z9),a9n j Z9 λq Q=>h q Z9,List.take_add_one,Q2,J5 (show j<L.length by omega)]
  rfl
theorem nB{α:Type}[Inhabited α]{f:α->Bool}{L:List α}{j:Nat}(J:j<=L.length)(h:∀q,q<j->f (L.getD q dz)=true):(X8 f L j).length=j/\F6 f L j=L:=by
 have e:=a9n j J h;have l:(L.take j).length=j:=by rw[List.length_take];omega
 unfold F6;rw[e,l];exact⟨rfl,List.take_append_drop j L⟩
def cM(n:Int):Option Ob:=some (.arr true 1000000 1 1 λ_=>[Ji n])
def c0l:Con:=.rel ⟨Lck×Int,λx=>[.agg x.1.ts,.bref [Ji x.2]],λx=>.bool (x.1.tx==x.2),λ_=>True⟩
theorem b8L(x:Lck)(tx:Int)(h:
  (x.tx==tx)=(x.tx==tx)):
  V2 prog 195 [.agg x.ts,.bref [Ji tx]] (.bool (x.tx==tx)):=
 S2 gN func195 Y7 h
theorem a4q:GK 195 c0l:=gk func195<|λx _=>b8L x.1 x.2 rfl
def b8C:Con:=.rel ⟨Wt×Int,λx=>[.agg x.1.ts,.bref [Ji x.2]],λx=>.bool (x.1.tx==x.2||x.1.fo==x.2),λ_=>True⟩
theorem b84(x:Wt)(tx:Int)(h:
let p:=(x.tx==tx||x.fo==tx);  p=p):
  V2 prog 197 [.agg x.ts,.bref [Ji tx]] (.bool (x.tx==tx||x.fo==tx)):=
 S2 gN func197 Y7 h
theorem a3x:GK 197 b8C:=gk func197<|λx _=>b84 x.1 x.2 rfl
def c6t(tx:Int):T:=.fn (.func 195) [.bref [Ji tx]]
def c5A(tx:Int):T:=.fn (.func 197) [.bref [Ji tx]]
def d1(L:List Lck)(tx:Int)(i:Nat):Bool:=(L.getD i dz).tx==tx
def d2(L:List Wt)(tx:Int)(i:Nat):Bool:=(L.getD i dz).tx==tx||(L.getD i dz).fo==tx
def b0K:Con:=.rel ⟨List Lck×Int,λx=>[fJ x.1,c6t x.2],λx=>Ji (S9 x.1.length (d1 x.1 x.2)),λx=>N6 x.1.length⟩
def b2J(L:List Lck)(tx:Int):Nat->Ann
 |0=>.one (V0 L.length (d1 L tx)) (λx=>⟨[(0,fJ L),(1,c6t tx),(7,Ji L.length),(8,Ji x.1)],[]⟩) (λx=>L.length-x.1) [] [] (λ_=>Y7)
 |_=>.none
theorem a60:GK 176 b0K:=gk func176<|by
 rintro⟨L,tx⟩ (hL:L.length<1000000000000);refine S2 (gC a4q gN) func176 (b2J L tx) (α:=let r:=(L.length:Int);let q:=(T.bref [Ji tx]);(∃(x:V0 L.length (d1 L tx)),((Z2 Y6 L L)/\(Fn.func 195=Fn.func 195/\L6 (λ(x:Nat)=>none) q q/\True)/\r=r/\0=(x.1:Int)/\True)/\True)/\∀(x:V0 L.length (d1 L tx)),let z:=(x.1:Int);let p:=(L.getD z.toNat dz);bd (z<r) (V6 z L.length/\∃(X:(Lck×Int)),(((p.tx=X.1.tx/\p.ta=X.1.ta/\p.row=X.1.row/\p.mo=X.1.mo/\True)/\(tx=X.2/\True)/\True)/\True)/\br (X.1.tx==X.2) (z=S9 L.length (d1 L tx)) (Ri (z+1)/\∃(y:V0 L.length (d1 L tx)),(((Z2 Y6 L L)/\(Fn.func 195=Fn.func 195/\L6 (λ(x:Nat)=>none) q q/\True)/\r=r/\z+1=(y.1:Int)/\True)/\True)/\Lt (L.length-y.1) (L.length-x.1))) ((-1:Int)=S9 L.length (d1 L tx))) ⟨⟨H5,⟨Z8,⟨rfl,U2 _,Z6⟩,Z8⟩,Z6⟩,λx=>⟨λC=>?_,λC=>?_⟩⟩
 ·have h:=Y2 C;refine⟨Y1 h,(L.getD x.1 dz,tx),Z8,λhp=>(P5 h hp x.2.2).symm,λhp=>⟨V8 h Z9,x.succ h hp,⟨⟨Z8,⟨rfl,U2 _,Z6⟩,rfl,L3,Z6⟩,Z6⟩,V0.ext_lt h⟩⟩
 ·have e:=X7 C;exact(M2 λj J=>x.2.2 j (zH J e)).symm
def b62:Con:=.rel ⟨List Wt×Int,λx=>[wtS x.1,c5A x.2],λx=>Ji (S9 x.1.length (d2 x.1 x.2)),λx=>N6 x.1.length⟩
def b4W(L:List Wt)(tx:Int):Nat->Ann
 |0=>.one (V0 L.length (d2 L tx)) (λx=>⟨[(0,wtS L),(1,c5A tx),(7,Ji L.length),(8,Ji x.1)],[]⟩) (λx=>L.length-x.1) [] [] (λ_=>Y7)
 |_=>.none
theorem b0W:GK 179 b62:=gk func179<|by
 rintro⟨L,tx⟩ (hL:L.length<1000000000000);refine S2 (gC a3x gN) func179 (b4W L tx) (α:=let r:=(L.length:Int);let p:=(T.bref [Ji tx]);(∃(x:V0 L.length (d2 L tx)),((Z2 Y4 L L)/\(Fn.func 197=Fn.func 197/\L6 (λ(x:Nat)=>none) p p/\True)/\r=r/\0=(x.1:Int)/\True)/\True)/\∀(x:V0 L.length (d2 L tx)),let q:=(x.1:Int);let z:=(L.getD q.toNat dz);bd (q<r) (V6 q L.length/\∃(X:(Wt×Int)),(((z.tx=X.1.tx/\z.fo=X.1.fo/\True)/\(tx=X.2/\True)/\True)/\True)/\br (X.1.tx==X.2||X.1.fo==X.2) (q=S9 L.length (d2 L tx)) (Ri (q+1)/\∃(y:V0 L.length (d2 L tx)),(((Z2 Y4 L L)/\(Fn.func 197=Fn.func 197/\L6 (λ(x:Nat)=>none) p p/\True)/\r=r/\q+1=(y.1:Int)/\True)/\True)/\Lt (L.length-y.1) (L.length-x.1))) ((-1:Int)=S9 L.length (d2 L tx))) ⟨⟨H5,⟨Z8,⟨rfl,U2 _,Z6⟩,Z8⟩,Z6⟩,λx=>⟨λC=>?_,λC=>?_⟩⟩
 ·have h:=Y2 C;refine⟨Y1 h,(L.getD x.1 dz,tx),Z8,λhp=>(P5 h hp x.2.2).symm,λhp=>⟨V8 h Z9,x.succ h hp,⟨⟨Z8,⟨rfl,U2 _,Z6⟩,rfl,L3,Z6⟩,Z6⟩,V0.ext_lt h⟩⟩
 ·have e:=X7 C;exact(M2 λj J=>x.2.2 j (zH J e)).symm
def c5a:List T:=[Ji 0,Ji 0,Ji 0,Ji 0]
def zWt:List T:=[Ji 0,Ji 0]
def c5M(L:List Lck)(tx:Int):Option Ob:=some (.arr true 0 4 L.length (J0 (Y6 (F6 (hF tx) L L.length)) (X8 (hF tx) L L.length).length (L.length- (X8 (hF tx) L L.length).length) c5a))
def c6A(L:List Wt)(tx:Int):Option Ob:=some (.arr true 0 2 L.length (J0 (Y4 (F6 (wF tx) L L.length)) (X8 (wF tx) L L.length).length (L.length- (X8 (wF tx) L L.length).length) zWt))
def b6H:Con:=.reff ⟨List Lck×Int,λx=>[.osl 0 0 x.1.length,.fn (.func 195) [.ref 1 0 0]],λx=>[uG x.1,cM x.2],λx=>.osl 0 0 (X8 (hF x.2) x.1 x.1.length).length,λx=>[uG (X8 (hF x.2) x.1 x.1.length),cM x.2],λx=>x.1.length<=1048576⟩
def b3E(L:List Lck)(tx:Int):Nat->Ann
 |0=>.one {j:Nat//j<=L.length} (λx=>⟨[(0,.osl 0 0 L.length),(1,.fn (.func 195) [.ref 1 0 0]),(5,Ji (X8 (hF tx) L x.1).length),(6,Ji x.1)],[some (.arr true 0 4 L.length (Y6 (F6 (hF tx) L x.1))),cM tx]⟩) (λx=>L.length-x.1) eI eI (λ_=>Y7)
 |_=>.none
theorem b3I(L:List Lck)(tx:Int)(h:
  ∃(x:(List Lck×Int)),(Le (0+L.length) L.length/\((Z2 Y6 L x.1)/\(Fn.func 195=Fn.func 195/\(tx=x.2/\True)/\True)/\True)/\N6 x.1.length)/\br (S9 x.1.length (d1 x.1 x.2)==(-1:Int)) (((0=0/\L.length=(X8 (hF tx) L L.length).length)/\True)/\(L.length=L.length/\Z7 L.length (Y6 L) λ(j:Nat)=>match(X8 (hF tx) L L.length).length.ble j&&j.blt ((X8 (hF tx) L L.length).length+(L.length- (X8 (hF tx) L L.length).length)) with|true=>[Ji 0,Ji 0,Ji 0,Ji 0]|false=>[Ji ((F6 (hF tx) L L.length).getD j dz).tx,Ji ((F6 (hF tx) L L.length).getD j dz).ta,Ji ((F6 (hF tx) L L.length).getD j dz).row,Ji ((F6 (hF tx) L L.length).getD j dz).mo])/\(oo (tx=tx/\True))/\True) (Ri (S9 x.1.length (d1 x.1 x.2)+1)/\(∃(X:{j:Nat//j<=L.length}),((0=0/\L.length=L.length)/\(Fn.func 195=Fn.func 195/\(0=0/\0=0)/\True)/\S9 x.1.length (d1 x.1 x.2)=(↑(X8 (hF tx) L X.val).length:Int)/\S9 x.1.length (d1 x.1 x.2)+1=(X.val:Int)/\True)/\(L.length=L.length/\Z7 L.length (Y6 L) (Y6 (F6 (hF tx) L X.val)))/\(oo (tx=tx/\True))/\True)/\∀(x:{j:Nat//j<=L.length}),bd ((x.1:Int)<(L.length:Int)) (V6 (x.1:Int) L.length/\Lt (0+(x.1:Int).toNat) L.length/\∃(X:(Lck×Int)),(((((F6 (hF tx) L x.1).getD (0+(x.1:Int).toNat) dz).tx=X.1.tx/\((F6 (hF tx) L x.1).getD (0+(x.1:Int).toNat) dz).ta=X.1.ta/\((F6 (hF tx) L x.1).getD (0+(x.1:Int).toNat) dz).row=X.1.row/\((F6 (hF tx) L x.1).getD (0+(x.1:Int).toNat) dz).mo=X.1.mo/\True)/\(tx=X.2/\True)/\True)/\True)/\br (!X.1.tx==X.2) (V6 (↑(X8 (hF tx) L x.1).length:Int) L.length/\Lt (0+(↑(X8 (hF tx) L x.1).length:Int).toNat) L.length/\Ri ((↑(X8 (hF tx) L x.1).length:Int)+1)/\Ri ((x.1:Int)+1)/\∃(y:{j:Nat//j<=L.length}),(((0=0/\L.length=L.length)/\(Fn.func 195=Fn.func 195/\(0=0/\0=0)/\True)/\(↑(X8 (hF tx) L x.1).length:Int)+1=(↑(X8 (hF tx) L y.1).length:Int)/\(x.1:Int)+1=(y.1:Int)/\True)/\(L.length=L.length/\Z7 L.length (setRow (Y6 (F6 (hF tx) L x.1)) (0+(↑(X8 (hF tx) L x.1).length:Int).toNat) 0 [Ji ((F6 (hF tx) L x.1).getD (0+(x.1:Int).toNat) dz).tx,Ji ((F6 (hF tx) L x.1).getD (0+(x.1:Int).toNat) dz).ta,Ji ((F6 (hF tx) L x.1).getD (0+(x.1:Int).toNat) dz).row,Ji ((F6 (hF tx) L x.1).getD (0+(x.1:Int).toNat) dz).mo]) (Y6 (F6 (hF tx) L y.1)))/\(oo (tx=tx/\True))/\True)/\Lt (L.length-y.1) (L.length-x.1)) (Ri ((x.1:Int)+1)/\∃(y:{j:Nat//j<=L.length}),(((0=0/\L.length=L.length)/\(Fn.func 195=Fn.func 195/\(0=0/\0=0)/\True)/\(↑(X8 (hF tx) L x.1).length:Int)=(↑(X8 (hF tx) L y.1).length:Int)/\(x.1:Int)+1=(y.1:Int)/\True)/\(L.length=L.length/\Z7 L.length (Y6 (F6 (hF tx) L x.1)) (Y6 (F6 (hF tx) L y.1)))/\(oo (tx=tx/\True))/\True)/\Lt (L.length-y.1) (L.length-x.1))) (iM (↑(X8 (hF tx) L x.1).length:Int) L.length/\Le (0+(↑(X8 (hF tx) L x.1).length:Int).toNat+(L.length- (↑(X8 (hF tx) L x.1).length:Int).toNat)) L.length/\iM (↑(X8 (hF tx) L x.1).length:Int) L.length/\((0=0/\(↑(X8 (hF tx) L x.1).length:Int).toNat=(X8 (hF tx) L L.length).length)/\True)/\(L.length=L.length/\Z7 L.length (λ(j:Nat)=>match(0+(↑(X8 (hF tx) L x.1).length:Int).toNat).ble j&&j.blt (0+(↑(X8 (hF tx) L x.1).length:Int).toNat+(L.length- (↑(X8 (hF tx) L x.1).length:Int).toNat)) with|true=>[Ji 0,Ji 0,Ji 0,Ji 0]|false=>[Ji ((F6 (hF tx) L x.1).getD j dz).tx,Ji ((F6 (hF tx) L x.1).getD j dz).ta,Ji ((F6 (hF tx) L x.1).getD j dz).row,Ji ((F6 (hF tx) L x.1).getD j dz).mo]) λ(j:Nat)=>match(X8 (hF tx) L L.length).length.ble j&&j.blt ((X8 (hF tx) L L.length).length+(L.length- (X8 (hF tx) L L.length).length)) with|true=>[Ji 0,Ji 0,Ji 0,Ji 0]|false=>[Ji ((F6 (hF tx) L L.length).getD j dz).tx,Ji ((F6 (hF tx) L L.length).getD j dz).ta,Ji ((F6 (hF tx) L L.length).getD j dz).row,Ji ((F6 (hF tx) L L.length).getD j dz).mo])/\(oo (tx=tx/\True))/\True))):
  I8 prog 194 [.osl 0 0 L.length,.fn (.func 195) [.ref 1 0 0]] [uG L,cM tx] (.osl 0 0 (X8 (hF tx) L L.length).length) [c5M L tx,cM tx]:=
 w3 (gC a60 (gC a4q gN)) func194 (b3E L tx) [eI] h
def b7X:Con:=.reff ⟨List Wt×Int,λx=>[.osl 0 0 x.1.length,.fn (.func 197) [.ref 1 0 0]],λx=>[qU x.1,cM x.2],λx=>.osl 0 0 (X8 (wF x.2) x.1 x.1.length).length,λx=>[qU (X8 (wF x.2) x.1 x.1.length),cM x.2],λx=>x.1.length<=1048576⟩
def b90(L:List Wt)(tx:Int):Nat->Ann
 |0=>.one {j:Nat//j<=L.length} (λx=>⟨[(0,.osl 0 0 L.length),(1,.fn (.func 197) [.ref 1 0 0]),(5,Ji (X8 (wF tx) L x.1).length),(6,Ji x.1)],[some (.arr true 0 2 L.length (Y4 (F6 (wF tx) L x.1))),cM tx]⟩) (λx=>L.length-x.1) eI eI (λ_=>Y7)
 |_=>.none
theorem b7W(L:List Wt)(tx:Int)(h:
  ∃(x:(List Wt×Int)),(Le (0+L.length) L.length/\((Z2 Y4 L x.1)/\(Fn.func 197=Fn.func 197/\(tx=x.2/\True)/\True)/\True)/\N6 x.1.length)/\br (S9 x.1.length (d2 x.1 x.2)==(-1:Int)) (((0=0/\L.length=(X8 (wF tx) L L.length).length)/\True)/\(L.length=L.length/\Z7 L.length (Y4 L) λ(j:Nat)=>match(X8 (wF tx) L L.length).length.ble j&&j.blt ((X8 (wF tx) L L.length).length+(L.length- (X8 (wF tx) L L.length).length)) with|true=>[Ji 0,Ji 0]|false=>[Ji ((F6 (wF tx) L L.length).getD j dz).tx,Ji ((F6 (wF tx) L L.length).getD j dz).fo])/\(oo (tx=tx/\True))/\True) (Ri (S9 x.1.length (d2 x.1 x.2)+1)/\(∃(X:{j:Nat//j<=L.length}),((0=0/\L.length=L.length)/\(Fn.func 197=Fn.func 197/\(0=0/\0=0)/\True)/\S9 x.1.length (d2 x.1 x.2)=(↑(X8 (wF tx) L X.val).length:Int)/\S9 x.1.length (d2 x.1 x.2)+1=(X.val:Int)/\True)/\(L.length=L.length/\Z7 L.length (Y4 L) (Y4 (F6 (wF tx) L X.val)))/\(oo (tx=tx/\True))/\True)/\∀(x:{j:Nat//j<=L.length}),bd ((x.1:Int)<(L.length:Int)) (V6 (x.1:Int) L.length/\Lt (0+(x.1:Int).toNat) L.length/\∃(X:(Wt×Int)),(((((F6 (wF tx) L x.1).getD (0+(x.1:Int).toNat) dz).tx=X.1.tx/\((F6 (wF tx) L x.1).getD (0+(x.1:Int).toNat) dz).fo=X.1.fo/\True)/\(tx=X.2/\True)/\True)/\True)/\br (!(X.1.tx==X.2||X.1.fo==X.2)) (V6 (↑(X8 (wF tx) L x.1).length:Int) L.length/\Lt (0+(↑(X8 (wF tx) L x.1).length:Int).toNat) L.length/\Ri ((↑(X8 (wF tx) L x.1).length:Int)+1)/\Ri ((x.1:Int)+1)/\∃(y:{j:Nat//j<=L.length}),(((0=0/\L.length=L.length)/\(Fn.func 197=Fn.func 197/\(0=0/\0=0)/\True)/\(↑(X8 (wF tx) L x.1).length:Int)+1=(↑(X8 (wF tx) L y.1).length:Int)/\(x.1:Int)+1=(y.1:Int)/\True)/\(L.length=L.length/\Z7 L.length (setRow (Y4 (F6 (wF tx) L x.1)) (0+(↑(X8 (wF tx) L x.1).length:Int).toNat) 0 [Ji ((F6 (wF tx) L x.1).getD (0+(x.1:Int).toNat) dz).tx,Ji ((F6 (wF tx) L x.1).getD (0+(x.1:Int).toNat) dz).fo]) (Y4 (F6 (wF tx) L y.1)))/\(oo (tx=tx/\True))/\True)/\Lt (L.length-y.1) (L.length-x.1)) (Ri ((x.1:Int)+1)/\∃(y:{j:Nat//j<=L.length}),(((0=0/\L.length=L.length)/\(Fn.func 197=Fn.func 197/\(0=0/\0=0)/\True)/\(↑(X8 (wF tx) L x.1).length:Int)=(↑(X8 (wF tx) L y.1).length:Int)/\(x.1:Int)+1=(y.1:Int)/\True)/\(L.length=L.length/\Z7 L.length (Y4 (F6 (wF tx) L x.1)) (Y4 (F6 (wF tx) L y.1)))/\(oo (tx=tx/\True))/\True)/\Lt (L.length-y.1) (L.length-x.1))) (iM (↑(X8 (wF tx) L x.1).length:Int) L.length/\Le (0+(↑(X8 (wF tx) L x.1).length:Int).toNat+(L.length- (↑(X8 (wF tx) L x.1).length:Int).toNat)) L.length/\iM (↑(X8 (wF tx) L x.1).length:Int) L.length/\((0=0/\(↑(X8 (wF tx) L x.1).length:Int).toNat=(X8 (wF tx) L L.length).length)/\True)/\(L.length=L.length/\Z7 L.length (λ(j:Nat)=>match(0+(↑(X8 (wF tx) L x.1).length:Int).toNat).ble j&&j.blt (0+(↑(X8 (wF tx) L x.1).length:Int).toNat+(L.length- (↑(X8 (wF tx) L x.1).length:Int).toNat)) with|true=>[Ji 0,Ji 0]|false=>[Ji ((F6 (wF tx) L x.1).getD j dz).tx,Ji ((F6 (wF tx) L x.1).getD j dz).fo]) λ(j:Nat)=>match(X8 (wF tx) L L.length).length.ble j&&j.blt ((X8 (wF tx) L L.length).length+(L.length- (X8 (wF tx) L L.length).length)) with|true=>[Ji 0,Ji 0]|false=>[Ji ((F6 (wF tx) L L.length).getD j dz).tx,Ji ((F6 (wF tx) L L.length).getD j dz).fo])/\(oo (tx=tx/\True))/\True))):
  I8 prog 196 [.osl 0 0 L.length,.fn (.func 197) [.ref 1 0 0]] [qU L,cM tx] (.osl 0 0 (X8 (wF tx) L L.length).length) [c6A L tx,cM tx]:=
 w3 (gC b0W (gC a3x gN)) func196 (b90 L tx) [eI] h
theorem a1B{n:Nat}{p:Nat->Bool}(h:S9 n p= -1):∀q,q<n->p q=false:=by
 intro q;induction q using Nat.strongRecOn with
 |ind q i=>
  intro Q;cases hp:p q with
  |false=>rfl
  |true=>
   have:=P5 Q hp λj J=>i j J Z9
   rw[this] at h;omega
theorem iD{n:Nat}{p:Nat->Bool}(h:(S9 n p==(-1:Int))=false):∃i,i<n/\p i=true/\(∀j,j<i->p j=false)/\S9 n p=(i:Int):=by
 refine nN λN=>?_
 cases A:anyI n p with
 |false=>
  rw[M2 (R8.1 A)] at h;cases h
 |true=>
  obtain⟨i,hi,hp⟩:=S8.1 A;have f:∃i,i<n/\p i=true/\∀j,j<i->p j=false:=by
   induction i using Nat.strongRecOn with
   |ind i I=>
    by_cases d:∃j,j<i/\p j=true
    ·obtain⟨j,d,J⟩:=d;exact I j d Z9 J
    ·refine⟨i,hi,hp,λj hj'=>?_⟩
     cases J:p j with
     |false=>rfl
     |true=>exact absurd ⟨j,hj',J⟩ d
  obtain⟨i,hi,hp,l⟩:=f;rw[P5 hi hp l] at N;omega
theorem a1w{α:Type}[Inhabited α]{ts:α->List T}{m:Nat}(M:∀a,(ts a).length=m){f:α->Bool}{L:List α}{j:Nat}(h:f (L.getD j dz)=true):Z7 L.length (setRow (λi=>ts ((F6 f L j).getD i dz)) (X8 f L j).length 0 (ts (L.getD j dz))) λi=>ts ((F6 f L (j+1)).getD i dz):=λi _=>by
 rw[i9 (by rw[M,M])]
 dsimp only;rw[c6V h];cases B:Nat.beq i (X8 f L j).length with
 |true=>
  rw[if_pos (H4 B)]
 |false=>
  rw[if_neg λe=>by rw[e,Nat.beq_refl] at B;cases B]
theorem gD{row row':Nat->List T}{n m:Nat}{z:List T}(h:∀i,i<n->row i=row' i)(M:n<=m):Z7 n row (J0 row' m (n-m) z):=λi hi=>by
 unfold J0;cases B:Nat.ble m i with
 |true=>exact absurd (zT B) Z9
 |false=>exact h i hi
theorem a1W{α:Type}[Inhabited α]{ts:α->List T}{sz:Nat}{f:α->Bool}{L:List α}{z:List T}{b:Option Ob}(h:(X8 f L L.length).length<=L.length):c4n [some (.arr true 0 sz L.length (J0 (λi=>ts ((F6 f L L.length).getD i dz)) (X8 f L L.length).length (L.length- (X8 f L L.length).length) z)),b] [some (.arr true 0 sz (X8 f L L.length).length (λi=>ts ((X8 f L L.length).getD i dz))),b]:=b8n λo' o=>by
 simp only[X4] at o;subst o;refine⟨_,rfl,.inr ⟨_,_,_,_,_,_,_,rfl,rfl,h,λi hi=>?_⟩⟩
 unfold J0;cases B:Nat.ble (X8 f L L.length).length i with
 |true=>exact absurd (zT B) Z9
 |false=>exact(congrArg ts (c5G hi)).symm
theorem b1U:GK 194 b6H:=gk func194<|by
 rintro⟨L,tx⟩ (hL:L.length<=1048576);have l:=zW (hF tx) L L.length;refine jJ (b3I L tx ⟨(L,tx),⟨dY _,Z8,uA⟩,λn=>?_,λn=>?_⟩) (a1W (ts:=Lck.ts) l)
 ·obtain⟨e,d⟩:=nB (f:=hF tx) (U9 L.length) λq Q=>by
   have:=a1B (beq_iff_eq.1 n) q Q;unfold d1 at this;unfold hF bne;rw[this];rfl
  refine⟨⟨⟨rfl,e.symm⟩,Z6⟩,⟨rfl,?_⟩,Z8⟩
  exact gD (row:=Y6 L) (row':=Y6 (F6 (hF tx) L L.length)) (z:=c5a) (λi _=>i6) (Nat.le_of_eq e.symm)
 ·obtain⟨i,hi,hp,g,h⟩:=iD n;have hi:i<L.length:=hi;obtain⟨e,d⟩:=nB (f:=hF tx) (L:=L) (j:=i) Z9 λq Q=>by
   have:=g q Q;unfold d1 at this;unfold hF bne;rw[this];rfl
  have I:hF tx (L.getD i dz)=false:=by
   unfold d1 at hp;unfold hF bne;rw[hp];rfl
  have o:(X8 (hF tx) L (i+1)).length=i:=by rw[lI I];exact e
  have r:F6 (hF tx) L (i+1)=L:=by rw[b1F I];exact d
  have h:S9 L.length (d1 L tx)=(i:Int):=h;refine⟨?_,⟨⟨i+1,hi⟩,⟨Z8,Z8,?_,?_,Z6⟩,⟨rfl,?_⟩,Z8⟩,λx=>⟨λhc=>?_,λhc=>?_⟩⟩
  ·dsimp only;rw[h];exact Z3 Z9
  ·dsimp only;rw[h,o]
  ·dsimp only;rw[h];omega
  ·dsimp only;rw[r];exact W2 _ _
  ·have hlt:=Y2 hc;have hle:=zW (hF tx) L x.1;have e0:(F6 (hF tx) L x.1).getD x.1 dz=L.getD x.1 dz:=b4d hle;rw[E8,E8,E5,E5,e0];refine⟨Y1 hlt,hlt,(L.getD x.1 dz,tx),Z8,λhd=>?_,λhd=>?_⟩
   ·have hd:hF tx (L.getD x.1 dz)=true:=by
     exact hd
    exact⟨Y1 Z9,I5,Z3 Z9,Z3 Z9,⟨x.1+1,hlt⟩,⟨⟨Z8,Z8,congrArg Int.ofNat (kF hd),X0,Z6⟩,⟨rfl,a1w (m:=4) (ts:=Lck.ts) (λ_=>rfl) hd⟩,Z8⟩,V0.ext_lt hlt⟩
   ·have hd:hF tx (L.getD x.1 dz)=false:=by
     exact hd
    refine⟨Z3 Z9,⟨x.1+1,hlt⟩,⟨⟨Z8,Z8,?_,X0,Z6⟩,⟨rfl,?_⟩,Z8⟩,V0.ext_lt hlt⟩
    ·dsimp only;rw[lI hd]
    ·dsimp only;rw[b1F hd];exact W2 _ _
  ·have hx:x.1=L.length:=by have:=x.2;have:=X7 hc;omega
   rw[hx,E8,E5];exact⟨⟨Z9,Z9⟩,K2,⟨Z9,Z9⟩,Z8⟩
theorem b6C:GK 196 b7X:=gk func196<|by
 rintro⟨L,tx⟩ (hL:L.length<=1048576);have l:=zW (wF tx) L L.length;refine jJ (b7W L tx ⟨(L,tx),⟨dY _,Z8,uA⟩,λn=>?_,λn=>?_⟩) (a1W (ts:=Wt.ts) l)
 ·obtain⟨e,d⟩:=nB (f:=wF tx) (U9 L.length) λq Q=>by
   have:=a1B (beq_iff_eq.1 n) q Q;unfold d2 at this;unfold wF bne;rw[←Bool.not_or,this];rfl
  refine⟨⟨⟨rfl,e.symm⟩,Z6⟩,⟨rfl,?_⟩,Z8⟩
  exact gD (row:=Y4 L) (row':=Y4 (F6 (wF tx) L L.length)) (z:=zWt) (λi _=>i6) (Nat.le_of_eq e.symm)
 ·obtain⟨i,hi,hp,g,h⟩:=iD n;have hi:i<L.length:=hi;obtain⟨e,d⟩:=nB (f:=wF tx) (L:=L) (j:=i) Z9 λq Q=>by
   have:=g q Q;unfold d2 at this;unfold wF bne;rw[←Bool.not_or,this];rfl
  have I:wF tx (L.getD i dz)=false:=by
   unfold d2 at hp;unfold wF bne;rw[←Bool.not_or,hp];rfl
  have o:(X8 (wF tx) L (i+1)).length=i:=by rw[lI I];exact e
  have r:F6 (wF tx) L (i+1)=L:=by rw[b1F I];exact d
  have h:S9 L.length (d2 L tx)=(i:Int):=h;refine⟨?_,⟨⟨i+1,hi⟩,⟨Z8,Z8,?_,?_,Z6⟩,⟨rfl,?_⟩,Z8⟩,λx=>⟨λhc=>?_,λhc=>?_⟩⟩
  ·dsimp only;rw[h];exact Z3 Z9
  ·dsimp only;rw[h,o]
  ·dsimp only;rw[h];omega
  ·dsimp only;rw[r];exact W2 _ _
  ·have hlt:=Y2 hc;have hle:=zW (wF tx) L x.1;have e0:(F6 (wF tx) L x.1).getD x.1 dz=L.getD x.1 dz:=b4d hle;rw[E8,E8,E5,E5,e0];refine⟨Y1 hlt,hlt,(L.getD x.1 dz,tx),Z8,λhd=>?_,λhd=>?_⟩
   ·have hd:wF tx (L.getD x.1 dz)=true:=by
     unfold wF bne;rw[←Bool.not_or];exact hd
    exact⟨Y1 Z9,I5,Z3 Z9,Z3 Z9,⟨x.1+1,hlt⟩,⟨⟨Z8,Z8,congrArg Int.ofNat (kF hd),X0,Z6⟩,⟨rfl,a1w (m:=2) (ts:=Wt.ts) (λ_=>rfl) hd⟩,Z8⟩,V0.ext_lt hlt⟩
   ·have hd:wF tx (L.getD x.1 dz)=false:=by
     unfold wF bne;rw[←Bool.not_or];exact hd
    refine⟨Z3 Z9,⟨x.1+1,hlt⟩,⟨⟨Z8,Z8,?_,X0,Z6⟩,⟨rfl,?_⟩,Z8⟩,V0.ext_lt hlt⟩
    ·dsimp only;rw[lI hd]
    ·dsimp only;rw[b1F hd];exact W2 _ _
  ·have hx:x.1=L.length:=by have:=x.2;have:=X7 hc;omega
   rw[hx,E8,E5];exact⟨⟨Z9,Z9⟩,K2,⟨Z9,Z9⟩,Z8⟩
def frE(e:Eng)(tx:Int):Eng:={e with lk:=frK e.lk tx}
def c1W:Con:=.reff ⟨Eng×Int×Nat,λx=>[.ref 0 0 11,Ji x.2.1],λx=>x.1.bx x.2.2,λ_=>.tup [],λx=>(frE x.1 x.2.1).nx x.2.2,λx=>x.1.lk.H.length<=1048576/\x.1.lk.W.length<=1048576⟩
theorem b7O:GK 124 c1W:=gk func124<|by
 rintro⟨e,tx,v⟩ ⟨h,f⟩;dsimp only at h f;exact w3 (gC b1U (gC b6C gN)) func124 Y7 cJ (α:=let q:=(X8 (wF tx) e.lk.W e.lk.W.length);let p:=(X8 (hF tx) e.lk.H e.lk.H.length);∃(x:(List Lck×Int)),let u:=x.1.length;let r:=(X8 (hF x.2) x.1 u);(((0=0/\e.lk.H.length=u)/\(Fn.func 195=Fn.func 195/\(0=0/\0=0)/\True)/\True)/\((Z2 Y6 e.lk.H x.1)/\(1=1/\Z7 1 (λ(x:Nat)=>[Ji tx]) λ(X:Nat)=>[Ji x.2])/\True)/\u<=1048576)/\∃(X:(List Wt×Int)),let z:=(X8 (wF X.2) X.1 X.1.length);(((0=0/\e.lk.W.length=X.1.length)/\(Fn.func 197=Fn.func 197/\(0=0/\0=0)/\True)/\True)/\((Z2 Y4 e.lk.W X.1)/\(1=1/\Z7 1 (λ(x_2:Nat)=>[Ji x.2]) λ(x:Nat)=>[Ji X.2])/\True)/\X.1.length<=1048576)/\(True/\True)/\(oo ((0=0/\e.s.d.E.length=e.s.d.E.length)/\(0=0/\e.s.d.C.length=e.s.d.C.length)/\e.s.d.A=e.s.d.A/\(0=0/\e.s.d.keep.length=e.s.d.keep.length)/\e.s.ep=e.s.ep/\(0=0/\e.s.L.length=e.s.L.length)/\e.s.S=e.s.S/\(0=0/\e.s.fr.length=e.s.fr.length)/\e.s.J=e.s.J/\e.up=e.up/\(0=0/\e.X.length=e.X.length)/\(0=0/\r.length=p.length)/\(0=0/\z.length=q.length)/\e.N=e.N/\True))/\T8 ((Z2 Z5 e.s.d.E e.s.d.E)/\(Z2 Y8 e.s.d.C e.s.d.C)/\(Z2 Y9 e.s.d.keep e.s.d.keep)/\(Z2 Y0 e.s.L e.s.L)/\(v=v/\e.s.fr.length=e.s.fr.length/\V3 e.s.fr.length (Z1 e.s.fr) (Z1 e.s.fr))/\(Z2 W8 e.X e.X)/\(Z2 Y6 r p)/\(Z2 Y4 z q)/\True)) ⟨(e.lk.H,tx),⟨Z8,Z8,h⟩,(e.lk.W,tx),⟨Z8,Z8,f⟩,Z8⟩
def OvB(e:Eng)(tx:Int)(k:Nat):Prop:=T5 e.X tx=k/\k<e.X.length/\(e.X.getD k dz).id=tx/\e.X.length<=1000/\e.lk.H.length<=1048576/\e.lk.W.length<=1048576
def c4w:Con:=.reff ⟨Eng×Int×Nat×Nat,λx=>[.ref 0 0 0,Ji x.2.1],λx=>x.1.bx x.2.2.2,λ_=>.tup [],λx=>(a2M x.1 x.2.2.1).nx x.2.2.2,λx=>OvB x.1 x.2.1 x.2.2.1⟩
theorem c4l(e:Eng)(tx:Int)(k v:Nat)(h:
let u:=(List.take k e.X++List.drop (k+1) e.X);let p:=(e.X.getD k dz).id;let w:=(X8 (wF p) e.lk.W e.lk.W.length);let y:=(X8 (hF p) e.lk.H e.lk.H.length);  ∃(x:(Eng×Int)),((LeG e)/\((pY e x.1)/\tx=x.2/\True)/\N6 x.1.X.length)/\Ri (T5 x.1.X x.2+1)/\∃(X:(List Txn×Nat)),(((0=0/\e.X.length=X.1.length)/\T5 x.1.X x.2=(X.2:Int)/\T5 x.1.X x.2+1=(↑(X.2+1):Int)/\True)/\((Z2 W8 e.X X.1)/\True)/\X.2<X.1.length)/\∃(x:(Eng×Int×Nat)),let j:=x.1.lk;let z:=(X8 (wF x.2.1) j.W j.W.length);let r:=(X8 (hF x.2.1) j.H j.H.length);let q:=x.1.s;(((0=0/\11=11)/\tx=x.2.1/\True)/\(LnG (v) (x.2.2) {e with X:=(yJ X.1 X.2)} x.1)/\j.H.length<=1048576/\j.W.length<=1048576)/\(True/\True)/\(oo ((0=0/\q.d.E.length=e.s.d.E.length)/\(0=0/\q.d.C.length=e.s.d.C.length)/\q.d.A=e.s.d.A/\(0=0/\q.d.keep.length=e.s.d.keep.length)/\q.ep=e.s.ep/\(0=0/\q.L.length=e.s.L.length)/\q.S=e.s.S/\(0=0/\q.fr.length=e.s.fr.length)/\q.J=e.s.J/\x.1.up=e.up/\(0=0/\x.1.X.length=u.length)/\(0=0/\r.length=y.length)/\(0=0/\z.length=w.length)/\x.1.N=e.N/\True))/\T8 ((Z2 Z5 q.d.E e.s.d.E)/\(Z2 Y8 q.d.C e.s.d.C)/\(Z2 Y9 q.d.keep e.s.d.keep)/\(Z2 Y0 q.L e.s.L)/\(x.2.2=v/\q.fr.length=e.s.fr.length/\V3 q.fr.length (Z1 q.fr) (Z1 e.s.fr))/\(Z2 W8 x.1.X u)/\(Z2 Y6 r y)/\(Z2 Y4 z w)/\True)):
  I8 prog 66 [.ref 0 0 0,Ji tx] (e.bx v) (.tup []) ((a2M e k).nx v):=
 w3 (gC oC (gC b0J (gC b7O gN))) func66 Y7 cJ h
theorem b9n:GK 66 c4w:=gk func66<|by
 rintro⟨e,tx,k,v⟩ ⟨h,d,hi,i,f,g⟩;dsimp only at h d hi i f g;subst hi;refine c4l e _ k v ⟨(e,_),⟨Z8,Z8,uA⟩,by rw[h];exact Z3 Z9,(e.X,k),⟨⟨Z8,h,aL,Z6⟩,Z8,d⟩,({e with X:=yJ e.X k},_,v),⟨Z8,Z8,f,g⟩,Z8⟩
def b5E:Con:=.rel ⟨Eng×Int,λx=>[.bref x.1.ts,Ji x.2],λx=>Ji (P7 x.1 x.2).2,λx=>N6 x.1.X.length⟩
theorem nC:GK 64 b5E:=gk func64<|by
 rintro⟨e,tx⟩ (hL:N6 e.X.length);refine S2 (gC oC gN) func64 Y7 (α:=let p:=(P7 e tx).2;br (!e.up) (15=p) (∃(x:(Eng×Int)),(((L0 e x.1)/\tx=x.2/\True)/\N6 x.1.X.length)/\bd (T5 x.1.X x.2<0) (19=p) (0=p))) ⟨λh=>by rw[c5s h],λh=>⟨(e,tx),⟨Z8,hL⟩,λq=>by rw[c5L h q],λq=>by rw[c5m h q]⟩⟩
def b4A:Con:=.reff ⟨Eng×Int,λx=>[.ref 0 0 0,Ji x.2],λx=>x.1.bx 0,λx=>Ji (U3 x.1 x.2).2,λx=>(U3 x.1 x.2).1.nx 0,λx=>R6 x.1=true/\oT x.1⟩
theorem b7k{L:List Txn}{id n:Int}{k:Nat}(hk:k<L.length)(A:T5 L id=k):T5 (L.set k ⟨(L.getD k dz).id,n⟩) id=k:=by
 have g:¬S9 L.length (B9 L id)<0:=by
  have:S9 L.length (B9 L id)=k:=A;omega
 obtain⟨i,hi,hp,f,o⟩:=nN g;have d:i=k:=by
  have:S9 L.length (B9 L id)=k:=A;omega
 subst d;have e:∀j,B9 (L.set i ⟨(L.getD i dz).id,n⟩) id j=B9 L id j:=λj=>by
  unfold B9;by_cases h:j=i
  ·subst h;rw[Q2 (l:=L.set j _),j_j hk]
   rfl
  ·rw[Q2 (l:=L.set i _),j_l (Ne.symm h),←Q2]
 unfold T5;rw[zN];exact P5 hi (by rw[e];exact hp) λj J=>by rw[e];exact f j J
theorem c2r{L:List Txn}{n:Int}{k:Nat}(h:k<L.length):((L.set k ⟨(L.getD k dz).id,n⟩).getD k dz).id=(L.getD k dz).id:=by
 rw[Q2 (l:=L.set k _),j_j h]
 rfl
theorem b2O:GK 30 b4A:=gk func30<|by
 rintro⟨e,tx⟩ ⟨o,B⟩;dsimp only at o B;have C:=c5X tx o;refine w3 (gC nC (gC a5b (gC a31 (gC b8M (gC b9n gN))))) func30 Y7 cJ (α:=let c:=(0=0/\0=0);let q:=(U3 e tx);∃(x:(Eng×Int)),((LeG e)/\((pY e x.1)/\tx=x.2/\True)/\N6 x.1.X.length)/\br ((P7 x.1 x.2).2 !=0) (((P7 x.1 x.2).2=q.2/\True)/\aH (0) (0) e q.1) (∃(x:(Eng×Int×Rec×Nat×Nat)),let pa:=(x.1.s.L.length:Int);let m:=x.2.2.2;let u:=x.2.2.1;let y:=(x.1.s.L++[T0 x.1.s (N5 x.1 m.1 u)]);let r:=(x.1.X.set m.1 (Txn.mk (x.1.X.getD m.1 dz).id (pa+1)));((c/\tx=x.2.1/\(0=u.e/\0=u.l/\0=u.t/\4=u.k/\0=u.p/\0=u.n/\0=u.g/\0=u.s/\[]=u.b/\[]=u.a/\True)/\True)/\(LnG (0) (m.2) e x.1)/\AddB x.1 x.2.1 m.1 u)/\∃(f:(Sto×Int×Nat)),let i:=(W5 f.1 f.2.1);((c/\pa+1=f.2.1/\True)/\(pG {x.1.s with L:=y} f.1/\(Z2 Z5 x.1.s.d.E f.1.d.E)/\(Z2 Y8 x.1.s.d.C f.1.d.C)/\(Z2 Y9 x.1.s.d.keep f.1.d.keep)/\(Z2 Y0 y f.1.L)/\(m.2=f.2.2/\x.1.s.fr.length=f.1.fr.length/\V3 x.1.s.fr.length (Z1 x.1.s.fr) (Z1 f.1.fr))/\True)/\uW f.1 f.2.1)/\br (! i.2) (∃(X:(Eng×Nat)),((c/\True)/\(LnG (f.2.2) (X.2) {x.1 with s:=i.1,X:=r} X.1)/\k6 X.1.s.d)/\(15=q.2/\True)/\aH (0) (0) (b1x X.1) q.1) (∃(X:(Eng×Int×Nat×Nat)),let v:=(List.take X.2.2.1 X.1.X++List.drop (X.2.2.1+1) X.1.X);let z:=(X.1.X.getD X.2.2.1 dz).id;let j:=(X8 (wF z) X.1.lk.W X.1.lk.W.length);let w:=(X8 (hF z) X.1.lk.H X.1.lk.H.length);((c/\tx=X.2.1/\True)/\(LnG (f.2.2) (X.2.2.2) {x.1 with s:=i.1,X:=r} X.1)/\OvB X.1 X.2.1 X.2.2.1)/\(0=q.2/\True)/\BxG {X.1 with X:=v,lk:=⟨w,j⟩} q.1/\T8 ((Z2 Z5 X.1.s.d.E q.1.s.d.E)/\(Z2 Y8 X.1.s.d.C q.1.s.d.C)/\(Z2 Y9 X.1.s.d.keep q.1.s.d.keep)/\(Z2 Y0 X.1.s.L q.1.s.L)/\(X.2.2.2=0/\X.1.s.fr.length=q.1.s.fr.length/\V3 X.1.s.fr.length (Z1 X.1.s.fr) (Z1 q.1.s.fr))/\(Z2 W8 v q.1.X)/\(Z2 Y6 w q.1.lk.H)/\(Z2 Y4 j q.1.lk.W)/\True)))) ⟨(e,tx),⟨Z8,Z8,C.1⟩,λhq=>?_,λhq=>?_⟩
 ·have h0:¬ (P7 e tx).2=0:=by simpa using hq
  have i:U3 e tx=(e,(P7 e tx).2):=by unfold U3;rw[if_neg h0]
  rw[i];exact Z8
 ·have h0:(P7 e tx).2=0:=by simpa using hq
  obtain⟨u,k,q,j,hi,A⟩:=wU h0;obtain⟨J,M,I,v⟩:=w7 (M5 o).2.1;obtain⟨O,l2⟩:=iA v;have r:=(c03 o u A j hi (b6q j)).1;obtain⟨L,F,hd,z⟩:=a0E o u A j hi;refine⟨(e,tx,a1D,k,0),⟨Z8,Z8,r⟩,((oX e k).s,(e.s.L.length+1:Nat),0),⟨Z8,Z8,F⟩,λY=>?_,λY=>?_⟩
  ·have Y:¬ (uY e k).2=true:=λh=>by
    have Y:(!(uY e k).2)=true:=Y;rw[h] at Y;cases Y
   have i:U3 e tx=(b1x (qN e k),15):=by unfold U3;rw[if_pos h0,q,E8,if_neg Y]
   rw[i];exact⟨(qN e k,0),⟨Z8,Z8,hd⟩,Z8⟩
  ·have Y:(uY e k).2=true:=by
    have Y:(!(uY e k).2)=false:=Y
    simpa using Y
   have i:U3 e tx=(a2M (qN e k) k,0):=by unfold U3;rw[if_pos h0,q,E8,if_pos Y]
   have N:(qN e k).X.length=e.X.length:=zN;rw[i];exact⟨(qN e k,tx,k,0),⟨Z8,Z8,b7k j A,X0,(c2r j).trans hi,X0,by show e.lk.H.length<=_;omega,by show e.lk.W.length<=_;omega⟩,⟨rfl,Z6⟩,⟨rfl,rfl,⟨rfl,rfl⟩,⟨rfl,rfl⟩,rfl,⟨rfl,rfl⟩,rfl,⟨rfl,rfl⟩,rfl,⟨rfl,rfl⟩,rfl,rfl,⟨rfl,rfl⟩,⟨rfl,rfl⟩,⟨rfl,rfl⟩,rfl,Z6⟩,Z6,Z6,Z6,Z6,Z6,Z6,Z6,Z6,⟨rfl,W2 _ _⟩,⟨rfl,W2 _ _⟩,⟨rfl,W2 _ _⟩,⟨rfl,W2 _ _⟩,⟨rfl,rfl,iO _⟩,⟨rfl,W2 _ _⟩,⟨rfl,W2 _ _⟩,⟨rfl,W2 _ _⟩,Z6⟩
theorem uK(n:Int):((zZ n).toNat:Int)=n % 256:=by
 unfold zZ;rw[a1V (O9 _),IntKind.wrap_u8]
theorem a7i{n:Int}(h:0<=n)(d:n<=255):((zZ n).toNat:Int)=n:=by
 rw[uK];omega
theorem c34{n:Nat}(h:n<65536):be (zS n)=n:=by
 have d:=uK ((n:Int).fdiv 256);have e:=uK ((n:Int).fdiv 1);rw[Int.fdiv_eq_ediv_of_nonneg _ W6] at d e
 show(0*256+(zZ ((n:Int).fdiv 256)).toNat)*256+(zZ ((n:Int).fdiv 1)).toNat=n;rw[Int.fdiv_eq_ediv_of_nonneg _ W6,Int.fdiv_eq_ediv_of_nonneg _ W6]
 omega
theorem c4L{n:Nat}(h:n<4294967296):be (D5 n)=n:=by
 have e:=uK ((n:Int).fdiv 16777216);have f:=uK ((n:Int).fdiv 65536);have d:=uK ((n:Int).fdiv 256);have g:=uK ((n:Int).fdiv 1);rw[Int.fdiv_eq_ediv_of_nonneg _ W6] at e f d g
 show(((0*256+(zZ ((n:Int).fdiv 16777216)).toNat)*256+(zZ ((n:Int).fdiv 65536)).toNat)*256+(zZ ((n:Int).fdiv 256)).toNat)*256+(zZ ((n:Int).fdiv 1)).toNat=n;rw[Int.fdiv_eq_ediv_of_nonneg _ W6,Int.fdiv_eq_ediv_of_nonneg _ W6,Int.fdiv_eq_ediv_of_nonneg _ W6,Int.fdiv_eq_ediv_of_nonneg _ W6]
 omega
theorem b5R(l:Bz):P4 (l++D5 (m7 l))=true/\V7 (l++D5 (m7 l))=l:=by
 have d:(D5 (m7 l)).length=4:=rfl;have L:(l++D5 (m7 l)).length-4=l.length:=by rw[J3,d];omega
 have h:(l++D5 (m7 l)).take l.length=l:=List.take_left;have hd:(l++D5 (m7 l)).drop l.length=D5 (m7 l):=List.drop_left;have ok:P4 (l++D5 (m7 l))=true:=by
  unfold P4;rw[L,h,hd,c4L (a1k l),J3,d];simp
 refine⟨ok,?_⟩
 unfold V7;rw[if_pos ok,L,h]
def b43(L:List (Bz)):Prop:=L.length<=100/\∀i,i<L.length->(L.getD i []).length<=255
theorem kE(L:List (Bz))(i:Nat):∀k,∃r,W4 L (i+k)=W4 L i++r
 |0=>⟨[],X3⟩
 |k+1=>by
  obtain⟨r,h⟩:=kE L i k;refine⟨r++[zZ (L.getD (i+k) []).length]++L.getD (i+k) [],?_⟩
  show W4 L (i+k)++[zZ (L.getD (i+k) []).length]++L.getD (i+k) []=_;rw[h];simp only[List.append_assoc]
theorem a74{α:Type}(d:α)(L:List α){i:Nat}(h:i<L.length):L.take (i+1)=L.take i++[L.getD i d]:=by
 rw[List.take_add_one,Q2,J5 h]
 rfl
theorem b28{L:List (Bz)}(h:b43 L):∀i,i<=L.length->wS (S3 L) i=some ((W4 L i).length,L.take i)
 |0,_=>rfl
 |i+1,hi=>by
  obtain⟨r,R⟩:=kE L (i+1) (L.length- (i+1));rw[show i+1+(L.length- (i+1))=L.length by omega] at R
  have C:((zZ (L.getD i []).length).toNat:Int)=(L.getD i []).length:=a7i Z9 (by have:=h.2 i Z9;omega)
  have B:S3 L=W4 L i++([zZ (L.getD i []).length]++(L.getD i []++r)):=by
   unfold S3;rw[R];show W4 L i++[zZ (L.getD i []).length]++L.getD i []++r=_;simp only[List.append_assoc]
  have g:(S3 L).getD (W4 L i).length 0=zZ (L.getD i []).length:=by
   rw[B,Q2,rL (U9 _)]
   simp
  have l:(S3 L).length=(W4 L i).length+(1+((L.getD i []).length+r.length)):=by rw[B];simp only[J3,List.length_cons,List.length_nil]
  have n:(zZ (L.getD i []).length).toNat=(L.getD i []).length:=Z9
  have e:List.drop ((W4 L i).length+1) (List.take ((W4 L i).length+1+(L.getD i []).length) (S3 L))=L.getD i []:=by
   rw[B,←List.append_assoc,←List.append_assoc];rw[List.take_left' (by simp only[J3,List.length_cons,List.length_nil]),List.drop_left' (by simp only[J3,List.length_cons,List.length_nil])]
  conv=>lhs;unfold wS
  rw[b28 h i Z9]
  dsimp only;rw[g,n,if_pos ⟨Z9,Z9⟩,e,a74 [] L Z9]
  congr 2
  simp only[W4,J3,List.length_cons,List.length_nil]
theorem a0t{L:List (Bz)}(h:b43 L):K7 (S3 L)=some L:=by
 obtain⟨r,R⟩:=kE L 0 L.length;rw[E5] at R;have C:((zZ L.length).toNat:Int)=L.length:=a7i Z9 (by have:=h.1;omega)
 have f:w6 (S3 L)=L.length:=by
  unfold w6 S3;rw[R];show(zZ L.length).toNat=_;omega
 have l:(S3 L).length≠0:=by
  unfold S3;rw[R];simp[W4]
 unfold K7;rw[f,if_neg (by have:=h.1;omega),b28 h _ (U9 _)]
 dsimp only;rw[show(W4 L L.length).length=(S3 L).length from rfl,if_pos rfl,dC]
theorem c53{no:Int}{p:Pg}(h:PgP p)(t:0<=no)(v:no<=255):G0 no (Q4 no p)=(p,true):=by
 obtain⟨l,q,j,d⟩:=h;obtain⟨U,u⟩:=b5R (tL no p);have hF:b43 p.sl:=⟨Z9,λi hi=>Nat.le_trans (d i hi) W6⟩
 obtain⟨r,R⟩:=kE p.sl 0 p.sl.length;have n:1<=(S3 p.sl).length:=by
  unfold S3;rw[←E5 p.sl.length,R];simp[W4]
 have f:tL no p=R4 112::zZ no::(zS p.Q.toNat++S3 p.sl):=by unfold tL;simp
 have e:(zS p.Q.toNat).length=2:=rfl;have o:wA no (tL no p)=true:=by
  unfold wA;rw[f];simp only[List.length_cons,J3,e,M1,i5];exact⟨Z9,rfl,a7i t v⟩
 have g:(tL no p).drop 4=S3 p.sl:=by
  unfold tL;exact List.drop_left' (by simp[e])
 have d2:((tL no p).drop 2).take 2=zS p.Q.toNat:=by
  rw[f];exact List.take_left' e
 have x:pgX (tL no p)=p:=by
  unfold pgX;rw[g,d2,a0t hF,c34 Z9,Option.getD_some,show((p.Q.toNat:Nat):Int)=p.Q by omega]
 have ok:o9 p=true:=mN ⟨l,q,j,d⟩;unfold G0 Q4;rw[U,u,o,x,g,a0t hF,ok];rfl
theorem b6D(L:List (Bz))(h:∀i,i<L.length->(L.getD i []).length<=30):∀i,i<=L.length->(W4 L i).length<=1+31*i
 |0,_=>by simp[W4]
 |i+1,hi=>by
  have d:=b6D L h i Z9
  have e:=h i Z9
  simp only[W4,J3,List.length_cons,List.length_nil];omega
theorem c1a{no:Int}{p:Pg}(h:PgP p):(Q4 no p).length<=160/\Q4 no p≠[]:=by
 obtain⟨j,n,i,d⟩:=h;have:=b6D p.sl d p.sl.length (U9 _);have f:(D5 (m7 (tL no p))).length=4:=rfl;have g:(zS p.Q.toNat).length=2:=rfl;have l:(Q4 no p).length=8+(S3 p.sl).length:=by
  unfold Q4;rw[J3,f];unfold tL;simp only[J3,List.length_cons,List.length_nil,g];omega
 refine⟨by rw[l];unfold S3;omega,λe=>?_⟩
 rw[e] at l;simp at l;omega
structure SI(s:Sto):Prop where
 iv:SInv s
 dw:c0t s.d
 pl:∀no,no<8->(U4 s.d no).1.Q<=s.L.length
theorem b5I{d:Dsk}(h:k6 d)(e:d.E.length=69):c0t d:=by
 obtain⟨o,n,q,g,l,f,j⟩:=h;exact⟨e,g,l,f,λi hi=>(fY (j i hi)).2.2⟩
theorem c6i{s:Sto}(h:H7 s=true)(M:SmS s):SI s:=by
 have hd:=((y6 s).1 ((K3 s).1 h).1.1);refine⟨a8n h M,b5I hd.1 hd.2.1,λno n=>?_⟩
 have B:=((K3 s).1 h).2.2.1 no n;have d:=rB ((K3 s).1 h).1.2.2;unfold i7 at B;simp only[yY,pT] at B;omega
theorem b9U{L:List Txn}{n:Int}{k:Nat}(h:k<L.length):((L.set k ⟨(L.getD k dz).id,n⟩).getD k dz).id=(L.getD k dz).id:=by
 rw[Q2 (l:=L.set k _),j_j h]
 rfl
def b6U(r:Rec):Rec:=⟨0,0,0,3,0,r.p,r.g,r.s,[],r.b⟩
def c59(e:Eng)(k:Nat)(r:Rec):Rec:=T0 e.s (N5 e k (b6U r))
def c2t(e:Eng)(k:Nat)(r:Rec):Eng×Bool:=({x4 e k (b6U r) with s:=(S0 (x4 e k (b6U r)).s (c59 e k r)).1},(S0 (x4 e k (b6U r)).s (c59 e k r)).2)
def c5f(e:Eng)(k:Nat)(r:Rec)(v:Nat):Nat:=O5 (x4 e k (b6U r)).s r.g.toNat v
def b9v(k:Nat)(to:Int):Nat->Eng->Nat->Int->(Eng×Nat)×Bool
 |0,e,v,_=>((e,v),true)
 |f+1,e,v,a=>if a<=to then((e,v),true) else if(X9 e.s.L a).k=3 then b9v k to f e v (X9 e.s.L a).n
  else if(X9 e.s.L a).k=2 then(if(c2t e k (X9 e.s.L a)).2=true then b9v k to f (c2t e k (X9 e.s.L a)).1 (c5f e k (X9 e.s.L a) v) (X9 e.s.L a).p else(((c2t e k (X9 e.s.L a)).1,c5f e k (X9 e.s.L a) v),false))
  else b9v k to f e v (X9 e.s.L a).p
structure UE(e:Eng)(k:Nat)(tx:Int):Prop where
 si:SI e.s
 at_:T5 e.X tx=k
 lt:k<e.X.length
 id:(e.X.getD k dz).id=tx
 txr:1<=tx/\tx<=60
 la:1<=(e.X.getD k dz).Z/\(e.X.getD k dz).Z<=e.s.L.length
 ep:1<=e.s.ep/\e.s.ep<=60
 t10:e.X.length<=10
 lk:e.lk.H.length<=60/\e.lk.W.length<=100
 rm:e.s.L.length+1<=60
structure UI(e:Eng)(k:Nat)(tx a:Int):Prop where
 u:UE e k tx
 ar:0<=a/\a<=(e.s.L.length:Int)
 fu:∃f,a.toNat<f/\e.s.L.length+1+und e.s.L f a<=60
theorem sQ{L:List Rec}{x:Rec}(d:o8 L):∀(f:Nat) (a:Int),a<=L.length->und (L++[x]) f a=und L f a
 |0,_,_=>rfl
 |f+1,a,ha=>by
  unfold und;by_cases h:a<=0
  ·rw[if_pos h,if_pos h]
  ·have e:X9 (L++[x]) a=X9 L a:=by
    unfold X9;rw[Q2,tT Z9,←Q2]
   obtain⟨j,l,g,i⟩:=d.prev (show 1<=a by omega) ha
   rw[if_neg h,if_neg h,e,sQ d f _ Z9,sQ d f _ Z9]
theorem tQ(e:Eng)(k:Nat)(r:Rec):(x4 e k r).s.L.length=e.s.L.length+1:=by
 show(e.s.L++[_]).length=_;simp
theorem b7b{L:List Rec}{T:List Txn}{k:Nat}:∀n,k<n->1+und L 61 (T.getD k dz).Z<=v8 L T n
 |0,h=>absurd h (J9 k)
 |n+1,h=>by
  unfold v8;by_cases e:k=n
  ·subst e;omega
  ·have:=b7b (L:=L) (T:=T) (k:=k) n Z9
   omega
theorem c5z{e:Eng}{tx:Int}{k:Nat}(h:R6 e=true)(M:x8 e)(u:e.up=true)(j:T5 e.X tx=k)(f:k<e.X.length)(hi:(e.X.getD k dz).id=tx):UI e k tx (e.X.getD k dz).Z:=by
 obtain⟨i,q,r,A⟩:=w7 (M5 h).2.1;have l:=a8m h u f;have n:=b6m h u f;have o:=a8w h u;have d:=b7b (L:=e.s.L) (T:=e.X) e.X.length f;have d:1+und e.s.L 61 (e.X.getD k dz).Z<=c9 e:=d;have g:=(rQ (M5 h).1).1;exact⟨⟨c6i (M5 h).1 M.1,j,f,hi,Z9,l,a7h (M5 h).1,i,iA A,Z9⟩,Z9,61,Z9,Z9⟩
def b6p(k:Nat):Option Ob:=some (.arr false 1000000 1 1 λ_=>[.ref k 0 0])
def a6e(b:Bool):Option Ob:=some (.arr true 1000000 1 1 λ_=>[.bool b])
structure UdI(u0:(Eng×Nat)×Bool)(k:Nat)(tx to:Int) where
 e:Eng
 v:Nat
 a:Int
 f:Nat
 h:UI e k tx a
 hf:a.toNat<f
 eq:b9v k to f e v a=u0
theorem a3X{a:Bool}(h:(!a)=true):a=false:=by cases a with|true=>cases h|false=>rfl
end
end Go.Proofs.YtlbmgnomkjmafaaGreat
