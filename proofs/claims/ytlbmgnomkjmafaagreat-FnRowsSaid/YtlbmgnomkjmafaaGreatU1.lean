/- A part of the proof. -/
import Derived.Test.YtlbmgnomkjmafaaGreatX1
import Derived.Test.YtlbmgnomkjmafaaGreatE4
import Derived.WalkKit
import Derived.Deep.RegionLaw
import Derived.Deep.LoopGhost
import Derived.Lib.SliceRun
import Derived.Deep.MidRow
import Derived.Shelf.RegionOpenPlain
import Derived.Laws.IdiomCopy
namespace Go.Proofs.YtlbmgnomkjmafaaGreat
set_option maxRecDepth 100000
open Go.SS Go.Proofs.Tryz
noncomputable section
def jP(L:List Txn):Option Ob:=some (.arr true 0 2 L.length (V1 L))
theorem aJ(L:List Txn):D6 [jP L]:=C3 (λi _ t h=>by
 simp only[V1,Txn.ts,vT,j_h,or_false] at h;rcases h with rfl|rfl<;>rfl) y0
def c0a:Con:=.rmk ⟨List Txn,λL=>[a3s L],λ_=>[],λL=>.osl 0 0 L.length,λL=>[jP L],λL=>L.length<=1048576⟩
theorem b9z(L:List Txn)(h:
  ∀(b:Bool),(b=true->L.length=0)->br b (((0=0/\0=L.length)/\True)/\(0=L.length/\Z7 0 (λ(x:Nat)=>[]) (V1 L))/\True) ((Le 0 0/\U9 0 L.length 16)/\((0=0/\0+L.length=L.length)/\True)/\(0+L.length=L.length/\Z7 (0+L.length) (X7 (tk 2 []) 0 (V1 L)) (V1 L))/\True)):
  H6 prog 50 [a3s L] [] (.osl 0 0 L.length) [jP L]:=
 r5 gN func50 Y9 b6U h
theorem b5J:GK 50 c0a:=gk func50<|λ(L:List Txn) (hL:L.length<=1048576)=>
 ⟨b9z L (λb B=>⟨λh=>⟨⟨⟨rfl,(B h).symm⟩,Z6⟩,⟨(B h).symm,λi hi=>absurd hi (J5 _)⟩,Z6⟩,λ_=>⟨⟨V8 _,R1⟩,⟨⟨rfl,Z9⟩,Z6⟩,⟨Z9,x9⟩,Z6⟩⟩),rfl,aJ L⟩
def tP(L:List Lck):Option Ob:=some (.arr true 0 4 L.length (Y7 L))
theorem a0B(L:List Lck):D6 [tP L]:=C3 (λi _ t h=>by
 simp only[Y7,Lck.ts,vT,j_h,or_false] at h;rcases h with rfl|rfl|rfl|rfl<;>rfl) y0
def b8E:Con:=.rmk ⟨List Lck,λL=>[a1V L],λ_=>[],λL=>.osl 0 0 L.length,λL=>[tP L],λL=>L.length<=1048576⟩
theorem b8C(L:List Lck)(h:
  ∀(b:Bool),(b=true->L.length=0)->br b (((0=0/\0=L.length)/\True)/\(0=L.length/\Z7 0 (λ(x:Nat)=>[]) (Y7 L))/\True) ((Le 0 0/\U9 0 L.length 32)/\((0=0/\0+L.length=L.length)/\True)/\(0+L.length=L.length/\Z7 (0+L.length) (X7 (tk 4 []) 0 (Y7 L)) (Y7 L))/\True)):
  H6 prog 108 [a1V L] [] (.osl 0 0 L.length) [tP L]:=
 r5 gN func108 Y9 [[.arr 1],[.nilS 0 [] 0 4,.arr 0]] h
theorem b4H:GK 108 b8E:=gk func108<|λ(L:List Lck) (hL:L.length<=1048576)=>
 ⟨b8C L (λb B=>⟨λh=>⟨⟨⟨rfl,(B h).symm⟩,Z6⟩,⟨(B h).symm,λi hi=>absurd hi (J5 _)⟩,Z6⟩,λ_=>⟨⟨V8 _,R1⟩,⟨⟨rfl,Z9⟩,Z6⟩,⟨Z9,x9⟩,Z6⟩⟩),rfl,a0B L⟩
def pZ(L:List Wt):Option Ob:=some (.arr true 0 2 L.length (Y5 L))
theorem nL(L:List Wt):D6 [pZ L]:=C3 (λi _ t h=>by
 simp only[Y5,Wt.ts,vT,j_h,or_false] at h;rcases h with rfl|rfl<;>rfl) y0
def c3t:Con:=.rmk ⟨List Wt,λL=>[wtS L],λ_=>[],λL=>.osl 0 0 L.length,λL=>[pZ L],λL=>L.length<=1048576⟩
theorem c4b(L:List Wt)(h:
  ∀(b:Bool),(b=true->L.length=0)->br b (((0=0/\0=L.length)/\True)/\(0=L.length/\Z7 0 (λ(x:Nat)=>[]) (Y5 L))/\True) ((Le 0 0/\U9 0 L.length 16)/\((0=0/\0+L.length=L.length)/\True)/\(0+L.length=L.length/\Z7 (0+L.length) (X7 (tk 2 []) 0 (Y5 L)) (Y5 L))/\True)):
  H6 prog 109 [wtS L] [] (.osl 0 0 L.length) [pZ L]:=
 r5 gN func109 Y9 b6U h
theorem b9c:GK 109 c3t:=gk func109<|λ(L:List Wt) (hL:L.length<=1048576)=>
 ⟨c4b L (λb B=>⟨λh=>⟨⟨⟨rfl,(B h).symm⟩,Z6⟩,⟨(B h).symm,λi hi=>absurd hi (J5 _)⟩,Z6⟩,λ_=>⟨⟨V8 _,R1⟩,⟨⟨rfl,Z9⟩,Z6⟩,⟨Z9,x9⟩,Z6⟩⟩),rfl,nL L⟩
def c5C:Con:=.tmp
theorem Q5:GK 37 c5C:=gk func37<|trivial
def c4s:Con:=.tmp
theorem b9w:GK 78 c4s:=gk func78<|trivial
def c5l:Con:=.tmp
theorem c1h:GK 155 c5l:=gk func155<|trivial
def Lks.tm(l:Lks)(b:Nat):List T:=[.osl b 0 l.H.length,.osl (b+1) 0 l.W.length]
def Lks.hp(l:Lks):Y4:=[tP l.H,pZ l.W]
theorem mE(l:Lks):D6 l.hp:=k6 (a0B _) (nL _)
def b9O:Con:=.rmk ⟨Lks,λl=>[.agg l.ts],λ_=>[],λl=>.agg (l.tm 0),λl=>l.hp,kO⟩
theorem b3U:GK 51 b9O:=gk func51<|by
 rintro(l:Lks) ⟨h1,h2⟩;exact⟨r5 (gC b4H (gC b9c gN)) func51 Y9 [[.arr 2,.arr 3]] (α:=∃(x:(List Lck)),let p:=x.length;(((Z2 Y7 l.H x)/\True)/\p<=1048576)/\∃(X:(List Wt)),(((Z2 Y5 l.W X)/\True)/\X.length<=1048576)/\(((0=0/\p=l.H.length)/\(0=0/\X.length=l.W.length)/\True)/\True)/\(p=l.H.length/\Z7 (p) (Y7 x) (Y7 l.H))/\(X.length=l.W.length/\Z7 (X.length) (Y5 X) (Y5 l.W))/\True) ⟨l.H,⟨Z8,h1⟩,l.W,⟨Z8,h2⟩,Z8⟩,rfl,mE l⟩
def b7H:Con:=.rel ⟨Lks,λl=>[.agg l.ts],λl=>.agg l.ts,kO⟩
theorem b2c:GK 79 b7H:=gk func79<|by
 rintro(l:Lks) ⟨h1,h2⟩;exact S1 (gC Q5 (gC b9w (gC c1h gN))) func79 Y9 (α:=U9 0 l.H.length 32/\U9 0 l.W.length 16/\(Z2 Y7 l.H l.H)/\(Z2 Y5 l.W l.W)/\True) ⟨R1,R1,Z8⟩
def Eng.tm(e:Eng)(b:Nat):List T:=[.osl b 0 e.s.d.E.length,.osl (b+1) 0 e.s.d.C.length,.bool e.s.d.A,.osl (b+2) 0 e.s.d.keep.length,Ji e.s.ep,.osl (b+3) 0 e.s.L.length,Ji e.s.S,.osl (b+4) 0 e.s.fr.length,Ji e.s.J,.bool e.up,.osl (b+5) 0 e.X.length,.osl (b+6) 0 e.lk.H.length,.osl (b+7) 0 e.lk.W.length,Ji e.N]
def Eng.hp(e:Eng)(v:Nat):Y4:=[x4 e.s.d.E,B4 e.s.d.C,z6 e.s.d.keep,xW e.s.L,vE v e.s.fr e.s.fr.length,jP e.X,tP e.lk.H,pZ e.lk.W]
abbrev nA(a b:Eng):Prop:=Z2 Z5 a.s.d.E b.s.d.E/\Z2 Y6 a.s.d.C b.s.d.C/\a.s.d.A=b.s.d.A/\Z2 Y8 a.s.d.keep b.s.d.keep/\a.s.ep=b.s.ep/\Z2 Y0 a.s.L b.s.L/\a.s.S=b.s.S/\(a.s.fr.length=b.s.fr.length/\Z7 a.s.fr.length (a6C (Z0 a.s.fr)) (V2 b.s.fr))/\a.s.J=b.s.J/\a.up=b.up/\Z2 V1 a.X b.X/\Z2 Y7 a.lk.H b.lk.H/\Z2 Y5 a.lk.W b.lk.W/\a.N=b.N/\True
abbrev c7A(a b:Eng):Prop:=((0:Nat)=0/\a.s.d.E.length=b.s.d.E.length)/\((0:Nat)=0/\a.s.d.C.length=b.s.d.C.length)/\a.s.d.A=b.s.d.A/\((0:Nat)=0/\a.s.d.keep.length=b.s.d.keep.length)/\a.s.ep=b.s.ep/\((0:Nat)=0/\a.s.L.length=b.s.L.length)/\a.s.S=b.s.S/\((0:Nat)=0/\a.s.fr.length=b.s.fr.length)/\a.s.J=b.s.J/\a.up=b.up/\((0:Nat)=0/\a.X.length=b.X.length)/\((0:Nat)=0/\a.lk.H.length=b.lk.H.length)/\((0:Nat)=0/\a.lk.W.length=b.lk.W.length)/\a.N=b.N/\True
abbrev a42(v u:Nat)(a b:Eng):Prop:=Z2 Z5 a.s.d.E b.s.d.E/\Z2 Y6 a.s.d.C b.s.d.C/\Z2 Y8 a.s.d.keep b.s.d.keep/\Z2 Y0 a.s.L b.s.L/\(v=u/\a.s.fr.length=b.s.fr.length/\U7 a.s.fr.length (Z0 a.s.fr) (Z0 b.s.fr))/\Z2 V1 a.X b.X/\Z2 Y7 a.lk.H b.lk.H/\Z2 Y5 a.lk.W b.lk.W/\True
abbrev BxG(a b:Eng):Prop:=(1:Nat)=1/\(1:Nat)=1/\c7A a b
abbrev LnG(v u:Nat)(a b:Eng):Prop:=BxG a b/\a42 v u a b
abbrev NxG(v u:Nat)(a b:Eng):Prop:=BxG a b/\True/\True/\True/\True/\True/\True/\True/\True/\a42 v u a b
abbrev LeG(a:Eng):Prop:=Le (0+a.s.d.E.length) a.s.d.E.length/\Le (0+a.s.d.C.length) a.s.d.C.length/\Le (0+a.s.d.keep.length) a.s.d.keep.length/\Le (0+a.s.L.length) a.s.L.length/\Le (0+a.s.fr.length) a.s.fr.length/\Le (0+a.X.length) a.X.length/\Le (0+a.lk.H.length) a.lk.H.length/\Le (0+a.lk.W.length) a.lk.W.length
theorem b3m(e:Eng)(v:Nat):D6 (e.hp v):=k6 (H:=e.s.hp v) (mF _ _) (k6 (H:=[jP e.X]) (aJ _) (mE e.lk))
def b9I:Con:=.rmk ⟨Eng,λe=>[.agg e.ts],λ_=>[],λe=>.agg (e.tm 0),λe=>e.hp 0,g9⟩
theorem mT:GK 22 b9I:=gk func22<|by
 rintro(e:Eng) ⟨h1,h2,h3⟩;exact⟨r5 (gC b3C (gC b5J (gC b3U gN))) func22 Y9 [[.arr 2,.arr 3,.arr 4,.arr 5,.arr 6,.arr 7,.arr 8,.arr 9]] (α:=∃(x:Sto),(((o6 e.s x)/\True)/\SmS x)/\∃(f:(List Txn)),let p:=f.length;(((Z2 V1 e.X f)/\True)/\p<=1048576)/\∃(X:Lks),((((Z2 Y7 e.lk.H X.H)/\(Z2 Y5 e.lk.W X.W)/\True)/\True)/\kO X)/\(((0=0/\x.d.E.length=e.s.d.E.length)/\(0=0/\x.d.C.length=e.s.d.C.length)/\x.d.A=e.s.d.A/\(0=0/\x.d.keep.length=e.s.d.keep.length)/\x.ep=e.s.ep/\(0=0/\x.L.length=e.s.L.length)/\x.S=e.s.S/\(0=0/\x.fr.length=e.s.fr.length)/\x.J=e.s.J/\e.up=e.up/\(0=0/\p=e.X.length)/\(0=0/\X.H.length=e.lk.H.length)/\(0=0/\X.W.length=e.lk.W.length)/\e.N=e.N/\True)/\True)/\(Z2 Z5 x.d.E e.s.d.E)/\(Z2 Y6 x.d.C e.s.d.C)/\(Z2 Y8 x.d.keep e.s.d.keep)/\(Z2 Y0 x.L e.s.L)/\(0=0/\x.fr.length=e.s.fr.length/\U7 x.fr.length (Z0 x.fr) (Z0 e.s.fr))/\(p=e.X.length/\Z7 (p) (V1 f) (V1 e.X))/\(Z2 Y7 X.H e.lk.H)/\(Z2 Y5 X.W e.lk.W)/\True) ⟨e.s,⟨⟨(jO _),Z6⟩,h1⟩,e.X,⟨Z8,h2⟩,e.lk,⟨Z8,h3⟩,Z8⟩,rfl,b3m e 0⟩
def b4D:Con:=.rel ⟨Eng,λe=>[.agg e.ts],λe=>.agg e.ts,g9⟩
theorem aL:GK 37 b4D:=gk func37<|by
 rintro(e:Eng) ⟨h1,h2,h3⟩;exact S1 (gC b1v (gC b2c gN)) func37 Y9 (α:=let p:=(0+e.X.length);∃(x:Sto),let q:=x.fr.length;(((o6 e.s x)/\True)/\SmS x)/\(Le 0 0/\U9 0 e.X.length 16)/\∃(X:Lks),((((Z2 Y7 e.lk.H X.H)/\(Z2 Y5 e.lk.W X.W)/\True)/\True)/\kO X)/\(Le (0+x.d.E.length) x.d.E.length/\Le (0+x.d.C.length) x.d.C.length/\Le (0+x.d.keep.length) x.d.keep.length/\Le (0+x.L.length) x.L.length/\Le (0+q) q/\Le (0+p) p)/\(Z2 Z5 x.d.E e.s.d.E)/\(Z2 Y6 x.d.C e.s.d.C)/\x.d.A=e.s.d.A/\(Z2 Y8 x.d.keep e.s.d.keep)/\x.ep=e.s.ep/\(Z2 Y0 x.L e.s.L)/\x.S=e.s.S/\(q=e.s.fr.length/\Z7 x.fr.length (a6C (Z0 x.fr)) (V2 e.s.fr))/\x.J=e.s.J/\e.up=e.up/\(0+e.X.length=e.X.length/\Z7 p (X7 (tk 2 []) 0 (V1 e.X)) (V1 e.X))/\(Z2 Y7 X.H e.lk.H)/\(Z2 Y5 X.W e.lk.W)/\e.N=e.N/\True) ⟨e.s,⟨⟨(jO _),Z6⟩,h1⟩,⟨V8 _,R1⟩,e.lk,⟨Z8,h3⟩,⟨aU _,aU _,aU _,aU _,aU _,L6⟩,Z8,Z8,rfl,Z8,rfl,Z8,rfl,Z8,rfl,rfl,⟨Z9,x9⟩,Z8⟩
def Eng.tn(e:Eng)(a b c d f g h i:Nat):List T:=[.osl a 0 e.s.d.E.length,.osl b 0 e.s.d.C.length,.bool e.s.d.A,.osl c 0 e.s.d.keep.length,Ji e.s.ep,.osl d 0 e.s.L.length,Ji e.s.S,.osl f 0 e.s.fr.length,Ji e.s.J,.bool e.up,.osl g 0 e.X.length,.osl h 0 e.lk.H.length,.osl i 0 e.lk.W.length,Ji e.N]
def iC(l:List T):Option Ob:=some (.arr false 1000000 14 1 λ_=>l)
def Eng.bx(e:Eng)(v:Nat):Y4:=[iC (e.tn 1 2 3 4 5 6 7 8),x4 e.s.d.E,B4 e.s.d.C,z6 e.s.d.keep,xW e.s.L,vE v e.s.fr e.s.fr.length,jP e.X,tP e.lk.H,pZ e.lk.W]
def Eng.nx(e:Eng)(v:Nat):Y4:=[iC (e.tn 9 10 11 12 13 14 15 16),none,none,none,none,none,none,none,none,x4 e.s.d.E,B4 e.s.d.C,z6 e.s.d.keep,xW e.s.L,vE v e.s.fr e.s.fr.length,jP e.X,tP e.lk.H,pZ e.lk.W]
def y5:Eng:=⟨c7E,false,[],⟨[],[]⟩,0⟩
def apx(s:Sto)(r:Rec):Sto:=⟨s.d,s.ep,s.L++[T1 s r],s.S,s.fr,s.J⟩
def M2(e:Eng)(k:Nat)(r:Rec):Rec:={r with t:=(e.X.getD k dz).id,p:=(e.X.getD k dz).Z}
def y7(e:Eng)(k:Nat)(r:Rec):Eng:={e with s:=apx e.s (M2 e k r),X:=e.X.set k ⟨(e.X.getD k dz).id,(e.s.L.length:Int)+1⟩}
structure AddB(e:Eng)(tx:Int)(k:Nat)(r:Rec):Prop where
 at_:S8 e.X tx=k
 lt:k<e.X.length
 id:(e.X.getD k dz).id=tx
 ok:L9 (T1 e.s (M2 e k r))=true
 tl:e.X.length<=1000
 ll:e.s.L.length<=1000
 sm:SmR r
def c7u:Con:=.reff ⟨Eng×Int×Rec×Nat×Nat,λx=>[.ref 0 0 0,Ji x.2.1,.agg x.2.2.1.ts],λx=>x.1.bx x.2.2.2.2,λx=>.agg (T1 x.1.s (M2 x.1 x.2.2.2.1 x.2.2.1)).ts,λx=>(y7 x.1 x.2.2.2.1 x.2.2.1).nx x.2.2.2.2,λx=>AddB x.1 x.2.1 x.2.2.2.1 x.2.2.1⟩
theorem a8W{L:List Txn}{k:Nat}{n:Int}(d:k<L.length)(j:Nat):setRow (V1 L) k 1 [Ji n] j=V1 (L.set k ⟨(L.getD k dz).id,n⟩) j:=by
 by_cases h:j=k
 ·subst h;rw[gY (by show 1<2;decide)]
  unfold V1;rw[R2 (l:=L.set j _),j_j d]
  rfl
 ·rw[K7 (by show 1+1<=2;decide) h]
  unfold V1;rw[R2 (l:=L.set k _),j_k (Ne.symm h),←R2]
theorem c0o{s:Sto}{r:Rec}(h:L9 (T1 s r)=true):P9 s r=apx s r:=by unfold P9;rw[if_pos h];rfl
theorem a4n(s:Sto)(r:Rec):(apx s r).L.getD s.L.length dz=T1 s r:=by
 show(s.L++[T1 s r]).getD _ _=_;rw[R2,tG (V8 _)]
 simp
theorem c2J:GK 53 c7u:=gk func53<|by
 rintro⟨e,tx,r,k,v⟩ ⟨A,h,i,f,q,L,M⟩;dsimp only at A h i f q L M;have hl:(apx e.s (M2 e k r)).L.length=e.s.L.length+1:=by show(e.s.L++[_]).length=_;simp
 have o:e.s.L.length<=60:=by
  have:=(Q6 _).1 f;have:=this.2.2.2.1;have u:(T1 e.s (M2 e k r)).l=(e.s.L.length:Int)+1:=rfl;omega
 refine r5 (gC jB (gC kZ gN)) func53 Y9 a8w (α:=let c:=(e.s.L.length:Int);let f:=(e.s.L++[T1 e.s (M2 e k r)]);let m:=(e.X.getD k dz);let w:=(e.X.set k (Txn.mk m.id (c+1)));∃(x:(Eng×Int)),let y:=(0+(S8 x.1.X x.2).toNat);let i:=(e.X.getD y dz).Z;((LeG e)/\((nA e x.1)/\tx=x.2/\True)/\M1 x.1.X.length)/\V7 (S8 x.1.X x.2) e.X.length/\Lt y e.X.length/\∃(X:a4H.ι),let z:=(P9 X.1 X.2.1);let j:=z.L.length;let q:=((bif y.beq y then(↑j:Int) else i)-1);let u:=(z.L.getD (0+q.toNat) dz);(((0=0/\0=0)/\(r.e=X.2.1.e/\r.l=X.2.1.l/\tx=X.2.1.t/\r.k=X.2.1.k/\i=X.2.1.p/\r.n=X.2.1.n/\r.g=X.2.1.g/\r.s=X.2.1.s/\r.b=X.2.1.b/\r.a=X.2.1.a/\True)/\True)/\(LnS (v) (X.2.2) e.s X.1)/\X.1.L.length<=60/\SmR X.2.1)/\Lt y e.X.length/\Lt y e.X.length/\Ri q/\V7 q j/\Lt (0+q.toNat) j/\((u.e=e.s.ep/\u.l=c+1/\u.t=m.id/\u.k=r.k/\u.p=m.Z/\u.n=r.n/\u.g=r.g/\u.s=r.s/\u.b=r.b/\u.a=r.a/\True)/\True)/\(oo ((0=0/\z.d.E.length=e.s.d.E.length)/\(0=0/\z.d.C.length=e.s.d.C.length)/\z.d.A=e.s.d.A/\(0=0/\z.d.keep.length=e.s.d.keep.length)/\z.ep=e.s.ep/\(0=0/\j=f.length)/\z.S=e.s.S/\(0=0/\z.fr.length=e.s.fr.length)/\z.J=e.s.J/\e.up=e.up/\(0=0/\e.X.length=w.length)/\(0=0/\e.lk.H.length=e.lk.H.length)/\(0=0/\e.lk.W.length=e.lk.W.length)/\e.N=e.N/\True))/\T8 ((Z2 Z5 z.d.E e.s.d.E)/\(Z2 Y6 z.d.C e.s.d.C)/\(Z2 Y8 z.d.keep e.s.d.keep)/\(Z2 Y0 z.L f)/\(X.2.2=v/\z.fr.length=e.s.fr.length/\U7 z.fr.length (Z0 z.fr) (Z0 e.s.fr))/\(e.X.length=w.length/\Z7 e.X.length (setRow (V1 e.X) y 1 [Ji (↑j:Int)]) (V1 w))/\(Z2 Y7 e.lk.H e.lk.H)/\(Z2 Y5 e.lk.W e.lk.W)/\True)) ⟨(e,tx),⟨Z8,Z8,qJ⟩,?_⟩
 dsimp only;rw[A,G2,C9];refine⟨Y3 h,h,(e.s,M2 e k r,v),⟨⟨Z8,⟨rfl,rfl,i.symm,Z8⟩,Z6⟩,Z8,o,M⟩,h,h,?_⟩
 dsimp only;rw[c0o f,Nat.beq_refl,cond_true];have hx:(0+(((apx e.s (M2 e k r)).L.length:Int)-1).toNat)=e.s.L.length:=Z9
 rw[hx,a4n];refine⟨Z3 Z9,⟨Z9,Z9⟩,H9,Z8,⟨rfl,rfl,Z8,Z8,rfl,Z8,rfl,Z8,rfl,Z8,rfl,rfl,⟨rfl,(yT ..).symm⟩,Z8⟩,Z6,Z6,Z6,Z6,Z6,Z6,Z6,Z6,Z8,Z8,Z8,Z8,Z8,⟨(yT ..).symm,λj _=>?_⟩,Z8⟩
 rw[a8W h,hl];rfl
def jN:Rec:=⟨0,0,0,1,0,0,0,0,[],[]⟩
def oX(e:Eng):Eng:={e with X:=e.X++[⟨e.N,0⟩],N:=e.N+1}
def S3(e:Eng):Eng×Int×Int:=if e.up=true then
  if e.N>60∨e.X.length=10 then(e,0,6)
  else if(e.s.L.length:Int)+i5 e+2<=60 then(y7 (oX e) e.X.length jN,e.N,0) else(e,0,7)
 else(e,0,15)
theorem D5{e:Eng}(h:P1 e=true):G6 e.s=true/\wY e=true/\(if e.up then upE e else a3T e)=true:=by
 unfold P1 tE at h;simp only[O4] at h;exact⟨h.1,h.2.1,h.2.2⟩
theorem c1J{e:Eng}(h:P1 e=true)(u:e.up=true):∀i,i<e.X.length->A7 e i=false:=by
 have d:=(D5 h).2.2;rw[if_pos u] at d;unfold upE at d;simp only[O4,xV] at d;exact R8.1 d.1.1.1
theorem c2l{e:Eng}(h:P1 e=true)(u:e.up=true){i:Nat}(hi:i<e.X.length):1<=(e.X.getD i dz).id/\(e.X.getD i dz).id<=e.N-1:=by
 have:=c1J h u i hi;unfold A7 at this;simp only[zV,zF,T2] at this;exact this.1.1
theorem b8w(L:List Txn)(t:Txn):Z7 (L.length+1) (X7 (V1 L) L.length λk=>List.take 2 (List.drop (k*2) t.ts)) (V1 (L++[t])):=by
 intro i hi;unfold X7 V1;by_cases h:i<L.length
 ·rw[tL h,R2,R2,uW h]
 ·have:i=L.length:=by omega
  subst this;rw[qH h];have:(L++[t]).getD L.length dz=t:=by rw[R2,tG (V8 _)];simp
  rw[this];simp[Txn.ts]
theorem b6T{s:Sto}(h:G6 s=true):1<=s.ep/\s.ep<=60:=by
 obtain⟨⟨d,_⟩,_⟩:=(J8 s).1 h;obtain⟨_,_,a,b,_⟩:=(y6 s).1 d;exact⟨a,b⟩
theorem c73{e:Eng}(h:(!e.up)=true):S3 e=(e,0,15):=by unfold S3;rw[if_neg A8]
theorem c72{e:Eng}(h:(!e.up)=false)(d:(decide (e.N>60)||(e.X.length:Int)==10)=true):S3 e=(e,0,6):=by
 simp only[tB,r8,beq_iff_eq] at d;unfold S3;rw[if_pos A8,if_pos Z9]
theorem c7F{e:Eng}(h:(!e.up)=false)(d:(decide (e.N>60)||(e.X.length:Int)==10)=false)(f:¬ (e.s.L.length:Int)+i5 e+2<=60):S3 e=(e,0,7):=by
 simp only[zV,qN,beq_eq_false_iff_ne,ne_eq] at d;unfold S3;rw[if_pos A8,if_neg Z9,if_neg f]
theorem c8a{e:Eng}(h:(!e.up)=false)(d:(decide (e.N>60)||(e.X.length:Int)==10)=false)(f:(e.s.L.length:Int)+i5 e+2<=60):S3 e=(y7 (oX e) e.X.length jN,e.N,0):=by
 simp only[zV,qN,beq_eq_false_iff_ne,ne_eq] at d;unfold S3;rw[if_pos A8,if_neg Z9,if_pos f]
theorem a81{f g:Nat->List T}:X7 f 0 g=g:=funext λi=>by unfold X7;rw[show Nat.blt i 0=false from rfl];rfl
def c62:Con:=.rel ⟨Sto×Rec,λx=>[.agg x.1.ts,.agg x.2.ts],λx=>.tup [.agg (apx x.1 x.2).ts,Ji (x.1.L.length+1:Nat)],λx=>x.1.L.length<=1000⟩
theorem c3l:GK 223 c62:=gk func223<|by
 rintro⟨s,r⟩ (h:s.L.length<=1000);have hl:(s.L++[T1 s r]).length=s.L.length+1:=W8
 refine S1 (gC Q5 gN) func223 Y9 (α:=let u:=(0+s.L.length+1);let z:=(s.L.length:Int);let q:=(0+s.L.length);Ri (z+1)/\(Le 0 0/\U9 0 s.L.length 96)/\(Le q q/\U9 q 1 96)/\Le (0+u) u/\((Z2 Z5 s.d.E s.d.E)/\(Z2 Y6 s.d.C s.d.C)/\s.d.A=s.d.A/\(Z2 Y8 s.d.keep s.d.keep)/\s.ep=s.ep/\(0+s.L.length+1=(s.L++[T1 s r]).length/\Z7 u (X7 (X7 (tk 10 []) 0 (Y0 s.L)) q (tk 10 [Ji s.ep,Ji (z+1),Ji r.t,Ji r.k,Ji r.p,Ji r.n,Ji r.g,Ji r.s,T.str r.b,T.str r.a])) (Y0 (s.L++[T1 s r])))/\s.S=s.S/\(Z2 V2 s.fr s.fr)/\s.J=s.J/\True)/\z+1=(↑(s.L.length+1):Int)/\True) ⟨Z3 Z9,⟨V8 _,R1⟩,⟨V8 _,R1⟩,L6,⟨P5,P5,rfl,P5,rfl,⟨Z9,?_⟩,rfl,P5,Z8⟩,Z8⟩
 rw[C9,a81];exact a1W s.L (T1 s r)
def c2S:Con:=.rfz ⟨Eng×Nat×Rec,λx=>[.agg x.1.ts,Ji x.2.1,.agg x.2.2.ts],λx=>.tup [.agg (y7 x.1 x.2.1 x.2.2).ts,Ji (x.1.s.L.length+1:Nat)],λx=>x.2.1<x.1.X.length/\x.1.X.length<=1000/\x.1.s.L.length<=1000⟩
theorem a1p:GK 155 c2S:=gk func155<|by
 rintro⟨e,k,r⟩ ⟨h,f,hl⟩;dsimp only at h f hl;refine S1 (gC c3l (gC Q5 gN)) func155 Y9 (α:=let u:=(k:Int).toNat;let z:=(0+e.X.length);let q:=(e.X.set k (Txn.mk (e.X.getD k dz).id ((e.s.L.length:Int)+1)));V7 (k:Int) e.X.length/\V7 (k:Int) e.X.length/\∃(x:(Sto×Rec)),let v:=(↑(x.1.L.length+1):Int);(((o6 e.s x.1)/\(r.e=x.2.e/\r.l=x.2.l/\(e.X.getD u dz).id=x.2.t/\r.k=x.2.k/\(e.X.getD u dz).Z=x.2.p/\r.n=x.2.n/\r.g=x.2.g/\r.s=x.2.s/\r.b=x.2.b/\r.a=x.2.a/\True)/\True)/\x.1.L.length<=1000)/\(Le 0 0/\U9 0 e.X.length 16)/\V7 (k:Int) z/\Lt (0+u) z/\Le (0+z) z/\((Z2 Z5 x.1.d.E e.s.d.E)/\(Z2 Y6 x.1.d.C e.s.d.C)/\x.1.d.A=e.s.d.A/\(Z2 Y8 x.1.d.keep e.s.d.keep)/\x.1.ep=e.s.ep/\(Z2 Y0 (x.1.L++[T1 x.1 x.2]) (e.s.L++[T1 e.s (M2 e k r)]))/\x.1.S=e.s.S/\(Z2 V2 x.1.fr e.s.fr)/\x.1.J=e.s.J/\e.up=e.up/\(0+e.X.length=q.length/\Z7 z (setRow (X7 (tk 2 []) 0 (V1 e.X)) (0+u) 1 [Ji v]) (V1 q))/\(Z2 Y7 e.lk.H e.lk.H)/\(Z2 Y5 e.lk.W e.lk.W)/\e.N=e.N/\True)/\v=(↑(e.s.L.length+1):Int)/\True) ⟨Y3 h,Y3 h,(e.s,M2 e k r),⟨⟨jO _,⟨rfl,rfl,by rw[G2];rfl,rfl,by rw[G2];rfl,rfl,rfl,rfl,rfl,rfl,Z6⟩,Z6⟩,X0⟩,⟨V8 _,R1⟩,by rw[C9];exact Y3 h,H9,L6,⟨Z8,Z8,rfl,Z8,rfl,Z8,rfl,Z8,rfl,rfl,⟨by rw[yT];omega,λj _=>?_⟩,Z8⟩,Z8⟩
 rw[G2,C9,a81];exact a8W h j
def c4x:Con:=.rel ⟨Eng,λe=>[.agg e.ts],λe=>.tup [.agg (S3 e).1.ts,Ji (S3 e).2.1,Ji (S3 e).2.2],λe=>yH e/\0<=e.N/\e.N<=1000⟩
theorem b97:GK 88 c4x:=gk func88<|by
 rintro(e:Eng) ⟨hn,hx0,hx⟩;have B:=eC e.s.L e.X e.X.length;have i:=hn.1.1;have f:=hn.2.1;have h:i5 e=w8 e.s.L e.X e.X.length:=rfl;refine S1 (gC wH (gC a1p (gC Q5 gN))) func88 Y9 (α:=let m:=(S3 e).2.2;let j:=(S3 e).2.1;let y:=(Q7 e (S3 e).1);let z:=(0+e.X.length);let r:=(e.s.L.length:Int);let q:=(0+e.X.length+1);br (!e.up) (y/\0=j/\15=m/\True) (br (decide (e.N>60)||(e.X.length:Int)==10) (y/\0=j/\6=m/\True) (Ri (r+1)/\∃(x:Eng),let w:=(↑(i5 x):Int);(((Q7 e x)/\True)/\yH x)/\Ri (r+1+w)/\Ri (r+1+w+1)/\bd (r+1+w+1>60) (y/\0=j/\7=m/\True) (Ri (e.N+1)/\(Le 0 0/\U9 0 e.X.length 16)/\(Le z z/\U9 z 1 16)/\Ri ((↑q:Int)-1)/\∃(x:(Eng×Nat×Rec)),let f:=x.1.X.length;let v:=x.2.2;let u:=x.1.s;(Le (0+q) q/\(((Z2 Z5 e.s.d.E u.d.E)/\(Z2 Y6 e.s.d.C u.d.C)/\e.s.d.A=u.d.A/\(Z2 Y8 e.s.d.keep u.d.keep)/\e.s.ep=u.ep/\(Z2 Y0 e.s.L u.L)/\e.s.S=u.S/\(Z2 V2 e.s.fr u.fr)/\e.s.J=u.J/\e.up=x.1.up/\(0+e.X.length+1=f/\Z7 q (X7 (X7 (tk 2 []) 0 (V1 e.X)) z (tk 2 [Ji e.N,Ji 0])) (V1 x.1.X))/\(Z2 Y7 e.lk.H x.1.lk.H)/\(Z2 Y5 e.lk.W x.1.lk.W)/\e.N+1=x.1.N/\True)/\(↑q:Int)-1=(x.2.1:Int)/\(0=v.e/\0=v.l/\0=v.t/\1=v.k/\0=v.p/\0=v.n/\0=v.g/\0=v.s/\[]=v.b/\[]=v.a/\True)/\True)/\x.2.1<f/\f<=1000/\u.L.length<=1000)/\(Q7 {x.1 with s:={x.1.s with L:=(u.L++[T1 x.1.s (M2 x.1 x.2.1 v)])},X:=(x.1.X.set x.2.1 (Txn.mk (x.1.X.getD x.2.1 dz).id ((u.L.length:Int)+1)))} (S3 e).1)/\e.N=j/\0=m/\True)))) ⟨λhu=>?_,λhu=>⟨λhq=>?_,λhq=>⟨Z3 Z9,e,⟨Z8,hn⟩,Z3 Z9,Z3 Z9,λhr=>?_,λhr=>?_⟩⟩⟩
 ·rw[c73 hu];exact Z8
 ·rw[c72 hu hq];exact Z8
 ·rw[c7F hu hq (by have:=E4 hr;omega)]
  exact Z8
 ·have hL:e.X.length+1=(e.X++[(⟨e.N,0⟩:Txn)]).length:=by simp
  rw[c8a hu hq (by have:=s6 hr;omega)]
  refine⟨Z3 Z9,⟨V8 _,R1⟩,⟨V8 _,R1⟩,Z3 Z9,(oX e,e.X.length,jN),⟨L6,⟨⟨Z8,Z8,rfl,Z8,rfl,Z8,rfl,Z8,rfl,rfl,⟨by rw[C9];exact hL,?_⟩,Z8⟩,X0,Z8⟩,by show e.X.length<(e.X++[_]).length;omega,by show(e.X++[_]).length<=_;omega,by show e.s.L.length<=_;omega⟩,xR (y7 (oX e) e.X.length jN),rfl,rfl,Z6⟩
  rw[C9,a81];exact b8w e.X ⟨e.N,0⟩
def dr(x:Bz):Nat->Bz
 |0=>x
 |i+1=>(dr x i).drop 1
def drF(x:Bz):Nat->Bool
 |0=>false
 |i+1=>drF x i||(dr x i).isEmpty
def rcE(x:Bz):Fst:=S2 (dr x 9) (drF x 9)
def rcX(x:Bz):Rec:=⟨numR (dr x 1),numR (dr x 2),numR (dr x 3),numR (dr x 4),numR (dr x 5),numR (dr x 6),numR (dr x 7),numR (dr x 8),(rcE x).out.getD 0 [],(rcE x).out.getD 1 []⟩
def m6(x:Bz):Bool:= !(!(rcE x).fl&&(rcE x).l.isEmpty)||numR x !=108||(((rcE x).out.length:Nat):Int) !=2
def a1k:Rec:=⟨0,0,0,0,0,0,0,0,[],[]⟩
def lV(b:Bz):Rec×Int:=if R3 b=true then
  if m6 (W6 b)=true then(a1k,3) else if L9 (rcX (W6 b))=true then(rcX (W6 b),0) else(a1k,3)
 else(a1k,8)
theorem c0S(l:Bz)(n:Int)(d:0<=n)(h:n<=255):(T7 l n).length<=255:=by
 unfold T7;split
 ·rw[List.length_replicate];omega
 ·rw[List.length_take];omega
theorem tV{α:Type}(d:α)(L:List α)(x:α)(i:Nat)(hi:i<L.length+1):(L++[x]).getD i d=if i=L.length then x else L.getD i d:=by
 by_cases h:i=L.length
 ·subst h;rw[if_pos rfl,R2,tG (V8 _)]
  simp
 ·rw[if_neg h,R2,uW Z9,←R2]
theorem c2o(l:Bz)(fl:Bool):∀i j,((F9 l fl i).out.getD j []).length<=255
 |0,j=>O3 _
 |i+1,j=>by
  have h:=u6 (F9 l fl i).l;show(((F9 l fl i).out++[T7 ((F9 l fl i).l.drop 1) (numR (F9 l fl i).l)]).getD j []).length<=255;by_cases hj:j<(F9 l fl i).out.length+1
  ·rw[tV [] _ _ _ hj];split
   ·exact c0S _ _ h.1 Z9
   ·exact c2o l fl i j
  ·rw[R2,List.getElem?_eq_none (by rw[K2];simp;omega)]
   exact O3 _
theorem c7b{b:Bz}(h:R3 b=false):lV b=(a1k,8):=by unfold lV;rw[if_neg (by rw[h];simp)]
theorem c4i{b:Bz}(h:R3 b=true)(B:m6 (W6 b)=true):lV b=(a1k,3):=by unfold lV;rw[if_pos h,if_pos B]
theorem c3R{b:Bz}(h:R3 b=true)(B:m6 (W6 b)=false)(r:L9 (rcX (W6 b))=false):lV b=(a1k,3):=by unfold lV;rw[if_pos h,if_neg (by rw[B];simp),if_neg (by rw[r];simp)]
theorem b7S{b:Bz}(h:R3 b=true)(B:m6 (W6 b)=false)(r:L9 (rcX (W6 b))=true):lV b=(rcX (W6 b),0):=by unfold lV;rw[if_pos h,if_neg (by rw[B];simp),if_pos r]
def lgR(d:Dsk)(i:Nat):Rec×Int:=lV (U1 d (9+i))
def lgE(d:Dsk)(i:Nat):Int:=if i=0 then 1 else(lgR d (i-1)).1.e
def lgB(d:Dsk)(ep:Int)(i:Nat):Bool:=((lgR d i).2 !=0||(lgR d i).1.l !=(i:Int)+1|| !V9 (lgR d i).1.e (lgE d i) ep)
def qR(d:Dsk)(m:Nat):List Rec:=(List.range m).map λi=>(lgR d i).1
def lgM(d:Dsk)(ep:Int):Nat:=if Q9 (d.E.length-9) (lgB d ep)= -1 then d.E.length-9 else(Q9 (d.E.length-9) (lgB d ep)).toNat
theorem iI(d:Dsk)(m:Nat):(qR d m).length=m:=by unfold qR;simp
theorem c3W(d:Dsk){m i:Nat}(h:i<m):(qR d m).getD i dz=(lgR d i).1:=by
 unfold qR;rw[R2,pW,List.getElem?_range h]
 rfl
theorem b5L(d:Dsk)(m:Nat):qR d (m+1)=qR d m++[(lgR d m).1]:=by
 unfold qR;rw[List.range_succ,List.map_append];rfl
theorem c4n{d:Dsk}{ep:Int}{m:Nat}(M:m<d.E.length-9)(h:lgB d ep m=true)(hp:∀i,i<m->lgB d ep i=false):lgM d ep=m:=by
 unfold lgM;rw[N4 M h hp,if_neg Z9,G2]
theorem c1s{d:Dsk}{ep:Int}{m:Nat}(h:m=d.E.length-9)(hp:∀i,i<m->lgB d ep i=false):lgM d ep=m:=by
 unfold lgM;rw[K9 (λi hi=>hp i Z9),if_pos rfl,h]
theorem c5J{r:Bz}(R:0<r.length):(∃out,P6 r=some out/\out.length=2/\S2 r false=⟨[],false,out⟩)∨((∀out,P6 r=some out->out.length≠2)/\(!(!(S2 r false).fl&&(S2 r false).l.isEmpty)||(((S2 r false).out.length:Nat):Int) !=2)=true):=by
 have d:=b4a r R (D1 r);have n:(numR r).toNat=D1 r:=by unfold numR D1;exact G2 _
 have e:S2 r false=F9 r false (D1 r):=by unfold S2;rw[n]
 have hall:P6 r=if D1 r>100 then none else match yD r (D1 r) with
   |some (p,out)=>if p=r.length then some out else none
   |none=>none:=by
  unfold P6;by_cases hc:D1 r>100
  ·rw[if_pos (.inr hc),if_pos hc]
  ·rw[if_neg Z9,if_neg hc]
   rfl
 rw[e];cases f:yD r (D1 r) with
 |none=>
  rw[f] at d hall;simp only at d;have hall:P6 r=none:=by rw[hall];split<;>rfl
  refine .inr ⟨λout h=>(by rw[hall] at h;cases h),?_⟩
  rw[d];rfl
 |some y=>
  obtain⟨p,out⟩:=y;rw[f] at d hall;simp only at d hall;obtain⟨d,L⟩:=d;rw[d];have O:out.length=D1 r:=gK f;by_cases hp:p=r.length
  ·have hem:r.drop p=[]:=by rw[List.drop_eq_nil_iff];omega
   rw[if_pos hp] at hall;by_cases g:out.length=2
   ·rw[if_neg Z9] at hall
    exact .inl ⟨out,hall,g,by rw[hem]⟩
   ·refine .inr ⟨λo h=>?_,?_⟩
    ·rw[hall] at h;split at h
     ·cases h
     ·cases h;exact g
    ·simp only[bne_iff_ne.2 (show((out.length:Nat):Int)≠2 by omega),Bool.or_true]
  ·have hem:(r.drop p).isEmpty=false:=by
    rw[Bool.eq_false_iff,ne_eq,List.isEmpty_iff,List.drop_eq_nil_iff];omega
   have hall:P6 r=none:=by rw[hall,if_neg hp];split<;>rfl
   refine .inr ⟨λout h=>(by rw[hall] at h;cases h),?_⟩
   simp[hem]
theorem nQ(x:Bz):∀i,dr x i=x.drop i
 |0=>rfl
 |i+1=>by
  show(dr x i).drop 1=_;rw[nQ x i,List.drop_drop]
theorem a1g(x:Bz):∀i,drF x i=decide (x.length<i)
 |0=>rfl
 |i+1=>by
  show(drF x i||(dr x i).isEmpty)=_;rw[a1g x i,nQ,Bool.eq_iff_iff,tB,r8,List.isEmpty_iff,List.drop_eq_nil_iff,r8];omega
theorem b2M{x:Bz}(h:x.length<10):m6 x=true:=by
 have f:(rcE x).fl=true:=by
  unfold rcE;rw[nQ,a1g];by_cases d:x.length=9
  ·rw[List.drop_eq_nil_iff.2 Z9]
   exact a6Y _ _
  ·rw[qK Z9]
   exact a1P _ _
 unfold m6;rw[f];rfl
def xH(t:Bz):{r:Bz×Bool//r=(W6 t,R3 t)}:=Classical.choice ⟨⟨_,rfl⟩⟩
def a06:Con:=.rel ⟨Bz,λt=>[.str t],λt=>.tup [.str (xH t).1.1,.bool (xH t).1.2],w2⟩
theorem cO:GK 258 a06:=gk func258<|by
 intro(t:Bz) ht;have h:=nR.1 t ht;have d:(xH t).1.1=W6 t:=by rw[(xH t).2]
 have e:(xH t).1.2=R3 t:=by rw[(xH t).2]
 show V4 _ _ _ (.tup [.str (xH t).1.1,.bool (xH t).1.2]);rw[d,e];exact h
def cN(t:Bz):{r:List (Bz)×Bool//r=((P6 t).getD [],(P6 t).isSome)}:=Classical.choice ⟨⟨_,rfl⟩⟩
def a7N:Con:=.rel ⟨Bz,λt=>[.str t],λt=>.tup [zA (cN t).1.1,.bool (cN t).1.2],w2⟩
theorem a5o:GK 259 a7N:=gk func259<|by
 intro(t:Bz) ht;have h:=gH.1 t ht;have d:(cN t).1.1=(P6 t).getD []:=by rw[(cN t).2]
 have e:(cN t).1.2=(P6 t).isSome:=by rw[(cN t).2]
 show V4 _ _ _ (.tup [zA (cN t).1.1,.bool (cN t).1.2]);rw[d,e];exact h
def l4p(t:Bz):{r:Rec×Bool//r=(if R3 t=true/\m6 (W6 t)=false then rcX (W6 t) else a1k,(lV t).2==0)}:=Classical.choice ⟨⟨_,rfl⟩⟩
def A1(t:Bz):Rec:=(l4p t).1.1
def l4k(t:Bz):Bool:=(l4p t).1.2
theorem b6m(t:Bz):A1 t=if R3 t=true/\m6 (W6 t)=false then rcX (W6 t) else a1k:=by unfold A1;rw[(l4p t).2]
theorem a5Y(t:Bz):l4k t=((lV t).2==0):=by unfold l4k;rw[(l4p t).2]
def b12:Con:=.rel ⟨Bz,λt=>[.str t],λt=>.tup [.agg (A1 t).ts,.bool (l4k t)],RdB⟩
theorem b70{x:Bz}(h:10<=x.length):rcE x=S2 (x.drop 9) false:=by
 unfold rcE;rw[nQ,a1g,uG Z9]
theorem c3B(x:Bz)(i:Nat):IntKind.i64.wrap ((x.getD i 0).toNat:Int)=numR (dr x i):=by
 rw[vF,nQ];unfold numR;rw[R2,R2,List.getElem?_drop,Nat.add_zero]
theorem b6l{t:Bz}(h:¬ (R3 t=true/\m6 (W6 t)=false)):A1 t=a1k/\l4k t=false:=by
 rw[b6m,a5Y,if_neg h];refine⟨rfl,?_⟩
 cases u:R3 t with
 |false=>rw[c7b u];rfl
 |true=>
  cases B:m6 (W6 t) with
  |true=>rw[c4i u B];rfl
  |false=>exact absurd ⟨u,B⟩ h
theorem a75{t:Bz}(h:R3 t=true)(B:m6 (W6 t)=false):A1 t=rcX (W6 t)/\l4k t=L9 (rcX (W6 t)):=by
 rw[b6m,a5Y,if_pos ⟨h,B⟩];refine⟨rfl,?_⟩
 cases r:L9 (rcX (W6 t)) with
 |true=>rw[b7S h B r];rfl
 |false=>rw[c3R h B r];rfl
theorem c2Y(t:Bz):(W6 t).length<=t.length:=by
 unfold W6;split
 ·rw[List.length_take];omega
 ·exact O3 _
theorem a5q:GK 267 b12:=gk func267<|by
 intro(t:Bz) (hb:t.length<=1000);have hx:=c2Y t;have o:(xH t).1.1=W6 t:=by rw[(xH t).2]
 have u:(xH t).1.2=R3 t:=by rw[(xH t).2]
 have z:∀{p:Bool},(¬ (R3 t=true/\m6 (W6 t)=false))->((0:Int)=(A1 t).e/\(0:Int)=(A1 t).l/\(0:Int)=(A1 t).t/\(0:Int)=(A1 t).k/\(0:Int)=(A1 t).p/\(0:Int)=(A1 t).n/\(0:Int)=(A1 t).g/\(0:Int)=(A1 t).s/\[]=(A1 t).b/\[]=(A1 t).a/\True)/\false=l4k t/\True:=λh=>by
  rw[(b6l h).1,(b6l h).2];exact Z8
 refine S1 (gC cO (gC a5o (gC mN gN))) func267 Y9 (α:=let u:=(0:UInt8);let z:=((0=(A1 t).e/\0=(A1 t).l/\0=(A1 t).t/\0=(A1 t).k/\0=(A1 t).p/\0=(A1 t).n/\0=(A1 t).g/\0=(A1 t).s/\[]=(A1 t).b/\[]=(A1 t).a/\True)/\false=l4k t/\True);∃(x:(Bz)),let r:=(xH x).val.fst.length;let q:=(xH x).val.fst.getD;let pa:=(↑(q 8 u).toNat:Int);let i:=(↑(q 7 u).toNat:Int);let d:=(↑(q 6 u).toNat:Int);let c:=(↑(q 5 u).toNat:Int);let f:=(↑(q 4 u).toNat:Int);let m:=(↑(q 3 u).toNat:Int);let j:=(↑(q 2 u).toNat:Int);let w:=(↑(q 1 u).toNat:Int);((t=x/\True)/\w2 x)/\((!(xH x).val.snd||decide ((↑r:Int)<10))=false->V7 (0:Int) r)/\br (!(xH x).val.snd||decide ((↑r:Int)<10)||(↑(q 0 u).toNat:Int) !=108) z (jH (9:Int) r/\∃(X:(Bz)),let y:=(cN X).val.fst.length;let v:=(cN X).val.fst.getD;((List.drop 9 (xH x).val.fst=X/\True)/\w2 X)/\br (!(cN X).val.snd||(↑y:Int) !=2) z (V7 (1:Int) r/\V7 (2:Int) r/\V7 (3:Int) r/\V7 (4:Int) r/\V7 (5:Int) r/\V7 (6:Int) r/\V7 (7:Int) r/\V7 (8:Int) r/\V7 (0:Int) y/\V7 (1:Int) y/\M1 (v 1 []).length/\(IntKind.i64.wrap w=(A1 t).e/\IntKind.i64.wrap j=(A1 t).l/\IntKind.i64.wrap m=(A1 t).t/\IntKind.i64.wrap f=(A1 t).k/\IntKind.i64.wrap c=(A1 t).p/\IntKind.i64.wrap d=(A1 t).n/\IntKind.i64.wrap i=(A1 t).g/\IntKind.i64.wrap pa=(A1 t).s/\v 0 []=(A1 t).b/\v 1 []=(A1 t).a/\True)/\L9 (Rec.mk (IntKind.i64.wrap w) (IntKind.i64.wrap j) (IntKind.i64.wrap m) (IntKind.i64.wrap f) (IntKind.i64.wrap c) (IntKind.i64.wrap d) (IntKind.i64.wrap i) (IntKind.i64.wrap pa) (v 0 []) (v 1 []))=l4k t/\True))) ⟨t,⟨Z8,a3C⟩,?_⟩
 rw[o,u];refine⟨λh=>?_,λh=>z (p:=true) λq=>?_,λh=>?_⟩
 ·simp only[zV,qN] at h;exact⟨Z9,Z9⟩
 ·obtain⟨hu,R⟩:=q;have hl:10<=(W6 t).length:=by
   by_cases hl:(W6 t).length<10
   ·rw[b2M hl] at R;cases R
   ·omega
  have h108:numR (W6 t)=108:=by
   unfold m6 at R;simp only[zV,bne_eq_false_iff_eq] at R;exact R.1.2
  have h108:(((W6 t).getD 0 0).toNat:Int)=108:=h108;rw[hu,h108,uG Z9] at h
  cases h
 ·simp only[zV,qN,zF,bne_eq_false_iff_eq] at h;obtain⟨⟨hu,hl⟩,h108⟩:=h;have hl:10<=(W6 t).length:=by omega
  have N:numR (W6 t)=108:=h108;have j:(cN ((W6 t).drop 9)).1.1=(P6 ((W6 t).drop 9)).getD []:=by rw[(cN _).2]
  have F:(cN ((W6 t).drop 9)).1.2=(P6 ((W6 t).drop 9)).isSome:=by rw[(cN _).2]
  have hd:((W6 t).drop 9).length=(W6 t).length-9:=List.length_drop;refine⟨⟨Z9,Z9⟩,(W6 t).drop 9,⟨Z8,a3C⟩,?_⟩
  rw[j,F];have hbad:m6 (W6 t)=(!(!(S2 ((W6 t).drop 9) false).fl&&(S2 ((W6 t).drop 9) false).l.isEmpty)||(((S2 ((W6 t).drop 9) false).out.length:Nat):Int) !=2):=by
   unfold m6;rw[b70 hl,N];simp
  rcases c5J (r:=(W6 t).drop 9) Z9 with⟨out,A,h2,hf⟩|⟨A,hf⟩
  ·have hg:m6 (W6 t)=false:=by rw[hbad,hf,h2];rfl
   have d:(rcE (W6 t)).out=out:=by rw[b70 hl,hf]
   have f:=c2o (dr (W6 t) 9) (drF (W6 t) 9) (numR (dr (W6 t) 9)).toNat 1;have f:(out.getD 1 []).length<=255:=by rw[←d];exact f
   rw[A];refine⟨λC=>?_,λ_=>?_⟩
   ·simp[h2] at C
   ·simp only[c3B];rw[(a75 hu hg).1,(a75 hu hg).2];unfold rcX;rw[d];show _/\_/\_/\_/\_/\_/\_/\_/\V7 0 out.length/\V7 1 out.length/\_;exact⟨⟨Z9,Z9⟩,⟨Z9,Z9⟩,⟨Z9,Z9⟩,⟨Z9,Z9⟩,⟨Z9,Z9⟩,⟨Z9,Z9⟩,⟨Z9,Z9⟩,⟨Z9,Z9⟩,⟨Z9,Z9⟩,⟨Z9,Z9⟩,by show(out.getD 1 []).length<_;omega,⟨rfl,rfl,rfl,rfl,rfl,rfl,rfl,rfl,rfl,rfl,Z6⟩,rfl,Z6⟩
  ·have hg:m6 (W6 t)=true:=by rw[hbad];exact hf
   refine⟨λ_=>z (p:=true) λq=>(by rw[hg] at q;cases q.2),λC=>?_⟩
   cases i:P6 ((W6 t).drop 9) with
   |none=>rw[i] at C;simp at C
   |some out=>
    rw[i] at C;have:=A out i;simp at C;omega
def b57:Con:=.rel ⟨Dsk×Int,λx=>[.agg x.1.ts,Ji x.2],λx=>pG (qR x.1 (lgM x.1 x.2)),λx=>yY x.1/\x.1.E.length=69⟩
def b5w(d:Dsk)(ep:Int):Nat->Ann
 |0=>.one (U8 (d.E.length-9) (lgB d ep)) (λx=>⟨[(1,Ji ep),(2,.ref 0 0 0),(5,.osl 1 0 x.1),(6,Ji (x.1+1:Nat))],[lC d,xW (qR d x.1)]⟩) (λx=>d.E.length-x.1) b9M b3H (λ_=>Y9)
 |_=>.none
theorem c51{t:Bz}(h:l4k t=true):lV t=(A1 t,0)/\L9 (A1 t)=true:=by
 by_cases q:R3 t=true/\m6 (W6 t)=false
 ·obtain⟨d,e⟩:=a75 q.1 q.2;rw[e] at h;rw[d];exact⟨b7S q.1 q.2 h,h⟩
 ·rw[(b6l q).2] at h;cases h
theorem c6k{r:Rec}(h:L9 r=true):1<=r.e:=by
 have:=(Q6 r).1 h;unfold C8 at this;exact this.1
theorem a9C{d:Dsk}{ep:Int}{x:Nat}:(!l4k (U1 d (9+x))||(A1 (U1 d (9+x))).l !=((x+1:Nat):Int)||decide ((A1 (U1 d (9+x))).e>ep)||decide (((x+1:Nat):Int)>1)&&decide (((qR d x).getD (0+(((x+1:Nat):Int)-2).toNat) dz).e>(A1 (U1 d (9+x))).e))=lgB d ep x:=by
 cases f:l4k (U1 d (9+x)) with
 |false=>
  have g:((lgR d x).2==0)=false:=by rw[←f,a5Y];rfl
  unfold lgB bne;rw[g];rfl
 |true=>
  obtain⟨h,o⟩:=c51 f;have i:=c6k o;have h:lgR d x=(A1 (U1 d (9+x)),0):=h;unfold lgB;rw[h];by_cases hx:x=0
  ·subst hx;have h1:lgE d 0=1:=by unfold lgE;rw[if_pos rfl]
   rw[h1];simp only[Bool.not_true,Bool.false_or,bne_self_eq_false];rw[Bool.eq_iff_iff];simp only[tB,O4,xV,←Bool.not_eq_true,bne_iff_ne,r8,ne_eq,T2];omega
  ·have hl:(qR d x).getD (0+(((x+1:Nat):Int)-2).toNat) dz=(lgR d (x-1)).1:=by
    rw[show 0+(((x+1:Nat):Int)-2).toNat=x-1 by omega]
    exact c3W d Z9
   rw[hl];simp only[Bool.not_true,Bool.false_or,bne_self_eq_false];rw[Bool.eq_iff_iff];simp only[lgE,if_neg hx,tB,O4,xV,←Bool.not_eq_true,bne_iff_ne,r8,ne_eq,T2];omega
theorem b2J:GK 218 b57:=gk func218<|by
 rintro⟨d,ep⟩ ⟨hd,i⟩;dsimp only at hd i;refine S1 (gC eH (gC a5q (gC Q5 gN))) func218 (b5w d ep) (α:=let w:=(qR d (lgM d ep));(∃(x:U8 (d.E.length-9) (lgB d ep)),(ep=ep/\(0=0/\0=0)/\(0=0/\0=x.1)/\1=(↑(x.1+1):Int)/\True)/\(oo (xP d d))/\(0=(qR d x.1).length/\Z7 0 (tk 10 []) (Y0 (qR d x.1)))/\True)/\∀(x:U8 (d.E.length-9) (lgB d ep)),let v:=x.1;let u:=(qR d v);let r:=(Le (0+v) u.length/\v=w.length/\Z7 x.1 (Y0 u) (Y0 w));let q:=(↑(v+1):Int);(decide (q<=60)=true->Ri (9+q))/\(decide (q<=60)=true->Ri (9+q-1))/\br (decide (q<=60)&&decide (9+q-1<(d.E.length:Int))) (Ri (9+q)/\Ri (9+q-1)/\∃(f:lH.ι),(((xP d f.1)/\9+q-1=(f.2:Int)/\True)/\AtB f)/\∃(X:(Bz)),let z:=(!l4k X||(A1 X).l !=q||decide ((A1 X).e>ep));((U1 f.1 f.2=X/\True)/\RdB X)/\(z=false->decide (q>1)=true->Ri (q-2))/\(z=false->decide (q>1)=true->V7 (q-2) v)/\(z=false->decide (q>1)=true->Lt (0+(q-2).toNat) u.length)/\br (!l4k X||(A1 X).l !=q||decide ((A1 X).e>ep)||decide (q>1)&&decide ((u.getD (0+(q-2).toNat) dz).e>(A1 X).e)) r ((Le x.1 u.length/\U9 x.1 1 96)/\Ri (q+1)/\∃(y:U8 (d.E.length-9) (lgB d ep)),((ep=ep/\(0=0/\0=0)/\(0=0/\v+1=y.1)/\q+1=(↑(y.1+1):Int)/\True)/\(oo (xP d d))/\(v+1=(qR d y.1).length/\Z7 (v+1) (X7 (Y0 u) x.1 (tk 10 [Ji (A1 X).e,Ji (A1 X).l,Ji (A1 X).t,Ji (A1 X).k,Ji (A1 X).p,Ji (A1 X).n,Ji (A1 X).g,Ji (A1 X).s,T.str (A1 X).b,T.str (A1 X).a])) (Y0 (qR d y.1)))/\True)/\Lt (d.E.length-y.1) (d.E.length-v))) r) ⟨⟨F4,Z8,Z8,⟨(iI d 0).symm,K8⟩,Z6⟩,λx=>?_⟩
 have L:=x.2.1;have C:=hd.2.2.1;have hx:=iI d x.1;refine⟨λ_=>Z3 Z9,λ_=>Z3 Z9,λhc=>?_,λhc=>?_⟩
 ·have hc:9+x.1<d.E.length:=by
   simp only[O4,r8] at hc;omega
  have u:=iU hd hc;refine⟨Z3 Z9,Z3 Z9,(d,9+x.1),⟨⟨eqD _,X0,Z6⟩,hc,X0⟩,U1 d (9+x.1),⟨Z8,by show(U1 d (9+x.1)).length<=1000;omega⟩,λ_ h=>Z3 Z9,λ_ h=>?_,λ_ h=>?_,?_⟩
  ·have:=E4 h;exact⟨Z9,Z9⟩
  ·have:=E4 h;unfold Lt;omega
  rw[a9C (d:=d) (ep:=ep)];refine⟨λhb=>?_,λhb=>?_⟩
  ·rw[c4n Z9 hb x.2.2]
   exact⟨L6,hx.symm,W2 _ _⟩
  ·refine⟨⟨L6,R1⟩,Z3 Z9,x.succ Z9 hb,⟨⟨rfl,Z8,Z8,by dsimp only[U8.succ];omega,Z6⟩,⟨rfl,rfl,eqD _⟩,⟨(iI d (x.1+1)).symm,?_⟩,Z6⟩,by unfold Lt;dsimp only[U8.succ];omega⟩
   show Z7 _ _ (Y0 (qR d (x.1+1)));have j:=a1W (qR d x.1) (lgR d x.1).1;have o:l4k (U1 d (9+x.1))=true:=by
    rw[←a9C] at hb;simp only[zV,zF] at hb;exact hb.1.1.1
   have r:(lgR d x.1).1=A1 (U1 d (9+x.1)):=by
    show(lV (U1 d (9+x.1))).1=_;rw[(c51 o).1]
   rw[b5L,r];rw[hx,r] at j;exact j
 ·have q:x.1=d.E.length-9:=by
   by_cases N:x.1=d.E.length-9
   ·exact N
   ·rw[qK (show((x.1+1:Nat):Int)<=60 by omega),qK (show(9:Int)+((x.1+1:Nat):Int)-1<(d.E.length:Int) by omega)] at hc
    cases hc
  rw[c1s q x.2.2];exact⟨L6,hx.symm,W2 _ _⟩
def b5I(e:Eng):Eng:=⟨⟨e.s.d,e.s.ep,qR e.s.d (lgM e.s.d e.s.ep),(lgM e.s.d e.s.ep:Nat),[],0⟩,false,[],⟨[],[]⟩,e.N⟩
def sdE(e:Eng)(d:Dsk):Eng:={e with s:=e.s.sd d}
theorem b5f(sec:List (Bz))(C:List Pend)(Q:Nat->Bool)(h:∀i,i<sec.length->(sec.getD i []).length<=160)(e:∀i,i<C.length->(C.getD i dz).d.length<=160):∀n,n<=C.length->∀i,i<sec.length->((b5 sec C Q n).getD i []).length<=160
 |0,_,i,hi=>h i hi
 |n+1,hn,i,hi=>by
  unfold b5;have I:=b5f sec C Q h e n Z9 i hi
  split
  ·by_cases hj:i=(C.getD n dz).at_.toNat
   ·subst hj;rw[R2,j_j (by rw[C1];exact hi)]
    exact e n Z9
   ·rw[R2,j_k (Ne.symm hj),←R2]
    exact I
  ·exact I
theorem fH{m:Nat}{p:Pend}(h:O1 m p=false):0<=p.at_/\p.at_<m/\p.d.length<=160:=by
 unfold O1 at h;simp only[zV,zF,T2,qN] at h;omega
theorem c4P{d:Dsk}(h:yY d):bG d:=λi hi=>by
 have:=fH (h.2.2.2.2.2.2 i hi);exact⟨this.1,this.2.1⟩
theorem b9A{e:Eng}(h:P1 e=true):yY e.s.d/\e.s.d.E.length=69:=by
 have:=(y6 e.s).1 ((J8 e.s).1 (D5 h).1).1.1;exact⟨this.1,this.2.1⟩
theorem a1T{n:Nat}{p:Nat->Bool}(h:¬Q9 n p<0):∃i,i<n/\p i=true/\(∀j,j<i->p j=false)/\Q9 n p=(i:Int):=by
 cases A:anyI n p with
 |false=>exact absurd (by rw[K9 (R8.1 A)];omega) h
 |true=>
  obtain⟨i,hi,hp⟩:=U3.1 A;have key:∀m,m<=n->(∀j,j<m->p j=false)∨∃i,i<n/\p i=true/\(∀j,j<i->p j=false):=by
   intro m;induction m with
   |zero=>intro _;exact .inl λj J=>absurd J (J5 j)
   |succ m I=>
    intro d;rcases I Z9 with h0|h0
    ·cases hq:p m with
     |true=>exact .inr ⟨m,d,hq,h0⟩
     |false=>
      refine .inl λj J=>?_
      by_cases M:j=m
      ·rw[M];exact hq
      ·exact h0 j Z9
    ·exact .inr h0
  rcases key n (V8 n) with h0|⟨k,hk,hpk,hn⟩
  ·rw[h0 i hi] at hp;cases hp
  ·exact⟨k,hk,hpk,hn,N4 hk hpk hn⟩
def c4U:Con:=.tmp
theorem c1y:GK 79 c4U:=gk func79<|trivial
def b2q:Con:=.rel ⟨Eng×Dsk,λx=>[.agg x.1.ts,.agg x.2.ts],λx=>.agg (b5I (sdE x.1 x.2)).ts,λx=>yY x.2/\x.2.E.length=69⟩
theorem a7C:GK 141 b2q:=gk func141<|by
 rintro⟨e,d⟩ ⟨h,f⟩;dsimp only at h f;exact S1 (gC b2J (gC Q5 (gC c1y gN))) func141 Y9 (α:=∃(x:(Dsk×Int)),let p:=(qR x.1 (lgM x.1 x.2));(((xP d x.1)/\e.s.ep=x.2/\True)/\yY x.1/\x.1.E.length=69)/\(Z2 Z5 d.E d.E)/\(Z2 Y6 d.C d.C)/\d.A=d.A/\(Z2 Y8 d.keep d.keep)/\e.s.ep=e.s.ep/\(Z2 Y0 p (qR d (lgM d e.s.ep)))/\(↑p.length:Int)=(↑(lgM d e.s.ep):Int)/\0=0/\(0:Int)=0/\false=false/\0=0/\0=0/\0=0/\e.N=e.N/\True) ⟨(d,e.s.ep),⟨Z8,h,f⟩,Z8,Z8,rfl,Z8,rfl,Z8,congrArg _ (iI _ _),Z8⟩
def X5{α:Type}[Inhabited α](f:α->Bool)(L:List α):Nat->List α
 |0=>[]
 |i+1=>if f (L.getD i dz)=true then X5 f L i++[L.getD i dz] else X5 f L i
def hF(tx:Int)(x:Lck):Bool:=x.tx !=tx
def wF(tx:Int)(w:Wt):Bool:=w.tx !=tx&&w.fo !=tx
def frK(l:Lks)(tx:Int):Lks:=⟨X5 (hF tx) l.H l.H.length,X5 (wF tx) l.W l.W.length⟩
def b10:Con:=.rel ⟨Lks×Int,λx=>[.agg x.1.ts,Ji x.2],λx=>.agg (frK x.1 x.2).ts,λx=>x.1.H.length<=1000000/\x.1.W.length<=1000000⟩
def lkB(l:Lks):Option Ob:=some (.arr true 1000000 2 1 λ_=>l.ts)
def lkO(a n b m:Nat):Option Ob:=some (.arr false 1000000 2 1 λ_=>[.osl a 0 n,.osl b 0 m])
def b1l(l:Lks)(tx:Int):Nat->Ann
 |1=>.one (Up l.W.length) (λx=>⟨[(1,Ji tx),(2,.ref 0 0 0),(4,.ref 1 0 0),(5,.ref 2 0 0),(7,Ji x.1)],[lkB l,lkB ⟨[],[]⟩,lkO 3 (frK l tx).H.length 4 (X5 (wF tx) l.W x.1).length,tP (frK l tx).H,pZ (X5 (wF tx) l.W x.1)]⟩) (λx=>l.W.length-x.1) b7D b7D (λ_=>Y9)
 |2=>.one (Up l.W.length) (λx=>⟨[(1,Ji tx),(2,.ref 0 0 0),(4,.ref 1 0 0),(5,.ref 2 0 0),(7,Ji x.1)],[lkB l,lkB ⟨[],[]⟩,lkO 3 (frK l tx).H.length 4 (X5 (wF tx) l.W x.1).length,tP (frK l tx).H,pZ (X5 (wF tx) l.W x.1)]⟩) (λx=>l.W.length-x.1) b7D b7D (λ_=>Y9)
 |_=>.none
def b0S(l:Lks)(tx:Int):Nat->Ann
 |0=>.one (Up l.H.length) (λx=>⟨[(1,Ji tx),(2,.ref 0 0 0),(4,.ref 1 0 0),(5,.ref 2 0 0),(6,Ji x.1)],[lkB l,lkB ⟨[],[]⟩,lkO 3 (X5 (hF tx) l.H x.1).length 4 0,tP (X5 (hF tx) l.H x.1),pZ []]⟩) (λx=>l.H.length-x.1) [.box 0,.box 1,.box 4,.arr 2,.arr 3] b7D (λ_=>b1l l tx)
 |_=>.none
theorem q9{α:Type}[Inhabited α](f:α->List T)(n:Nat)(F:∀a,(f a).length=n)(L:List α)(x:α):Z7 (L.length+1) (X7 (λi=>f (L.getD i dz)) L.length λk=>List.take n (List.drop (k*n) (f x))) (λi=>f ((L++[x]).getD i dz)):=by
 intro i hi;unfold X7;by_cases h:i<L.length
 ·rw[tL h];dsimp only;rw[R2,R2,uW h]
 ·have:i=L.length:=by omega
  subst this;rw[qH h];dsimp only;have:(L++[x]).getD L.length dz=x:=by rw[R2,tG (V8 _)];simp
  rw[this,j_i,Nat.zero_mul,List.drop_zero,List.take_of_length_le (by rw[F];exact V8 _)]
theorem aX{α:Type}[Inhabited α]{f:α->Bool}{L:List α}{i:Nat}(h:f (L.getD i dz)=true):X5 f L (i+1)=X5 f L i++[L.getD i dz]:=by
 conv=>lhs;unfold X5
 rw[if_pos h]
theorem aB{α:Type}[Inhabited α]{f:α->Bool}{L:List α}{i:Nat}(h:f (L.getD i dz)=false):X5 f L (i+1)=X5 f L i:=by
 conv=>lhs;unfold X5
 rw[if_neg (by rw[h];simp)]
theorem uC{α:Type}[Inhabited α](f:α->Bool)(L:List α):∀i,(X5 f L i).length<=i
 |0=>V8 _
 |i+1=>by
  have:=uC f L i;unfold X5;split
  ·rw[K2,List.length_singleton];omega
  ·omega
theorem jJ{α:Type}[Inhabited α]{f:α->Bool}{L:List α}{i:Nat}(h:f (L.getD i dz)=true):(X5 f L i).length+1=(X5 f L (i+1)).length:=by
 rw[aX h,K2,List.length_singleton]
theorem a7l:GK 227 b10:=gk func227<|by
 rintro⟨l,tx⟩ ⟨d,h⟩;dsimp only at d h;refine S1 (gC Q5 gN) func227 (b0S l tx) (α:=let f:=(0=0/\Z7 0 (Y5 []) (Y5 []));let v:=(0=0/\0=0);let u:=(oo ((Z2 Y7 l.H l.H)/\(Z2 Y5 l.W l.W)/\True));let q:=(oo ((0=0/\Z7 0 (Y7 []) (Y7 []))/\f/\True));let p:=(X5 (hF tx) l.H l.H.length);let pb:=(Z2 Y7 p p);let d:=p.length;(∃(x:Up l.H.length),let g:=(X5 (hF tx) l.H x.1);(tx=tx/\v/\v/\v/\0=(x.1:Int)/\True)/\u/\(oo (0=0/\0=0/\True))/\(oo ((0=0/\0=g.length)/\v/\True))/\(0=g.length/\Z7 0 (tk 4 []) (Y7 g))/\(0=0/\Z7 0 (tk 2 []) (Y5 []))/\True)/\∀(x:Up l.H.length),let m:=(x.1:Int);let w:=(l.H.getD m.toNat dz);let z:=(X5 (hF tx) l.H x.1);let i:=z.length;bd (m<(l.H.length:Int)) (V7 m l.H.length/\br (w.tx !=tx) (V7 m l.H.length/\(Le z.length i/\U9 z.length 1 32)/\Ri (m+1)/\∃(y:Up l.H.length),let a:=(X5 (hF tx) l.H y.1);((tx=tx/\v/\v/\v/\m+1=(y.1:Int)/\True)/\u/\q/\(oo ((0=0/\i+1=a.length)/\v/\True))/\(i+1=a.length/\Z7 (i+1) (X7 (Y7 z) z.length (tk 4 [Ji w.tx,Ji w.ta,Ji w.row,Ji w.mo])) (Y7 a))/\f/\True)/\Lt (l.H.length-y.1) (l.H.length-x.1)) (Ri (m+1)/\∃(y:Up l.H.length),let t:=(X5 (hF tx) l.H y.1);((tx=tx/\v/\v/\v/\m+1=(y.1:Int)/\True)/\u/\q/\(oo ((0=0/\i=t.length)/\v/\True))/\(Z2 Y7 z t)/\f/\True)/\Lt (l.H.length-y.1) (l.H.length-x.1))) ((∃(X:Up l.W.length),let b:=(X5 (wF tx) l.W X.val);(tx=tx/\v/\v/\v/\0=(X.val:Int)/\True)/\u/\q/\(oo ((0=0/\i=d)/\(0=0/\0=b.length)/\True))/\(Z2 Y7 z p)/\(0=b.length/\Z7 0 (Y5 []) (Y5 b))/\True)/\∀(x:Up l.W.length),let n:=(X5 (wF tx) l.W x.1);let k:=(x.1:Int);let j:=(l.W.getD k.toNat dz);let r:=n.length;bd (k<(l.W.length:Int)) (V7 k l.W.length/\((j.tx !=tx)=true->V7 k l.W.length)/\br (j.tx !=tx&&j.fo !=tx) (V7 k l.W.length/\(Le r r/\U9 r 1 16)/\Ri (k+1)/\∃(y:Up l.W.length),let c:=(X5 (wF tx) l.W y.1);((tx=tx/\v/\v/\v/\k+1=(y.1:Int)/\True)/\u/\q/\(oo ((0=0/\d=d)/\(0=0/\r+1=c.length)/\True))/\pb/\(r+1=c.length/\Z7 (r+1) (X7 (Y5 n) r (tk 2 [Ji j.tx,Ji j.fo])) (Y5 c))/\True)/\Lt (l.W.length-y.1) (l.W.length-x.1)) (Ri (k+1)/\∃(y:Up l.W.length),let pa:=(X5 (wF tx) l.W y.1);((tx=tx/\v/\v/\v/\k+1=(y.1:Int)/\True)/\u/\q/\(oo ((0=0/\d=d)/\(0=0/\r=pa.length)/\True))/\pb/\(Z2 Y5 n pa)/\True)/\Lt (l.W.length-y.1) (l.W.length-x.1))) ((Le (0+d) d/\Le (0+r) r)/\pb/\(Z2 Y5 n (X5 (wF tx) l.W l.W.length))/\True))) ⟨⟨⟨0,O3 _⟩,P5⟩,λx=>⟨λhc=>?_,λhc=>?_⟩⟩
 ·have hlt:=Y1 hc;have hle:=uC (hF tx) l.H x.1;rw[G2];refine⟨Y3 hlt,λhq=>?_,λhq=>?_⟩
  ·have hn:=jJ (f:=hF tx) hq;refine⟨Y3 hlt,⟨V8 _,R1⟩,Z3 Z9,⟨x.1+1,hlt⟩,⟨⟨rfl,Z8,Z8,Z8,X0,Z6⟩,Z8,⟨rfl,rfl,⟨rfl,K8⟩,⟨rfl,K8⟩,Z6⟩,⟨rfl,rfl,⟨rfl,hn⟩,Z8⟩,⟨hn,?_⟩,⟨rfl,K8⟩,Z6⟩,U8.ext_lt hlt⟩
   dsimp only;rw[aX (f:=hF tx) hq];exact q9 Lck.ts 4 (λ_=>rfl) _ _
  ·have hn:=aB (f:=hF tx) hq;refine⟨Z3 Z9,⟨x.1+1,hlt⟩,?_,U8.ext_lt hlt⟩
   dsimp only;rw[hn];exact⟨⟨rfl,Z8,Z8,Z8,Z9,Z6⟩,Z8,⟨rfl,rfl,⟨rfl,K8⟩,⟨rfl,K8⟩,Z6⟩,Z8,Z8,⟨rfl,K8⟩,Z6⟩
 ·have hx:x.1=l.H.length:=by have:=x.2;have:=X6 hc;omega
  rw[hx];refine⟨⟨⟨0,O3 _⟩,P5⟩,λy=>⟨λhc=>?_,λhc=>?_⟩⟩
  ·have hlt:=Y1 hc;have hle:=uC (wF tx) l.W y.1;rw[G2];refine⟨Y3 hlt,λ_=>Y3 hlt,λhq=>?_,λhq=>?_⟩
   ·have hn:=jJ (f:=wF tx) hq;refine⟨Y3 hlt,⟨V8 _,R1⟩,Z3 Z9,⟨y.1+1,hlt⟩,⟨⟨rfl,Z8,Z8,Z8,X0,Z6⟩,Z8,⟨rfl,rfl,⟨rfl,K8⟩,⟨rfl,K8⟩,Z6⟩,⟨rfl,rfl,Z8,⟨rfl,hn⟩,Z6⟩,Z8,⟨hn,?_⟩,Z6⟩,U8.ext_lt hlt⟩
    dsimp only;rw[aX (f:=wF tx) hq];exact q9 Wt.ts 2 (λ_=>rfl) _ _
   ·have hn:=aB (f:=wF tx) hq;refine⟨Z3 Z9,⟨y.1+1,hlt⟩,?_,U8.ext_lt hlt⟩
    dsimp only;rw[hn];exact⟨⟨rfl,Z8,Z8,Z8,Z9,Z6⟩,Z8,⟨rfl,rfl,⟨rfl,K8⟩,⟨rfl,K8⟩,Z6⟩,Z8⟩
  ·have hy:y.1=l.W.length:=by have:=y.2;have:=X6 hc;omega
   rw[hy];exact Z8
def a24(e:Eng)(k:Nat):Eng:={e with X:=e.X.take k++e.X.drop (k+1),lk:=frK e.lk (e.X.getD k dz).id}
def b0I:Con:=.rel ⟨Eng×Nat,λx=>[.agg x.1.ts,Ji x.2],λx=>.agg (a24 x.1 x.2).ts,λx=>x.2<x.1.X.length/\x.1.X.length<=1000/\x.1.lk.H.length<=1000000/\x.1.lk.W.length<=1000000⟩
theorem b4G{L:List Txn}{k:Nat}(d:k<L.length):Z7 (k+(L.length- (k+1))) (X7 (V1 L) k λi=>(L.getD (k+1+i) dz).ts) (V1 (L.take k++L.drop (k+1))):=by
 intro i hi;have hl:(L.take k).length=k:=by rw[List.length_take];omega
 unfold X7 V1;by_cases h:i<k
 ·rw[tL h];dsimp only;rw[R2,R2,uW Z9,List.getElem?_take_of_lt h]
 ·rw[qH h];dsimp only;rw[R2,R2,tG Z9,hl,List.getElem?_drop]
theorem a71:GK 157 b0I:=gk func157<|by
 rintro⟨e,k⟩ ⟨h,l,g,f⟩;dsimp only at h l g f;have j:((k:Nat):Int).toNat=k:=G2 k;have n:((k:Int)+1).toNat=k+1:=Z9
 refine S1 (gC a7l (gC Q5 gN)) func157 Y9 (α:=V7 (k:Int) e.X.length/\∃(x:(Lks×Int)),((((Z2 Y7 e.lk.H x.1.H)/\(Z2 Y5 e.lk.W x.1.W)/\True)/\(e.X.getD (k:Int).toNat dz).id=x.2/\True)/\x.1.H.length<=1000000/\x.1.W.length<=1000000)/\jH (k:Int) e.X.length/\(Le 0 0/\U9 0 (k:Int).toNat 16)/\O7 .i64 ((k:Int)+(1:Int))/\jH ((k:Int)+(1:Int)) e.X.length/\(Le (0+(k:Int).toNat) (0+(k:Int).toNat)/\U9 (0+(k:Int).toNat) (e.X.length- ((k:Int)+(1:Int)).toNat) 16)/\Le (0+(0+(k:Int).toNat+(e.X.length- ((k:Int)+(1:Int)).toNat))) (0+(k:Int).toNat+(e.X.length- ((k:Int)+(1:Int)).toNat))/\(Z2 Z5 e.s.d.E e.s.d.E)/\(Z2 Y6 e.s.d.C e.s.d.C)/\e.s.d.A=e.s.d.A/\(Z2 Y8 e.s.d.keep e.s.d.keep)/\e.s.ep=e.s.ep/\(Z2 Y0 e.s.L e.s.L)/\e.s.S=e.s.S/\(Z2 V2 e.s.fr e.s.fr)/\e.s.J=e.s.J/\e.up=e.up/\(0+(k:Int).toNat+(e.X.length- ((k:Int)+(1:Int)).toNat)=(List.take k e.X++List.drop (k+1) e.X).length/\Z7 (0+(k:Int).toNat+(e.X.length- ((k:Int)+(1:Int)).toNat)) (X7 (X7 (tk 2 []) 0 (V1 e.X)) (0+(k:Int).toNat) λ(i:Nat)=>[Ji (e.X.getD (((k:Int)+(1:Int)).toNat+i) dz).id,Ji (e.X.getD (((k:Int)+(1:Int)).toNat+i) dz).Z]) (V1 (List.take k e.X++List.drop (k+1) e.X)))/\(Z2 Y7 (X5 (hF x.2) x.1.H x.1.H.length) (X5 (hF (e.X.getD k dz).id) e.lk.H e.lk.H.length))/\(Z2 Y5 (X5 (wF x.2) x.1.W x.1.W.length) (X5 (wF (e.X.getD k dz).id) e.lk.W e.lk.W.length))/\e.N=e.N/\True) ?_
 rw[j,n,C9,a81];refine⟨Y3 h,(e.lk,(e.X.getD k dz).id),⟨Z8,g,f⟩,⟨Z9,Z9⟩,⟨V8 _,R1⟩,Z3 Z9,⟨Z9,Z9⟩,⟨L6,R1⟩,L6,Z8,Z8,rfl,Z8,rfl,Z8,rfl,Z8,rfl,rfl,⟨?_,b4G h⟩,Z8⟩
 rw[K2,List.length_take,List.length_drop];omega
def a1R:Rec:=⟨0,0,0,4,0,0,0,0,[],[]⟩
def U5(e:Eng)(tx:Int):Int×Int:=if e.up=true then(if S8 e.X tx<0 then(0,19) else(S8 e.X tx,0)) else(0,15)
def a6V:Con:=.rel ⟨Eng×Int,λx=>[.agg x.1.ts,Ji x.2],λx=>.tup [Ji (U5 x.1 x.2).1,Ji (U5 x.1 x.2).2],λx=>M1 x.1.X.length⟩
theorem c6p{e:Eng}{tx:Int}(h:(!e.up)=true):U5 e tx=(0,15):=by unfold U5;rw[if_neg A8]
theorem c6N{e:Eng}{tx:Int}(h:(!e.up)=false)(d:decide (S8 e.X tx<0)=true):U5 e tx=(0,19):=by unfold U5;rw[if_pos A8,if_pos (E4 d)]
theorem c6i{e:Eng}{tx:Int}(h:(!e.up)=false)(d:decide (S8 e.X tx<0)=false):U5 e tx=(S8 e.X tx,0):=by unfold U5;rw[if_pos A8,if_neg (s6 d)]
theorem sR:GK 76 a6V:=gk func76<|by
 rintro⟨e,tx⟩ (hL:M1 e.X.length);refine S1 (gC a4W gN) func76 Y9 (α:=let p:=(U5 e tx);br (!e.up) (0=p.1/\15=p.2/\True) (∃(x:(Eng×Int)),(((Q7 e x.1)/\tx=x.2/\True)/\M1 x.1.X.length)/\bd (S8 x.1.X x.2<0) (0=p.1/\19=p.2/\True) (S8 x.1.X x.2=p.1/\0=p.2/\True))) ⟨λh=>?_,λh=>⟨(e,tx),⟨Z8,hL⟩,λq=>?_,λq=>?_⟩⟩
 ·rw[c6p h];exact Z8
 ·rw[c6N h q];exact Z8
 ·rw[c6i h q];exact Z8
def nZ(e:Eng)(k:Nat):Eng:=y7 e k a1R
def nC(e:Eng)(k:Nat):Sto×Bool:=W4 (nZ e k).s (e.s.L.length+1:Nat)
def jR(e:Eng)(k:Nat):Eng:={nZ e k with s:=(nC e k).1}
def r7(e:Eng)(tx:Int):Eng×Int:=if(U5 e tx).2=0 then(if(nC e (U5 e tx).1.toNat).2=true then(a24 (jR e (U5 e tx).1.toNat) (U5 e tx).1.toNat,0) else(b5I (jR e (U5 e tx).1.toNat),15)) else(e,(U5 e tx).2)
def c20(e:Eng)(tx:Int):Prop:=M1 e.X.length/\((U5 e tx).2=0->(U5 e tx).1.toNat<e.X.length/\e.X.length<=1000/\e.s.L.length<=1000/\uF (nZ e (U5 e tx).1.toNat).s (e.s.L.length+1:Nat)/\yY (nC e (U5 e tx).1.toNat).1.d/\(nC e (U5 e tx).1.toNat).1.d.E.length=69/\e.lk.H.length<=1000000/\e.lk.W.length<=1000000)
def a20:Con:=.rel ⟨Eng×Int,λx=>[.agg x.1.ts,Ji x.2],λx=>.tup [.agg (r7 x.1 x.2).1.ts,Ji (r7 x.1 x.2).2],λx=>c20 x.1 x.2⟩
theorem c4O{e:Eng}{tx:Int}(h:(U5 e tx).2=0):(U5 e tx).1=(((U5 e tx).1.toNat:Nat):Int):=by
 have:0<=(U5 e tx).1:=by
  revert h;unfold U5;split
  ·split
   ·intro h;cases h
   ·intro _;dsimp only;omega
  ·intro h;cases h
 omega
theorem a2b:GK 90 a20:=gk func90<|by
 rintro⟨e,tx⟩ ⟨L,B⟩;dsimp only at L B;refine S1 (gC sR (gC a1p (gC kK (gC a7C (gC a71 gN))))) func90 Y9 (α:=let r:=(r7 e tx);∃(x:(Eng×Int)),let z:=(U5 x.1 x.2);(((Q7 e x.1)/\tx=x.2/\True)/\M1 x.1.X.length)/\br (z.2 !=0) ((Q7 e r.1)/\z.2=r.2/\True) (∃(X:(Eng×Nat×Rec)),let q:=(X.1.X.set X.2.1 (Txn.mk (X.1.X.getD X.2.1 dz).id ((X.1.s.L.length:Int)+1)));(((Q7 e X.1)/\z.1=(X.2.1:Int)/\(0=X.2.2.e/\0=X.2.2.l/\0=X.2.2.t/\4=X.2.2.k/\0=X.2.2.p/\0=X.2.2.n/\0=X.2.2.g/\0=X.2.2.s/\[]=X.2.2.b/\[]=X.2.2.a/\True)/\True)/\X.2.1<X.1.X.length/\X.1.X.length<=1000/\X.1.s.L.length<=1000)/\∃(i:(Sto×Int)),let u:=(W4 i.1 i.2);(((o6 {X.1.s with L:=(X.1.s.L++[T1 X.1.s (M2 X.1 X.2.1 X.2.2)])} i.1)/\(↑(X.1.s.L.length+1):Int)=i.2/\True)/\uF i.1 i.2)/\br (! u.2) (∃(x:(Eng×Dsk)),(((Q7 {X.1 with s:=u.1,X:=q} x.1)/\(xP u.1.d x.2)/\True)/\yY x.2/\x.2.E.length=69)/\(Q7 (b5I (sdE x.1 x.2)) r.1)/\15=r.2/\True) (∃(f:(Eng×Nat)),let y:=f.1.lk;let v:=(f.1.X.getD f.2 dz).id;(((Q7 {X.1 with s:=u.1,X:=q} f.1)/\z.1=(f.2:Int)/\True)/\f.2<f.1.X.length/\f.1.X.length<=1000/\y.H.length<=1000000/\y.W.length<=1000000)/\(Q7 {f.1 with X:=(List.take f.2 f.1.X++List.drop (f.2+1) f.1.X),lk:=⟨(X5 (hF v) y.H y.H.length),(X5 (wF v) y.W y.W.length)⟩} r.1)/\0=r.2/\True))) ⟨(e,tx),⟨Z8,L⟩,λhq=>?_,λhq=>?_⟩
 ·have h0:¬ (U5 e tx).2=0:=by simpa using hq
  have j:r7 e tx=(e,(U5 e tx).2):=by unfold r7;rw[if_neg h0]
  rw[j];exact Z8
 ·have h0:(U5 e tx).2=0:=by simpa using hq
  obtain⟨r,b2,A,z,u,v,q,C⟩:=B h0;have o:=c4O h0;have hl:(e.X.set (U5 e tx).1.toNat ⟨(e.X.getD (U5 e tx).1.toNat dz).id,(e.s.L.length:Int)+1⟩).length=e.X.length:=yT;refine⟨(e,(U5 e tx).1.toNat,a1R),⟨⟨xR _,o,Z8⟩,r,b2,A⟩,((nZ e (U5 e tx).1.toNat).s,(e.s.L.length+1:Nat)),⟨⟨jO (nZ e (U5 e tx).1.toNat).s,Z8⟩,z⟩,λF=>?_,λF=>?_⟩
  ·have F:¬ (nC e (U5 e tx).1.toNat).2=true:=λh=>by
    have F:(!(nC e (U5 e tx).1.toNat).2)=true:=F;rw[h] at F;cases F
   have j:r7 e tx=(b5I (jR e (U5 e tx).1.toNat),15):=by unfold r7;rw[if_pos h0,if_neg F]
   rw[j];exact⟨(jR e (U5 e tx).1.toNat,(nC e (U5 e tx).1.toNat).1.d),⟨⟨xR (jR e (U5 e tx).1.toNat),eqD (nC e (U5 e tx).1.toNat).1.d,Z6⟩,u,v⟩,Z8⟩
  ·have F:(nC e (U5 e tx).1.toNat).2=true:=by
    have F:(!(nC e (U5 e tx).1.toNat).2)=false:=F
    simpa using F
   have j:r7 e tx=(a24 (jR e (U5 e tx).1.toNat) (U5 e tx).1.toNat,0):=by unfold r7;rw[if_pos h0,if_pos F]
   rw[j];exact⟨(jR e (U5 e tx).1.toNat,(U5 e tx).1.toNat),⟨⟨xR (jR e (U5 e tx).1.toNat),o,Z6⟩,by show _<(e.X.set _ _).length;omega,by show(e.X.set _ _).length<=_;omega,q,C⟩,xR (a24 (jR e (U5 e tx).1.toNat) (U5 e tx).1.toNat),rfl,Z6⟩
theorem b9F{r:Rec}(h:L9 r=true):r.b.length<=30/\r.a.length<=38:=by
 have h:=(Q6 r).1 h;unfold C8 at h;obtain⟨_,_,_,_,_,_,_,_,_,_,_,_,_,_,B,f,e⟩:=h;refine⟨Z9,?_⟩
 by_cases d:r.k=6
 ·exact a05 (f d).2.2.2.2.2.2
 ·have:=(e d).2.2.1;omega
theorem c5t{r:Rec}(h:L9 r=true):(P2 r).length<=160:=by
 obtain⟨d,e⟩:=b9F h;have f:(F8 (m0 (a49 r))).length=4:=rfl;have hl:(P2 r).length=16+(r.b.length+r.a.length):=by
  unfold P2 a49;rw[K2];simp only[S0,W1,K2,List.length_cons,List.length_nil];show _+4=_;simp;omega
 omega
def c08(d:Dsk):Prop:=d.E.length=69/\d.keep.length<=500/\(d.A=false->d.keep.length=0)/\(∀i,i<d.E.length->(d.E.getD i []).length<=160)/\∀i,i<d.C.length->(d.C.getD i dz).d.length<=160
theorem c0R{d:Dsk}(h:c08 d):yY (U6 d).1/\(U6 d).1.E.length=69:=by
 obtain⟨l,g,j,e,f⟩:=h;unfold U6;split
 ·have hl:(crD d d.keep).E.length=d.E.length:=C1 _ _ _ _;refine⟨⟨X0,X0,O3 _,O3 _,λ_=>rfl,λi hi=>?_,λi hi=>absurd hi (J5 _)⟩,X0⟩
  dsimp only at hi;rw[hl] at hi;exact b5f d.E d.C (kp d.keep) e f _ (V8 _) i hi
 ·have hl:(b5 d.E d.C (λ_=>true) d.C.length).length=d.E.length:=C1 _ _ _ _
  refine⟨⟨X0,X0,O3 _,g,j,λi hi=>?_,λi hi=>absurd hi (J5 _)⟩,X0⟩
  dsimp only at hi;rw[hl] at hi;exact b5f d.E d.C (λ_=>true) e f _ (V8 _) i hi
theorem c5G{s:Sto}{l:Int}(hd:yY s.d)(B:uF s l)(r:m9 s.L):c08 (qQ s (M3 s l)):=by
 have h:=B.2.2.2.1;refine⟨h,hd.2.2.2.1,hd.2.2.2.2.1,hd.2.2.2.2.2.1,λi hi=>?_⟩
 have hi:i<(s.d.C++List.map (qI s) (List.range (M3 s l))).length:=hi;show((s.d.C++List.map (qI s) (List.range (M3 s l))).getD i dz).d.length<=160;rw[R2]
 by_cases hc:i<s.d.C.length
 ·rw[uW hc,←R2]
  exact(fH (hd.2.2.2.2.2.2 i hc)).2.2
 ·rw[tG Z9,←R2]
  simp only[K2,List.length_map,j_g] at hi;rw[c1P _ Z9]
  have n:=lY (i:=i-s.d.C.length) B Z9
  obtain⟨_,_,_,_,e,_,_,f,_⟩:=B;exact c5t ((Q6 _).2 (r.2 _ Z9).1)
theorem c0G{s:Sto}{l:Int}(hd:yY s.d)(h:uF s l)(r:m9 s.L):yY (W4 s l).1.d/\(W4 s l).1.d.E.length=69:=by
 by_cases hl:l<=s.S
 ·rw[k5 hl];exact⟨hd,h.2.2.2.1⟩
 ·rw[zX hl];exact c0R (c5G hd h r)
theorem a8N{e:Eng}(h:P1 e=true)(u:e.up=true):e.s.L.length+i5 e<=60:=by
 have d:=(D5 h).2.2;rw[if_pos u] at d;unfold upE at d;simp only[O4,r8] at d;exact d.2
theorem c3p{e:Eng}{k:Nat}(h:k<e.X.length):1<=i5 e:=by
 unfold i5;cases d:e.X.length with
 |zero=>omega
 |succ n=>unfold w8;omega
theorem a8D{e:Eng}(h:P1 e=true)(u:e.up=true){i:Nat}(hi:i<e.X.length):1<=(e.X.getD i dz).Z/\(e.X.getD i dz).Z<=e.s.L.length:=by
 have:=c1J h u i hi;unfold A7 nX at this;simp only[zV,zF,O4,T2] at this;exact this.2.1
theorem a6o{l:Lks}(h:G3 l=true):l.H.length<=60/\l.W.length<=100:=by
 unfold G3 at h;simp only[O4,r8] at h;exact h.2.1
theorem k7{e:Eng}{tx:Int}(h:(U5 e tx).2=0):e.up=true/\∃k:Nat,(U5 e tx).1=(k:Int)/\k<e.X.length/\(e.X.getD k dz).id=tx/\S8 e.X tx=k:=by
 revert h;unfold U5;split
 ·rename_i hu;split
  ·intro h;cases h
  ·rename_i d;intro _;have d:¬Q9 e.X.length (b9 e.X tx)<0:=d;obtain⟨i,hi,hp,_,f⟩:=a1T d;exact⟨hu,i,f,hi,by unfold b9 at hp;simpa using hp,f⟩
 ·intro h;cases h
def c3G(e:Eng)(k:Nat)(r:Rec):Prop:=r.k≠6/\r.k≠1/\1<=r.k/\r.k<=6/\(r.k≠3->r.n=0)/\(r.k≠2->r.k≠3->r.g=0/\r.s=0/\r.b=[]/\r.a=[])/\0<=r.n/\r.n<=(e.s.L.length:Int)/\0<=r.g/\r.g<=7/\0<=r.s/\r.s<=3/\r.b.length<=30/\r.a.length<=30/\(r.k=3->r.b=[])/\k<e.X.length
theorem c57{e:Eng}{tx:Int}{k:Nat}{r:Rec}(h:P1 e=true)(u:e.up=true)(A:S8 e.X tx=k)(f:k<e.X.length)(hi:(e.X.getD k dz).id=tx)(l:c3G e k r):AddB e tx k r/\(L9 (T1 e.s (M2 e k r))=true/\e.s.L.length+1<=60):=by
 obtain⟨M,O,U,_⟩:=vL (D5 h).2.1;have g:=b6T (D5 h).1;have hl:=a8D h u f;have z:=c2l h u f;have o:=a8N h u;have N:=c3p f;obtain⟨j,q,F,J,B,n,L,Q,I,x,C,v,i,t,R,_⟩:=l;have d:L9 (T1 e.s (M2 e k r))=true:=by
  refine(Q6 _).2 ?_
  unfold C8 T1 M2;dsimp only;refine⟨g.1,g.2,Z9,Z9,Z9,Z9,Z9,Z9,Z9,Z9,Z9,Z9,Z9,Z9,Z9,λe=>absurd e j,λ_=>⟨Z9,Z9,Z9,n,B,R,⟨λe=>absurd e q,λe=>Z9⟩⟩⟩
 exact⟨⟨A,f,hi,d,Z9,Z9,⟨Z9,Z9⟩⟩,d,Z9⟩
theorem b58{s:Sto}{r:Rec}(L:m9 s.L)(h:L9 (T1 s r)=true)(hl:s.L.length+1<=60):m9 (apx s r).L:=by
 have e:(apx s r).L=s.L++[T1 s r]:=rfl;rw[e];refine⟨H4,λi hi=>?_⟩
 rw[K2,List.length_singleton] at hi;by_cases C:i<s.L.length
 ·have:(s.L++[T1 s r]).getD i dz=s.L.getD i dz:=by
   rw[R2,uW C,←R2]
  rw[this];exact L.2 i C
 ·have:i=s.L.length:=by omega
  subst this;have:(s.L++[T1 s r]).getD s.L.length dz=T1 s r:=a4n s r;rw[this];exact⟨(Q6 _).1 h,rfl⟩
theorem c3F{s:Sto}{l:Int}(hd:yY s.d)(h:s.d.E.length=69)(r:m9 s.L)(f:0<=s.S)(e:s.S<=s.L.length)(hl:l<=s.L.length):uF s l:=by
 have hp:=c4P hd;obtain⟨d1,d2,j,g,_⟩:=hd;refine⟨⟨Z9,Z9,Z9⟩,Z9,hp,h,f,e,r.1,hl,λi hi=>?_⟩
 obtain⟨a,b⟩:=r.2 i hi;exact⟨b,a8l ((Q6 _).2 a)⟩
theorem c40{e:Eng}{k:Nat}(h:k<e.X.length):c3G e k a1R:=by
 unfold c3G a1R;dsimp only;exact⟨Z9,Z9,Z9,Z9,λ_=>rfl,λ_ _=>Z8,Z9,Z9,Z9,Z9,Z9,Z9,X1,X1,λ_=>rfl,h⟩
theorem b8y{e:Eng}{tx:Int}{k:Nat}(o:P1 e=true)(u:e.up=true)(A:S8 e.X tx=k)(i:k<e.X.length)(hi:(e.X.getD k dz).id=tx):m9 (nZ e k).s.L/\uF (nZ e k).s (e.s.L.length+1:Nat)/\yY (nC e k).1.d/\(nC e k).1.d.E.length=69:=by
 obtain⟨_,f,hl⟩:=c57 o u A i hi (c40 i);obtain⟨hd,g⟩:=b9A o;have h:=b58 (mJ (D5 o).1) f hl;have h:m9 (nZ e k).s.L:=h;have n:(nZ e k).s.L.length=e.s.L.length+1:=by show(e.s.L++[_]).length=_;simp
 have j:=tJ ((J8 e.s).1 (D5 o).1).1.2.2;have F:uF (nZ e k).s (e.s.L.length+1:Nat):=c3F hd g h j.1 (by have:(nZ e k).s.S=e.s.S:=rfl;omega) Z9
 exact⟨h,F,c0G hd F h⟩
theorem c60{e:Eng}(tx:Int)(h:P1 e=true):c20 e tx:=by
 obtain⟨l,n,o,A⟩:=vL (D5 h).2.1;obtain⟨l1,l2⟩:=a6o A;refine⟨nO,λg=>?_⟩
 obtain⟨u,k,i,f,hi,j⟩:=k7 g;rw[i,G2];obtain⟨_,F,hd,d⟩:=b8y h u j f hi;exact⟨f,Z9,by have:=(mJ (D5 h).1).1;omega,F,hd,d,Z9,Z9⟩
open Go.SS Go.RowKit Go.Proofs.Tryz
def b2m{α:Type}(L:List α)(k:Nat):List α:=L.take k++L.drop (k+1)
def bE(o o':Ob):Prop:=o=o'∨∃cl ty sz n n' row row',o= .arr cl ty sz n row/\o'= .arr cl ty sz n' row'/\n'<=n/\∀i,i<n'->row' i=row i
def c5f(H H':Y4):Prop:=H'.length=H.length/\∀k o',Z1 H' k=some o'->∃o,Z1 H k=some o/\bE o o'
theorem bE.blk{E:Env}{k:Nat}{o o':Ob}{b:Nat}(h:bE o o')(B:B7 E k o' b):B7 E k o b:=by
 rcases h with rfl|⟨cl,ty,sz,n,n',row,row',rfl,rfl,_,_⟩
 ·exact B
 ·exact .inl (B.arr rfl)
theorem bE.ok{E:Env}{w:World}{k:Nat}{o o':Ob}(h:bE o o')(ho:i6 E w k o):i6 E w k o':=by
 rcases h with rfl|⟨cl,ty,sz,n,n',row,row',rfl,rfl,hn,hr⟩
 ·exact ho
 ·obtain⟨e1,e2,e3,e4,e5,cs,tyb,e6,e7,e8⟩:=(show T4 E w k ⟨cl,ty,sz,n,row⟩ from ho)
  dsimp only at e1 e2 e3 e4 e5 e7 e8;refine(show T4 E w k ⟨cl,ty,sz,n',row'⟩ from⟨e1,Nat.le_trans hn e2,λi hi=>?_,λi t hi d=>?_,λC i t hi d=>?_,cs,tyb,e6,e7,λi j t hi J=>?_⟩)
  ·have hi:i<n':=hi;show(row' i).length=sz;rw[hr i hi];exact e3 i Z9
  ·have hi:i<n':=hi;have d:t ∈ row' i:=d;rw[hr i hi] at d;exact e4 i t Z9 d
  ·have hi:i<n':=hi;have d:t ∈ row' i:=d;rw[hr i hi] at d;exact e5 C i t Z9 d
  ·have hi:i<n':=hi;have J:(row' i)[j]? =some t:=J;rw[hr i hi] at J;exact e8 i j t Z9 J
theorem b0f{P:Program}{f:FuncId}{args:List T}{H H1 H2:Y4}{res:T}(h:H6 P f args H res H1)(hc:c5f H1 H2):H6 P f args H res H2:=by
 intro E w vs q N r;refine(h E w vs q N r).mono ?_
 rintro e w' ⟨v,E',rfl,hI,t,g⟩;refine⟨v,E',rfl,⟨⟨λk o hk=>?_,λk k' o o' b hk i B j=>?_,λk hk=>by rw[hc.1];exact hI.heap.lt k hk,hI.heap.l2,λk o v hk hv=>?_⟩,hI.nlt,hI.nnew,λk o b hk B=>?_,hI.fr,hI.keep⟩,t,g⟩
 ·obtain⟨o0,h0,hcut⟩:=hc.2 k o hk;obtain⟨u,x,A⟩:=hI.heap.live k o0 h0;exact⟨u,hcut.ok x,λb B=>A b (hcut.blk B)⟩
 ·obtain⟨o0,h0,hcut⟩:=hc.2 k o hk;obtain⟨O,l,d⟩:=hc.2 k' o' i;exact hI.heap.inj k k' o0 O b h0 l (hcut.blk B) (d.blk j)
 ·obtain⟨o0,h0,hcut⟩:=hc.2 k o hk;obtain⟨v0,ty,sz,n,row,rfl,hle⟩:=hI.heap.cur k o0 v h0 hv;rcases hcut with rfl|⟨_,_,_,_,_,_,_,e,_⟩
  ·exact⟨v0,ty,sz,n,row,rfl,hle⟩
  ·cases e
 ·obtain⟨o0,h0,hcut⟩:=hc.2 k o hk;exact hI.bnew k o0 b h0 (hcut.blk B)
theorem b88{a b c:Option Ob}(h:∀o',c=some o'->∃o,a=some o/\bE o o'):c5f [a,b] [c,b]:=by
 refine⟨rfl,λk o' d=>?_⟩
 match k,d with
 |0,d=>exact h o' d
 |1,d=>exact⟨o',d,.inl rfl⟩
 |k+2,d=>simp[Z1] at d
def tF{α:Type}[Inhabited α](f:α->Bool)(L:List α)(j:Nat):List α:=X5 f L j++L.drop (X5 f L j).length
theorem c6c{α:Type}[Inhabited α]{f:α->Bool}{L:List α}{j q:Nat}(h:(X5 f L j).length<=q):(tF f L j).getD q dz=L.getD q dz:=by
 unfold tF;rw[R2,tG h,List.getElem?_drop,←R2]
 congr 1
 omega
theorem c6I{α:Type}[Inhabited α]{f:α->Bool}{L:List α}{j q:Nat}(h:q<(X5 f L j).length):(tF f L j).getD q dz=(X5 f L j).getD q dz:=by
 unfold tF;rw[R2,uW h,←R2]
theorem c6G{α:Type}[Inhabited α]{f:α->Bool}{L:List α}{j:Nat}(h:f (L.getD j dz)=false):tF f L (j+1)=tF f L j:=by
 unfold tF;rw[aB h]
theorem c70{α:Type}[Inhabited α]{f:α->Bool}{L:List α}{j:Nat}(h:f (L.getD j dz)=true)(q:Nat):(tF f L (j+1)).getD q dz=if q=(X5 f L j).length then L.getD j dz else(tF f L j).getD q dz:=by
 have e:tF f L (j+1)=X5 f L j++(L.getD j dz::L.drop ((X5 f L j).length+1)):=by
  unfold tF;rw[aX h,K2,List.length_singleton,List.append_assoc];rfl
 rw[e];unfold tF;generalize X5 f L j=A;generalize L.getD j dz=x;rcases Nat.lt_trichotomy q A.length with h1|h1|h1
 ·rw[if_neg Z9,R2,R2,uW h1,uW h1]
 ·rw[if_pos h1,R2,h1,tG (V8 _),j_i]
  rfl
 ·rw[if_neg Z9,R2,R2,tG Z9,tG Z9]
  obtain⟨d,hd⟩:∃d,q-A.length=d+1:=⟨q-A.length-1,Z9⟩
  rw[hd,List.getElem?_cons_succ,List.getElem?_drop,List.getElem?_drop]
  congr 2
  omega
theorem a9O{α:Type}[Inhabited α]{f:α->Bool}{L:List α}:∀j,j<=L.length->(∀q,q<j->f (L.getD q dz)=true)->X5 f L j=L.take j
 |0,_,_=>by simp[X5]
 |j+1,hj,h=>by
  rw[aX (h j Z9),a9O j Z9 λq Q=>h q Z9,List.take_add_one,R2,J4 (show j<L.length by omega)]
  rfl
theorem b3Q{α:Type}[Inhabited α]{f:α->Bool}{L:List α}{j:Nat}(J:j<=L.length)(h:∀q,q<j->f (L.getD q dz)=true):(X5 f L j).length=j/\tF f L j=L:=by
 have e:=a9O j J h;have hl:(L.take j).length=j:=by rw[List.length_take];omega
 unfold tF;rw[e,hl];exact⟨rfl,List.take_append_drop j L⟩
def d1(L:List Lck)(tx:Int)(i:Nat):Bool:=(L.getD i dz).tx==tx
def d2(L:List Wt)(tx:Int)(i:Nat):Bool:=(L.getD i dz).tx==tx||(L.getD i dz).fo==tx
def zWt:List T:=[Ji 0,Ji 0]
theorem c0j{n:Nat}{p:Nat->Bool}(h:Q9 n p= -1):∀q,q<n->p q=false:=by
 intro q;induction q using Nat.strongRecOn with
 |ind q i=>
  intro Q;cases hp:p q with
  |false=>rfl
  |true=>
   have:=N4 Q hp λj J=>i j J Z9
   rw[this] at h;omega
theorem b4S{n:Nat}{p:Nat->Bool}(h:(Q9 n p==(-1:Int))=false):∃i,i<n/\p i=true/\(∀j,j<i->p j=false)/\Q9 n p=(i:Int):=by
 refine a1T λN=>?_
 cases A:anyI n p with
 |false=>
  rw[K9 (R8.1 A)] at h;cases h
 |true=>
  obtain⟨i,hi,hp⟩:=U3.1 A;have f:∃i,i<n/\p i=true/\∀j,j<i->p j=false:=by
   induction i using Nat.strongRecOn with
   |ind i I=>
    by_cases d:∃j,j<i/\p j=true
    ·obtain⟨j,d,J⟩:=d;exact I j d Z9 J
    ·refine⟨i,hi,hp,λj hj'=>?_⟩
     cases J:p j with
     |false=>rfl
     |true=>exact absurd ⟨j,hj',J⟩ d
  obtain⟨i,hi,hp,hl⟩:=f;rw[N4 hi hp hl] at N;omega
theorem b94{α:Type}[Inhabited α]{ts:α->List T}{m:Nat}(M:∀a,(ts a).length=m){f:α->Bool}{L:List α}{j:Nat}(h:f (L.getD j dz)=true):Z7 L.length (setRow (λi=>ts ((tF f L j).getD i dz)) (X5 f L j).length 0 (ts (L.getD j dz))) λi=>ts ((tF f L (j+1)).getD i dz):=λi _=>by
 rw[h9 (by rw[M,M])]
 dsimp only;rw[c70 h];cases B:Nat.beq i (X5 f L j).length with
 |true=>
  rw[if_pos (G1 B)]
 |false=>
  rw[if_neg λe=>by rw[e,Nat.beq_refl] at B;cases B]
theorem b5W{row row':Nat->List T}{n m:Nat}{z:List T}(h:∀i,i<n->row i=row' i)(M:n<=m):Z7 n row (G8 row' m (n-m) z):=λi hi=>by
 unfold G8;cases B:Nat.ble m i with
 |true=>exact absurd (zP B) Z9
 |false=>exact h i hi
theorem c0Y{α:Type}[Inhabited α]{ts:α->List T}{sz:Nat}{f:α->Bool}{L:List α}{z:List T}{b:Option Ob}(h:(X5 f L L.length).length<=L.length):c5f [some (.arr true 0 sz L.length (G8 (λi=>ts ((tF f L L.length).getD i dz)) (X5 f L L.length).length (L.length- (X5 f L L.length).length) z)),b] [some (.arr true 0 sz (X5 f L L.length).length (λi=>ts ((X5 f L L.length).getD i dz))),b]:=b88 λo' o=>by
 simp only[X2] at o;subst o;refine⟨_,rfl,.inr ⟨_,_,_,_,_,_,_,rfl,rfl,h,λi hi=>?_⟩⟩
 unfold G8;cases B:Nat.ble (X5 f L L.length).length i with
 |true=>exact absurd (zP B) Z9
 |false=>exact(congrArg ts (c6I hi)).symm
def b6q:Con:=.rel ⟨Eng×Int,λx=>[.bref x.1.ts,Ji x.2],λx=>Ji (U5 x.1 x.2).2,λx=>M1 x.1.X.length⟩
theorem bT:GK 64 b6q:=gk func64<|by
 rintro⟨e,tx⟩ (hL:M1 e.X.length);refine S1 (gC jB gN) func64 Y9 (α:=let p:=(U5 e tx).2;br (!e.up) (15=p) (∃(x:(Eng×Int)),(((Q7 e x.1)/\tx=x.2/\True)/\M1 x.1.X.length)/\bd (S8 x.1.X x.2<0) (19=p) (0=p))) ⟨λh=>by rw[c6p h],λh=>⟨(e,tx),⟨Z8,hL⟩,λq=>by rw[c6N h q],λq=>by rw[c6i h q]⟩⟩
theorem tU(n:Int):((zW n).toNat:Int)=n % 256:=by
 unfold zW;rw[a2d (O2 _),IntKind.wrap_u8]
theorem a7w{n:Int}(h:0<=n)(d:n<=255):((zW n).toNat:Int)=n:=by
 rw[tU];omega
theorem c4Y{n:Nat}(h:n<65536):be (zQ n)=n:=by
 have d:=tU ((n:Int).fdiv 256);have e:=tU ((n:Int).fdiv 1);rw[Int.fdiv_eq_ediv_of_nonneg _ X1] at d e
 show(0*256+(zW ((n:Int).fdiv 256)).toNat)*256+(zW ((n:Int).fdiv 1)).toNat=n;rw[Int.fdiv_eq_ediv_of_nonneg _ X1,Int.fdiv_eq_ediv_of_nonneg _ X1]
 omega
theorem b72{n:Nat}(h:n<4294967296):be (F8 n)=n:=by
 have e:=tU ((n:Int).fdiv 16777216);have f:=tU ((n:Int).fdiv 65536);have d:=tU ((n:Int).fdiv 256);have g:=tU ((n:Int).fdiv 1);rw[Int.fdiv_eq_ediv_of_nonneg _ X1] at e f d g
 show(((0*256+(zW ((n:Int).fdiv 16777216)).toNat)*256+(zW ((n:Int).fdiv 65536)).toNat)*256+(zW ((n:Int).fdiv 256)).toNat)*256+(zW ((n:Int).fdiv 1)).toNat=n;rw[Int.fdiv_eq_ediv_of_nonneg _ X1,Int.fdiv_eq_ediv_of_nonneg _ X1,Int.fdiv_eq_ediv_of_nonneg _ X1,Int.fdiv_eq_ediv_of_nonneg _ X1]
 omega
theorem b6C(l:Bz):R3 (l++F8 (m0 l))=true/\W6 (l++F8 (m0 l))=l:=by
 have d:(F8 (m0 l)).length=4:=rfl;have hl:(l++F8 (m0 l)).length-4=l.length:=by rw[K2,d];omega
 have h:(l++F8 (m0 l)).take l.length=l:=List.take_left;have hd:(l++F8 (m0 l)).drop l.length=F8 (m0 l):=List.drop_left;have ok:R3 (l++F8 (m0 l))=true:=by
  unfold R3;rw[hl,h,hd,b72 (a1B l),K2,d];simp
 refine⟨ok,?_⟩
 unfold W6;rw[if_pos ok,hl,h]
def b5H(L:List (Bz)):Prop:=L.length<=100/\∀i,i<L.length->(L.getD i []).length<=255
theorem jI(L:List (Bz))(i:Nat):∀k,∃r,W1 L (i+k)=W1 L i++r
 |0=>⟨[],W8⟩
 |k+1=>by
  obtain⟨r,h⟩:=jI L i k;refine⟨r++[zW (L.getD (i+k) []).length]++L.getD (i+k) [],?_⟩
  show W1 L (i+k)++[zW (L.getD (i+k) []).length]++L.getD (i+k) []=_;rw[h];simp only[List.append_assoc]
theorem a8o{α:Type}(d:α)(L:List α){i:Nat}(h:i<L.length):L.take (i+1)=L.take i++[L.getD i d]:=by
 rw[List.take_add_one,R2,J4 h]
 rfl
theorem b3E{L:List (Bz)}(h:b5H L):∀i,i<=L.length->yD (S0 L) i=some ((W1 L i).length,L.take i)
 |0,_=>rfl
 |i+1,hi=>by
  obtain⟨r,R⟩:=jI L (i+1) (L.length- (i+1));rw[show i+1+(L.length- (i+1))=L.length by omega] at R
  have C:((zW (L.getD i []).length).toNat:Int)=(L.getD i []).length:=a7w Z9 (by have:=h.2 i Z9;omega)
  have B:S0 L=W1 L i++([zW (L.getD i []).length]++(L.getD i []++r)):=by
   unfold S0;rw[R];show W1 L i++[zW (L.getD i []).length]++L.getD i []++r=_;simp only[List.append_assoc]
  have g:(S0 L).getD (W1 L i).length 0=zW (L.getD i []).length:=by
   rw[B,R2,tG (V8 _)]
   simp
  have hl:(S0 L).length=(W1 L i).length+(1+((L.getD i []).length+r.length)):=by rw[B];simp only[K2,List.length_cons,List.length_nil]
  have n:(zW (L.getD i []).length).toNat=(L.getD i []).length:=Z9
  have e:List.drop ((W1 L i).length+1) (List.take ((W1 L i).length+1+(L.getD i []).length) (S0 L))=L.getD i []:=by
   rw[B,←List.append_assoc,←List.append_assoc];rw[List.take_left' (by simp only[K2,List.length_cons,List.length_nil]),List.drop_left' (by simp only[K2,List.length_cons,List.length_nil])]
  conv=>lhs;unfold yD
  rw[b3E h i Z9]
  dsimp only;rw[g,n,if_pos ⟨Z9,Z9⟩,e,a8o [] L Z9]
  congr 2
  simp only[W1,K2,List.length_cons,List.length_nil]
theorem a0E{L:List (Bz)}(h:b5H L):P6 (S0 L)=some L:=by
 obtain⟨r,R⟩:=jI L 0 L.length;rw[C9] at R;have C:((zW L.length).toNat:Int)=L.length:=a7w Z9 (by have:=h.1;omega)
 have f:D1 (S0 L)=L.length:=by
  unfold D1 S0;rw[R];show(zW L.length).toNat=_;omega
 have hl:(S0 L).length≠0:=by
  unfold S0;rw[R];simp[W1]
 unfold P6;rw[f,if_neg (by have:=h.1;omega),b3E h _ (V8 _)]
 dsimp only;rw[show(W1 L L.length).length=(S0 L).length from rfl,if_pos rfl,cH]
theorem c66{no:Int}{p:Pg}(h:PgP p)(t:0<=no)(v:no<=255):F5 no (P3 no p)=(p,true):=by
 obtain⟨l,q,j,d⟩:=h;obtain⟨U,u⟩:=b6C (sT no p);have hF:b5H p.sl:=⟨Z9,λi hi=>Nat.le_trans (d i hi) X1⟩
 obtain⟨r,R⟩:=jI p.sl 0 p.sl.length;have n:1<=(S0 p.sl).length:=by
  unfold S0;rw[←C9 p.sl.length,R];simp[W1]
 have f:sT no p=Q8 112::zW no::(zQ p.Q.toNat++S0 p.sl):=by unfold sT;simp
 have e:(zQ p.Q.toNat).length=2:=rfl;have o:vO no (sT no p)=true:=by
  unfold vO;rw[f];simp only[List.length_cons,K2,e,O4,r8];exact⟨Z9,rfl,a7w t v⟩
 have g:(sT no p).drop 4=S0 p.sl:=by
  unfold sT;exact List.drop_left' (by simp[e])
 have d2:((sT no p).drop 2).take 2=zQ p.Q.toNat:=by
  rw[f];exact List.take_left' e
 have hx:pgX (sT no p)=p:=by
  unfold pgX;rw[g,d2,a0E hF,c4Y Z9,Option.getD_some,show((p.Q.toNat:Nat):Int)=p.Q by omega]
 have ok:o4 p=true:=qK ⟨l,q,j,d⟩;unfold F5 P3;rw[U,u,o,hx,g,a0E hF,ok];rfl
theorem b7s(L:List (Bz))(h:∀i,i<L.length->(L.getD i []).length<=30):∀i,i<=L.length->(W1 L i).length<=1+31*i
 |0,_=>by simp[W1]
 |i+1,hi=>by
  have d:=b7s L h i Z9
  have e:=h i Z9
  simp only[W1,K2,List.length_cons,List.length_nil];omega
theorem c1O{no:Int}{p:Pg}(h:PgP p):(P3 no p).length<=160/\P3 no p≠[]:=by
 obtain⟨j,l,i,d⟩:=h;have:=b7s p.sl d p.sl.length (V8 _);have f:(F8 (m0 (sT no p))).length=4:=rfl;have g:(zQ p.Q.toNat).length=2:=rfl;have hl:(P3 no p).length=8+(S0 p.sl).length:=by
  unfold P3;rw[K2,f];unfold sT;simp only[K2,List.length_cons,List.length_nil,g];omega
 refine⟨by rw[hl];unfold S0;omega,λe=>?_⟩
 rw[e] at hl;simp at hl;omega
structure SI(s:Sto):Prop where
 iv:SInv s
 dw:c08 s.d
 pl:∀no,no<8->(U2 s.d no).1.Q<=s.L.length
theorem b6u{d:Dsk}(h:yY d)(e:d.E.length=69):c08 d:=by
 obtain⟨o,n,q,g,l,f,j⟩:=h;exact⟨e,g,l,f,λi hi=>(fH (j i hi)).2.2⟩
theorem c7n{s:Sto}(h:G6 s=true)(M:SmS s):SI s:=by
 have hd:=((y6 s).1 ((J8 s).1 h).1.1);refine⟨a8E h M,b6u hd.1 hd.2.1,λno n=>?_⟩
 have B:=((J8 s).1 h).2.2.1 no n;have d:=tJ ((J8 s).1 h).1.2.2;unfold c9 at B;simp only[zV,qN] at B;omega
theorem c0z{L:List Txn}{n:Int}{k:Nat}(h:k<L.length):((L.set k ⟨(L.getD k dz).id,n⟩).getD k dz).id=(L.getD k dz).id:=by
 rw[R2 (l:=L.set k _),j_j h]
 rfl
def b7J(r:Rec):Rec:=⟨0,0,0,3,0,r.p,r.g,r.s,[],r.b⟩
def c7d(e:Eng)(k:Nat)(r:Rec):Rec:=T1 e.s (M2 e k (b7J r))
def c3i(e:Eng)(k:Nat)(r:Rec):Eng×Bool:=({y7 e k (b7J r) with s:=(R6 (y7 e k (b7J r)).s (c7d e k r)).1},(R6 (y7 e k (b7J r)).s (c7d e k r)).2)
def c56(e:Eng)(k:Nat)(r:Rec)(v:Nat):Nat:=P4 (y7 e k (b7J r)).s r.g.toNat v
def b99(k:Nat)(to:Int):Nat->Eng->Nat->Int->(Eng×Nat)×Bool
 |0,e,v,_=>((e,v),true)
 |f+1,e,v,a=>if a<=to then((e,v),true) else if(X8 e.s.L a).k=3 then b99 k to f e v (X8 e.s.L a).n
  else if(X8 e.s.L a).k=2 then(if(c3i e k (X8 e.s.L a)).2=true then b99 k to f (c3i e k (X8 e.s.L a)).1 (c56 e k (X8 e.s.L a) v) (X8 e.s.L a).p else(((c3i e k (X8 e.s.L a)).1,c56 e k (X8 e.s.L a) v),false))
  else b99 k to f e v (X8 e.s.L a).p
structure UE(e:Eng)(k:Nat)(tx:Int):Prop where
 si:SI e.s
 at_:S8 e.X tx=k
 lt:k<e.X.length
 id:(e.X.getD k dz).id=tx
 txr:1<=tx/\tx<=60
 la:1<=(e.X.getD k dz).Z/\(e.X.getD k dz).Z<=e.s.L.length
 ep:1<=e.s.ep/\e.s.ep<=60
 t10:e.X.length<=10
 lk:e.lk.H.length<=60/\e.lk.W.length<=100
 rm:e.s.L.length+1<=60
structure UI(e:Eng)(k:Nat)(tx a:Int):Prop where
 u:UE e k tx
 ar:0<=a/\a<=(e.s.L.length:Int)
 fu:∃f,a.toNat<f/\e.s.L.length+1+und e.s.L f a<=60
theorem rU{L:List Rec}{x:Rec}(d:m9 L):∀(f:Nat) (a:Int),a<=L.length->und (L++[x]) f a=und L f a
 |0,_,_=>rfl
 |f+1,a,ha=>by
  unfold und;by_cases h:a<=0
  ·rw[if_pos h,if_pos h]
  ·have e:X8 (L++[x]) a=X8 L a:=by
    unfold X8;rw[R2,uW Z9,←R2]
   obtain⟨j,l,g,i⟩:=d.prev (show 1<=a by omega) ha
   rw[if_neg h,if_neg h,e,rU d f _ Z9,rU d f _ Z9]
theorem vZ(e:Eng)(k:Nat)(r:Rec):(y7 e k r).s.L.length=e.s.L.length+1:=by
 show(e.s.L++[_]).length=_;simp
theorem b74{L:List Rec}{T:List Txn}{k:Nat}:∀n,k<n->1+und L 61 (T.getD k dz).Z<=w8 L T n
 |0,h=>absurd h (J5 k)
 |n+1,h=>by
  unfold w8;by_cases e:k=n
  ·subst e;omega
  ·have:=b74 (L:=L) (T:=T) (k:=k) n Z9
   omega
theorem c6z{e:Eng}{tx:Int}{k:Nat}(h:P1 e=true)(M:g9 e)(u:e.up=true)(j:S8 e.X tx=k)(f:k<e.X.length)(hi:(e.X.getD k dz).id=tx):UI e k tx (e.X.getD k dz).Z:=by
 obtain⟨i,n,q,A⟩:=vL (D5 h).2.1;have hl:=a8D h u f;have l:=c2l h u f;have o:=a8N h u;have d:=b74 (L:=e.s.L) (T:=e.X) e.X.length f;have d:1+und e.s.L 61 (e.X.getD k dz).Z<=i5 e:=d;have g:=(mJ (D5 h).1).1;exact⟨⟨c7n (D5 h).1 M.1,j,f,hi,Z9,hl,b6T (D5 h).1,i,a6o A,Z9⟩,Z9,61,Z9,Z9⟩
def b7h(k:Nat):Option Ob:=some (.arr false 1000000 1 1 λ_=>[.ref k 0 0])
def a6r(b:Bool):Option Ob:=some (.arr true 1000000 1 1 λ_=>[.bool b])
structure UdI(u0:(Eng×Nat)×Bool)(k:Nat)(tx to:Int) where
 e:Eng
 v:Nat
 a:Int
 f:Nat
 h:UI e k tx a
 hf:a.toNat<f
 eq:b99 k to f e v a=u0
theorem a4c{a:Bool}(h:(!a)=true):a=false:=by cases a with|true=>cases h|false=>rfl
end
end Go.Proofs.YtlbmgnomkjmafaaGreat
