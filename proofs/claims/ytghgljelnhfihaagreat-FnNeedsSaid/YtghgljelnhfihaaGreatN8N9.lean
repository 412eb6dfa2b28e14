/- A part of the proof. -/
import Derived.Test.YtghgljelnhfihaaGreatN5N6N7
namespace Go.Proofs.YtghgljelnhfihaaGreat
set_option maxRecDepth 100000
open Go.SS

def a0J:Con:=.rel ⟨Int×Int,λx=>[.int .i64 x.1,.int .i64 x.2],λx=>.bool (a3K x.1 x.2),λ_=>True⟩
theorem a1G(a b:Int)(h:
  (a==b||a==(4:Int)||b==(1:Int))=a3K a b):
  U1 Tryz.prog 360 [.int .i64 a,.int .i64 b] (.bool (a3K a b)):=
 Q5 gN Tryz.func360 Y5 h
theorem aI:GK 360 a0J:=gk Tryz.func360<|λx _=>a1G x.1 x.2 rfl
def a5w:Con:=.rel ⟨Lks×Lck,λx=>.agg x.1.ts::x.2.ts,λx=>.bool (anyI x.1.H.length (tC x.1.H x.2)),λx=>O6 x.1.H.length⟩
def a38(l:Lks)(x:Lck):Nat->Ann
 |0=>.one (V1 l.H.length (tC l.H x)) (λy=>⟨[(1,.int .i64 x.tx),(2,.int .i64 x.ta),(3,.int .i64 x.row),(4,.int .i64 x.mo),(5,.ref 0 0 0),(11,.int .i64 y.1)],[lkB l]⟩) (λy=>l.H.length-y.1) [.box 0] [.box 0] (λ_=>Y5)
 |_=>.none
theorem a2o:GK 350 a5w:=gk Tryz.func350<|by
 rintro⟨l,x⟩ (hL:l.H.length<1000000000000);refine Q5 (gC aI gN) Tryz.func350 (a38 l x) (α:=let z:=(1=1/\1=1/\(Y8 Y7 l.H l.H)/\(Y8 Y0 l.W l.W)/\True);(∃(x_1:V1 l.H.length (tC l.H x)),(x.tx=x.tx/\x.ta=x.ta/\x.row=x.row/\x.mo=x.mo/\(0=0/\0=0)/\0=(x_1.val:Int)/\True)/\z/\True)/\∀(x_1:V1 l.H.length (tC l.H x)),let q:=(x_1.val:Int);let u:=(q<(l.H.length:Int));let p:=(l.H.getD q.toNat dz);(decide u=true->V3 q l.H.length/\∃(x_2:(Int×Int)),let r:=(p.tx==x.tx&&p.ta==x.ta&&p.row==x.row&&a3K x_2.1 x_2.2);((p.tx==x.tx&&p.ta==x.ta&&p.row==x.row)=true->(p.mo=x_2.1/\x.mo=x_2.2/\True)/\True)/\(r=true->true=anyI l.H.length (tC l.H x))/\(r=false->W7 .i64 (q+1)/\∃(y:V1 l.H.length (tC l.H x)),((x.tx=x.tx/\x.ta=x.ta/\x.row=x.row/\x.mo=x.mo/\(0=0/\0=0)/\q+1=(y.val:Int)/\True)/\z/\True)/\Lt (l.H.length-y.val) (l.H.length-x_1.val)))/\(decide u=false->false=anyI l.H.length (tC l.H x))) ⟨⟨F7,⟨rfl,rfl,rfl,rfl,Z8,Z9⟩,⟨rfl,rfl,Z7,X5⟩,trivial⟩,λy=>⟨λhc=> ?_,λhc=> ?_⟩⟩
 ·have hlt:=X6 hc;exact⟨X8 hlt,((l.H.getD y.val dz).mo,x.mo),λ_=>⟨⟨rfl,Z9⟩,trivial⟩,λhp=>(Q9.2 ⟨y.val,hlt,hp⟩).symm,λhp=>⟨U5 hlt (by omega),y.succ hlt hp,⟨⟨rfl,rfl,rfl,rfl,Z8,by simp only[V1.succ];omega,trivial⟩,⟨rfl,rfl,⟨rfl,Z2 _ _⟩,⟨rfl,Z2 _ _⟩,trivial⟩,trivial⟩,V1.ext_lt hlt⟩⟩
 ·have hge:=X4 hc;exact(Q8.2 λj hj=>y.2.2 j (wM hj hge)).symm
def b9u:Con:=.rmk ⟨Lks,λl=>[.agg l.ts],λ_=>[],λl=>.agg (l.tm 0),λl=>l.hp,oD⟩
theorem b6k:GK 137 b9u:=gk Tryz.func137<|by
 rintro(l:Lks) ⟨h1,h2⟩;exact⟨v8 (gC N5 (gC N5 (gC N5 (gC N5 (gC N5 (gC N5 (gC N5 (gC N5 gN)))))))) Tryz.func137 Y5 [[.arr 2,.arr 3]] (α:=W6 0 l.H.length 32/\W6 0 l.W.length 16/\(((0=0/\l.H.length=l.H.length)/\(0=0/\l.W.length=l.W.length)/\True)/\True)/\(Y8 Y7 l.H l.H)/\(Y8 Y0 l.W l.W)/\True) ⟨by unfold W6;omega,by unfold W6;omega,⟨⟨Z8,U3⟩,trivial⟩,Z7,X5⟩,rfl,pJ l⟩
def b9y:Con:=.reff ⟨Lks×Int,λx=>[.agg (x.1.tm 0),.int .i64 x.2],λx=>x.1.hp,λx=>.agg [.osl 0 0 x.1.H.length,.osl 2 0 (C0 x.1 x.2).W.length],λx=>[xH x.1.H,nC x.1.W,nC (C0 x.1 x.2).W],λx=>x.1.W.length<=1000000⟩
def b7B(l:Lks)(tx:Int):Nat->Ann
 |0=>.one {i:Nat//i<=l.W.length} (λx=>⟨[(1,.int .i64 tx),(2,.ref 2 0 0),(4,.ref 3 0 0),(5,.osl 4 0 (X9 (cF tx) l.W x.1).length),(6,.int .i64 x.1)],[xH l.H,nC l.W,some (.arr false 1000000 2 1 λ_=>l.tm 0),lkB ⟨[],[]⟩,nC (X9 (cF tx) l.W x.1)]⟩) (λx=>l.W.length-x.1) [.arr 0,.arr 1,.box 2,.box 3,.at_ 5] [.arr 0,.arr 1,.box 2,.box 3,.at_ 5] (λ_=>Y5)
 |_=>.none
theorem b6l:GK 349 b9y:=gk Tryz.func349<|by
 rintro⟨l,tx⟩ (h1:l.W.length<=1000000);refine v8 gN Tryz.func349 (b7B l tx) [[.arr 0,.arr 1,.vl 0 [1]]] (α:=let a:=(X9 (cF tx) l.W l.W.length);let g:=(0=0/\l.H.length=l.H.length);let n:=(Y8 Y0 l.W l.W);let m:=(Y8 Y7 l.H l.H);let v:=(0=0/\0=0);let z:=(1=1/\1=1/\(0=0/\Z6 0 (Y7 []) (Y7 []))/\(0=0/\Z6 0 (Y0 []) (Y0 []))/\True);let q:=(1=1/\1=1/\g/\(0=0/\l.W.length=l.W.length)/\True);(∃(x:{i:Nat//i<=l.W.length}),let w:=(X9 (cF tx) l.W x.val);(tx=tx/\v/\v/\(0=0/\0=w.length)/\0=(x.val:Int)/\True)/\m/\n/\q/\(1=1/\1=1/\0=0/\0=0/\True)/\(0=w.length/\Z6 0 (λ(k:Nat)=>List.take 2 (List.drop (k*2) [])) (Y0 w))/\True)/\∀(x:{i:Nat//i<=l.W.length}),let t:=(l.W.length-x.val);let r:=(x.val:Int);let d:=(r<(l.W.length:Int));let c:=(0+r.toNat);let u:=(l.W.getD c dz);let p:=(X9 (cF tx) l.W x.val);let f:=p.length;(decide d=true->V3 r l.W.length/\Lt c l.W.length/\((u.tx !=tx)=true->V3 r l.W.length/\Lt c l.W.length/\(Le 1 1/\Le p.length f/\W6 p.length 1 16)/\W7 .i64 (r+1)/\∃(y:{i:Nat//i<=l.W.length}),let j:=(X9 (cF tx) l.W y.val);((tx=tx/\v/\v/\(0=0/\f+1=j.length)/\r+1=(y.val:Int)/\True)/\m/\n/\q/\z/\(f+1=j.length/\Z6 (f+1) (X3 (Y0 p) p.length λ(k:Nat)=>List.take 2 (List.drop (k*2) [T.int .i64 u.tx,T.int .i64 u.fo])) (Y0 j))/\True)/\Lt (l.W.length-y.val) t)/\((u.tx !=tx)=false->W7 .i64 (r+1)/\∃(y:{i:Nat//i<=l.W.length}),let b:=(X9 (cF tx) l.W y.val);((tx=tx/\v/\v/\(0=0/\f=b.length)/\r+1=(y.val:Int)/\True)/\m/\n/\q/\z/\(Y8 Y0 p b)/\True)/\Lt (l.W.length-y.val) t))/\(decide d=false->((g/\(0=0/\f=a.length)/\True)/\True)/\m/\n/\(Y8 Y0 p a)/\True)) ⟨⟨⟨0,S7 _⟩,⟨rfl,Z8,Z8,Z8,Z9⟩,Z7,Z7,⟨rfl,rfl,Z8,U3⟩,⟨rfl,rfl,rfl,Z9⟩,⟨rfl,V7⟩,trivial⟩,λx=>⟨λhc=> ?_,λhc=> ?_⟩⟩
 ·have hlt:=X6 hc;have hle:=yW (cF tx) l.W x.val;rw[F5,G9];refine⟨X8 hlt,hlt,λhq=> ?_,λhq=> ?_⟩
  ·have hn:=rD (f:=cF tx) hq;refine⟨X8 hlt,hlt,⟨W4 _,W4 _,by unfold W6;omega⟩,Z4 (by omega),⟨x.val+1,hlt⟩,⟨⟨rfl,Z8,Z8,⟨rfl,hn⟩,by dsimp only;omega,trivial⟩,⟨rfl,Z2 _ _⟩,⟨rfl,Z2 _ _⟩,⟨rfl,rfl,⟨rfl,rfl⟩,⟨rfl,rfl⟩,trivial⟩,⟨rfl,rfl,⟨rfl,V7⟩,⟨rfl,V7⟩,trivial⟩,⟨hn,?_⟩,trivial⟩,V1.ext_lt hlt⟩
   dsimp only;rw[fS (f:=cF tx) hq];exact wZ Wt.ts 2 (λ_=>rfl) _ _
  ·have hn:=oA (f:=cF tx) hq;refine⟨Z4 (by omega),⟨x.val+1,hlt⟩,?_,V1.ext_lt hlt⟩
   dsimp only;rw[hn];exact⟨⟨rfl,Z8,Z8,Z8,by omega,trivial⟩,Z7,Z7,⟨rfl,rfl,Z8,U3⟩,⟨rfl,rfl,⟨rfl,V7⟩,⟨rfl,V7⟩,trivial⟩,X5⟩
 ·have hx:x.val=l.W.length:=by have:=x.2;have:=X4 hc;omega
  rw[hx];exact⟨⟨⟨Z8,U3⟩,trivial⟩,Z7,Z7,X5⟩
def a9C(W:List Wt)(R:List Int):Nat:=(W.filter λw=> !R.contains w.fo).length
def RnS(W:List Wt)(tx:Int):Type:={x:Nat×Nat×List Int//a1Z W tx x.1 x.2.1 x.2.2=rnd W tx/\a9C W x.2.2+x.2.2.length<=x.2.1+x.1/\x.2.1<=x.2.2.length/\x.1+x.2.1=200}
def ScS(W:List Wt)(tx a:Int)(R:List Int):Type:={x:Nat×List Int//x.1<=W.length/\scn W tx a R x.1=some x.2}
def a4A:Con:=.rel ⟨Lks×Int,λx=>[.agg x.1.ts,.int .i64 x.2],λx=>.bool (rnd x.1.W x.2),λx=>x.1.W.length<=100⟩
def a5q(l:Lks)(tx:Int):Nat->Ann
 |0=>.one (RnS l.W tx) (λx=>⟨[(1,.int .i64 tx),(2,.ref 0 0 0),(5,.osl 1 0 x.1.2.2.length),(6,.int .i64 x.1.2.1)],[lkB l,x7 x.1.2.2]⟩) (λx=>x.1.1) [.box 0,.at_ 5] [.box 0,.at_ 5] (λx=>fun
  |1=>.one (ScS l.W tx (x.1.2.2.getD x.1.2.1 0) x.1.2.2) (λy=>⟨[(1,.int .i64 tx),(2,.ref 0 0 0),(5,.osl 1 0 y.1.2.length),(6,.int .i64 x.1.2.1),(7,.int .i64 y.1.1)],[lkB l,x7 y.1.2]⟩) (λy=>l.W.length-y.1.1) [.box 0,.at_ 5] [.box 0,.at_ 5] (λy=>fun
   |2=>.one {j:Nat//j<=y.1.2.length} (λz=>⟨[(1,.int .i64 tx),(2,.ref 0 0 0),(5,.osl 1 0 y.1.2.length),(6,.int .i64 x.1.2.1),(7,.int .i64 y.1.1),(8,.ref 2 0 0),(9,.bool (anyI z.1 (thr y.1.2 (l.W.getD y.1.1 dz).fo))),(10,.int .i64 z.1)],[lkB l,x7 y.1.2,some (.arr true 1000000 2 1 λ_=>(l.W.getD y.1.1 dz).ts)]⟩) (λz=>y.1.2.length-z.1) [.box 0,.at_ 5,.box 2] [.box 0,.at_ 5,.box 2] (λ_=>Y5)
   |_=>.none)
  |_=>.none)
 |_=>.none
theorem b1Q{n:Nat}{p:Nat->Bool}:anyI (n+1) p=(anyI n p||p n):=by
 unfold anyI;rw[List.range_succ,List.any_append];simp
theorem a2z{α:Type}{p q:α->Bool}(h:∀b,q b=true->p b=true):∀L:List α,(L.filter q).length<=(L.filter p).length
 | []=>W4 _
 |b::L=>by
  have ih:=a2z h L;cases hq:q b with
  |true=>rw[List.filter_cons_of_pos hq,List.filter_cons_of_pos (h b hq)];simp only[List.length_cons];omega
  |false=>
   rw[List.filter_cons_of_neg (by rw[hq];simp)]
   cases hp:p b with
   |true=>rw[List.filter_cons_of_pos hp];simp only[List.length_cons];omega
   |false=>rw[List.filter_cons_of_neg (by rw[hp];simp)];exact ih
theorem a1l{α:Type}{p q:α->Bool}(h:∀b,q b=true->p b=true){a:α}(hp:p a=true)(hq:q a=false):∀L:List α,a ∈ L->(L.filter q).length+1<=(L.filter p).length
 |b::L,ha=>by
  have hm:=a2z h L;by_cases e:b=a
  ·subst e;rw[List.filter_cons_of_pos hp,List.filter_cons_of_neg (by rw[hq];simp)]
   simp only[List.length_cons];omega
  ·have ih:=a1l h hp hq L ((wY.1 ha).resolve_left λe'=>e e'.symm)
   cases hqb:q b with
   |true=>rw[List.filter_cons_of_pos hqb,List.filter_cons_of_pos (h b hqb)];simp only[List.length_cons];omega
   |false=>
    rw[List.filter_cons_of_neg (by rw[hqb];simp)]
    cases hpb:p b with
    |true=>rw[List.filter_cons_of_pos hpb];simp only[List.length_cons];omega
    |false=>rw[List.filter_cons_of_neg (by rw[hpb];simp)];exact ih
theorem b39{Q:List Int}{a:Int}(h:anyI Q.length (thr Q a)=false):a ∉ Q:=λhm=>by
 obtain⟨i,hi,e⟩:=List.getElem_of_mem hm;have:=Q8.1 h i hi;unfold thr at this;rw[P8,K7 hi,e,Option.getD_some] at this
 simp at this
theorem b6e{W:List Wt}{Q:List Int}{k:Nat}(hk:k<W.length)(h:anyI Q.length (thr Q (W.getD k dz).fo)=false):a9C W (Q++[(W.getD k dz).fo])+1<=a9C W Q:=by
 have hm:=b39 h;refine a1l (λb hb=> ?_) (a:=W.getD k dz) ?_ ?_ W (g8 hk)
 ·simp only[xP,List.contains_eq_mem,rX,List.mem_append,not_or] at hb ⊢;exact hb.1
 ·simp only[xP,List.contains_eq_mem,rX];exact hm
 ·simp
theorem a2q{W:List Wt}{tx a:Int}{R Q:List Int}{k:Nat}(h:scn W tx a R k=some Q):scn W tx a R (k+1)=if(W.getD k dz).tx=a then(if(W.getD k dz).fo=tx then none else if anyI Q.length (thr Q (W.getD k dz).fo)=true then some Q else some (Q++[(W.getD k dz).fo])) else some Q:=by
 conv=>lhs;unfold scn
 rw[h]
theorem jV{W:List Wt}{tx a:Int}{R:List Int}{k:Nat}(h:scn W tx a R k=none):∀d,scn W tx a R (k+d)=none
 |0=>h
 |d+1=>by
  show scn W tx a R ((k+d)+1)=none;conv=>lhs;unfold scn
  rw[jV h d]
theorem b2q{W:List Wt}{tx a:Int}{R:List Int}:∀k Q,k<=W.length->scn W tx a R k=some Q->(∀i,i<R.length->Q.getD i 0=R.getD i 0)/\R.length<=Q.length/\a9C W Q+Q.length<=a9C W R+R.length
 |0,Q,_,h=>by
  unfold scn at h;cases h;exact⟨λ_ _=>rfl,W4 _,W4 _⟩
 |k+1,Q,hk,h=>by
  cases h0:scn W tx a R k with
  |none=>have:=jV h0 1;rw[this] at h;cases h
  |some Q0=>
   obtain⟨i1,i2,i3⟩:=b2q k Q0 (by omega) h0
   rw[a2q h0] at h;split at h
   ·split at h
    ·cases h
    ·split at h
     ·cases h;exact⟨i1,i2,i3⟩
     ·rename_i ha;cases h;have:=b6e (W:=W) (k:=k) (by omega) (by simpa using ha)
      refine⟨λi hi=> ?_,by simp;omega,by simp only[K6,List.length_singleton];omega⟩
      rw[←i1 i hi,P8,tX (by omega),←P8]
   ·cases h;exact⟨i1,i2,i3⟩
theorem c1Q{W:List Wt}{tx:Int}{f i:Nat}{R:List Int}(hi:i<R.length):a1Z W tx (f+1) i R=match scn W tx (R.getD i 0) R W.length with|none=>true|some Q=>a1Z W tx f (i+1) Q:=by
 conv=>lhs;unfold a1Z
 rw[if_pos hi];cases scn W tx (R.getD i 0) R W.length<;>rfl
theorem c1J{W:List Wt}{tx:Int}{f i:Nat}{R:List Int}(hi:¬i<R.length):a1Z W tx f i R=false:=by
 cases f with
 |zero=>rfl
 |succ f=>unfold a1Z;rw[if_neg hi]
theorem a1K:GK 351 a4A:=gk Tryz.func351<|by
 rintro⟨l,tx⟩ (h:l.W.length<=100);have hcw:∀R,a9C l.W R<=100:=λR=>Nat.le_trans (List.length_filter_le _ _) h
 refine Q5 gN Tryz.func351 (a5q l tx) (α:=let m:=(0=0/\0=0);let q:=(1=1/\1=1/\(Y8 Y7 l.H l.H)/\(Y8 Y0 l.W l.W)/\True);(∃(x:RnS l.W tx),(tx=tx/\m/\(0=0/\1=x.val.2.2.length)/\0=(x.val.2.1:Int)/\True)/\q/\(1=x.val.2.2.length/\Z6 1 (λ(k:Nat)=>List.take 1 (List.drop (k*1) [T.int .i64 tx])) (Y6 x.val.2.2))/\True)/\∀(x:RnS l.W tx),let b:=x.val.2.2.length;let r:=(x.val.2.1:Int);(decide (r<(b:Int))=true->(∃(x_1:ScS l.W tx (x.val.2.2.getD x.val.2.1 (0:Int)) x.val.2.2),(tx=tx/\m/\(0=0/\b=x_1.val.2.length)/\r=r/\0=(x_1.val.1:Int)/\True)/\q/\(Y8 Y6 x.val.2.2 x_1.val.2)/\True)/\∀(x_1:ScS l.W tx (x.val.2.2.getD x.val.2.1 (0:Int)) x.val.2.2),let p:=x_1.val;let a:=(l.W.length-p.1);let w:=(p.1:Int);let c:=(w<(l.W.length:Int));let v:=(l.W.getD w.toNat dz);let g:=(v.tx !=p.2.getD (0+r.toNat) (0:Int));let u:=p.2.length;let z:=(l.W.getD p.1 dz);let n:=(thr p.2 z.fo);(decide c=true->V3 w l.W.length/\V3 r u/\Lt (0+r.toNat) u/\(g=true->W7 .i64 (w+1)/\∃(y:ScS l.W tx (x.val.2.2.getD x.val.2.1 (0:Int)) x.val.2.2),((tx=tx/\m/\(0=0/\u=y.val.2.length)/\r=r/\w+1=(y.val.1:Int)/\True)/\q/\(Y8 Y6 p.2 y.val.2)/\True)/\Lt (l.W.length-y.val.1) a)/\(g=false->((v.fo==tx)=true->true=rnd l.W tx)/\((v.fo==tx)=false->(∃(x_2:{j:Nat//j<=x_1.val.2.length}),(tx=tx/\m/\(0=0/\u=u)/\r=r/\w=w/\m/\false=anyI x_2.val n/\0=(x_2.val:Int)/\True)/\q/\(Y8 Y6 p.2 p.2)/\(1=1/\1=1/\v.tx=z.tx/\v.fo=z.fo/\True)/\True)/\∀(x_2:{j:Nat//j<=x_1.val.2.length}),let f:=(x_2.val:Int);(decide (f<(u:Int))=true->(anyI x_2.val n=false->V3 f u)/\(anyI x_2.val n=false->Lt (0+f.toNat) u)/\W7 .i64 (f+1)/\∃(y:{j:Nat//j<=x_1.val.2.length}),((tx=tx/\m/\(0=0/\u=u)/\r=r/\w=w/\m/\(anyI x_2.val n||p.2.getD (0+f.toNat) (0:Int)==z.fo)=anyI y.val n/\f+1=(y.val:Int)/\True)/\q/\(Y8 Y6 p.2 p.2)/\(1=1/\1=1/\z.tx=z.tx/\z.fo=z.fo/\True)/\True)/\Lt (u-y.val) (u-x_2.val))/\(decide (f<(u:Int))=false->((!anyI x_2.val n)=true->(Le 1 1/\Le p.2.length u/\W6 p.2.length 1 8)/\W7 .i64 (w+1)/\∃(y:ScS l.W tx (x.val.2.2.getD x.val.2.1 (0:Int)) x.val.2.2),((tx=tx/\m/\(0=0/\u+1=y.val.2.length)/\r=r/\w+1=(y.val.1:Int)/\True)/\q/\(u+1=y.val.2.length/\Z6 (u+1) (X3 (Y6 p.2) p.2.length λ(k:Nat)=>List.take 1 (List.drop (k*1) [T.int .i64 z.fo])) (Y6 y.val.2))/\True)/\Lt (l.W.length-y.val.1) a)/\((!anyI x_2.val n)=false->W7 .i64 (w+1)/\∃(y:ScS l.W tx (x.val.2.2.getD x.val.2.1 (0:Int)) x.val.2.2),((tx=tx/\m/\(0=0/\u=y.val.2.length)/\r=r/\w+1=(y.val.1:Int)/\True)/\q/\(Y8 Y6 p.2 y.val.2)/\True)/\Lt (l.W.length-y.val.1) a)))))/\(decide c=false->W7 .i64 (r+1)/\∃(y:RnS l.W tx),((tx=tx/\m/\(0=0/\u=y.val.2.2.length)/\r+1=(y.val.2.1:Int)/\True)/\q/\(Y8 Y6 p.2 y.val.2.2)/\True)/\Lt y.val.1 x.val.1))/\(decide (r<(b:Int))=false->false=rnd l.W tx)) ⟨⟨⟨(200,0,[tx]),rfl,by have:=hcw [tx];dsimp only[List.length_singleton];omega,S7 _,rfl⟩,⟨rfl,⟨rfl,rfl⟩,⟨rfl,rfl⟩,rfl,trivial⟩,⟨rfl,rfl,⟨rfl,Z2 _ _⟩,⟨rfl,Z2 _ _⟩,trivial⟩,⟨rfl,λj hj=>by(obtain rfl:j=0:=by omega);rfl⟩,trivial⟩,λx=> ?_⟩
 obtain⟨⟨f,i,R⟩,he,hm,hi,h2⟩:=x;dsimp only at he hm hi h2 ⊢;have hcr:=hcw R;refine⟨λhc=> ?_,λhc=> ?_⟩
 ·have hlt:=X6 hc;obtain⟨g,rfl⟩:∃g,f=g+1:=⟨f-1,by omega⟩
  rw[c1Q hlt] at he;refine⟨⟨⟨(0,R),S7 _,rfl⟩,⟨rfl,Z8,Z8,rfl,Z9⟩,⟨rfl,rfl,Z7,X5⟩,X5⟩,λy=> ?_⟩
  obtain⟨⟨k,Q⟩,hk,hs⟩:=y;dsimp only at hk hs ⊢;obtain⟨s1,s2,s3⟩:=b2q k Q hk hs;have e1:=s1 i hlt;rw[F5 k,F5 i,G9];refine⟨λhc2=> ?_,λhc2=> ?_⟩
  ·have hkt:=X6 hc2;have hss:=a2q hs;refine⟨X8 hkt,X8 (by omega),by unfold Lt;omega,λhq=> ?_,λhq=>⟨λhb=> ?_,λhb=>⟨⟨⟨0,S7 _⟩,⟨rfl,Z8,Z8,rfl,rfl,Z8,rfl,Z9⟩,⟨rfl,rfl,Z7,X5⟩,Z7,⟨rfl,rfl,rfl,Z9⟩,trivial⟩,λz=> ?_⟩⟩⟩
   ·rw[e1] at hq;rw[if_neg (by simpa using hq)] at hss
    exact⟨Z4 (by omega),⟨(k+1,Q),hkt,hss⟩,⟨⟨rfl,Z8,Z8,rfl,by dsimp only;omega,trivial⟩,⟨rfl,rfl,⟨rfl,Z2 _ _⟩,⟨rfl,Z2 _ _⟩,trivial⟩,⟨rfl,Z2 _ _⟩,trivial⟩,by unfold Lt;dsimp only;omega⟩
   ·rw[e1] at hq;rw[if_pos (by simpa using hq),if_pos (by simpa using hb)] at hss
    have:=jV hss (l.W.length- (k+1));rw[show k+1+(l.W.length- (k+1))=l.W.length by omega] at this
    rw[this] at he;exact he
   ·rw[e1] at hq;rw[if_pos (by simpa using hq),if_neg (by simpa using hb)] at hss
    obtain⟨j,hj⟩:=z;dsimp only at hj ⊢;rw[F5,G9];refine⟨λhc3=> ?_,λhc3=> ?_⟩
    ·have hjt:=X6 hc3;exact⟨λ_=>X8 hjt,λ_=>hjt,Z4 (by omega),⟨j+1,hjt⟩,⟨⟨rfl,Z8,Z8,rfl,rfl,Z8,b1Q.symm,by dsimp only;omega,trivial⟩,⟨rfl,rfl,⟨rfl,Z2 _ _⟩,⟨rfl,Z2 _ _⟩,trivial⟩,⟨rfl,Z2 _ _⟩,⟨rfl,rfl,rfl,rfl,trivial⟩,trivial⟩,by unfold Lt;dsimp only;omega⟩
    ·obtain rfl:j=Q.length:=by have:=X4 hc3;omega
     refine⟨λha=> ?_,λha=> ?_⟩
     ·have ha:anyI Q.length (thr Q (l.W.getD k dz).fo)=false:=by simpa using ha
      rw[if_neg (by rw[ha];simp)] at hss
      refine⟨⟨W4 _,W4 _,by unfold W6;omega⟩,Z4 (by omega),⟨(k+1,Q++[(l.W.getD k dz).fo]),hkt,hss⟩,⟨⟨rfl,Z8,⟨rfl,by simp⟩,rfl,by dsimp only;omega,trivial⟩,⟨rfl,rfl,⟨rfl,Z2 _ _⟩,⟨rfl,Z2 _ _⟩,trivial⟩,⟨by simp,?_⟩,trivial⟩,by unfold Lt;dsimp only;omega⟩
      exact wZ (λa=>[T.int .i64 a]) 1 (λ_=>rfl) Q _
     ·have ha:anyI Q.length (thr Q (l.W.getD k dz).fo)=true:=by simpa using ha
      rw[if_pos ha] at hss;exact⟨Z4 (by omega),⟨(k+1,Q),hkt,hss⟩,⟨⟨rfl,Z8,Z8,rfl,by dsimp only;omega,trivial⟩,⟨rfl,rfl,⟨rfl,Z2 _ _⟩,⟨rfl,Z2 _ _⟩,trivial⟩,⟨rfl,Z2 _ _⟩,trivial⟩,by unfold Lt;dsimp only;omega⟩
  ·obtain rfl:k=l.W.length:=by have:=X4 hc2;omega
   rw[hs] at he;exact⟨Z4 (by omega),⟨(g,i+1,Q),he,by dsimp only;omega,by dsimp only;omega,by dsimp only;omega⟩,⟨⟨rfl,⟨rfl,rfl⟩,⟨rfl,rfl⟩,by dsimp only;omega,trivial⟩,⟨rfl,rfl,⟨rfl,Z2 _ _⟩,⟨rfl,Z2 _ _⟩,trivial⟩,⟨rfl,Z2 _ _⟩,trivial⟩,by unfold Lt;dsimp only;omega⟩
 ·have hge:=X4 hc;rw[←he];exact(c1J (by omega)).symm
noncomputable def a9w(l:Lks)(x:Lck):Nat->Ann
 |0=>.one {i:Nat//i<=l.H.length} (λi=>⟨[(1,.int .i64 x.tx),(2,.int .i64 x.ta),(3,.int .i64 x.row),(4,.int .i64 x.mo),(5,.ref 0 0 0),(10,.ref 1 0 0),(11,.int .i64 0),(12,.ref 2 0 0),(13,.osl 5 0 (T1 l.H x i.1).length),(14,.int .i64 i.1)],[lkB l,lkB ⟨[],[]⟩,lkO 3 l.H.length 4 (C0 l x.tx).W.length,xH l.H,nC (C0 l x.tx).W,nC (T1 l.H x i.1)]⟩) (λi=>l.H.length-i.1) [.box 0,.box 1,.box 5,.cel 5 0,.cel 5 1,.at_ 13] [.box 0,.box 1,.box 2,.cel 2 0,.cel 2 1,.at_ 13] (λi=>fun
  |1=>.one {j:Nat//j<=(T1 l.H x i.1).length} (λj=>⟨[(1,.int .i64 x.tx),(2,.int .i64 x.ta),(3,.int .i64 x.row),(4,.int .i64 x.mo),(5,.ref 0 0 0),(10,.ref 1 0 0),(11,.int .i64 0),(12,.ref 2 0 0),(13,.osl 5 0 (T1 l.H x i.1).length),(14,.int .i64 i.1),(15,.ref 6 0 0),(16,.ref 7 0 0),(17,.bool (anyI j.1 (gL (T1 l.H x i.1) ⟨x.tx,(l.H.getD i.1 dz).tx⟩))),(18,.int .i64 j.1)],[lkB l,lkB ⟨[],[]⟩,lkO 3 l.H.length 4 (C0 l x.tx).W.length,xH l.H,nC (C0 l x.tx).W,nC (T1 l.H x i.1),some (.arr true 1000000 4 1 λ_=>(l.H.getD i.1 dz).ts),some (.arr true 1000000 2 1 λ_=>[.int .i64 x.tx,.int .i64 (l.H.getD i.1 dz).tx])]⟩) (λj=>(T1 l.H x i.1).length-j.1) [.box 0,.box 1,.box 2,.cel 2 0,.cel 2 1,.at_ 13,.box 6,.box 7] [.box 0,.box 1,.box 2,.cel 2 0,.cel 2 1,.at_ 13,.box 6,.box 7] (λ_=>Y5)
  |_=>.none)
 |_=>.none
def a9h:Con:=.rel ⟨Lks×Lck,λx=>.agg x.1.ts::x.2.ts,λx=>.tup [.agg (K8 x.1 x.2).1.ts,.int .i64 (K8 x.1 x.2).2],λx=>x.1.H.length<=60/\x.1.W.length<=100⟩
theorem c1a{L:List Lck}{x:Lck}{i:Nat}:T1 L x (i+1)=if clash (L.getD i dz) x=true then(if anyI (T1 L x i).length (gL (T1 L x i) ⟨x.tx,(L.getD i dz).tx⟩)=true then T1 L x i else T1 L x i++[⟨x.tx,(L.getD i dz).tx⟩]) else T1 L x i:=rfl
theorem b67(a b:Lck):((a.tx !=b.tx)&&(a.ta==b.ta)&&(a.row==b.row)&& !wG a.mo b.mo)=clash a b:=by
 unfold clash qQ;rw[Bool.and_assoc (a.tx !=b.tx)]
theorem b0o(L M:List Wt):Z6 (L.length+M.length) (X3 (Y0 L) L.length (Y0 M)) (Y0 (L++M)):=by
 intro i hi;unfold X3 Y0;by_cases h:i<L.length
 ·rw[uY h];dsimp only;rw[P8,P8,tX h]
 ·rw[sW h];dsimp only;rw[P8,P8,rK (by omega)]
theorem a3Z:GK 330 a9h:=gk Tryz.func330<|by
 rintro⟨l,x⟩ ⟨h1,h2⟩;dsimp only at h1 h2;have hcl:(X9 (cF x.tx) l.W l.W.length).length<=l.W.length:=yW (cF x.tx) l.W l.W.length;have hwl:=λn=>b1C (L:=l.H) (x:=x) n
 refine Q5 (gC b6k (gC b6l (gC a2o (gC fK (gC a1K gN))))) Tryz.func330 (a9w l x) (α:=let pr:=(l.H.length+1);let pp:=(K8 l x).1.W;let po:=(K8 l x).1.H;let ph:=(K8 l x).2;let pg:=(l.H.length:Int);let pb:=(Y8 Y7 l.H l.H);let f:=(0=0/\0=0);let m:=(1=1/\1=1/\pb/\(Y8 Y0 l.W l.W)/\True);let u:=(1=1/\1=1/\(0=0/\Z6 0 (Y7 []) (Y7 []))/\(0=0/\Z6 0 (Y0 []) (Y0 []))/\True);let p:=(X9 (cF x.tx) l.W l.W.length);let pk:=(Y8 Y0 p p);let pe:=p.length;let c:=((Y8 Y7 l.H po)/\(Y8 Y0 p pp)/\True);let g:=(Le (0+l.H.length) l.H.length/\Le (0+pe) pe);let v:=(1=1/\1=1/\(0=0/\l.H.length=l.H.length)/\(0=0/\pe=pe)/\True);∃(x_1:Lks),((((Y8 Y7 l.H x_1.H)/\(Y8 Y0 l.W x_1.W)/\True)/\True)/\oD x_1)/\∃(x_2:(Lks×Int)),let ps:=x_2.1.W.length;let pj:=x_2.1.H.length;let w:=(X9 (cF x_2.2) x_2.1.W ps);let pa:=(Le (0+pj) pj/\Le (0+w.length) w.length);((((0=0/\x_1.H.length=pj)/\(0=0/\x_1.W.length=ps)/\True)/\x.tx=x_2.2/\True)/\((Y8 Y7 x_1.H x_2.1.H)/\(Y8 Y0 x_1.W x_2.1.W)/\True)/\ps<=1000000)/\∃(x_3:(Lks×Lck)),(pa/\(((Y8 Y7 x_2.1.H x_3.1.H)/\(Y8 Y0 w x_3.1.W)/\True)/\x.tx=x_3.2.tx/\x.ta=x_3.2.ta/\x.row=x_3.2.row/\x.mo=x_3.2.mo/\True)/\O6 x_3.1.H.length)/\(anyI x_3.1.H.length (tC x_3.1.H x_3.2)=true->pa/\((Y8 Y7 x_2.1.H po)/\(Y8 Y0 w pp)/\True)/\0=ph/\True)/\(anyI x_3.1.H.length (tC x_3.1.H x_3.2)=false->(∃(x_4:{i:Nat//i<=l.H.length}),let pn:=(T1 l.H x x_4.val);(x.tx=x.tx/\x.ta=x.ta/\x.row=x.row/\x.mo=x.mo/\f/\f/\(0:Int)=0/\f/\(0=0/\0=pn.length)/\0=(x_4.val:Int)/\True)/\m/\(1=1/\1=1/\0=0/\0=0/\True)/\(1=1/\1=1/\(0=0/\pj=l.H.length)/\(0=0/\w.length=pe)/\True)/\(Y8 Y7 x_2.1.H l.H)/\(Y8 Y0 w p)/\(0=pn.length/\Z6 0 (λ(k:Nat)=>List.take 2 (List.drop (k*2) [])) (Y0 pn))/\True)/\∀(x_4:{i:Nat//i<=l.H.length}),let pi:=(l.H.length-x_4.val);let a:=(x_4.val:Int);let z:=(l.H.getD x_4.val dz);let r:=(l.H.getD (0+a.toNat) dz);let q:=(T1 l.H x x_4.val);let b:=(gL q (Wt.mk x.tx z.tx));let n:=q.length;let pf:=(↑n:Int);(decide (a<pg)=true->V3 a l.H.length/\Lt (0+a.toNat) l.H.length/\∃(x_5:(Int×Int)),let pc:=(r.tx !=x.tx&&r.ta==x.ta&&r.row==x.row&& !wG x_5.1 x_5.2);((r.tx !=x.tx&&r.ta==x.ta&&r.row==x.row)=true->(r.mo=x_5.1/\x.mo=x_5.2/\True)/\True)/\(pc=true->(∃(x_6:{j:Nat//j<=(T1 l.H x x_4.val).length}),(x.tx=x.tx/\x.ta=x.ta/\x.row=x.row/\x.mo=x.mo/\f/\f/\(0:Int)=0/\f/\(0=0/\n=n)/\a=a/\f/\f/\false=anyI x_6.val b/\0=(x_6.val:Int)/\True)/\m/\u/\v/\pb/\pk/\(Y8 Y0 q q)/\(1=1/\1=1/\r.tx=z.tx/\r.ta=z.ta/\r.row=z.row/\r.mo=z.mo/\True)/\(1=1/\1=1/\x.tx=x.tx/\r.tx=z.tx/\True)/\True)/\∀(x_6:{j:Nat//j<=(T1 l.H x x_4.val).length}),let t:=(x_6.val:Int);let pt:=(q.getD (0+t.toNat) dz);(decide (t<pf)=true->(anyI x_6.val b=false->V3 t n)/\(anyI x_6.val b=false->Lt (0+t.toNat) n)/\W7 .i64 (t+1)/\∃(y:{j:Nat//j<=(T1 l.H x x_4.val).length}),((x.tx=x.tx/\x.ta=x.ta/\x.row=x.row/\x.mo=x.mo/\f/\f/\(0:Int)=0/\f/\(0=0/\n=n)/\a=a/\f/\f/\(anyI x_6.val b||pt.tx==x.tx&&(pt.fo==z.tx&&true))=anyI y.val b/\t+1=(y.val:Int)/\True)/\m/\u/\v/\pb/\pk/\(Y8 Y0 q q)/\(1=1/\1=1/\z.tx=z.tx/\z.ta=z.ta/\z.row=z.row/\z.mo=z.mo/\True)/\(1=1/\1=1/\x.tx=x.tx/\z.tx=z.tx/\True)/\True)/\Lt (n-y.val) (n-x_6.val))/\(decide (t<pf)=false->((!anyI x_6.val b)=true->(Le 1 1/\Le q.length n/\W6 q.length 1 16)/\W7 .i64 (a+1)/\∃(y:{i:Nat//i<=l.H.length}),let pq:=(T1 l.H x y.val);((x.tx=x.tx/\x.ta=x.ta/\x.row=x.row/\x.mo=x.mo/\f/\f/\(0:Int)=0/\f/\(0=0/\n+1=pq.length)/\a+1=(y.val:Int)/\True)/\m/\u/\v/\pb/\pk/\(n+1=pq.length/\Z6 (n+1) (X3 (Y0 q) q.length λ(k:Nat)=>List.take 2 (List.drop (k*2) [T.int .i64 x.tx,T.int .i64 z.tx])) (Y0 pq))/\True)/\Lt (l.H.length-y.val) pi)/\((!anyI x_6.val b)=false->W7 .i64 (a+1)/\∃(y:{i:Nat//i<=l.H.length}),((x.tx=x.tx/\x.ta=x.ta/\x.row=x.row/\x.mo=x.mo/\f/\f/\(0:Int)=0/\f/\(0=0/\n=(T1 l.H x y.val).length)/\a+1=(y.val:Int)/\True)/\m/\u/\v/\pb/\pk/\(Y8 Y0 q (T1 l.H x y.val))/\True)/\Lt (l.H.length-y.val) pi)))/\(pc=false->W7 .i64 (a+1)/\∃(y:{i:Nat//i<=l.H.length}),((x.tx=x.tx/\x.ta=x.ta/\x.row=x.row/\x.mo=x.mo/\f/\f/\(0:Int)=0/\f/\(0=0/\n=(T1 l.H x y.val).length)/\a+1=(y.val:Int)/\True)/\m/\u/\v/\pb/\pk/\(Y8 Y0 q (T1 l.H x y.val))/\True)/\Lt (l.H.length-y.val) pi))/\(decide (a<pg)=false->((pf==0)=true->((pg==60)=true->g/\c/\7=ph/\True)/\((pg==60)=false->(Le 1 1/\Le l.H.length l.H.length/\W6 l.H.length 1 32)/\(Le (0+pr) pr/\Le (0+pe) pe)/\((l.H.length+1=(K8 l x).1.H.length/\Z6 pr (X3 (Y7 l.H) l.H.length λ(k:Nat)=>List.take 4 (List.drop (k*4) [T.int .i64 x.tx,T.int .i64 x.ta,T.int .i64 x.row,T.int .i64 x.mo])) (Y7 po))/\(Y8 Y0 p pp)/\True)/\0=ph/\True))/\((pf==0)=false->W7 .i64 ((↑pe:Int)+pf)/\(decide ((↑pe:Int)+pf>100)=true->g/\c/\7=ph/\True)/\(decide ((↑pe:Int)+pf>100)=false->∃(x_5:Lks),let pm:=(X3 (Y0 x_5.W) x_5.W.length (Y0 q));let d:=x_5.W.length;let pd:=(Le (0+x_5.H.length) x_5.H.length/\Le (0+(d+n)) (d+n));(g/\(((Y8 Y7 l.H x_5.H)/\(Y8 Y0 p x_5.W)/\True)/\True)/\oD x_5)/\(Le (0+n) n/\Le x_5.W.length d/\W6 x_5.W.length q.length 16)/\∃(x_6:(Lks×Int)),(pd/\(((Y8 Y7 x_5.H x_6.1.H)/\(d+n=x_6.1.W.length/\Z6 (d+n) pm (Y0 x_6.1.W))/\True)/\x.tx=x_6.2/\True)/\x_6.1.W.length<=100)/\(rnd x_6.1.W x_6.2=true->g/\c/\14=ph/\True)/\(rnd x_6.1.W x_6.2=false->pd/\((Y8 Y7 x_5.H po)/\(d+n=(K8 l x).1.W.length/\Z6 (d+n) pm (Y0 pp))/\True)/\13=ph/\True)))))) ⟨l,⟨⟨⟨Z7,X5⟩,trivial⟩,by omega,by omega⟩,(l,x.tx),⟨⟨⟨Z8,U3⟩,Z9⟩,⟨Z7,X5⟩,by dsimp only;omega⟩,(C0 l x.tx,x),⟨⟨by unfold Le;omega,by unfold Le;omega⟩,⟨⟨⟨rfl,Z2 _ _⟩,⟨rfl,Z2 _ _⟩,trivial⟩,rfl,rfl,rfl,rfl,trivial⟩,by unfold O6 C0;dsimp only;omega⟩,λhh=> ?_,λhh=>⟨⟨⟨0,S7 _⟩,⟨rfl,rfl,rfl,rfl,Z8,Z8,rfl,Z8,Z8,Z9⟩,⟨rfl,rfl,Z7,X5⟩,⟨rfl,rfl,rfl,Z9⟩,⟨rfl,rfl,Z8,U3⟩,Z7,Z7,⟨rfl,V7⟩,trivial⟩,λy=> ?_⟩⟩
 ·have hh:anyI l.H.length (tC l.H x)=true:=hh;have e:K8 l x=(C0 l x.tx,0):=by unfold K8;rw[if_pos hh]
  rw[e];exact⟨⟨by unfold Le;omega,by unfold Le;omega⟩,⟨Z7,X5⟩,Z9⟩
 have hh:¬anyI l.H.length (tC l.H x)=true:=by
  have hh:anyI l.H.length (tC l.H x)=false:=hh;rw[hh];simp
 obtain⟨i,hi⟩:=y;dsimp only at hi ⊢;have hwi:=hwl i;rw[F5,G9];refine⟨λhc=> ?_,λhc=> ?_⟩
 ·have hlt:=X6 hc;have hw1:=c1a (L:=l.H) (x:=x) (i:=i);refine⟨X8 hlt,hlt,((l.H.getD i dz).mo,x.mo),λ_=>⟨⟨rfl,Z9⟩,trivial⟩,λhq=>⟨⟨⟨0,S7 _⟩,⟨rfl,rfl,rfl,rfl,Z8,Z8,rfl,Z8,Z8,rfl,Z8,Z8,rfl,Z9⟩,⟨rfl,rfl,Z7,X5⟩,⟨rfl,rfl,⟨rfl,V7⟩,⟨rfl,V7⟩,trivial⟩,⟨rfl,rfl,Z8,U3⟩,Z7,Z7,Z7,⟨rfl,rfl,rfl,rfl,rfl,Z9⟩,⟨rfl,rfl,rfl,Z9⟩,trivial⟩,λz=> ?_⟩,λhq=> ?_⟩
  ·rw[if_pos ((b67 _ x).symm.trans hq)] at hw1;obtain⟨j,hj⟩:=z;dsimp only at hj ⊢;rw[F5,G9];refine⟨λhc2=> ?_,λhc2=> ?_⟩
   ·have hjt:=X6 hc2;exact⟨λ_=>X8 hjt,λ_=>hjt,Z4 (by omega),⟨j+1,hjt⟩,⟨⟨rfl,rfl,rfl,rfl,Z8,Z8,rfl,Z8,Z8,rfl,Z8,Z8,b1Q.symm,by dsimp only;omega,trivial⟩,⟨rfl,rfl,⟨rfl,Z2 _ _⟩,⟨rfl,Z2 _ _⟩,trivial⟩,⟨rfl,rfl,⟨rfl,V7⟩,⟨rfl,V7⟩,trivial⟩,⟨rfl,rfl,⟨rfl,rfl⟩,⟨rfl,rfl⟩,trivial⟩,⟨rfl,Z2 _ _⟩,⟨rfl,Z2 _ _⟩,⟨rfl,Z2 _ _⟩,⟨rfl,rfl,rfl,rfl,rfl,rfl,trivial⟩,⟨rfl,rfl,rfl,rfl,trivial⟩,trivial⟩,by unfold Lt;dsimp only;omega⟩
   ·obtain rfl:j=(T1 l.H x i).length:=by have:=X4 hc2;omega
    refine⟨λha=> ?_,λha=> ?_⟩
    ·rw[if_neg (by simpa using ha)] at hw1
     have hn:(T1 l.H x i).length+1=(T1 l.H x (i+1)).length:=by rw[hw1];simp
     refine⟨⟨W4 _,W4 _,by unfold W6;omega⟩,Z4 (by omega),⟨i+1,hlt⟩,⟨⟨rfl,rfl,rfl,rfl,Z8,Z8,rfl,Z8,⟨rfl,hn⟩,by dsimp only;omega,trivial⟩,⟨rfl,rfl,⟨rfl,Z2 _ _⟩,⟨rfl,Z2 _ _⟩,trivial⟩,⟨rfl,rfl,⟨rfl,V7⟩,⟨rfl,V7⟩,trivial⟩,⟨rfl,rfl,⟨rfl,rfl⟩,⟨rfl,rfl⟩,trivial⟩,⟨rfl,Z2 _ _⟩,⟨rfl,Z2 _ _⟩,⟨hn,?_⟩,trivial⟩,by unfold Lt;dsimp only;omega⟩
     dsimp only;rw[hw1];exact wZ Wt.ts 2 (λ_=>rfl) (T1 l.H x i) ⟨x.tx,(l.H.getD i dz).tx⟩
    ·rw[if_pos (by simpa using ha)] at hw1
     refine⟨Z4 (by omega),⟨i+1,hlt⟩,?_,by unfold Lt;dsimp only;omega⟩
     dsimp only;rw[hw1];exact⟨⟨rfl,rfl,rfl,rfl,Z8,Z8,rfl,Z8,Z8,by omega,trivial⟩,⟨rfl,rfl,Z7,X5⟩,⟨rfl,rfl,⟨rfl,V7⟩,⟨rfl,V7⟩,trivial⟩,⟨rfl,rfl,Z8,U3⟩,Z7,Z7,X5⟩
  ·rw[if_neg (by rw[←b67,hq];simp)] at hw1
   refine⟨Z4 (by omega),⟨i+1,hlt⟩,?_,by unfold Lt;dsimp only;omega⟩
   dsimp only;rw[hw1];exact⟨⟨rfl,rfl,rfl,rfl,Z8,Z8,rfl,Z8,Z8,by omega,trivial⟩,⟨rfl,rfl,Z7,X5⟩,⟨rfl,rfl,⟨rfl,V7⟩,⟨rfl,V7⟩,trivial⟩,⟨rfl,rfl,Z8,U3⟩,Z7,Z7,X5⟩
 ·obtain rfl:i=l.H.length:=by have:=X4 hc;omega
  refine⟨λh0=>⟨λh60=> ?_,λh60=> ?_⟩,λh0=>⟨Z4 (by omega),λhb=> ?_,λhb=> ?_⟩⟩
  ·have h0:(xL l x).length=0:=by have:=beq_iff_eq.1 h0;unfold xL;omega
   have h60:l.H.length=60:=by have:=beq_iff_eq.1 h60;omega
   have e:K8 l x=(C0 l x.tx,7):=by unfold K8;rw[if_neg hh,if_pos h0,if_pos h60]
   rw[e];exact⟨⟨by unfold Le;omega,by unfold Le;omega⟩,⟨Z7,X5⟩,Z9⟩
  ·have h0:(xL l x).length=0:=by have:=beq_iff_eq.1 h0;unfold xL;omega
   have h60:¬l.H.length=60:=λe=>by rw[e] at h60;cases h60
   have e:K8 l x=(⟨l.H++[x],(C0 l x.tx).W⟩,0):=by unfold K8;rw[if_neg hh,if_pos h0,if_neg h60]
   rw[e];exact⟨⟨W4 _,W4 _,by unfold W6;omega⟩,⟨by unfold Le;omega,by unfold Le;omega⟩,⟨⟨by simp,wZ Lck.ts 4 (λ_=>rfl) _ x⟩,X5⟩,Z9⟩
  ·have h0:¬ (xL l x).length=0:=λe=>by
    have e:(T1 l.H x l.H.length).length=0:=e;rw[e] at h0;cases h0
   have hb:(C0 l x.tx).W.length+(xL l x).length>100:=by have:=C7 hb;unfold xL C0;dsimp only;omega
   have e:K8 l x=(C0 l x.tx,7):=by unfold K8;rw[if_neg hh,if_neg h0,if_pos hb]
   rw[e];exact⟨⟨by unfold Le;omega,by unfold Le;omega⟩,⟨Z7,X5⟩,Z9⟩
  ·have h0:¬ (xL l x).length=0:=λe=>by
    have e:(T1 l.H x l.H.length).length=0:=e;rw[e] at h0;cases h0
   have hb:(X9 (cF x.tx) l.W l.W.length).length+(T1 l.H x l.H.length).length<=100:=by have:=l7 hb;omega
   have hb':¬ (C0 l x.tx).W.length+(xL l x).length>100:=by unfold xL C0;dsimp only;omega
   have hla:(X9 (cF x.tx) l.W l.W.length).length+(T1 l.H x l.H.length).length=((C0 l x.tx).W++xL l x).length:=by unfold xL C0;simp
   refine⟨C0 l x.tx,⟨⟨by unfold Le;omega,by unfold Le;omega⟩,⟨⟨Z7,X5⟩,trivial⟩,by show l.H.length<=_;omega,by show(X9 (cF x.tx) l.W l.W.length).length<=_;omega⟩,⟨by unfold Le;omega,W4 _,by show W6 (X9 (cF x.tx) l.W l.W.length).length _ _;unfold W6;omega⟩,(⟨l.H,(C0 l x.tx).W++xL l x⟩,x.tx),⟨⟨by unfold Le;omega,by unfold Le;omega⟩,⟨⟨⟨rfl,Z2 _ _⟩,⟨hla,b0o _ _⟩,trivial⟩,rfl,trivial⟩,by dsimp only;omega⟩,λhr=> ?_,λhr=> ?_⟩
   ·have hr:rnd ((C0 l x.tx).W++xL l x) x.tx=true:=hr;have e:K8 l x=(C0 l x.tx,14):=by unfold K8;rw[if_neg hh,if_neg h0,if_neg hb',if_pos hr]
    rw[e];exact⟨⟨by unfold Le;omega,by unfold Le;omega⟩,⟨Z7,X5⟩,Z9⟩
   ·have hr:¬rnd ((C0 l x.tx).W++xL l x) x.tx=true:=by
     have hr:rnd ((C0 l x.tx).W++xL l x) x.tx=false:=hr;rw[hr];simp
    have e:K8 l x=(⟨l.H,(C0 l x.tx).W++xL l x⟩,13):=by unfold K8;rw[if_neg hh,if_neg h0,if_neg hb',if_neg hr]
    rw[e];exact⟨⟨by unfold Le;omega,by unfold Le;omega⟩,⟨Z7,⟨hla,b0o _ _⟩,trivial⟩,Z9⟩
end Go.Proofs.YtghgljelnhfihaaGreat

namespace Go.Proofs.YtghgljelnhfihaaGreat
set_option maxRecDepth 100000
open Go.SS

def zG(L:List Val):Nat->List UInt8
 |0=>[]
 |i+1=>zG L i++j5 (L.getD i dz)
def cX(v:Val):Prop:=v.t.length<=100/\(v.k=0∨(v.k=1/\ -1000000000<=v.n/\v.n<=1000000000)∨v.k=2)
def RwK(r:Rw):Prop:=cX r.n/\cX r.name/\0<=r.id/\r.id<=1000
def b1D:Con:=.rel ⟨Val,λv=>[.agg v.ts],λv=>.bys (j5 v),cX⟩
theorem a7W:GK 277 b1D:=gk Tryz.func277<|by
 rintro(v:Val) ⟨ht,hk⟩;have u8:∀n:Int,0<=n->n<=255->W7 IntKind.u8 n:=λn a b=>(pG n).2 ⟨a,b⟩
 refine Q5 (gC vQ gN) Tryz.func277 Y5 (α:=((v.k==0)=true->W7 IntKind.u8 (1:Int)/\Le 1 1/\List.take 1 (List.drop 0 (List.map P2 [(1:Int)]))=j5 v)/\((v.k==0)=false->((v.k==1)=true->W7 IntKind.u8 (2:Int)/\W7 .i64 (v.n+1000000000)/\∃(x:rI.ι),((v.n+1000000000=(x.1:Int)/\(4=match x.2 with|true=>(4:Int)|false=>(2:Int))/\True)/\True)/\(Le 1 1/\W6 1 (match x.2 with|true=>E4 x.1|false=>i6 x.1).length 1)/\Le (0+(1+(match x.2 with|true=>E4 x.1|false=>i6 x.1).length)) (List.take 1 (List.map P2 [(2:Int)])++match x.2 with|true=>E4 x.1|false=>i6 x.1).length/\List.take (1+(match x.2 with|true=>E4 x.1|false=>i6 x.1).length) (List.drop 0 (List.take 1 (List.map P2 [(2:Int)])++match x.2 with|true=>E4 x.1|false=>i6 x.1))=j5 v)/\((v.k==1)=false->W7 IntKind.u8 (3:Int)/\(Le 1 1/\W6 1 v.t.length 1)/\W7 IntKind.u8 (0:Int)/\(Le 1 1/\Le (1+v.t.length) (List.take 1 (List.map P2 [(3:Int)])++v.t).length/\W6 (1+v.t.length) 1 1)/\Le (0+(1+v.t.length+1)) (List.take (1+v.t.length) (List.take 1 (List.map P2 [(3:Int)])++v.t)++List.take 1 (List.drop 0 (List.map P2 [(0:Int)]))).length/\List.take (1+v.t.length+1) (List.drop 0 (List.take (1+v.t.length) (List.take 1 (List.map P2 [(3:Int)])++v.t)++List.take 1 (List.drop 0 (List.map P2 [(0:Int)]))))=j5 v))) ⟨λh0=> ?_,λh0=>⟨λh1=> ?_,λh1=> ?_⟩⟩
 ·have h0:v.k=0:=beq_iff_eq.1 h0;unfold j5;rw[if_pos h0];exact⟨u8 _ (by decide) (by decide),W4 _,rfl⟩
 ·have h1:v.k=1:=beq_iff_eq.1 h1;have hn:=(hk.resolve_left (by omega)).resolve_right (by omega)
  unfold j5;rw[if_neg (by omega),if_pos h1]
  exact⟨u8 _ (by decide) (by decide),Z4 (by omega),((v.n+1000000000).toNat,true),⟨⟨by dsimp only;omega,rfl,trivial⟩,trivial⟩,⟨W4 _,by show W6 1 4 1;unfold W6;omega⟩,W4 _,rfl⟩
 ·have h0:¬v.k=0:=λe=>by rw[e] at h0;cases h0
  have h1:¬v.k=1:=λe=>by rw[e] at h1;cases h1
  have e1:List.take (1+v.t.length) (List.take 1 (List.map P2 [(3:Int)])++v.t)=3::v.t:=List.take_of_length_le (by show(3::v.t).length<=_;simp only[List.length_cons];omega)
  unfold j5;rw[if_neg h0,if_neg h1,e1];refine⟨u8 _ (by decide) (by decide),⟨W4 _,by unfold W6;omega⟩,u8 _ (by decide) (by decide),⟨W4 _,by show 1+v.t.length<=(3::v.t).length;simp only[List.length_cons];omega,by unfold W6;omega⟩,by show 0+(1+v.t.length+1)<=(3::v.t++[0]).length;simp only[K6,List.length_cons,List.length_nil];omega,?_⟩
  exact List.take_of_length_le (by show(3::v.t++[0]).length<=_;simp only[K6,List.length_cons,List.length_nil];omega)
def a7t:Con:=.rel ⟨List Val,λL=>[b9Y L],λL=>.bys (zG L L.length),λL=>L.length<=100/\∀i,i<L.length->cX (L.getD i dz)⟩
def a7o(L:List Val):Nat->Ann
 |0=>.one {i:Nat//i<=L.length} (λx=>⟨[(0,b9Y L),(3,.osl 0 0 (zG L x.1).length),(4,.int .i64 x.1)],[some (.bys 5 (zG L x.1))]⟩) (λx=>L.length-x.1) [.at_ 3] [.at_ 3] (λ_=>Y5)
 |_=>.none
theorem a0V{v:Val}(h:cX v):(j5 v).length<=102:=by
 unfold j5;split
 ·exact v6 rfl
 ·split
  ·exact v6 rfl
  ·have:=h.1;simp only[List.length_cons,K6,List.length_nil];omega
theorem a1S{L:List Val}(h:∀i,i<L.length->cX (L.getD i dz)):∀i,i<=L.length->(zG L i).length<=102*i
 |0,_=>W4 _
 |i+1,hi=>by
  have h1:=a1S h i (by omega)
  have h2:=a0V (h i (by omega))
  simp only[zG,K6];omega
theorem a4l:GK 185 a7t:=gk Tryz.func185<|by
 rintro(L:List Val) ⟨hL,hk⟩;refine Q5 (gC a7W gN) Tryz.func185 (a7o L) (α:=(∃(x:{i:Nat//i<=L.length}),((Y8 M0 L L)/\(0=0/\0=(zG L x.val).length)/\0=(x.val:Int)/\True)/\List.map P2 []=zG L x.val/\True)/\∀(x:{i:Nat//i<=L.length}),let z:=(zG L x.val);let q:=(x.val:Int);let u:=(q<(L.length:Int));let r:=(L.getD q.toNat dz);let p:=z.length;(decide u=true->V3 q L.length/\∃(x_1:Val),(((r.k=x_1.k/\r.n=x_1.n/\r.t=x_1.t/\True)/\True)/\cX x_1)/\(Le p p/\W6 p (j5 x_1).length 1)/\W7 .i64 (q+1)/\∃(y:{i:Nat//i<=L.length}),(((Y8 M0 L L)/\(0=0/\p+(j5 x_1).length=(zG L y.val).length)/\q+1=(y.val:Int)/\True)/\List.take p z++j5 x_1=zG L y.val/\True)/\Lt (L.length-y.val) (L.length-x.val))/\(decide u=false->Le (0+p) p/\List.take p (List.drop 0 z)=zG L L.length)) ⟨⟨⟨0,S7 _⟩,⟨Z7,Z8,Z9⟩,Z9⟩,λx=>⟨λhc=> ?_,λhc=> ?_⟩⟩
 ·have hlt:=X6 hc;have h1:=a1S hk x.val (by omega)
  have h2:=a0V (hk x.val hlt);exact⟨X8 hlt,L.getD x.val dz,⟨⟨⟨rfl,rfl,Z9⟩,trivial⟩,hk x.val hlt⟩,⟨W4 _,by unfold W6;omega⟩,Z4 (by omega),⟨x.val+1,hlt⟩,⟨⟨Z7,⟨rfl,by simp only[zG,K6]⟩,by dsimp only;omega,trivial⟩,by rw[nJ];rfl,trivial⟩,V1.ext_lt hlt⟩
 ·have hx:x.val=L.length:=by have:=x.2;have:=X4 hc;omega
  rw[hx];exact⟨by unfold Le;omega,by rw[List.drop_zero,nJ]⟩
def a47:Con:=.rel ⟨Int×Rw,λx=>[.int .i64 x.1,.agg x.2.ts],λx=>.str (mN x.1 x.2),λx=>RwK x.2/\1<=x.1/\x.1<=3⟩
theorem a0K:GK 88 a47:=gk Tryz.func88<|by
 rintro⟨ta,r⟩ ⟨⟨h1,h2,h3,h4⟩,h5,h6⟩;dsimp only at h1 h2 h3 h4 h5 h6;refine Q5 (gC a4l (gC N5 gN)) Tryz.func88 Y5 (α:=∃(x:(List Val)),(((4=List.length x/\Z6 4 (λ(k:Nat)=>List.take 3 (List.drop (k*3) [T.int .i64 1,T.int .i64 ta,T.str [],T.int .i64 1,T.int .i64 r.id,T.str [],T.int .i64 r.n.k,T.int .i64 r.n.n,T.str r.n.t,T.int .i64 r.name.k,T.int .i64 r.name.n,T.str r.name.t])) (M0 x))/\True)/\List.length x<=100/\∀(i:Nat),i<List.length x->cX (List.getD x i dz))/\zG x (List.length x)=mN ta r) ⟨[⟨1,ta,[]⟩,⟨1,r.id,[]⟩,r.n,r.name],⟨⟨⟨rfl,λi hi=> ?_⟩,trivial⟩,by show 4<=100;omega,λi hi=> ?_⟩,rfl⟩
 ·match i,hi with
  |0,_=>rfl
  |1,_=>rfl
  |2,_=>rfl
  |3,_=>rfl
 ·match i,hi with
  |0,_=>exact⟨by show 0<=100;omega,.inr (.inl ⟨rfl,by show-1000000000<=ta;omega,by show ta<=_;omega⟩)⟩
  |1,_=>exact⟨by show 0<=100;omega,.inr (.inl ⟨rfl,by show-1000000000<=r.id;omega,by show r.id<=_;omega⟩)⟩
  |2,_=>exact h1
  |3,_=>exact h2
end Go.Proofs.YtghgljelnhfihaaGreat

