/- A part of the proof. -/
import Derived.Test.YtghgljelnhfihaaGreatZ3eY13eZ4e
import Derived.Test.YtghgljelnhfihaaGreatN10N11
namespace Go.Proofs.YtghgljelnhfihaaGreat
set_option maxRecDepth 100000
open Go.SS

structure Src where
 c:List UInt8
 at_:Nat
 sd:Int
def A4(s:Src):Option Ob:=some (.arr true 1000000 3 1 λ_=>[.bys s.c,.int .i64 s.at_,.int .i64 s.sd])
abbrev I8(a b:Src):Prop:=(1:Nat)=1/\Z6 1 (λ(_:Nat)=>[T.bys a.c,T.int .i64 (a.at_:Int),T.int .i64 a.sd]) λ(_:Nat)=>[T.bys b.c,T.int .i64 (b.at_:Int),T.int .i64 b.sd]
abbrev D6(a b:Src):Prop:=(1:Nat)=1/\(1:Nat)=1/\a.c=b.c/\(a.at_:Int)=(b.at_:Int)/\a.sd=b.sd/\True
def U9(s:Src)(m:Nat):Prop:=s.at_<=m/\0<=s.sd/\s.sd<2147483648
def pV(code:List UInt8):Src:=⟨code,0,(code.length:Int).tmod 1000⟩
def gJ(s:Src):Src:=if s.at_+1<=s.c.length then⟨s.c,s.at_+1,(s.sd*31+(s.c.getD s.at_ 0).toNat+7).tmod 2147483648⟩ else
 if 3000<s.at_+1 then⟨s.c,s.at_+1,s.sd⟩ else⟨s.c,s.at_+1,(s.sd*1103515245+12345).tmod 2147483648⟩
def kU(s:Src):Int:=if s.at_+1<=s.c.length then(s.c.getD s.at_ 0).toNat else
 if 3000<s.at_+1 then 0 else((gJ s).sd.tdiv 65536).tmod 256
def V8(s:Src)(n:Int):Src:=if n<=1 then s else gJ s
def nxV(s:Src)(n:Int):Int:=if n<=1 then 0 else(kU s).tmod n
def a1v:Con:=.reff ⟨List UInt8,λc=>[.bys c],λ_=>[],λ_=>.ref 0 0 0,λc=>[A4 (pV c)],λc=>c.length<=1048576⟩
theorem a1J(c:List UInt8)(h:
  Nz (1000:Int)/\((0=0/\0=0)/\True)/\(1=1/\1=1/\c=c/\(0:Int)=(↑(0:Nat):Int)/\(c.length:Int).tmod (1000:Int)=(c.length:Int).tmod (1000:Int)/\True)/\True):
  H3 Tryz.prog 44 [.bys c] [] (.ref 0 0 0) [A4 (pV c)]:=
 v8 gN Tryz.func44 Y5 [[.box 0]] h
theorem cQ:GK 44 a1v:=gk Tryz.func44<|λc _=>a1J c ⟨by unfold Nz;decide,(by repeat' first|exact trivial|exact rfl|exact Z2 _ _|exact U2 _|exact V7|exact S8 _|exact W4 _|exact S7 _|refine And.intro ?_ ?_),(by repeat' first|exact trivial|exact rfl|exact Z2 _ _|exact U2 _|exact V7|exact S8 _|exact W4 _|exact S7 _|refine And.intro ?_ ?_)⟩
theorem b0x{s:Src}{m:Nat}(h:U9 s m):0<=kU s/\kU s<256/\U9 (gJ s) (m+1):=by
 obtain⟨h1,h2,h3⟩:=h;have hb:=(s.c.getD s.at_ 0).toNat_lt;unfold kU gJ U9;split
 ·exact⟨by omega,by omega,by dsimp only;omega,zH (by omega) (by decide)⟩
 ·split
  ·exact⟨by omega,by omega,by dsimp only;omega,h2,h3⟩
  ·have:=zH (a:=s.sd*1103515245+12345) (n:=2147483648) (by omega) (by decide)
   dsimp only;have e:=zH (a:=((s.sd*1103515245+12345).tmod 2147483648).tdiv 65536) (n:=256) (Int.tdiv_nonneg this.1 (by decide)) (by decide)
   exact⟨e.1,e.2,by omega,this⟩
theorem P6{s:Src}{m:Nat}{n:Int}(h:U9 s m)(hn:1<=n):0<=nxV s n/\nxV s n<n/\U9 (V8 s n) (m+1):=by
 unfold nxV V8;have:=b0x h;split
 ·exact⟨by omega,by omega,by obtain⟨h1,h2⟩:=h;exact⟨by omega,h2⟩⟩
 ·have:=zH (a:=kU s) (n:=n) this.1 (by omega)
  exact⟨this.1,this.2,(b0x h).2.2⟩
def b7N:Con:=.reff ⟨Src,λ_=>[.ref 0 0 0],λs=>[A4 s],λs=>.int .i64 (kU s),λs=>[A4 (gJ s)],λs=>U9 s 1000000⟩
theorem b4Z:GK 191 b7N:=gk Tryz.func191<|by
 intro(s:Src) (h:U9 s 1000000);have hb:=(s.c.getD s.at_ 0).toNat_lt;have e:((s.at_:Int)+1-1).toNat=s.at_:=by omega
 have ew:IntKind.i64.wrap ((s.c.getD s.at_ 0).toNat:Int)=((s.c.getD s.at_ 0).toNat:Int):=by rw[IntKind.wrap_i64];omega
 obtain⟨h1,h2,h3⟩:=h;refine v8 gN Tryz.func191 Y5 [[.box 0]] (α:=let u:=(↑(gJ s).at_:Int);let z:=(s.sd*1103515245+12345);let r:=(2147483648:Int);let y:=((z.tmod r).tdiv (65536:Int));let q:=(s.at_:Int);let w:=(q+1<=(s.c.length:Int));let p:=(↑(s.c.getD (q+1-1).toNat (0:UInt8)).toNat:Int);let v:=(s.sd*31+IntKind.i64.wrap p+7);W7 .i64 (q+1)/\(decide w=true->W7 .i64 (s.sd*31)/\W7 .i64 (q+1-1)/\V3 (q+1-1) s.c.length/\W7 .i64 (s.sd*31+IntKind.i64.wrap p)/\W7 .i64 v/\Nz r/\W7 .i64 (q+1-1)/\V3 (q+1-1) s.c.length/\(IntKind.i64.wrap p=kU s/\True)/\(1=1/\1=1/\s.c=(gJ s).c/\q+1=u/\v.tmod r=(gJ s).sd/\True)/\True)/\(decide w=false->(decide (q+1>3000)=true->(0=kU s/\True)/\(1=1/\1=1/\s.c=(gJ s).c/\q+1=u/\s.sd=(gJ s).sd/\True)/\True)/\(decide (q+1>3000)=false->W7 .i64 (s.sd*1103515245)/\W7 .i64 z/\Nz r/\(Nz (65536:Int)/\W7 .i64 y)/\Nz (256:Int)/\(y.tmod (256:Int)=kU s/\True)/\(1=1/\1=1/\s.c=(gJ s).c/\q+1=u/\z.tmod r=(gJ s).sd/\True)/\True))) ⟨Z4 (by omega),λhc=> ?_,λhc=>⟨λhd=> ?_,λhd=> ?_⟩⟩
 ·have hc:=C7 hc;have c1:s.at_+1<=s.c.length:=by omega
  rw[e,ew];unfold kU gJ;rw[if_pos c1,if_pos c1];exact⟨Z4 (by omega),Z4 (by omega),⟨by omega,by omega⟩,Z4 (by omega),Z4 (by omega),by unfold Nz;decide,Z4 (by omega),⟨by omega,by omega⟩,Z9,⟨rfl,rfl,rfl,rfl,Z9⟩,trivial⟩
 ·have hc:=l7 hc;have hd:=C7 hd;unfold kU gJ;rw[if_neg (by omega),if_pos (by omega),if_neg (by omega),if_pos (by omega)]
  exact(by repeat' first|exact trivial|exact rfl|exact Z2 _ _|exact U2 _|exact V7|exact S8 _|exact W4 _|exact S7 _|refine And.intro ?_ ?_)
 ·have hc:=l7 hc;have hd:=l7 hd;have t:=zH (a:=s.sd*1103515245+12345) (n:=2147483648) (by omega) (by decide)
  have t2:((s.sd*1103515245+12345).tmod 2147483648).tdiv 65536=((s.sd*1103515245+12345).tmod 2147483648)/65536:=Int.tdiv_eq_ediv_of_nonneg t.1;unfold kU gJ;rw[if_neg (by omega),if_neg (by omega),if_neg (by omega),if_neg (by omega)]
  exact⟨Z4 (by omega),Z4 (by omega),by unfold Nz;decide,⟨by unfold Nz;decide,Z4 (by omega)⟩,by unfold Nz;decide,Z9,⟨rfl,rfl,rfl,rfl,Z9⟩,trivial⟩
def b95:Con:=.reff ⟨Src×Int,λx=>[.ref 0 0 0,.int .i64 x.2],λx=>[A4 x.1],λx=>.int .i64 (nxV x.1 x.2),λx=>[A4 (V8 x.1 x.2)],λx=>U9 x.1 1000000/\x.2<=256⟩
theorem vD:GK 93 b95:=gk Tryz.func93<|by
 rintro⟨s,n⟩ ⟨h,hn⟩;dsimp only at h hn;unfold nxV V8;refine v8 (gC b4Z gN) Tryz.func93 Y5 [[.box 0]] (α:=let p:=((0=0/\0=0)/\True);(decide (n<=1)=true->(0=nxV s n/\True)/\(D6 s (V8 s n))/\True)/\(decide (n<=1)=false->(decide (n<=256)=true->∃(x:Src),(p/\((I8 s x)/\True)/\U9 x 1000000)/\Nz n/\((kU x).tmod n=nxV s n/\True)/\(D6 (gJ x) (V8 s n))/\True)/\(decide (n<=256)=false->∃(x:Src),(p/\((I8 s x)/\True)/\U9 x 1000000)/\∃(x_1:Src),(p/\((I8 (gJ x) x_1)/\True)/\U9 x_1 1000000)/\∃(x_2:Src),let q:=(kU x*65536+kU x_1*256+kU x_2);(p/\((I8 (gJ x_1) x_2)/\True)/\U9 x_2 1000000)/\W7 .i64 (kU x*65536)/\W7 .i64 (kU x_1*(256:Int))/\W7 .i64 (kU x*65536+kU x_1*(256:Int))/\W7 .i64 q/\Nz n/\(q.tmod n=nxV s n/\True)/\(D6 (gJ x_2) (V8 s n))/\True))) ⟨λhc=> ?_,λhc=>⟨λhd=>⟨s,⟨(by repeat' first|exact trivial|exact rfl|exact Z2 _ _|exact U2 _|exact V7|exact S8 _|exact W4 _|exact S7 _|refine And.intro ?_ ?_),⟨⟨rfl,λ_ _=>rfl⟩,trivial⟩,h⟩,?_⟩,λhd=>absurd (l7 hd) (by omega)⟩⟩
 ·unfold nxV V8;rw[if_pos (C7 hc),if_pos (C7 hc)];exact(by repeat' first|exact trivial|exact rfl|exact Z2 _ _|exact U2 _|exact V7|exact S8 _|exact W4 _|exact S7 _|refine And.intro ?_ ?_)
 ·have hc:=l7 hc;unfold nxV V8;rw[if_neg hc,if_neg hc];exact⟨by unfold Nz;omega,(by repeat' first|exact trivial|exact rfl|exact Z2 _ _|exact U2 _|exact V7|exact S8 _|exact W4 _|exact S7 _|refine And.intro ?_ ?_),(by repeat' first|exact trivial|exact rfl|exact Z2 _ _|exact U2 _|exact V7|exact S8 _|exact W4 _|exact S7 _|refine And.intro ?_ ?_)⟩
def b9H:Con:=.reff ⟨Src×List (List UInt8),λx=>[.ref 0 0 0,xM x.2],λx=>[A4 x.1],λx=>.str (x.2.getD (nxV x.1 x.2.length).toNat []),λx=>[A4 (V8 x.1 x.2.length)],λx=>U9 x.1 1000000/\1<=x.2.length/\x.2.length<=256⟩
theorem mH:GK 119 b9H:=gk Tryz.func119<|by
 rintro⟨s,L⟩ ⟨h,h1,h2⟩;dsimp only at h h1 h2;have hn:=P6 h (n:=(L.length:Int)) (by omega)
 refine v8 (gC vD gN) Tryz.func119 Y5 [[.box 0]] (α:=let p:=(L.length:Int);((p==0)=true->([]=L.getD (nxV s p).toNat []/\True)/\(D6 s (V8 s p))/\True)/\((p==0)=false->∃(x:(Src×Int)),(((0=0/\0=0)/\p=x.2/\True)/\((I8 s x.1)/\True)/\U9 x.1 1000000/\x.2<=256)/\V3 (nxV x.1 x.2) L.length/\(L.getD (nxV x.1 x.2).toNat []=L.getD (nxV s p).toNat []/\True)/\(D6 (V8 x.1 x.2) (V8 s p))/\True)) ⟨λhc=>by have:=eq_of_beq hc;omega,λ_=>⟨(s,(L.length:Int)),⟨(by repeat' first|exact trivial|exact rfl|exact Z2 _ _|exact U2 _|exact V7|exact S8 _|exact W4 _|exact S7 _|refine And.intro ?_ ?_),⟨⟨rfl,λ_ _=>rfl⟩,trivial⟩,h,by dsimp only;omega⟩,⟨hn.1,hn.2.1⟩,⟨rfl,trivial⟩,⟨rfl,rfl,rfl,rfl,rfl,trivial⟩,trivial⟩⟩
def i9(n:Nat):List (List UInt8):=List.replicate n []
def c0X(n:Nat):Dsk:=⟨i9 n,[],false,[]⟩
def b3y:Con:=.rmk ⟨Nat,λn=>[.int .i64 n],λ_=>[],λn=>.agg ((c0X n).tm 0),λn=>(c0X n).hp,λn=>1<=n/\n<=100⟩
theorem a92:GK 282 b3y:=gk Tryz.func282<|by
 rintro n ⟨h1,h2⟩;have e:(n:Int).toNat=(i9 n).length:=by simp[i9]
 refine⟨v8 gN Tryz.func282 Y5 [[.arr 1,.arr 2,.arr 3]] (α:=let p:=(n:Int).toNat;(Nn (n:Int)/\LeI (n:Int) (n:Int)/\wK 16 p 140737488355328/\Lt p 9223372036854775808)/\(((0=0/\p=(i9 n).length)/\(0=0/\0=0)/\false=false/\(0=0/\0=0)/\True)/\True)/\(p=(i9 n).length/\Z6 p (λ(x:Nat)=>[T.str []]) (Z5 (i9 n)))/\(0=0/\Z6 0 (λ(k:Nat)=>List.take 2 (List.drop (k*2) [])) (Y9 []))/\(0=0/\Z6 0 (λ(k:Nat)=>List.take 1 (List.drop (k*1) [])) (Y6 []))/\True) ⟨⟨by unfold Nn;omega,by unfold LeI;omega,by unfold wK;omega,by unfold Lt;omega⟩,⟨⟨⟨rfl,e⟩,(by repeat' first|exact trivial|exact rfl|exact Z2 _ _|exact U2 _|exact V7|exact S8 _|exact W4 _|exact S7 _|refine And.intro ?_ ?_)⟩,trivial⟩,⟨e,λi hi=> ?_⟩,(by repeat' first|exact trivial|exact rfl|exact Z2 _ _|exact U2 _|exact V7|exact S8 _|exact W4 _|exact S7 _|refine And.intro ?_ ?_)⟩,rfl,tF _⟩
 unfold Z5 i9;rw[P8,List.getElem?_replicate]
 split<;>rfl
def hdB(ep:Int):List UInt8:=[P2 104,j4 ep]++E4 (t6 [P2 104,j4 ep])
def a2W:Con:=.rel ⟨Int,λe=>[.int .i64 e],λe=>.str (hdB e),λ_=>True⟩
theorem a1h(e:Int)(h:
  (W7 IntKind.u8 (104:Int)/\W7 IntKind.u8 (IntKind.u8.wrap e))/\i4 2 (List.map P2 [(104:Int),IntKind.u8.wrap e])/\List.map P2 [(104:Int),IntKind.u8.wrap e]++E4 (t6 (List.map P2 [(104:Int),IntKind.u8.wrap
  e]))=hdB e):
  U1 Tryz.prog 174 [.int .i64 e] (.str (hdB e)):=
 Q5 (gC vS gN) Tryz.func174 Y5 h
theorem bF:GK 174 a2W:=gk Tryz.func174<|λe _=>a1h e ⟨⟨(pG _).2 (by omega),P1 _⟩,⟨rfl,by show 2<=1000000;decide⟩,rfl⟩
def a4z:Sto:=⟨⟨(i9 69).set 0 (hdB 1),[],false,[]⟩,1,[],0,[],0⟩
def a0U:Con:=.rel ⟨Unit,λ_=>[],λ_=>.agg a4z.ts,λ_=>True⟩
theorem a0j:GK 190 a0U:=gk Tryz.func190<|by
 intro _ _;have h69:(i9 69).length=69:=List.length_replicate;have ho:(0:Int).toNat=0:=rfl;exact Q5 (gC a92 (gC bF gN)) Tryz.func190 Y5 (α:=∃(x:Nat),let p:=(i9 x).length;((69=(x:Int)/\True)/\1<=x/\x<=100)/\∃(x_1:Int),((1=x_1/\True)/\True)/\V3 (0:Int) p/\Lt 0 p/\(Le (0+p) p/\Le 0 0/\Le 0 0/\Le 0 0/\Le 0 0)/\(p=69/\Z6 p (setRow (Z5 (i9 x)) 0 0 [T.str (hdB x_1)]) (Z5 ((i9 69).set 0 (hdB (1:Int)))))/\(0=0/\Z6 0 (Y9 []) (Y9 []))/\false=false/\(0=0/\Z6 0 (Y6 []) (Y6 []))/\(1:Int)=1/\(0=0/\Z6 0 (λ(k:Nat)=>List.take 10 (List.drop (k*10) [])) (Y3 []))/\(0:Int)=0/\(0=0/\Z6 0 (λ(k:Nat)=>List.take 5 (List.drop (k*5) [])) (X2 []))/\(0:Int)=0/\True) ⟨69,⟨Z9,by decide,by decide⟩,1,⟨Z9,trivial⟩,⟨by decide,by omega⟩,by unfold Lt;omega,⟨by unfold Le;omega,(by repeat' first|exact trivial|exact rfl|exact Z2 _ _|exact U2 _|exact V7|exact S8 _|exact W4 _|exact S7 _|refine And.intro ?_ ?_)⟩,⟨h69,λj hj=>mX j hj⟩,(by repeat' first|exact trivial|exact rfl|exact Z2 _ _|exact U2 _|exact V7|exact S8 _|exact W4 _|exact S7 _|refine And.intro ?_ ?_),rfl,(by repeat' first|exact trivial|exact rfl|exact Z2 _ _|exact U2 _|exact V7|exact S8 _|exact W4 _|exact S7 _|refine And.intro ?_ ?_)⟩
end Go.Proofs.YtghgljelnhfihaaGreat

namespace Go.Proofs.YtghgljelnhfihaaGreat
set_option maxRecDepth 100000
open Go.SS

def vts:List (List UInt8):=[[],[97],[97,98],[97,98,99],[98],[122,122]]
def nts:List (List UInt8):=[[97],[98],[110,97,109,101]]
def vaN(s:Src):List Int:=[nxV s 20-5,nxV (V8 s 20) 20,1000000000,-1000000000]
def T8(s:Src):Src×Val:=
 if nxV s 4=0 then(V8 s 4,⟨0,0,[]⟩) else
 if nxV s 4=1 then(V8 (V8 s 4) 6,⟨2,0,vts.getD (nxV (V8 s 4) 6).toNat []⟩) else
 (V8 (V8 (V8 (V8 s 4) 20) 20) 8,⟨1,(vaN (V8 s 4)).getD ((nxV (V8 (V8 (V8 s 4) 20) 20) 8).tdiv 2).toNat 0,[]⟩)
def b0U:Con:=.reff ⟨Src×Int,λx=>[.ref 0 0 0,.int .i64 x.2],λx=>[A4 x.1],λx=>.bool (nxV x.1 x.2==x.2-1),λx=>[A4 (V8 x.1 x.2)],λx=>U9 x.1 1000000/\0<=x.2/\x.2<=256⟩
theorem fE:GK 166 b0U:=gk Tryz.func166<|by
 rintro⟨s,n⟩ ⟨h,h0,hn⟩;dsimp only at h h0 hn;exact v8 (gC vD gN) Tryz.func166 Y5 [[.box 0]] (α:=∃(x:(Src×Int)),(((0=0/\0=0)/\n=x.2/\True)/\((I8 s x.1)/\True)/\U9 x.1 1000000/\x.2<=256)/\W7 .i64 (n-1)/\((nxV x.1 x.2==n-1)=(nxV s n==n-1)/\True)/\(D6 (V8 x.1 x.2) (V8 s n))/\True) ⟨(s,n),⟨(by repeat' first|exact trivial|exact rfl|exact Z2 _ _|exact U2 _|exact V7|exact S8 _|exact W4 _|exact S7 _|refine And.intro ?_ ?_),⟨⟨rfl,λ_ _=>rfl⟩,trivial⟩,h,hn⟩,Z4 (by omega),Z9,⟨rfl,rfl,rfl,rfl,Z9⟩,trivial⟩
def b3M:Con:=.reff ⟨Src,λ_=>[.ref 0 0 0],λs=>[A4 s],λs=>.agg (T8 s).2.ts,λs=>[A4 (T8 s).1],λs=>U9 s 100000⟩
theorem B8{a b:Int}(h:(a==b)=false):a≠b:=λe=>by rw[e] at h;simp at h
theorem U9.le{s:Src}{m n:Nat}(h:U9 s m)(hl:m<=n):U9 s n:=⟨Nat.le_trans h.1 hl,h.2⟩
theorem dM(c:List UInt8):U9 (pV c) 0:=by
 have:=zH (a:=(c.length:Int)) (n:=1000) (by omega) (by decide)
 exact⟨W4 _,this.1,by show(c.length:Int).tmod 1000<_;omega⟩
theorem b7Y(i:Nat):(vts.getD i []).length<=3:=by
 match i with
 |0=>decide
 |1=>decide
 |2=>decide
 |3=>decide
 |4=>decide
 |5=>decide
 |n+6=>exact S7 _
theorem b9e(i:Nat):(nts.getD i []).length<=4:=by
 match i with
 |0=>decide
 |1=>decide
 |2=>decide
 |n+3=>exact S7 _
theorem b4D:Z6 6 (λ(k:Nat)=>List.take 1 (List.drop (k*1) [T.str [],T.str [(97:UInt8)],T.str [(97:UInt8),(98:UInt8)],T.str [(97:UInt8),(98:UInt8),(99:UInt8)],T.str [(98:UInt8)],T.str [(122:UInt8),(122:UInt8)]])) (Z5 vts)
 |0,_=>rfl
 |1,_=>rfl
 |2,_=>rfl
 |3,_=>rfl
 |4,_=>rfl
 |5,_=>rfl
 |n+6,h=>absurd h (by omega)
theorem a6E:Z6 3 (λ(k:Nat)=>List.take 1 (List.drop (k*1) [T.str [(97:UInt8)],T.str [(98:UInt8)],T.str [(110:UInt8),(97:UInt8),(109:UInt8),(101:UInt8)]])) (Z5 nts)
 |0,_=>rfl
 |1,_=>rfl
 |2,_=>rfl
 |n+3,h=>absurd h (by omega)
theorem c0u{s:Src}(h:nxV s 4=0):T8 s=(V8 s 4,⟨0,0,[]⟩):=by unfold T8;rw[if_pos h]
theorem c0L{s:Src}(h:nxV s 4=1):T8 s=(V8 (V8 s 4) 6,⟨2,0,vts.getD (nxV (V8 s 4) 6).toNat []⟩):=by unfold T8;rw[if_neg (by omega),if_pos h]
theorem c0k{s:Src}(h0:nxV s 4≠0)(h:nxV s 4≠1):T8 s=(V8 (V8 (V8 (V8 s 4) 20) 20) 8,⟨1,(vaN (V8 s 4)).getD ((nxV (V8 (V8 (V8 s 4) 20) 20) 8).tdiv 2).toNat 0,[]⟩):=by unfold T8;rw[if_neg h0,if_neg h]
theorem c1b{a:Int}(h:0<=a)(h8:a<8):0<=a.tdiv 2/\a.tdiv 2<4:=by
 rw[Int.tdiv_eq_ediv_of_nonneg h];omega
theorem b5l{s:Src}{m:Nat}(h:U9 s m)(i:Nat): -1000000000<=(vaN s).getD i 0/\(vaN s).getD i 0<=1000000000:=by
 have n1:=P6 h (n:=20) (by decide)
 have n2:=P6 n1.2.2 (n:=20) (by decide)
 unfold vaN
 match i with
 |0=>show _<=nxV s 20-5/\nxV s 20-5<=_;omega
 |1=>show _<=nxV (V8 s 20) 20/\nxV (V8 s 20) 20<=_;omega
 |2=>show(-1000000000:Int)<=1000000000/\(1000000000:Int)<=1000000000;decide
 |3=>show(-1000000000:Int)<= -1000000000/\(-1000000000:Int)<=1000000000;decide
 |n+4=>show(-1000000000:Int)<=0/\(0:Int)<=1000000000;decide
def a4o(v:Val):Prop:=v.t.length<=4/\(v.k=0∨(v.k=1/\ -1000000000<=v.n/\v.n<=1000000000)∨v.k=2)
theorem eY{s:Src}{m:Nat}(h:U9 s m):U9 (T8 s).1 (m+4)/\a4o (T8 s).2:=by
 have n1:=P6 h (n:=4) (by decide)
 by_cases h0:nxV s 4=0
 ·rw[c0u h0];exact⟨n1.2.2.le (by omega),S7 _,.inl rfl⟩
 ·by_cases h1:nxV s 4=1
  ·rw[c0L h1];exact⟨(P6 n1.2.2 (n:=6) (by decide)).2.2.le (by omega),Nat.le_trans (b7Y _) (by decide),.inr (.inr rfl)⟩
  ·rw[c0k h0 h1];have n2:=P6 n1.2.2 (n:=20) (by decide)
   have n3:=P6 n2.2.2 (n:=20) (by decide)
   have n4:=P6 n3.2.2 (n:=8) (by decide)
   have nn:=b5l n1.2.2 ((nxV (V8 (V8 (V8 s 4) 20) 20) 8).tdiv 2).toNat;exact⟨n4.2.2.le (by omega),S7 _,.inr (.inl ⟨rfl,nn⟩)⟩
theorem a7Q:GK 118 b3M:=gk Tryz.func118<|by
 intro(s:Src) (h:U9 s 100000);have n1:=P6 h (n:=4) (by decide)
 have n2:=P6 n1.2.2 (n:=20) (by decide)
 have n3:=P6 n2.2.2 (n:=20) (by decide)
 have n4:=P6 n3.2.2 (n:=8) (by decide)
 have e4:(4:Int)<=256:=by decide
 have e20:(20:Int)<=256:=by decide
 have e8:(8:Int)<=256:=by decide
 have nd:=c1b n4.1 n4.2.1;refine v8 (gC N5 (gC vD (gC mH gN))) Tryz.func118 Y5 [[.box 0]] (α:=let j:=(98:UInt8);let w:=(97:UInt8);let y:=(T8 s).2.t;let v:=(T8 s).2.n;let u:=(T8 s).2.k;let r:=(0=0/\0=0);∃(x:(Src×Int)),let z:=(V8 x.1 x.2);((r/\4=x.2/\True)/\((I8 s x.1)/\True)/\U9 x.1 1000000/\x.2<=256)/\((nxV x.1 x.2==0)=true->((0=u/\0=v/\[]=y/\True)/\True)/\(D6 z (T8 s).1)/\True)/\((nxV x.1 x.2==0)=false->((nxV x.1 x.2==1)=true->∃(x_1:(Src×List (List UInt8))),let q:=x_1.2.length;((r/\(6=q/\Z6 6 (λ(k:Nat)=>List.take 1 (List.drop (k*1) [T.str [],T.str [w],T.str [w,j],T.str [w,j,(99:UInt8)],T.str [j],T.str [(122:UInt8),(122:UInt8)]])) (Z5 x_1.2))/\True)/\((I8 z x_1.1)/\True)/\U9 x_1.1 1000000/\1<=q/\q<=256)/\((2=u/\0=v/\x_1.2.getD (nxV x_1.1 (q:Int)).toNat []=y/\True)/\True)/\(D6 (V8 x_1.1 (q:Int)) (T8 s).1)/\True)/\((nxV x.1 x.2==1)=false->∃(x_1:(Src×Int)),((r/\20=x_1.2/\True)/\((I8 z x_1.1)/\True)/\U9 x_1.1 1000000/\x_1.2<=(256:Int))/\W7 .i64 (nxV x_1.1 x_1.2- (5:Int))/\∃(x:(Src×Int)),((r/\20=x.2/\True)/\((I8 (V8 x_1.1 x_1.2) x.1)/\True)/\U9 x.1 1000000/\x.2<=256)/\∃(x_2:(Src×Int)),let p:=((nxV x_2.1 x_2.2).tdiv (2:Int));((r/\8=x_2.2/\True)/\((I8 (V8 x.1 x.2) x_2.1)/\True)/\U9 x_2.1 1000000/\x_2.2<=(256:Int))/\(Nz (2:Int)/\W7 .i64 p)/\V3 p 4/\((1=u/\[nxV x_1.1 x_1.2- (5:Int),nxV x.1 x.2,(1000000000:Int),(-1000000000:Int)].getD p.toNat 0=v/\[]=y/\True)/\True)/\(D6 (V8 x_2.1 x_2.2) (T8 s).1)/\True))) ⟨(s,4),⟨(by repeat' first|exact trivial|exact rfl|exact Z2 _ _|exact U2 _|exact V7|exact S8 _|exact W4 _|exact S7 _|refine And.intro ?_ ?_),⟨⟨rfl,λ_ _=>rfl⟩,trivial⟩,h.le (by omega),e4⟩,λhv=> ?_,λhv=>⟨λhw=> ?_,λhw=> ?_⟩⟩
 ·have hv:nxV s 4=0:=eq_of_beq hv;rw[c0u hv];exact⟨⟨⟨rfl,rfl,Z9⟩,trivial⟩,⟨rfl,rfl,rfl,rfl,Z9⟩,trivial⟩
 ·have hw:nxV s 4=1:=eq_of_beq hw;rw[c0L hw];exact⟨(V8 s 4,vts),⟨⟨Z8,⟨rfl,b4D⟩,trivial⟩,⟨⟨rfl,λ_ _=>rfl⟩,trivial⟩,n1.2.2.le (by omega),(by decide:1<=vts.length),(by decide:vts.length<=256)⟩,⟨⟨rfl,rfl,Z9⟩,trivial⟩,⟨rfl,rfl,rfl,rfl,Z9⟩,trivial⟩
 ·have hv:nxV s 4≠0:=B8 hv;have hw:nxV s 4≠1:=B8 hw;rw[c0k hv hw];exact⟨(V8 s 4,20),⟨(by repeat' first|exact trivial|exact rfl|exact Z2 _ _|exact U2 _|exact V7|exact S8 _|exact W4 _|exact S7 _|refine And.intro ?_ ?_),⟨⟨rfl,λ_ _=>rfl⟩,trivial⟩,n1.2.2.le (by omega),e20⟩,Z4 (by dsimp only;omega),(V8 (V8 s 4) 20,20),⟨(by repeat' first|exact trivial|exact rfl|exact Z2 _ _|exact U2 _|exact V7|exact S8 _|exact W4 _|exact S7 _|refine And.intro ?_ ?_),⟨⟨rfl,λ_ _=>rfl⟩,trivial⟩,n2.2.2.le (by omega),e20⟩,(V8 (V8 (V8 s 4) 20) 20,8),⟨(by repeat' first|exact trivial|exact rfl|exact Z2 _ _|exact U2 _|exact V7|exact S8 _|exact W4 _|exact S7 _|refine And.intro ?_ ?_),⟨⟨rfl,λ_ _=>rfl⟩,trivial⟩,n3.2.2.le (by omega),e8⟩,⟨by unfold Nz;decide,Z4 (by dsimp only;omega)⟩,⟨nd.1,nd.2⟩,⟨⟨rfl,rfl,rfl,trivial⟩,trivial⟩,⟨rfl,rfl,rfl,rfl,rfl,trivial⟩,trivial⟩
def B0(s:Src)(v:Val):Src×Val:=if v.k=2 then(V8 s 9,⟨1,nxV s 9,[]⟩) else(s,v)
def yN(s:Src)(v:Val):Src×Val:=if v.k=1 then(V8 s 3,⟨2,0,nts.getD (nxV s 3).toNat []⟩) else(s,v)
def A3(s:Src):Src:=(T8 (T8 (V8 s 6)).1).1
def oY(s:Src):Src×Rw:=
 ((yN (B0 (A3 s) (T8 (V8 s 6)).2).1 (T8 (T8 (V8 s 6)).1).2).1,
  ⟨nxV s 6,(B0 (A3 s) (T8 (V8 s 6)).2).2,(yN (B0 (A3 s) (T8 (V8 s 6)).2).1 (T8 (T8 (V8 s 6)).1).2).2⟩)
def b71:Con:=.reff ⟨Src,λ_=>[.ref 0 0 0],λs=>[A4 s],λs=>.agg (oY s).2.ts,λs=>[A4 (oY s).1],λs=>U9 s 50000⟩
theorem b9E{s:Src}{m:Nat}{v:Val}(h:U9 s m)(hv:a4o v):U9 (B0 s v).1 (m+1)/\a4o (B0 s v).2:=by
 have n1:=P6 h (n:=9) (by decide)
 unfold B0;split
 ·exact⟨n1.2.2,S7 _,.inr (.inl ⟨rfl,by dsimp only;omega,by dsimp only;omega⟩)⟩
 ·exact⟨h.le (by omega),hv⟩
theorem b8M{s:Src}{m:Nat}{v:Val}(h:U9 s m)(hv:a4o v):U9 (yN s v).1 (m+1)/\a4o (yN s v).2:=by
 have n1:=P6 h (n:=3) (by decide)
 unfold yN;split
 ·exact⟨n1.2.2,b9e _,.inr (.inr rfl)⟩
 ·exact⟨h.le (by omega),hv⟩
theorem b9J{s:Src}{m:Nat}(h:U9 s m):U9 (A3 s) (m+9):=(eY (eY (P6 h (n:=6) (by decide)).2.2).1).1
theorem a4o.key{v:Val}(h:a4o v):cX v/\(j5 v).length<=6:=by
 obtain⟨h1,h2⟩:=h;refine⟨⟨by omega,h2⟩,?_⟩
 unfold j5;split
 ·show 1<=6;decide
 ·split
  ·show(2::E4 _).length<=6;have:(E4 (v.n+1000000000).toNat).length=4:=rfl;rw[List.length_cons,this];decide
  ·simp only[List.length_cons,K6,List.length_nil];omega
theorem jT{s:Src}{m:Nat}(h:U9 s m):U9 (oY s).1 (m+11)/\RwK (oY s).2/\∀ta:Int,(mN ta (oY s).2).length<=30:=by
 have n1:=P6 h (n:=6) (by decide)
 have v1:=eY n1.2.2;have v2:=eY v1.1;have w1:=b9E (b9J h) v1.2;have w2:=b8M w1.1 v2.2;have k1:=w1.2.key;have k2:=w2.2.key;refine⟨w2.1.le (by omega),⟨k1.1,k2.1,n1.1,by show nxV s 6<=1000;omega⟩,λta=> ?_⟩
 unfold mN;have a1:(j5 ⟨1,ta,[]⟩).length=5:=rfl;have a2:(j5 ⟨1,(oY s).2.id,[]⟩).length=5:=rfl;have b1:(j5 (oY s).2.n).length<=6:=k1.2;have b2:(j5 (oY s).2.name).length<=6:=k2.2;rw[K6,K6,K6];omega
theorem c1m{s:Src}{v:Val}(h:v.k=2):B0 s v=(V8 s 9,⟨1,nxV s 9,[]⟩):=if_pos h
theorem c0C{s:Src}{v:Val}(h:v.k≠2):B0 s v=(s,v):=if_neg h
theorem b6L{s:Src}{v:Val}(h:v.k=1):yN s v=(V8 s 3,⟨2,0,nts.getD (nxV s 3).toNat []⟩):=if_pos h
theorem b6Y{s:Src}{v:Val}(h:v.k≠1):yN s v=(s,v):=if_neg h
theorem b7H(s:Src):A3 s=(T8 (T8 (V8 s 6)).1).1:=rfl
theorem b6d:GK 58 b71:=gk Tryz.func58<|by
 intro(s:Src) (h:U9 s 50000);have n1:=P6 h (n:=6) (by decide)
 have v1:=eY n1.2.2;have v2:=eY v1.1;have hA:=v2.1;have w1:=P6 hA (n:=9) (by decide)
 have e6:(6:Int)<=256:=by decide
 have e9:(9:Int)<=256:=by decide
 have e3:((nts.length:Nat):Int)=3:=rfl;have eA:A3 s=(T8 (T8 (V8 s 6)).1).1:=b7H s;refine v8 (gC N5 (gC vD (gC a7Q (gC mH gN)))) Tryz.func58 Y5 [[.box 0]] (α:=let a:=(T8 (V8 s (6:Int)));let j:=(0=0/\0=0);let r:=(λ(k:Nat)=>List.take 1 (List.drop (k*1) [T.str [(97:UInt8)],T.str [(98:UInt8)],T.str [(110:UInt8),(97:UInt8),(109:UInt8),(101:UInt8)]]));let q:=(B0 (A3 s) a.2);let p:=(yN q.1 (T8 a.1).2);let w:=(↑p.1.at_:Int);∃(x:(Src×Int)),((j/\6=x.2/\True)/\((I8 s x.1)/\True)/\U9 x.1 1000000/\x.2<=256)/\∃(x_1:Src),let g:=(T8 x_1).2.k;((j/\True)/\((I8 (V8 x.1 x.2) x_1)/\True)/\U9 x_1 100000)/\∃(x_2:Src),let v:=(T8 x_2).2.k;((j/\True)/\((I8 (T8 x_1).1 x_2)/\True)/\U9 x_2 100000)/\((g==2)=true->∃(x_3:(Src×Int)),let y:=(V8 x_3.1 x_3.2);((j/\9=x_3.2/\True)/\((I8 (T8 x_2).1 x_3.1)/\True)/\U9 x_3.1 1000000/\x_3.2<=(256:Int))/\((v==1)=true->∃(x_4:(Src×List (List UInt8))),let z:=x_4.2.length;let m:=(V8 x_4.1 (z:Int));((j/\(3=z/\Z6 3 r (Z5 x_4.2))/\True)/\((I8 y x_4.1)/\True)/\U9 x_4.1 1000000/\1<=z/\z<=256)/\((nxV x.1 x.2=nxV s (6:Int)/\1=q.2.k/\nxV x_3.1 x_3.2=q.2.n/\[]=q.2.t/\2=p.2.k/\0=p.2.n/\x_4.2.getD (nxV x_4.1 (z:Int)).toNat []=p.2.t/\True)/\True)/\(1=1/\1=1/\m.c=p.1.c/\(↑m.at_:Int)=w/\m.sd=p.1.sd/\True)/\True)/\((v==1)=false->((nxV x.1 x.2=nxV s (6:Int)/\1=q.2.k/\nxV x_3.1 x_3.2=q.2.n/\[]=q.2.t/\v=p.2.k/\(T8 x_2).2.n=p.2.n/\(T8 x_2).2.t=p.2.t/\True)/\True)/\(1=1/\1=1/\y.c=p.1.c/\(↑y.at_:Int)=w/\y.sd=p.1.sd/\True)/\True))/\((g==2)=false->((v==1)=true->∃(x_3:(Src×List (List UInt8))),let u:=x_3.2.length;let f:=(V8 x_3.1 (u:Int));((j/\(3=u/\Z6 3 r (Z5 x_3.2))/\True)/\((I8 (T8 x_2).1 x_3.1)/\True)/\U9 x_3.1 1000000/\1<=u/\u<=256)/\((nxV x.1 x.2=nxV s (6:Int)/\g=q.2.k/\(T8 x_1).2.n=q.2.n/\(T8 x_1).2.t=q.2.t/\2=p.2.k/\0=p.2.n/\x_3.2.getD (nxV x_3.1 (u:Int)).toNat []=p.2.t/\True)/\True)/\(1=1/\1=1/\f.c=p.1.c/\(↑f.at_:Int)=w/\f.sd=p.1.sd/\True)/\True)/\((v==1)=false->((nxV x.1 x.2=nxV s (6:Int)/\g=q.2.k/\(T8 x_1).2.n=q.2.n/\(T8 x_1).2.t=q.2.t/\v=p.2.k/\(T8 x_2).2.n=p.2.n/\(T8 x_2).2.t=p.2.t/\True)/\True)/\(1=1/\1=1/\(T8 x_2).1.c=p.1.c/\(↑(T8 x_2).1.at_:Int)=w/\(T8 x_2).1.sd=p.1.sd/\True)/\True))) ?_
 rw[eA];refine⟨(s,6),⟨(by repeat' first|exact trivial|exact rfl|exact Z2 _ _|exact U2 _|exact V7|exact S8 _|exact W4 _|exact S7 _|refine And.intro ?_ ?_),⟨⟨rfl,λ_ _=>rfl⟩,trivial⟩,h.le (by omega),e6⟩,V8 s 6,⟨U3,⟨⟨rfl,λ_ _=>rfl⟩,trivial⟩,n1.2.2.le (by omega)⟩,(T8 (V8 s 6)).1,⟨U3,⟨⟨rfl,λ_ _=>rfl⟩,trivial⟩,v1.1.le (by omega)⟩,λhv=> ?_,λhv=> ?_⟩
 ·have hv:(T8 (V8 s 6)).2.k=2:=eq_of_beq hv;rw[c1m hv];refine⟨((T8 (T8 (V8 s 6)).1).1,9),⟨(by repeat' first|exact trivial|exact rfl|exact Z2 _ _|exact U2 _|exact V7|exact S8 _|exact W4 _|exact S7 _|refine And.intro ?_ ?_),⟨⟨rfl,λ_ _=>rfl⟩,trivial⟩,hA.le (by omega),e9⟩,λhw=> ?_,λhw=> ?_⟩
  ·have hw:(T8 (T8 (V8 s 6)).1).2.k=1:=eq_of_beq hw;rw[b6L hw];refine⟨(V8 ((T8 (T8 (V8 s 6)).1).1) 9,nts),⟨⟨Z8,⟨rfl,a6E⟩,trivial⟩,⟨⟨rfl,λ_ _=>rfl⟩,trivial⟩,w1.2.2.le (by omega),(by decide:1<=nts.length),(by decide:nts.length<=256)⟩,?_⟩
   dsimp only;rw[e3];exact⟨⟨⟨rfl,rfl,rfl,rfl,rfl,rfl,Z9⟩,trivial⟩,⟨rfl,rfl,rfl,rfl,Z9⟩,trivial⟩
  ·rw[b6Y (B8 hw)];exact⟨⟨⟨rfl,rfl,rfl,rfl,rfl,rfl,Z9⟩,trivial⟩,⟨rfl,rfl,rfl,rfl,Z9⟩,trivial⟩
 ·rw[c0C (B8 hv)];refine⟨λhw=> ?_,λhw=> ?_⟩
  ·have hw:(T8 (T8 (V8 s 6)).1).2.k=1:=eq_of_beq hw;rw[b6L hw];refine⟨((T8 (T8 (V8 s 6)).1).1,nts),⟨⟨Z8,⟨rfl,a6E⟩,trivial⟩,⟨⟨rfl,λ_ _=>rfl⟩,trivial⟩,hA.le (by omega),(by decide:1<=nts.length),(by decide:nts.length<=256)⟩,?_⟩
   dsimp only;rw[e3];exact⟨⟨⟨rfl,rfl,rfl,rfl,rfl,rfl,Z9⟩,trivial⟩,⟨rfl,rfl,rfl,rfl,Z9⟩,trivial⟩
  ·rw[b6Y (B8 hw)];exact⟨⟨⟨rfl,rfl,rfl,rfl,rfl,rfl,Z9⟩,trivial⟩,⟨rfl,rfl,rfl,rfl,Z9⟩,trivial⟩
end Go.Proofs.YtghgljelnhfihaaGreat

