/- A part of the proof. -/
import Derived.Test.YtghgljelnhfihaaGreatL7L8U10
namespace Go.Proofs.YtghgljelnhfihaaGreat
set_option maxRecDepth 100000
open Go.SS

def M0(L:List Val)(i:Nat):List T:=(L.getD i dz).ts
def b9Y(L:List Val):T:=.sl 3 L.length (M0 L)
def isZ(l:List UInt8)(i:Nat):Bool:=(0:Int)==((l.getD i 0).toNat:Int)
def a8x(l:List UInt8):Int:=P9 l.length (isZ l)
theorem a0G{a b:Int}(h:(a==b)=false):a≠b:=λe=>by rw[e] at h;simp at h
def yI(l:List UInt8):Val×List UInt8×Bool:=
 if numR l-1=1 then(⟨1,be (R6 (l.drop 1) 4)-1000000000,[]⟩,O9 (l.drop 1) 4,big (l.drop 1) 4|| !L9 ⟨1,be (R6 (l.drop 1) 4)-1000000000,[]⟩)
 else if numR l-1=2 then
  if a8x (l.drop 1)<0 then(⟨2,0,[]⟩,l.drop 1,true)
  else(⟨2,0,(l.drop 1).take (a8x (l.drop 1)).toNat⟩,(l.drop 1).drop ((a8x (l.drop 1)).toNat+1), !L9 ⟨2,0,(l.drop 1).take (a8x (l.drop 1)).toNat⟩)
 else(⟨numR l-1,0,[]⟩,l.drop 1, !L9 ⟨numR l-1,0,[]⟩)
def a0S(l:List UInt8):Prop:=l.length<=1000000000
theorem b1y{l:List UInt8}(h:l≠[]):(yI l).2.1.length<l.length:=by
 have hp:0<l.length:=List.length_pos_iff.2 h;have hd:(l.drop 1).length<l.length:=by rw[List.length_drop];omega
 have hr:∀(m:List UInt8) (n:Int),(O9 m n).length<=m.length:=λm n=>by
  unfold O9;split
  ·omega
  ·rw[List.length_drop];omega
 unfold yI;split
 ·exact Nat.lt_of_le_of_lt (hr _ _) hd
 ·split
  ·split
   ·exact hd
   ·show((l.drop 1).drop _).length<_;rw[List.length_drop];omega
  ·exact hd
def s7:Nat->List UInt8->Bool->List Val->List Val×Bool
 |0,_,f,acc=>(acc, !f)
 |n+1,l,f,acc=>if l=[]∨f=true then(acc, !f) else s7 n (yI l).2.1 (yI l).2.2 (acc++[(yI l).1])
def a1D(l:List UInt8):List Val×Bool:=s7 l.length l false []
theorem a0p(L:List Val)(v:Val):Z6 (L.length+1) (X3 (M0 L) L.length λk=>List.take 3 (List.drop (k*3) v.ts)) (M0 (L++[v])):=by
 intro i hi;by_cases h:i<L.length
 ·rw[D7 h];simp[M0,tX h]
 ·obtain rfl:i=L.length:=by omega
  rw[D8 (W4 _),j_h];simp[M0,Val.ts]
theorem fY{n:Nat}{l:List UInt8}{acc:List Val}(h:l≠[])(hn:l.length<=n):s7 n l false acc=s7 (n-1) (yI l).2.1 (yI l).2.2 (acc++[(yI l).1]):=by
 have hp:0<l.length:=List.length_pos_iff.2 h;obtain⟨m,rfl⟩:∃m,n=m+1:=⟨n-1,by omega⟩
 conv=>lhs;unfold s7
 rw[if_neg (by simp[h])]
 rfl
theorem iS{n:Nat}{l:List UInt8}{f:Bool}{acc:List Val}(h:l=[]∨f=true):s7 n l f acc=(acc, !f):=by
 cases n with
 |zero=>rfl
 |succ n=>unfold s7;rw[if_pos h]
end Go.Proofs.YtghgljelnhfihaaGreat

namespace Go.Proofs.YtghgljelnhfihaaGreat
set_option maxRecDepth 100000
open Go.SS

def R5(t:List UInt8):List Val×Bool:=if(a1D t).2=true then a1D t else([],false)
def a0z:Con:=.rel ⟨List UInt8,λt=>[.str t],λt=>.tup [b9Y (R5 t).1,.bool (R5 t).2],a0S⟩
structure KSt where
 n:Nat
 at_:Nat
 acc:List Val
def dY(t:List UInt8):Type:={x:KSt//s7 x.n (t.drop x.at_) false x.acc=a1D t/\x.at_<=t.length/\t.length-x.at_<=x.n/\x.acc.length+x.n<=t.length}
def NoZ(t:List UInt8)(a:Nat):Type:={k:Nat//a<=k/\k<=t.length/\∀j,a<=j->j<k->isZ t j=false}
def knd(t:List UInt8)(a:Nat):Int:=((t.getD a 0).toNat:Int)-1
def aW(t:List UInt8):Nat->Ann
 |0=>.one (dY t) (λx=>⟨[(0,.str t),(4,.osl 0 0 x.1.acc.length),(5,.int .i64 x.1.at_)],[some (.arr true 0 3 x.1.acc.length (M0 x.1.acc))]⟩) (λx=>t.length-x.1.at_) [.arr 0] [.arr 3] (λx=>fun
  |1=>.one (NoZ t (x.1.at_+1)) (λy=>⟨[(0,.str t),(4,.osl 0 0 x.1.acc.length),(5,.int .i64 (x.1.at_+1:Nat)),(6,.ref 1 0 0),(7,.int .i64 y.1)],[some (.arr true 0 3 x.1.acc.length (M0 x.1.acc)),some (.arr true 1000000 3 1 λ_=>[.int .i64 (knd t x.1.at_),.int .i64 0,.str []])]⟩) (λy=>t.length-y.1) [.arr 0,.box 1] [.arr 0,.box 1] (λ_=>Y5)
  |_=>.none)
 |_=>.none
theorem a0Q{t:List UInt8}{n:Nat}{l:List UInt8}{acc:List Val}(h:s7 n l false acc=a1D t)(h0:l≠[])(hl:l.length<=n)(hf:(yI l).2.2=true):R5 t=([],false):=by
 rw[fY h0 hl,hf,iS (.inr rfl)] at h;unfold R5;rw[←h];rfl
theorem lR{t:List UInt8}{n:Nat}{l:List UInt8}{acc:List Val}(h:s7 n l false acc=a1D t)(h0:l≠[])(hl:l.length<=n){v:Val}{r:List UInt8}(hv:yI l=(v,r,false)):s7 (n-1) r false (acc++[v])=a1D t:=by
 rw[fY h0 hl,hv] at h;exact h
theorem a0H{k n:Int}{s:List UInt8}(h0:k≠0)(h1:k≠1)(h2:k≠2):L9 ⟨k,n,s⟩=false:=by
 unfold L9;dsimp only;rw[if_neg h0,if_neg h1,show(k==2)=false from beq_eq_false_iff_ne.2 h2]
 rfl
theorem eU{t:List UInt8}(a i:Nat):(t.drop a).getD i 0=t.getD (a+i) 0:=by
 rw[P8,P8,List.getElem?_drop]
theorem lX(t:List UInt8)(a i:Nat):isZ (t.drop a) i=isZ t (a+i):=by unfold isZ;rw[eU]
theorem b9L(t:List UInt8)(k:Nat):(((t.getD k 0).toNat:Int) !=0)= !isZ t k:=by
 unfold isZ;rw[show(((t.getD k 0).toNat:Int) !=0)= !(((t.getD k 0).toNat:Int)==0) from rfl]
 congr 1
 rw[Bool.eq_iff_iff,beq_iff_eq,beq_iff_eq];exact eq_comm
theorem iD:GK 302 a0z:=gk Tryz.func302<|by
 intro(t:List UInt8) (hb:t.length<=1000000000);refine Q5 (gC oI (gC iO gN)) Tryz.func302 (aW t) (α:=let a:=(λ(k:Nat)=>List.take 3 (List.drop (k*3) []));let j:=(t.length:Int);let q:=(0=(R5 t).1.length/\Z6 0 a (M0 (R5 t).1));(∃(x:dY t),(t=t/\(0=0/\0=x.val.acc.length)/\0=(x.val.at_:Int)/\True)/\(0=x.val.acc.length/\Z6 0 a (M0 x.val.acc))/\True)/\∀(x:dY t),let f:=x.val.at_;let l:=(t.length-f);let m:=x.val.acc;let w:=(↑(f+1):Int);let z:=(f:Int);let r:=m.length;let v:=(Le 1 1/\Le m.length r/\W6 m.length 1 32);let p:=(↑(t.getD z.toNat (0:UInt8)).toNat:Int);let i:=(IntKind.i64.wrap p-1==1);let d:=(IntKind.i64.wrap p-1==0);let b:=(IntKind.i64.wrap p-1);(decide (z<j)=true->V3 z t.length/\W7 .i64 b/\W7 .i64 (z+1)/\(d=true->∃(x_1:zP.ι),(((IntKind.i64.wrap p-1=x_1.k/\0=x_1.n/\[]=x_1.t/\True)/\True)/\StB x_1.t)/\((!L9 x_1)=true->Le 0 0/\q/\false=(R5 t).2/\True)/\((!L9 x_1)=false->v/\∃(y:dY t),((t=t/\(0=0/\r+1=y.val.acc.length)/\z+1=(y.val.at_:Int)/\True)/\(r+1=y.val.acc.length/\Z6 (r+1) (X3 (M0 m) m.length λ(k:Nat)=>List.take 3 (List.drop (k*3) [T.int .i64 b,T.int .i64 0,T.str []])) (M0 y.val.acc))/\True)/\Lt (t.length-y.val.at_) l))/\(d=false->(i=true->W7 .i64 (z+1+4)/\(decide (z+1+4>j)=true->Le 0 0/\q/\false=(R5 t).2/\True)/\(decide (z+1+4>j)=false->W7 .i64 (z+1+4)/\a7J (z+1) (z+1+4) t.length/\∃(x_1:mV.ι),let c:=(↑(be x_1):Int);((List.drop (z+1).toNat (List.take (z+1+4).toNat t)=x_1/\True)/\oW x_1)/\W7 .i64 (c-1000000000)/\W7 .i64 (z+1+4)/\∃(x_2:zP.ι),(((IntKind.i64.wrap p-1=x_2.k/\c-1000000000=x_2.n/\[]=x_2.t/\True)/\True)/\StB x_2.t)/\((!L9 x_2)=true->Le 0 0/\q/\false=(R5 t).2/\True)/\((!L9 x_2)=false->v/\∃(y:dY t),((t=t/\(0=0/\r+1=y.val.acc.length)/\z+1+4=(y.val.at_:Int)/\True)/\(r+1=y.val.acc.length/\Z6 (r+1) (X3 (M0 m) m.length λ(k:Nat)=>List.take 3 (List.drop (k*3) [T.int .i64 b,T.int .i64 (c-1000000000),T.str []])) (M0 y.val.acc))/\True)/\Lt (t.length-y.val.at_) l)))/\(i=false->(∃(x_1:NoZ t (x.val.at_+1)),(t=t/\(0=0/\r=r)/\z+1=w/\(0=0/\0=0)/\z+1=(x_1.val:Int)/\True)/\(Y8 M0 x.val.acc m)/\(1=1/\1=1/\IntKind.i64.wrap p-1=knd t f/\(0:Int)=0/\([]:List UInt8)=[]/\True)/\True)/\∀(x_1:NoZ t (x.val.at_+1)),let u:=(x_1.val:Int);let pa:=(List.take u.toNat t);let g:=(decide (u<j)&&(↑(t.getD u.toNat (0:UInt8)).toNat:Int) !=0);(decide (u<j)=true->V3 u t.length)/\(g=true->W7 .i64 (u+1)/\∃(y:NoZ t (x.val.at_+1)),((t=t/\(0=0/\r=r)/\w=w/\(0=0/\0=0)/\u+1=(y.val:Int)/\True)/\(Y8 M0 x.val.acc m)/\(1=1/\1=1/\knd t f=knd t f/\(0:Int)=0/\([]:List UInt8)=[]/\True)/\True)/\Lt (t.length-y.val) (t.length-x_1.val))/\(g=false->((u==j)=true->Le 0 0/\q/\false=(R5 t).2/\True)/\((u==j)=false->a7J w u t.length/\W7 .i64 (u+1)/\∃(x_2:zP.ι),(((knd t f=x_2.k/\0=x_2.n/\List.drop w.toNat pa=x_2.t/\True)/\True)/\StB x_2.t)/\((!L9 x_2)=true->Le 0 0/\q/\false=(R5 t).2/\True)/\((!L9 x_2)=false->v/\∃(y:dY t),((t=t/\(0=0/\r+1=y.val.acc.length)/\u+1=(y.val.at_:Int)/\True)/\(r+1=y.val.acc.length/\Z6 (r+1) (X3 (M0 m) m.length λ(k:Nat)=>List.take 3 (List.drop (k*3) [T.int .i64 (knd t f),T.int .i64 0,T.str (List.drop w.toNat pa)])) (M0 y.val.acc))/\True)/\Lt (t.length-y.val.at_) l))))))/\(decide (z<j)=false->Le (0+r) r/\(Y8 M0 x.val.acc (R5 t).1)/\true=(R5 t).2/\True)) ⟨⟨⟨⟨t.length,0,[]⟩,rfl,S7 _,W4 _,by dsimp only[List.length_nil];omega⟩,⟨rfl,⟨rfl,rfl⟩,rfl,trivial⟩,⟨rfl,oG _ _⟩,trivial⟩,λx=> ?_⟩
 obtain⟨⟨n,a,acc⟩,he,ha,hl,hn⟩:=x;dsimp only at he ha hl hn ⊢;rw[F5,wP];have hbl:=g9 t a;have hL:(t.drop a).length<=n:=by rw[List.length_drop];exact hl
 refine⟨λhc=> ?_,λhc=> ?_⟩
 ·have hlt:=X6 hc;have h0:t.drop a≠[]:=λh=>by have:=congrArg List.length h;rw[List.length_drop,List.length_nil] at this;omega
  have hk:numR (t.drop a)-1=((t.getD a 0).toNat:Int)-1:=by unfold numR;rw[eU];rfl
  have hd:(t.drop a).drop 1=t.drop (a+1):=by rw[List.drop_drop]
  have hno:∀{P:Prop},(yI (t.drop a)).2.2=true->(R5 t=([],false)->P)->P:=λhf h=>h (a0Q he h0 hL hf)
  have fin:(yI (t.drop a)).2.2=true->Le 0 0/\((0:Nat)=(R5 t).1.length/\Z6 0 (λk=>List.take 3 (List.drop (k*3) [])) (M0 (R5 t).1))/\false=(R5 t).2/\True:=λhf=>by
   rw[a0Q he h0 hL hf];exact⟨W4 _,⟨rfl,oG _ _⟩,Z9⟩
  refine⟨X8 hlt,Z4 (by omega),U5 hlt (by omega),λk0=> ?_,λk0=>⟨λk1=> ?_,λk1=> ?_⟩⟩
  ·have k0:((t.getD a 0).toNat:Int)-1=0:=beq_iff_eq.1 k0;have hv:yI (t.drop a)=(⟨0,0,[]⟩,t.drop (a+1), !L9 ⟨0,0,[]⟩):=by
    unfold yI;rw[if_neg (by omega),if_neg (by omega),hd,hk,k0]
   rw[k0];refine⟨⟨0,0,[]⟩,⟨⟨⟨rfl,rfl,Z9⟩,trivial⟩,by unfold StB O6;simp⟩,λhq=>fin (by rw[hv];exact hq),λhq=>⟨⟨W4 _,W4 _,by unfold W6;omega⟩,⟨⟨n-1,a+1,acc++[(⟨0,0,[]⟩:Val)]⟩,lR he h0 hL (by rw[hv,hq]),by dsimp only;omega,by dsimp only;omega,by dsimp only;rw[K6,List.length_singleton];omega⟩,⟨⟨rfl,⟨rfl,by dsimp only;rw[K6,List.length_singleton]⟩,by dsimp only;omega,trivial⟩,⟨by dsimp only;rw[K6,List.length_singleton],a0p acc ⟨0,0,[]⟩⟩,trivial⟩,show t.length- (a+1)<t.length-a by omega⟩⟩
  ·have k1:((t.getD a 0).toNat:Int)-1=1:=beq_iff_eq.1 k1;have hbig:big (t.drop (a+1)) 4=decide ((a:Int)+1+4>t.length):=by
    unfold big;rw[List.length_drop];exact decide_eq_decide.2 (by omega)
   have hv:yI (t.drop a)=(⟨1,be (R6 (t.drop (a+1)) 4)-1000000000,[]⟩,O9 (t.drop (a+1)) 4,big (t.drop (a+1)) 4|| !L9 ⟨1,be (R6 (t.drop (a+1)) 4)-1000000000,[]⟩):=by
    unfold yI;rw[if_pos (by omega),hd]
   refine⟨Z4 (by omega),λhg=>fin (by rw[hv,hbig,hg];rfl),λhg=> ?_⟩
   have hg':¬ ((a:Int)+1+4>t.length):=l7 hg;rw[hg] at hbig;have ht:R6 (t.drop (a+1)) 4=List.drop (a+1) (List.take (a+5) t):=by
    unfold R6;rw[hbig,List.drop_take,show a+5- (a+1)=4 by omega]
    rfl
   have hr:O9 (t.drop (a+1)) 4=t.drop (a+5):=by
    unfold O9;rw[hbig];show(t.drop (a+1)).drop 4=_;rw[List.drop_drop]
   rw[hbig,ht,hr,Bool.false_or] at hv;have l4:(List.drop (a+1) (List.take (a+5) t)).length<=4:=by rw[List.length_drop,List.length_take];omega
   have hbe:=b2A (List.drop (a+1) (List.take (a+5) t)) l4;have ebe:be (List.drop (a+1) (List.take (a+5) t))=o7 (List.drop (a+1) (List.take (a+5) t)) (List.drop (a+1) (List.take (a+5) t)).length:=rfl;rw[k1,show((a:Int)+1+4).toNat=a+5 by omega,show((a:Int)+1).toNat=a+1 by omega]
   refine⟨Z4 (by omega),⟨by omega,by omega,by omega⟩,List.drop (a+1) (List.take (a+5) t),⟨Z9,l4⟩,Z4 (by omega),Z4 (by omega),⟨1,be (List.drop (a+1) (List.take (a+5) t))-1000000000,[]⟩,⟨⟨⟨rfl,rfl,Z9⟩,trivial⟩,by unfold StB O6;simp⟩,λhq=>fin (by rw[hv];exact hq),λhq=>⟨⟨W4 _,W4 _,by unfold W6;omega⟩,⟨⟨n-1,a+5,acc++[⟨1,be (List.drop (a+1) (List.take (a+5) t))-1000000000,[]⟩]⟩,lR he h0 hL (by rw[hv,hq]),by dsimp only;omega,by dsimp only;omega,by dsimp only;rw[K6,List.length_singleton];omega⟩,⟨⟨rfl,⟨rfl,by dsimp only;rw[K6,List.length_singleton]⟩,by dsimp only;omega,trivial⟩,⟨by dsimp only;rw[K6,List.length_singleton],a0p acc ⟨1,be (List.drop (a+1) (List.take (a+5) t))-1000000000,[]⟩⟩,trivial⟩,show t.length- (a+5)<t.length-a by omega⟩⟩
  ·have k0:((t.getD a 0).toNat:Int)-1≠0:=a0G k0;have k1:((t.getD a 0).toNat:Int)-1≠1:=a0G k1;have hkn:knd t a=((t.getD a 0).toNat:Int)-1:=rfl;refine⟨⟨⟨a+1,W4 _,hlt,λj h1 h2=>by omega⟩,⟨rfl,Z8,by omega,Z8,by dsimp only;omega,trivial⟩,⟨rfl,Z2 _ _⟩,⟨rfl,rfl,rfl,rfl,rfl,trivial⟩,trivial⟩,λy=> ?_⟩
   obtain⟨k,hk1,hk2,hkz⟩:=y;dsimp only;rw[F5,F5,b9L];refine⟨λhy=>X8 (X6 hy),λhy=> ?_,λhy=>⟨λhq=>fin ?_,λhq=> ?_⟩⟩
   ·simp only[L3,k4,xP] at hy;refine⟨Z4 (by omega),⟨k+1,by omega,by omega,λj h1 h2=> ?_⟩,⟨⟨rfl,Z8,rfl,Z8,by dsimp only;omega,trivial⟩,⟨rfl,Z2 _ _⟩,⟨rfl,rfl,rfl,rfl,rfl,trivial⟩,trivial⟩,show t.length- (k+1)<t.length-k by omega⟩
    by_cases hj:j=k
    ·rw[hj];exact hy.2
    ·exact hkz j h1 (by omega)
   ·have hq:(k:Int)=t.length:=beq_iff_eq.1 hq;unfold yI;rw[if_neg (by omega)]
    by_cases k2:((t.getD a 0).toNat:Int)-1=2
    ·rw[if_pos (by omega),hd]
     have:a8x (t.drop (a+1))= -1:=J1 λj hj=>by
      rw[List.length_drop] at hj;rw[lX];exact hkz _ (by omega) (by omega)
     rw[if_pos (by omega)]
    ·rw[if_neg (by omega)]
     dsimp only;rw[hk,a0H k0 k1 k2];rfl
   ·have hq:(k:Int)≠t.length:=a0G hq;have hkl:k<t.length:=by omega
    rw[pO (show(k:Int)<t.length by omega),Bool.true_and,yT] at hy
    have e1:List.drop (a+1) (List.take k t)=(t.drop (a+1)).take (k- (a+1)):=by rw[List.drop_take]
    refine⟨⟨by omega,by omega,by omega⟩,Z4 (by omega),⟨knd t a,0,List.drop (a+1) (List.take k t)⟩,⟨⟨⟨rfl,rfl,Z9⟩,trivial⟩,by unfold StB O6;rw[List.length_drop,List.length_take];omega⟩,?_⟩
    by_cases k2:((t.getD a 0).toNat:Int)-1=2
    ·have hix:a8x (t.drop (a+1))=((k- (a+1):Nat):Int):=M6 (by rw[List.length_drop];omega) (by rw[lX,show a+1+(k- (a+1))=k by omega];exact hy) λj hj=>by rw[lX];exact hkz _ (by omega) (by omega)
     have hv:yI (t.drop a)=(⟨2,0,List.drop (a+1) (List.take k t)⟩,t.drop (k+1), !L9 ⟨2,0,List.drop (a+1) (List.take k t)⟩):=by
      unfold yI;rw[if_neg (by omega),if_pos (by omega),hd,hix,if_neg (by omega),F5,e1,List.drop_drop,show a+1+(k- (a+1)+1)=k+1 by omega]
     rw[hkn,k2];refine⟨λhq=>fin (by rw[hv];exact hq),λhq=>⟨⟨W4 _,W4 _,by unfold W6;omega⟩,⟨⟨n-1,k+1,acc++[⟨2,0,List.drop (a+1) (List.take k t)⟩]⟩,lR he h0 hL (by rw[hv,hq]),by dsimp only;omega,by dsimp only;omega,by dsimp only;rw[K6,List.length_singleton];omega⟩,⟨⟨rfl,⟨rfl,by dsimp only;rw[K6,List.length_singleton]⟩,by dsimp only;omega,trivial⟩,⟨by dsimp only;rw[K6,List.length_singleton],a0p acc ⟨2,0,List.drop (a+1) (List.take k t)⟩⟩,trivial⟩,show t.length- (k+1)<t.length-a by omega⟩⟩
    ·have hbad:L9 ⟨knd t a,0,List.drop (a+1) (List.take k t)⟩=false:=a0H k0 k1 k2;refine⟨λ_=>fin ?_,λhq=> ?_⟩
     ·unfold yI;rw[if_neg (by omega),if_neg (by omega)]
      dsimp only;rw[hk,a0H k0 k1 k2];rfl
     ·rw[hbad] at hq;cases hq
 ·have hge:=X4 hc;have:t.drop a=[]:=List.drop_eq_nil_of_le hge;rw[this,iS (.inl rfl)] at he;have e:R5 t=(acc,true):=by unfold R5;rw[←he];rfl
  rw[e];exact⟨by unfold Le;omega,Z7,Z9⟩
end Go.Proofs.YtghgljelnhfihaaGreat

namespace Go.Proofs.YtghgljelnhfihaaGreat
set_option maxRecDepth 100000
open Go.SS

def rw0:Rw:=⟨0,⟨0,0,[]⟩,⟨0,0,[]⟩⟩
def gO(L:List Val):Int×Rw:=((L.getD 0 dz).n,⟨(L.getD 1 dz).n,L.getD 2 dz,L.getD 3 dz⟩)
def b78(x:List Val×Bool):Bool:= !x.2||((x.1.length:Int) !=4)||((x.1.getD 0 dz).k !=1)||((x.1.getD 1 dz).k !=1)
def m4(t:List UInt8):Int×Rw×Bool:=if(b78 (R5 t)|| !V9 (gO (R5 t).1).1 1 3)=true then(0,rw0,false) else((gO (R5 t).1).1,(gO (R5 t).1).2,pK (gO (R5 t).1).2)
theorem a5P{l:List UInt8}{B:Nat}(h:l.length<=B):(yI l).1.t.length<=B:=by
 unfold yI;split
 ·exact S7 _
 ·split
  ·split
   ·exact S7 _
   ·show((l.drop 1).take _).length<=B;rw[List.length_take,List.length_drop];omega
  ·exact S7 _
theorem bQ{B:Nat}:∀(n:Nat) (l:List UInt8) (f:Bool) (acc:List Val),l.length<=B->(∀v ∈ acc,v.t.length<=B)->∀v ∈ (s7 n l f acc).1,v.t.length<=B:=by
 intro n;induction n with
 |zero=>intro l f acc _ h;exact h
 |succ n ih=>
  intro l f acc hl h;unfold s7;split
  ·exact h
  ·rename_i hc;have h0:l≠[]:=λh=>hc (.inl h)
   have:=b1y h0;refine ih _ _ _ (by omega) λv hv=> ?_
   rcases List.mem_append.1 hv with hv|hv
   ·exact h v hv
   ·rw[List.mem_singleton.1 hv];exact a5P hl
theorem a73{l:List UInt8}(h:a0S l){i:Nat}:StB ((a1D l).1.getD i dz).t:=by
 have h:l.length<=1000000000:=h;show _<1000000000000;rw[P8]
 cases hq:(a1D l).1[i]? with
 |none=>show 0<1000000000000;omega
 |some v=>
  have:=bQ l.length l false [] h (λv hv=>absurd hv (by simp)) v (B5 hq)
  show v.t.length<_;omega
theorem b6f{x:List Val×Bool}{b:Bool}(h:(!x.2||((x.1.length:Int) !=4)||b)=false):x.1.length=4:=by
 simp only[yP,bne_eq_false_iff_eq] at h;omega
theorem c1d{x:List Val×Bool}(h:(!x.2||((x.1.length:Int) !=4))=false):x.1.length=4:=b6f (b:=false) (by rw[h];rfl)
theorem a4I{n:Nat}(h:n=4){i:Int}(h0:0<=i)(h3:i<=3):V3 i n:=⟨h0,by omega⟩
def a7q:Con:=.rel ⟨List UInt8,λt=>[.str t],λt=>.tup [.int .i64 (m4 t).1,.agg (m4 t).2.1.ts,.bool (m4 t).2.2],a0S⟩
theorem kB{l:List UInt8}(h:a0S l){i:Nat}:StB ((R5 l).1.getD i dz).t:=by
 unfold R5;split
 ·exact a73 h
 ·show 0<1000000000000;omega
theorem lA:GK 229 a7q:=gk Tryz.func229<|by
 intro(t:List UInt8) hb;refine Q5 (gC iD (gC E3 (gC a9Q gN))) Tryz.func229 Y5 (α:=∃(x:(List UInt8)),let q:=(R5 x).1.length;let z:=(↑q:Int);let p:=(R5 x).1.getD;let u:=(p 0 dz).k;let r:=(!(R5 x).2||z !=4||u !=1||(p 1 dz).k !=1|| !V9 (p 0 dz).n (1:Int) (3:Int));((t=x/\True)/\a0S x)/\((!(R5 x).2||z !=4)=false->V3 (0:Int) q)/\((!(R5 x).2||z !=4||u !=1)=false->V3 (1:Int) q)/\((!(R5 x).2||z !=4||u !=1||(p 1 dz).k !=1)=false->V3 (0:Int) q)/\(r=true->0=(m4 t).1/\(0=(m4 t).2.1.id/\0=(m4 t).2.1.n.k/\0=(m4 t).2.1.n.n/\[]=(m4 t).2.1.n.t/\0=(m4 t).2.1.name.k/\0=(m4 t).2.1.name.n/\[]=(m4 t).2.1.name.t/\True)/\false=(m4 t).2.2/\True)/\(r=false->V3 (1:Int) q/\V3 (2:Int) q/\V3 (3:Int) q/\V3 (0:Int) q/\∃(x_1:a5V.ι),((((p 1 dz).n=x_1.id/\(p 2 dz).k=x_1.n.k/\(p 2 dz).n=x_1.n.n/\(p 2 dz).t=x_1.n.t/\(p 3 dz).k=x_1.name.k/\(p 3 dz).n=x_1.name.n/\(p 3 dz).t=x_1.name.t/\True)/\True)/\RwB x_1)/\(p 0 dz).n=(m4 t).1/\((p 1 dz).n=(m4 t).2.1.id/\(p 2 dz).k=(m4 t).2.1.n.k/\(p 2 dz).n=(m4 t).2.1.n.n/\(p 2 dz).t=(m4 t).2.1.n.t/\(p 3 dz).k=(m4 t).2.1.name.k/\(p 3 dz).n=(m4 t).2.1.name.n/\(p 3 dz).t=(m4 t).2.1.name.t/\True)/\pK x_1=(m4 t).2.2/\True)) ⟨t,⟨Z9,hb⟩,λh=>a4I (c1d h) (by omega) (by omega),λh=>a4I (b6f h) (by omega) (by omega),λh=>a4I (by rw[yP] at h;exact b6f h.1) (by omega) (by omega),λhq=> ?_,λhq=> ?_⟩
 ·have e:m4 t=(0,rw0,false):=by
   have hq:(b78 (R5 t)|| !V9 (gO (R5 t).1).1 1 3)=true:=hq;unfold m4;rw[if_pos hq]
  rw[e];exact⟨rfl,⟨rfl,rfl,rfl,rfl,rfl,rfl,Z9⟩,Z9⟩
 ·have l4:(R5 t).1.length=4:=by
   rw[yP,yP] at hq;exact b6f hq.1.1
  have e:m4 t=((gO (R5 t).1).1,(gO (R5 t).1).2,pK (gO (R5 t).1).2):=by
   have hq:(b78 (R5 t)|| !V9 (gO (R5 t).1).1 1 3)=false:=hq;unfold m4;rw[if_neg (by rw[hq];simp)]
  rw[e];exact⟨a4I l4 (by omega) (by omega),a4I l4 (by omega) (by omega),a4I l4 (by omega) (by omega),a4I l4 (by omega) (by omega),(gO (R5 t).1).2,⟨⟨⟨rfl,rfl,rfl,rfl,rfl,rfl,Z9⟩,trivial⟩,kB hb,kB hb⟩,rfl,⟨rfl,rfl,rfl,rfl,rfl,rfl,Z9⟩,Z9⟩
end Go.Proofs.YtghgljelnhfihaaGreat

