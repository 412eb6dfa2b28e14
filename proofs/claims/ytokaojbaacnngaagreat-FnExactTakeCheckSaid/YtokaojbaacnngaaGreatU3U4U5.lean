/- A part of the proof. -/
import Derived.Test.YtokaojbaacnngaaGreatU1U2
import Derived.Test.YtokaojbaacnngaaGreatW7
namespace Go.Proofs.YtokaojbaacnngaaGreat
set_option maxRecDepth 100000
open Go.SS

def Eng.tn(e:Eng)(a b c d f g h i:Nat):List T:=[.osl a 0 e.s.d.sec.length,.osl b 0 e.s.d.cache.length,.bool e.s.d.armed,.osl c 0 e.s.d.keep.length,.int .i64 e.s.ep,.osl d 0 e.s.log.length,.int .i64 e.s.sure,.osl f 0 e.s.fr.length,.int .i64 e.s.hand,.bool e.up,.osl g 0 e.txs.length,.osl h 0 e.lk.held.length,.osl i 0 e.lk.waits.length,.int .i64 e.next]
def c4u(l:List T):Option Ob:=some (.arr false 1000000 14 1 fun _=>l)
def Eng.bx(e:Eng)(v:Nat):Y6:=[c4u (e.tn 1 2 3 4 5 6 7 8),G8 e.s.d.sec,I8 e.s.d.cache,B2 e.s.d.keep,w9 e.s.log,yU v e.s.fr e.s.fr.length,qM e.txs,rI e.lk.held,wtA e.lk.waits]
def Eng.nx(e:Eng)(v:Nat):Y6:=[c4u (e.tn 9 10 11 12 13 14 15 16),none,none,none,none,none,none,none,none,G8 e.s.d.sec,I8 e.s.d.cache,B2 e.s.d.keep,w9 e.s.log,yU v e.s.fr e.s.fr.length,qM e.txs,rI e.lk.held,wtA e.lk.waits]
def c7L:Eng:=⟨c8a,false,[],⟨[],[]⟩,0⟩
end Go.Proofs.YtokaojbaacnngaaGreat

namespace Go.Proofs.YtokaojbaacnngaaGreat
set_option maxRecDepth 100000
open Go.SS

def apx(s:Sto)(r:Rec):Sto:=⟨s.d,s.ep,s.log++[D5 s r],s.sure,s.fr,s.hand⟩
def c8g(e:Eng)(k:Nat)(r:Rec):Rec:={r with t:=(e.txs.getD k default).id,p:=(e.txs.getD k default).last}
structure AddB(e:Eng)(tx:Int)(k:Nat)(r:Rec):Prop where
 at_:L6 e.txs tx=k
 lt:k<e.txs.length
 id:(e.txs.getD k default).id=tx
 ok:S3 (D5 e.s (c8g e k r))=true
 tl:e.txs.length<=1000
 ll:e.s.log.length<=1000
 sm:SmR r
theorem c1t{s:Sto}{r:Rec}(h:S3 (D5 s r)=true):I6 s r=apx s r:=by unfold I6;rw[if_pos h];rfl
theorem b9D(s:Sto)(r:Rec):(apx s r).log.getD s.log.length default=D5 s r:=by
 show(s.log++[D5 s r]).getD _ _=_;rw[C0,eT (V5 _)]
 simp
theorem I5{e:Eng}(h:Q5 e=true):N4 e.s=true/\zP e=true/\(if e.up then upE e else a1f e)=true:=by
 unfold Q5 xD at h;simp only[K5] at h;exact⟨h.1,h.2.1,h.2.2⟩
theorem a8F{e:Eng}(h:Q5 e=true)(hu:e.up=true):∀i,i<e.txs.length->H5 e i=false:=by
 have h3:=(I5 h).2.2;rw[if_pos hu] at h3;unfold upE at h3;simp only[K5,sB] at h3;exact M5.1 h3.1.1.1
theorem c4y{e:Eng}(h:Q5 e=true)(hu:e.up=true):jZ e:=b8O (oP (I5 h).1) (I5 h).2.1 (a8F h hu)
theorem c7K{e:Eng}(h:Q5 e=true)(hu:e.up=true){i:Nat}(hi:i<e.txs.length):1<=(e.txs.getD i default).id/\(e.txs.getD i default).id<=e.next-1:=by
 have:=a8F h hu i hi;unfold H5 at this;simp only[vG,tE,O5] at this;exact this.1.1
theorem c5y{s:Sto}(h:N4 s=true):1<=s.ep/\s.ep<=60:=by
 obtain⟨⟨h1,_⟩,_⟩:=(I2 s).1 h;obtain⟨_,_,a,b,_⟩:=(zK s).1 h1;exact⟨a,b⟩
end Go.Proofs.YtokaojbaacnngaaGreat

namespace Go.Proofs.YtokaojbaacnngaaGreat
set_option maxRecDepth 100000
open Go.SS

theorem c2q{f g:Nat->List T}:W6 f 0 g=g:=funext fun i=>by unfold W6;rw[show Nat.blt i 0=false from rfl];rfl
def c7r:Con:=.rel ⟨Sto×Rec,fun x=>[.agg x.1.ts,.agg x.2.ts],fun x=>.tup [.agg (apx x.1 x.2).ts,.int .i64 (x.1.log.length+1:Nat)],fun x=>x.1.log.length<=1000⟩
noncomputable def c72:Code:=Tryz.f126.body.getD .skip
theorem b9B:Z7 Tryz.prog 126:=⟨_,Tryz.func126,by kernel_rfl,by kernel_rfl⟩
theorem c7T(s:Sto)(r:Rec)(h:
  X8 .i64 ((s.log.length:Int)+(1:Int))/\(Le 0 0/\V7 0 s.log.length 96)/\(Le (0+s.log.length) (0+s.log.length)/\V7 (0+s.log.length) 1 96)/\Le (0+(0+s.log.length+1)) (0+s.log.length+1)/\((Y4 Z6
  s.d.sec s.d.sec)/\(Y4 Z3 s.d.cache s.d.cache)/\s.d.armed=s.d.armed/\(Y4 Y8 s.d.keep s.d.keep)/\s.ep=s.ep/\(0+s.log.length+1=(s.log++[D5 s r]).length/\Z8 (0+s.log.length+1) (W6 (W6
  (fun(k:Nat)=>List.take 10 (List.drop (k*10) [])) 0 (Y5 s.log)) (0+s.log.length) fun(k:Nat)=>List.take 10 (List.drop (k*10) [T.int .i64 s.ep,T.int .i64 ((s.log.length:Int)+(1:Int)),T.int .i64 r.t,T.int
  .i64 r.k,T.int .i64 r.p,T.int .i64 r.n,T.int .i64 r.g,T.int .i64 r.s,T.str r.b,T.str r.a])) (Y5 (s.log++[D5 s r])))/\s.sure=s.sure/\(Y4 V6 s.fr s.fr)/\s.hand=s.hand/\True)/\(s.log.length:Int)+(1:
  Int)=(↑(s.log.length+1):Int)/\True):
  Z2 Tryz.prog 126 [.agg s.ts,.agg r.ts] (.tup [.agg (apx s r).ts,.int .i64 (s.log.length+1:Nat)]):=
 T4 (code:=c72) (gC sL zN gN) Tryz.func126 (by kernel_rfl) (by kernel_rfl) Z0 h (by kernel_rfl)
theorem c7d:Z1 Tryz.prog 126 c7r:=by
 rintro⟨s,r⟩ (h:s.log.length<=1000);have hl:(s.log++[D5 s r]).length=s.log.length+1:=by simp
 refine c7T s r ⟨Z5 (by omega),⟨V5 _,by unfold V7;omega⟩,⟨V5 _,by unfold V7;omega⟩,by unfold Le;omega,⟨(by repeat' first|exact trivial|exact rfl|exact Z9 _ _|exact U3 _|exact U1|exact S7 _|exact V5 _|exact T0 _|refine And.intro ?_ ?_),(by repeat' first|exact trivial|exact rfl|exact Z9 _ _|exact U3 _|exact U1|exact S7 _|exact V5 _|exact T0 _|refine And.intro ?_ ?_),rfl,(by repeat' first|exact trivial|exact rfl|exact Z9 _ _|exact U3 _|exact U1|exact S7 _|exact V5 _|exact T0 _|refine And.intro ?_ ?_),rfl,⟨by omega,?_⟩,rfl,(by repeat' first|exact trivial|exact rfl|exact Z9 _ _|exact U3 _|exact U1|exact S7 _|exact V5 _|exact T0 _|refine And.intro ?_ ?_),rfl,trivial⟩,rfl,trivial⟩
 rw[yO,c2q];exact oJ s.log (D5 s r)
end Go.Proofs.YtokaojbaacnngaaGreat

