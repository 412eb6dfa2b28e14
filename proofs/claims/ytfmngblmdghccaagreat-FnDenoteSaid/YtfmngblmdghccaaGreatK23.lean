/- A part of the proof. -/
import Derived.Test.YtfmngblmdghccaaGreatX6
namespace Go.Proofs.YtfmngblmdghccaaGreat
set_option maxRecDepth 100000
open Go.SS Go.RowKit

theorem leZ(n:Nat):Le (0+n) n:=by unfold Le;omega
def Stm.tm(s:Stm)(i:Nat):List T:=[.int .i64 s.k,.int .i64 s.ta,.int .i64 s.row.id,.int .i64 s.row.n.k,.int .i64 s.row.n.n,.str s.row.n.t,.int .i64 s.row.name.k,.int .i64 s.row.name.n,.str s.row.name.t,.int .i64 s.c,.osl i 0 s.set.length,.osl (i+1) 0 s.whr.length,.int .i64 s.ord,.bool s.down]
noncomputable def k_Dens:Con:=.rfz ⟨List Rw×Stm,fun x=>[rwS x.1,.agg x.2.ts],fun x=>.tup [rwS (denA x.2 x.1).r,.agg [rwS (denA x.2 x.1).a,.int .i64 (denA x.2 x.1).n],.int .i64 (denA x.2 x.1).x],fun x=>RwsB x.1/\StmB x.2⟩
noncomputable def b_Dens:Code:=Tryz.f8.body.getD .skip
theorem call_Dens:Callable Tryz.prog 8:=⟨_,Tryz.func8,by kernel_rfl,by kernel_rfl⟩
theorem v_Dens(L:List Rw)(s:Stm)(R M:List Rw)(c:Nat)(x:Int)(h:
  (decide ((L.length:Int)>(4096:Int))=true->R.length=0/\(M.length=0/\(0:Int)=(c:Int)/\True)/\(2:Int)=x/\True)/\(decide ((L.length:Int)>(4096:Int))=false->(decide ((L.length:Int)>(100:Int))=true
  ->AppB 0 L.length 72/\(EqL rwRow L R)/\(M.length=0/\(0:Int)=(c:Int)/\True)/\(6:Int)=x/\True)/\(decide ((L.length:Int)>(100:Int))=false->∃(x_1:(List Rw)),(((EqL rwRow L x_1)/\True)/\RwsB x_1)/\∃(x_2
  :Stm),((!rwsOK x_1)=false->((s.k=x_2.k/\s.ta=x_2.ta/\s.row.id=x_2.row.id/\s.row.n.k=x_2.row.n.k/\s.row.n.n=x_2.row.n.n/\s.row.n.t=x_2.row.n.t/\s.row.name.k=x_2.row.name.k/\s.row.name.n=x_2.row.name.n/\
  s.row.name.t=x_2.row.name.t/\s.c=x_2.c/\(EqL ndRow s.set x_2.set)/\(EqL ndRow s.whr x_2.whr)/\s.ord=x_2.ord/\s.down=x_2.down/\True)/\True)/\StmB x_2)/\((!rwsOK x_1|| !stmOK x_2)=true->AppB 0 L.length 72/\(EqL
  rwRow L R)/\(M.length=0/\(0:Int)=(c:Int)/\True)/\(1:Int)=x/\True)/\((!rwsOK x_1|| !stmOK x_2)=false->∃(x_3:(List Rw×Stm)),(((EqL rwRow L x_3.fst)/\(s.k=x_3.snd.k/\s.ta=x_3.snd.ta/\s.row.id=
  x_3.snd.row.id/\s.row.n.k=x_3.snd.row.n.k/\s.row.n.n=x_3.snd.row.n.n/\s.row.n.t=x_3.snd.row.n.t/\s.row.name.k=x_3.snd.row.name.k/\s.row.name.n=x_3.snd.row.name.n/\s.row.name.t=x_3.snd.row.name.t/\s.c=x_3.snd.c
  /\(EqL ndRow s.set x_3.snd.set)/\(EqL ndRow s.whr x_3.snd.whr)/\s.ord=x_3.snd.ord/\s.down=x_3.snd.down/\True)/\True)/\StD x_3.snd x_3.fst/\(x_3.snd.k=(1:Int)∨x_3.snd.k=(2:Int)∨x_3.snd.k=(3:Int)∨
  x_3.snd.k=(4:Int)))/\AppB 0 (denR x_3.snd x_3.fst).r.length 72/\(EqL rwRow (denR x_3.snd x_3.fst).r R)/\((EqL rwRow (denR x_3.snd x_3.fst).a M)/\(↑(denR x_3.snd x_3.fst).n:Int)=(c:Int)/\True)/\(denR x_3.snd
  x_3.fst).x=x/\True)))):
  PureFn Tryz.prog 8 [rwS L,.agg s.ts] (.tup [rwS R,.agg [rwS M,.int .i64 c],.int .i64 x]):=
 vcR (code:=b_Dens) (gC rwsS_ok call_rwsS (gC StmtOKs_ok call_StmtOKs (gC denS_ok call_denS (gC tmpK_ok call_tmpK (gC tmpK_ok call_tmpK (gC tmpK_ok call_tmpK gN)))))) Tryz.func8 (by kernel_rfl) (by kernel_rfl) noAnn h (by kernel_rfl)
theorem stm_K{s:Stm}(h:stmOK s=true):s.k=1∨s.k=2∨s.k=3∨s.k=4:=by
 unfold stmOK at h;rw[Bool.and_eq_true] at h;have h:=h.2;by_cases h1:s.k=1
 ·exact .inl h1
 by_cases h2:s.k=2
 ·exact .inr (.inl h2)
 by_cases h3:s.k=3
 ·exact .inr (.inr (.inl h3))
 rw[if_neg h1,if_neg h2,if_neg h3] at h;simp only[Bool.and_eq_true,beq_iff_eq] at h;exact .inr (.inr (.inr h.1.1.1.1.1))
theorem den_ln(s:Stm)(L:List Rw):(denA s L).r.length<=4097/\(denA s L).a.length<=4097:=by
 unfold denA;split
 ·exact⟨Nat.zero_le _,Nat.zero_le _⟩
 ·split
  ·exact⟨by dsimp only;omega,Nat.zero_le _⟩
  ·rename_i h1 h2;split
   ·exact⟨by dsimp only;omega,Nat.zero_le _⟩
   ·rename_i h3;have h3:(!rwsOK L|| !stmOK s)=false:=by simpa using h3
    rw[Bool.or_eq_false_iff,Bool.not_eq_false',Bool.not_eq_false'] at h3;obtain⟨a1,a2,a3⟩:=std_of h3.1 h3.2 (by omega)
    unfold denR;split
    ·split
     ·exact⟨by dsimp only;omega,Nat.zero_le _⟩
     ·refine⟨?_,Nat.zero_le _⟩
      dsimp only;rw[ins_len (low_le _ _)];omega
    ·rename_i hk;split
     ·exact⟨by dsimp only;omega,Nat.zero_le _⟩
     ·rename_i hx;obtain⟨_,_,b1,b2,_⟩:=a3 hk;have dp:=dn_P (s:=s) b1 b2 L.length (Nat.le_refl _);have:=dp.lo;have:=dp.lq;refine⟨by dsimp only;omega,?_⟩
      dsimp only;rw[ansR,if_neg hx,srt_len];omega
theorem Dens_ok:ConOk Tryz.prog 8 k_Dens:=by
 rintro⟨L,s⟩ ⟨hL,hs⟩;dsimp only at hL hs;have hn:=(den_ln s L).1;refine v_Dens L s (denA s L).r (denA s L).a (denA s L).n (denA s L).x ⟨fun h=> ?_,fun h=>⟨fun h1=> ?_,fun h1=>⟨L,⟨⟨⟨rfl,rowsR _ _⟩,trivial⟩,hL⟩,s,fun _=>⟨⟨⟨rfl,rfl,rfl,rfl,rfl,rfl,rfl,rfl,rfl,rfl,⟨rfl,rowsR _ _⟩,⟨rfl,rowsR _ _⟩,rfl,rfl,trivial⟩,trivial⟩,hs⟩,fun h2=> ?_,fun h2=>⟨(L,s),⟨⟨⟨rfl,rowsR _ _⟩,⟨rfl,rfl,rfl,rfl,rfl,rfl,rfl,rfl,rfl,rfl,⟨rfl,rowsR _ _⟩,⟨rfl,rowsR _ _⟩,rfl,rfl,trivial⟩,trivial⟩,?_,?_⟩,?_⟩⟩⟩⟩
 ·have h:=of_decide_eq_true h;have e:denA s L=⟨[],[],0,2⟩:=by rw[denA,if_pos (by omega)]
  rw[e];exact⟨rfl,⟨rfl,rfl,trivial⟩,rfl,trivial⟩
 ·have h:=of_decide_eq_false h;have h1:=of_decide_eq_true h1;have e:denA s L=⟨L,[],0,6⟩:=by rw[denA,if_neg (by omega),if_pos (by omega)]
  rw[e];exact⟨by unfold AppB;omega,⟨rfl,rowsR _ _⟩,⟨rfl,rfl,trivial⟩,rfl,trivial⟩
 ·have h:=of_decide_eq_false h;have h1:=of_decide_eq_false h1;have e:denA s L=⟨L,[],0,1⟩:=by rw[denA,if_neg (by omega),if_neg (by omega),if_pos h2]
  rw[e];exact⟨by unfold AppB;omega,⟨rfl,rowsR _ _⟩,⟨rfl,rfl,trivial⟩,rfl,trivial⟩
 ·have h1:=of_decide_eq_false h1;rw[Bool.or_eq_false_iff,Bool.not_eq_false',Bool.not_eq_false'] at h2;exact std_of h2.1 h2.2 (by dsimp only;omega)
 ·rw[Bool.or_eq_false_iff,Bool.not_eq_false',Bool.not_eq_false'] at h2;exact stm_K h2.2
 ·have h:=of_decide_eq_false h;have h1:=of_decide_eq_false h1;have e:denA s L=denR s L:=by rw[denA,if_neg (by omega),if_neg (by omega),if_neg (by rw[h2];exact Bool.false_ne_true)]
  rw[e] at hn ⊢;exact⟨by unfold AppB;dsimp only;omega,⟨rfl,rowsR _ _⟩,⟨⟨rfl,rowsR _ _⟩,rfl,trivial⟩,rfl,trivial⟩
end Go.Proofs.YtfmngblmdghccaaGreat

namespace Go.Proofs.YtfmngblmdghccaaGreat
set_option maxRecDepth 100000
open Go.SS Go.RowKit

structure Src where
 c:List UInt8
 at_:Nat
 sd:Int
def srcB(s:Src):Option Ob:=some (.arr true 1000000 3 1 fun _=>[.bys s.c,.int .i64 s.at_,.int .i64 s.sd])
def SrcOK(s:Src)(m:Nat):Prop:=s.at_<=m/\0<=s.sd/\s.sd<2147483648
def srcN(code:List UInt8):Src:=⟨code,0,(code.length:Int).tmod 1000⟩
def byS(s:Src):Src:=if s.at_+1<=s.c.length then⟨s.c,s.at_+1,(s.sd*31+(s.c.getD s.at_ 0).toNat+7).tmod 2147483648⟩ else
 if 3000<s.at_+1 then⟨s.c,s.at_+1,s.sd⟩ else⟨s.c,s.at_+1,(s.sd*1103515245+12345).tmod 2147483648⟩
def byV(s:Src):Int:=if s.at_+1<=s.c.length then(s.c.getD s.at_ 0).toNat else
 if 3000<s.at_+1 then 0 else((byS s).sd.tdiv 65536).tmod 256
def nxS(s:Src)(n:Int):Src:=if n<=1 then s else byS s
def nxV(s:Src)(n:Int):Int:=if n<=1 then 0 else(byV s).tmod n
def k_l00Source:Con:=.reff ⟨List UInt8,fun c=>[.bys c],fun _=>[],fun _=>.ref 0 0 0,fun c=>[srcB (srcN c)],fun c=>c.length<=1048576⟩
noncomputable def b_l00Source:Code:=Tryz.f22.body.getD .skip
theorem call_l00Source:Callable Tryz.prog 22:=⟨_,Tryz.func22,by kernel_rfl,by kernel_rfl⟩
theorem v_l00Source(c:List UInt8)(h:
  Nz (1000:Int)/\((0=0/\0=0)/\True)/\(1=1/\1=1/\c=c/\(0:Int)=(↑(0:Nat):Int)/\(c.length:Int).tmod (1000:Int)=(c.length:Int).tmod (1000:Int)/\True)/\True):
  EffFn Tryz.prog 22 [.bys c] [] (.ref 0 0 0) [srcB (srcN c)]:=
 vcG (code:=b_l00Source) gN Tryz.func22 (by kernel_rfl) (by kernel_rfl) noAnn [[.box 0]] h (by kernel_rfl)
theorem l00Source_ok:ConOk Tryz.prog 22 k_l00Source:=fun c _=>v_l00Source c ⟨by unfold Nz;decide,(by repeat' first|exact trivial|exact rfl|exact rowsR _ _|exact famR _|exact row0|exact le0 _|exact Nat.le_refl _|exact Nat.zero_le _|refine And.intro ?_ ?_),(by repeat' first|exact trivial|exact rfl|exact rowsR _ _|exact famR _|exact row0|exact le0 _|exact Nat.le_refl _|exact Nat.zero_le _|refine And.intro ?_ ?_)⟩
theorem tmod_rng{a n:Int}(h:0<=a)(hn:0<n):0<=a.tmod n/\a.tmod n<n:=⟨Int.tmod_nonneg _ h,Int.tmod_lt_of_pos _ hn⟩
theorem by_rng{s:Src}{m:Nat}(h:SrcOK s m):0<=byV s/\byV s<256/\SrcOK (byS s) (m+1):=by
 obtain⟨h1,h2,h3⟩:=h;have hb:=(s.c.getD s.at_ 0).toNat_lt;unfold byV byS SrcOK;split
 ·exact⟨by omega,by omega,by dsimp only;omega,tmod_rng (by omega) (by decide)⟩
 ·split
  ·exact⟨by omega,by omega,by dsimp only;omega,h2,h3⟩
  ·have:=tmod_rng (a:=s.sd*1103515245+12345) (n:=2147483648) (by omega) (by decide)
   dsimp only;have e:=tmod_rng (a:=((s.sd*1103515245+12345).tmod 2147483648).tdiv 65536) (n:=256) (Int.tdiv_nonneg this.1 (by decide)) (by decide)
   exact⟨e.1,e.2,by omega,this⟩
theorem nx_rng{s:Src}{m:Nat}{n:Int}(h:SrcOK s m)(hn:1<=n):0<=nxV s n/\nxV s n<n/\SrcOK (nxS s n) (m+1):=by
 unfold nxV nxS;have:=by_rng h;split
 ·exact⟨by omega,by omega,by obtain⟨h1,h2⟩:=h;exact⟨by omega,h2⟩⟩
 ·have:=tmod_rng (a:=byV s) (n:=n) this.1 (by omega)
  exact⟨this.1,this.2,(by_rng h).2.2⟩
def k_byte:Con:=.reff ⟨Src,fun _=>[.ref 0 0 0],fun s=>[srcB s],fun s=>.int .i64 (byV s),fun s=>[srcB (byS s)],fun s=>SrcOK s 1000000⟩
noncomputable def b_byte:Code:=Tryz.f70.body.getD .skip
theorem call_byte:Callable Tryz.prog 70:=⟨_,Tryz.func70,by kernel_rfl,by kernel_rfl⟩
theorem v_byte(s:Src)(h:
  Rng .i64 ((s.at_:Int)+(1:Int))/\(decide ((s.at_:Int)+(1:Int)<=(s.c.length:Int))=true->Rng .i64 (s.sd*(31:Int))/\Rng .i64 ((s.at_:Int)+(1:Int)- (1:Int))/\InB ((s.at_:Int)+(1:Int)- (1:Int))
  s.c.length/\Rng .i64 (s.sd*(31:Int)+IntKind.i64.wrap (↑(s.c.getD ((s.at_:Int)+(1:Int)- (1:Int)).toNat (0:UInt8)).toNat:Int))/\Rng .i64 (s.sd*(31:Int)+IntKind.i64.wrap (↑(s.c.getD ((s.at_:Int)+(1:Int)-
  (1:Int)).toNat (0:UInt8)).toNat:Int)+(7:Int))/\Nz (2147483648:Int)/\Rng .i64 ((s.at_:Int)+(1:Int)- (1:Int))/\InB ((s.at_:Int)+(1:Int)- (1:Int)) s.c.length/\(IntKind.i64.wrap (↑(s.c.getD ((s.at_:Int)+
  (1:Int)- (1:Int)).toNat (0:UInt8)).toNat:Int)=byV s/\True)/\(1=1/\1=1/\s.c=(byS s).c/\(s.at_:Int)+(1:Int)=(↑(byS s).at_:Int)/\(s.sd*(31:Int)+IntKind.i64.wrap (↑(s.c.getD ((s.at_:Int)+(1:
  Int)- (1:Int)).toNat (0:UInt8)).toNat:Int)+(7:Int)).tmod (2147483648:Int)=(byS s).sd/\True)/\True)/\(decide ((s.at_:Int)+(1:Int)<=(s.c.length:Int))=false->(decide ((s.at_:Int)+(1:Int)>(3000:Int))
  =true->((0:Int)=byV s/\True)/\(1=1/\1=1/\s.c=(byS s).c/\(s.at_:Int)+(1:Int)=(↑(byS s).at_:Int)/\s.sd=(byS s).sd/\True)/\True)/\(decide ((s.at_:Int)+(1:Int)>(3000:Int))=false->Rng .i64
  (s.sd*(1103515245:Int))/\Rng .i64 (s.sd*(1103515245:Int)+(12345:Int))/\Nz (2147483648:Int)/\(Nz (65536:Int)/\Rng .i64 (((s.sd*(1103515245:Int)+(12345:Int)).tmod (2147483648:Int)).tdiv (65536:Int)))
  /\Nz (256:Int)/\((((s.sd*(1103515245:Int)+(12345:Int)).tmod (2147483648:Int)).tdiv (65536:Int)).tmod (256:Int)=byV s/\True)/\(1=1/\1=1/\s.c=(byS s).c/\(s.at_:Int)+(1:Int)=(↑(byS s).at_:Int)/\
  (s.sd*(1103515245:Int)+(12345:Int)).tmod (2147483648:Int)=(byS s).sd/\True)/\True))):
  EffFn Tryz.prog 70 [.ref 0 0 0] [srcB s] (.int .i64 (byV s)) [srcB (byS s)]:=
 vcG (code:=b_byte) gN Tryz.func70 (by kernel_rfl) (by kernel_rfl) noAnn [[.box 0]] h (by kernel_rfl)
theorem byte_ok:ConOk Tryz.prog 70 k_byte:=by
 intro(s:Src) (h:SrcOK s 1000000);have hb:=(s.c.getD s.at_ 0).toNat_lt;have e:((s.at_:Int)+1-1).toNat=s.at_:=by omega
 have ew:IntKind.i64.wrap ((s.c.getD s.at_ 0).toNat:Int)=((s.c.getD s.at_ 0).toNat:Int):=by rw[IntKind.wrap_i64];omega
 obtain⟨h1,h2,h3⟩:=h;refine v_byte s ⟨i64_rng (by omega),fun hc=> ?_,fun hc=>⟨fun hd=> ?_,fun hd=> ?_⟩⟩
 ·have hc:=of_decide_eq_true hc;have c1:s.at_+1<=s.c.length:=by omega
  rw[e,ew];unfold byV byS;rw[if_pos c1,if_pos c1];exact⟨i64_rng (by omega),i64_rng (by omega),⟨by omega,by omega⟩,i64_rng (by omega),i64_rng (by omega),by unfold Nz;decide,i64_rng (by omega),⟨by omega,by omega⟩,⟨rfl,trivial⟩,⟨rfl,rfl,rfl,rfl,rfl,trivial⟩,trivial⟩
 ·have hc:=of_decide_eq_false hc;have hd:=of_decide_eq_true hd;unfold byV byS;rw[if_neg (by omega),if_pos (by omega),if_neg (by omega),if_pos (by omega)]
  exact(by repeat' first|exact trivial|exact rfl|exact rowsR _ _|exact famR _|exact row0|exact le0 _|exact Nat.le_refl _|exact Nat.zero_le _|refine And.intro ?_ ?_)
 ·have hc:=of_decide_eq_false hc;have hd:=of_decide_eq_false hd;have t:=tmod_rng (a:=s.sd*1103515245+12345) (n:=2147483648) (by omega) (by decide)
  have t2:((s.sd*1103515245+12345).tmod 2147483648).tdiv 65536=((s.sd*1103515245+12345).tmod 2147483648)/65536:=Int.tdiv_eq_ediv_of_nonneg t.1;unfold byV byS;rw[if_neg (by omega),if_neg (by omega),if_neg (by omega),if_neg (by omega)]
  exact⟨i64_rng (by omega),i64_rng (by omega),by unfold Nz;decide,⟨by unfold Nz;decide,i64_rng (by omega)⟩,by unfold Nz;decide,⟨rfl,trivial⟩,⟨rfl,rfl,rfl,rfl,rfl,trivial⟩,trivial⟩
def k_next:Con:=.reff ⟨Src×Int,fun x=>[.ref 0 0 0,.int .i64 x.2],fun x=>[srcB x.1],fun x=>.int .i64 (nxV x.1 x.2),fun x=>[srcB (nxS x.1 x.2)],fun x=>SrcOK x.1 1000000/\x.2<=256⟩
noncomputable def b_next:Code:=Tryz.f42.body.getD .skip
theorem call_next:Callable Tryz.prog 42:=⟨_,Tryz.func42,by kernel_rfl,by kernel_rfl⟩
theorem v_next(s:Src)(n:Int)(h:
  (decide (n<=(1:Int))=true->((0:Int)=nxV s n/\True)/\(1=1/\1=1/\s.c=(nxS s n).c/\(s.at_:Int)=(↑(nxS s n).at_:Int)/\s.sd=(nxS s n).sd/\True)/\True)/\(decide (n<=(1:Int))=false->(decide (n<=(256
  :Int))=true->∃(x:Src),(((0=0/\0=0)/\True)/\((1=1/\RowsEq 1 (fun(x:Nat)=>[T.bys s.c,T.int .i64 (s.at_:Int),T.int .i64 s.sd]) fun(x_1:Nat)=>[T.bys x.c,T.int .i64 (x.at_:Int),T.int .i64 x.sd])/\True)
  /\SrcOK x 1000000)/\Nz n/\((byV x).tmod n=nxV s n/\True)/\(1=1/\1=1/\(byS x).c=(nxS s n).c/\(↑(byS x).at_:Int)=(↑(nxS s n).at_:Int)/\(byS x).sd=(nxS s n).sd/\True)/\True)/\(decide (n<=(256:Int))=
  false->∃(x:Src),(((0=0/\0=0)/\True)/\((1=1/\RowsEq 1 (fun(x:Nat)=>[T.bys s.c,T.int .i64 (s.at_:Int),T.int .i64 s.sd]) fun(x_1:Nat)=>[T.bys x.c,T.int .i64 (x.at_:Int),T.int .i64 x.sd])/\True)/\SrcOK x
  1000000)/\∃(x_1:Src),(((0=0/\0=0)/\True)/\((1=1/\RowsEq 1 (fun(x_2:Nat)=>[T.bys (byS x).c,T.int .i64 (↑(byS x).at_:Int),T.int .i64 (byS x).sd]) fun(x:Nat)=>[T.bys x_1.c,T.int .i64 (x_1.at_:Int),T.int
  .i64 x_1.sd])/\True)/\SrcOK x_1 1000000)/\∃(x_2:Src),(((0=0/\0=0)/\True)/\((1=1/\RowsEq 1 (fun(x:Nat)=>[T.bys (byS x_1).c,T.int .i64 (↑(byS x_1).at_:Int),T.int .i64 (byS x_1).sd]) fun(x:Nat)=>[T.bys
  x_2.c,T.int .i64 (x_2.at_:Int),T.int .i64 x_2.sd])/\True)/\SrcOK x_2 1000000)/\Rng .i64 (byV x*(65536:Int))/\Rng .i64 (byV x_1*(256:Int))/\Rng .i64 (byV x*(65536:Int)+byV x_1*(256:Int))/\Rng .i64 (byV x*
  (65536:Int)+byV x_1*(256:Int)+byV x_2)/\Nz n/\((byV x*(65536:Int)+byV x_1*(256:Int)+byV x_2).tmod n=nxV s n/\True)/\(1=1/\1=1/\(byS x_2).c=(nxS s n).c/\(↑(byS x_2).at_:Int)=(↑(nxS s n).at_
  :Int)/\(byS x_2).sd=(nxS s n).sd/\True)/\True))):
  EffFn Tryz.prog 42 [.ref 0 0 0,.int .i64 n] [srcB s] (.int .i64 (nxV s n)) [srcB (nxS s n)]:=
 vcG (code:=b_next) (gC byte_ok call_byte gN) Tryz.func42 (by kernel_rfl) (by kernel_rfl) noAnn [[.box 0]] h (by kernel_rfl)
theorem next_ok:ConOk Tryz.prog 42 k_next:=by
 rintro⟨s,n⟩ ⟨h,hn⟩;dsimp only at h hn;unfold nxV nxS;refine v_next s n ⟨fun hc=> ?_,fun hc=>⟨fun hd=>⟨s,⟨(by repeat' first|exact trivial|exact rfl|exact rowsR _ _|exact famR _|exact row0|exact le0 _|exact Nat.le_refl _|exact Nat.zero_le _|refine And.intro ?_ ?_),⟨⟨rfl,fun _ _=>rfl⟩,trivial⟩,h⟩,?_⟩,fun hd=>absurd (of_decide_eq_false hd) (by omega)⟩⟩
 ·unfold nxV nxS;rw[if_pos (of_decide_eq_true hc),if_pos (of_decide_eq_true hc)];exact(by repeat' first|exact trivial|exact rfl|exact rowsR _ _|exact famR _|exact row0|exact le0 _|exact Nat.le_refl _|exact Nat.zero_le _|refine And.intro ?_ ?_)
 ·have hc:=of_decide_eq_false hc;unfold nxV nxS;rw[if_neg hc,if_neg hc];exact⟨by unfold Nz;omega,(by repeat' first|exact trivial|exact rfl|exact rowsR _ _|exact famR _|exact row0|exact le0 _|exact Nat.le_refl _|exact Nat.zero_le _|refine And.intro ?_ ?_),(by repeat' first|exact trivial|exact rfl|exact rowsR _ _|exact famR _|exact row0|exact le0 _|exact Nat.le_refl _|exact Nat.zero_le _|refine And.intro ?_ ?_)⟩
def k_pick:Con:=.reff ⟨Src×List (List UInt8),fun x=>[.ref 0 0 0,strS x.2],fun x=>[srcB x.1],fun x=>.str (x.2.getD (nxV x.1 x.2.length).toNat []),fun x=>[srcB (nxS x.1 x.2.length)],fun x=>SrcOK x.1 1000000/\1<=x.2.length/\x.2.length<=256⟩
noncomputable def b_pick:Code:=Tryz.f45.body.getD .skip
theorem call_pick:Callable Tryz.prog 45:=⟨_,Tryz.func45,by kernel_rfl,by kernel_rfl⟩
theorem v_pick(s:Src)(L:List (List UInt8))(h:
  (((L.length:Int)==(0:Int))=true->([]=L.getD (nxV s (L.length:Int)).toNat []/\True)/\(1=1/\1=1/\s.c=(nxS s (L.length:Int)).c/\(s.at_:Int)=(↑(nxS s (L.length:Int)).at_:Int)/\s.sd=(nxS s (L.length:Int)).sd
  /\True)/\True)/\(((L.length:Int)==(0:Int))=false->∃(x:(Src×Int)),(((0=0/\0=0)/\(L.length:Int)=x.snd/\True)/\((1=1/\RowsEq 1 (fun(x:Nat)=>[T.bys s.c,T.int .i64 (s.at_:Int),T.int .i64 s.sd]) fun
  (x_1:Nat)=>[T.bys x.fst.c,T.int .i64 (x.fst.at_:Int),T.int .i64 x.fst.sd])/\True)/\SrcOK x.fst 1000000/\x.snd<=(256:Int))/\InB (nxV x.fst x.snd) L.length/\(L.getD (nxV x.fst x.snd).toNat []=L.getD (nxV s
  (L.length:Int)).toNat []/\True)/\(1=1/\1=1/\(nxS x.fst x.snd).c=(nxS s (L.length:Int)).c/\(↑(nxS x.fst x.snd).at_:Int)=(↑(nxS s (L.length:Int)).at_:Int)/\(nxS x.fst x.snd).sd=(nxS s (L.length:Int)).sd/\True)/\
  True)):
  EffFn Tryz.prog 45 [.ref 0 0 0,strS L] [srcB s] (.str (L.getD (nxV s L.length).toNat [])) [srcB (nxS s L.length)]:=
 vcG (code:=b_pick) (gC next_ok call_next gN) Tryz.func45 (by kernel_rfl) (by kernel_rfl) noAnn [[.box 0]] h (by kernel_rfl)
theorem pick_ok:ConOk Tryz.prog 45 k_pick:=by
 rintro⟨s,L⟩ ⟨h,h1,h2⟩;dsimp only at h h1 h2;have hn:=nx_rng h (n:=(L.length:Int)) (by omega)
 refine v_pick s L ⟨fun hc=>by have:=eq_of_beq hc;omega,fun _=>⟨(s,(L.length:Int)),⟨(by repeat' first|exact trivial|exact rfl|exact rowsR _ _|exact famR _|exact row0|exact le0 _|exact Nat.le_refl _|exact Nat.zero_le _|refine And.intro ?_ ?_),⟨⟨rfl,fun _ _=>rfl⟩,trivial⟩,h,by dsimp only;omega⟩,⟨hn.1,hn.2.1⟩,⟨rfl,trivial⟩,⟨rfl,rfl,rfl,rfl,rfl,trivial⟩,trivial⟩⟩
def vts:List (List UInt8):=[[],[97],[97,98],[97,98,99],[98],[122,122]]
def nts:List (List UInt8):=[[97],[98],[110,97,109,101]]
def vaN(s:Src):List Int:=[nxV s 20-5,nxV (nxS s 20) 20,1000000000,-1000000000]
def vaS(s:Src):Src×Val:=
 if nxV s 4=0 then(nxS s 4,⟨0,0,[]⟩) else
 if nxV s 4=1 then(nxS (nxS s 4) 6,⟨2,0,vts.getD (nxV (nxS s 4) 6).toNat []⟩) else
 (nxS (nxS (nxS (nxS s 4) 20) 20) 8,⟨1,(vaN (nxS s 4)).getD ((nxV (nxS (nxS (nxS s 4) 20) 20) 8).tdiv 2).toNat 0,[]⟩)
def k_chance:Con:=.reff ⟨Src×Int,fun x=>[.ref 0 0 0,.int .i64 x.2],fun x=>[srcB x.1],fun x=>.bool (nxV x.1 x.2==x.2-1),fun x=>[srcB (nxS x.1 x.2)],fun x=>SrcOK x.1 1000000/\0<=x.2/\x.2<=256⟩
noncomputable def b_chance:Code:=Tryz.f40.body.getD .skip
theorem call_chance:Callable Tryz.prog 40:=⟨_,Tryz.func40,by kernel_rfl,by kernel_rfl⟩
theorem v_chance(s:Src)(n:Int)(h:
  ∃(x:(Src×Int)),(((0=0/\0=0)/\n=x.snd/\True)/\((1=1/\RowsEq 1 (fun(x:Nat)=>[T.bys s.c,T.int .i64 (s.at_:Int),T.int .i64 s.sd]) fun(x_1:Nat)=>[T.bys x.fst.c,T.int .i64 (x.fst.at_:Int),T.int .i64
  x.fst.sd])/\True)/\SrcOK x.fst 1000000/\x.snd<=(256:Int))/\Rng .i64 (n- (1:Int))/\((nxV x.fst x.snd==n- (1:Int))=(nxV s n==n- (1:Int))/\True)/\(1=1/\1=1/\(nxS x.fst x.snd).c=(nxS s n).c/\(↑(nxS
  x.fst x.snd).at_:Int)=(↑(nxS s n).at_:Int)/\(nxS x.fst x.snd).sd=(nxS s n).sd/\True)/\True):
  EffFn Tryz.prog 40 [.ref 0 0 0,.int .i64 n] [srcB s] (.bool (nxV s n==n-1)) [srcB (nxS s n)]:=
 vcG (code:=b_chance) (gC next_ok call_next gN) Tryz.func40 (by kernel_rfl) (by kernel_rfl) noAnn [[.box 0]] h (by kernel_rfl)
theorem chance_ok:ConOk Tryz.prog 40 k_chance:=by
 rintro⟨s,n⟩ ⟨h,h0,hn⟩;dsimp only at h h0 hn;exact v_chance s n ⟨(s,n),⟨(by repeat' first|exact trivial|exact rfl|exact rowsR _ _|exact famR _|exact row0|exact le0 _|exact Nat.le_refl _|exact Nat.zero_le _|refine And.intro ?_ ?_),⟨⟨rfl,fun _ _=>rfl⟩,trivial⟩,h,hn⟩,i64_rng (by omega),⟨rfl,trivial⟩,⟨rfl,rfl,rfl,rfl,rfl,trivial⟩,trivial⟩
def k_valueS:Con:=.reff ⟨Src,fun _=>[.ref 0 0 0],fun s=>[srcB s],fun s=>.agg (vaS s).2.ts,fun s=>[srcB (vaS s).1],fun s=>SrcOK s 100000⟩
noncomputable def b_valueS:Code:=Tryz.f69.body.getD .skip
theorem call_valueS:Callable Tryz.prog 69:=⟨_,Tryz.func69,by kernel_rfl,by kernel_rfl⟩
theorem v_valueS(s:Src)(h:
  ∃(x:(Src×Int)),(((0=0/\0=0)/\(4:Int)=x.snd/\True)/\((1=1/\RowsEq 1 (fun(x:Nat)=>[T.bys s.c,T.int .i64 (s.at_:Int),T.int .i64 s.sd]) fun(x_1:Nat)=>[T.bys x.fst.c,T.int .i64 (x.fst.at_:Int),T.int
  .i64 x.fst.sd])/\True)/\SrcOK x.fst 1000000/\x.snd<=(256:Int))/\((nxV x.fst x.snd==(0:Int))=true->(((0:Int)=(vaS s).snd.k/\(0:Int)=(vaS s).snd.n/\[]=(vaS s).snd.t/\True)/\True)/\(1=1/\1=1/\(nxS
  x.fst x.snd).c=(vaS s).fst.c/\(↑(nxS x.fst x.snd).at_:Int)=(↑(vaS s).fst.at_:Int)/\(nxS x.fst x.snd).sd=(vaS s).fst.sd/\True)/\True)/\((nxV x.fst x.snd==(0:Int))=false->((nxV x.fst x.snd==(1:Int))=true
  ->∃(x_1:(Src×List (List UInt8))),(((0=0/\0=0)/\(6=x_1.snd.length/\RowsEq 6 (fun(k:Nat)=>List.take 1 (List.drop (k*1) [T.str [],T.str [(97:UInt8)],T.str [(97:UInt8),(98:UInt8)],T.str [(97:UInt8),
  (98:UInt8),(99:UInt8)],T.str [(98:UInt8)],T.str [(122:UInt8),(122:UInt8)]])) (strRow x_1.snd))/\True)/\((1=1/\RowsEq 1 (fun(x_2:Nat)=>[T.bys (nxS x.fst x.snd).c,T.int .i64 (↑(nxS x.fst x.snd).at_:Int),
  T.int .i64 (nxS x.fst x.snd).sd]) fun(x:Nat)=>[T.bys x_1.fst.c,T.int .i64 (x_1.fst.at_:Int),T.int .i64 x_1.fst.sd])/\True)/\SrcOK x_1.fst 1000000/\1<=x_1.snd.length/\x_1.snd.length<=256)/\(((2:Int)=(vaS s).snd.k
  /\(0:Int)=(vaS s).snd.n/\x_1.snd.getD (nxV x_1.fst (x_1.snd.length:Int)).toNat []=(vaS s).snd.t/\True)/\True)/\(1=1/\1=1/\(nxS x_1.fst (x_1.snd.length:Int)).c=(vaS s).fst.c/\(↑(nxS x_1.fst
  (x_1.snd.length:Int)).at_:Int)=(↑(vaS s).fst.at_:Int)/\(nxS x_1.fst (x_1.snd.length:Int)).sd=(vaS s).fst.sd/\True)/\True)/\((nxV x.fst x.snd==(1:Int))=false->∃(x_1:(Src×Int)),(((0=0/\0=0)/\(20:Int)
  =x_1.snd/\True)/\((1=1/\RowsEq 1 (fun(x_2:Nat)=>[T.bys (nxS x.fst x.snd).c,T.int .i64 (↑(nxS x.fst x.snd).at_:Int),T.int .i64 (nxS x.fst x.snd).sd]) fun(x:Nat)=>[T.bys x_1.fst.c,T.int .i64 (x_1.fst.at_:Int),
  T.int .i64 x_1.fst.sd])/\True)/\SrcOK x_1.fst 1000000/\x_1.snd<=(256:Int))/\Rng .i64 (nxV x_1.fst x_1.snd- (5:Int))/\∃(x:(Src×Int)),(((0=0/\0=0)/\(20:Int)=x.snd/\True)/\((1=1/\RowsEq 1 (fun(x:
  Nat)=>[T.bys (nxS x_1.fst x_1.snd).c,T.int .i64 (↑(nxS x_1.fst x_1.snd).at_:Int),T.int .i64 (nxS x_1.fst x_1.snd).sd]) fun(x_2:Nat)=>[T.bys x.fst.c,T.int .i64 (x.fst.at_:Int),T.int .i64 x.fst.sd])/\True)/\SrcOK
  x.fst 1000000/\x.snd<=(256:Int))/\∃(x_2:(Src×Int)),(((0=0/\0=0)/\(8:Int)=x_2.snd/\True)/\((1=1/\RowsEq 1 (fun(x_3:Nat)=>[T.bys (nxS x.fst x.snd).c,T.int .i64 (↑(nxS x.fst x.snd).at_:Int),T.int
  .i64 (nxS x.fst x.snd).sd]) fun(x:Nat)=>[T.bys x_2.fst.c,T.int .i64 (x_2.fst.at_:Int),T.int .i64 x_2.fst.sd])/\True)/\SrcOK x_2.fst 1000000/\x_2.snd<=(256:Int))/\(Nz (2:Int)/\Rng .i64 ((nxV x_2.fst x_2.snd).tdiv
  (2:Int)))/\InB ((nxV x_2.fst x_2.snd).tdiv (2:Int)) 4/\(((1:Int)=(vaS s).snd.k/\[nxV x_1.fst x_1.snd- (5:Int),nxV x.fst x.snd,(1000000000:Int),(-1000000000:Int)].getD ((nxV x_2.fst x_2.snd).tdiv (2:
  Int)).toNat (0:Int)=(vaS s).snd.n/\[]=(vaS s).snd.t/\True)/\True)/\(1=1/\1=1/\(nxS x_2.fst x_2.snd).c=(vaS s).fst.c/\(↑(nxS x_2.fst x_2.snd).at_:Int)=(↑(vaS s).fst.at_:Int)/\(nxS x_2.fst x_2.snd).sd=
  (vaS s).fst.sd/\True)/\True))):
  EffFn Tryz.prog 69 [.ref 0 0 0] [srcB s] (.agg (vaS s).2.ts) [srcB (vaS s).1]:=
 vcG (code:=b_valueS) (gC tmpK_ok call_tmpK (gC next_ok call_next (gC pick_ok call_pick gN))) Tryz.func69 (by kernel_rfl) (by kernel_rfl) noAnn [[.box 0]] h (by kernel_rfl)
theorem ne_beq{a b:Int}(h:(a==b)=false):a≠b:=fun e=>by rw[e] at h;simp at h
theorem SrcOK.le{s:Src}{m n:Nat}(h:SrcOK s m)(hl:m<=n):SrcOK s n:=⟨Nat.le_trans h.1 hl,h.2⟩
theorem srcN_ok(c:List UInt8):SrcOK (srcN c) 0:=by
 have:=tmod_rng (a:=(c.length:Int)) (n:=1000) (by omega) (by decide)
 exact⟨Nat.le_refl _,this.1,by show(c.length:Int).tmod 1000<_;omega⟩
theorem vts_le(i:Nat):(vts.getD i []).length<=3:=by
 match i with
 |0=>decide
 |1=>decide
 |2=>decide
 |3=>decide
 |4=>decide
 |5=>decide
 |n+6=>exact Nat.zero_le _
theorem nts_le(i:Nat):(nts.getD i []).length<=4:=by
 match i with
 |0=>decide
 |1=>decide
 |2=>decide
 |n+3=>exact Nat.zero_le _
theorem vts_row:RowsEq 6 (fun(k:Nat)=>List.take 1 (List.drop (k*1) [T.str [],T.str [(97:UInt8)],T.str [(97:UInt8),(98:UInt8)],T.str [(97:UInt8),(98:UInt8),(99:UInt8)],T.str [(98:UInt8)],T.str [(122:UInt8),(122:UInt8)]])) (strRow vts)
 |0,_=>rfl
 |1,_=>rfl
 |2,_=>rfl
 |3,_=>rfl
 |4,_=>rfl
 |5,_=>rfl
 |n+6,h=>absurd h (by omega)
theorem nts_row:RowsEq 3 (fun(k:Nat)=>List.take 1 (List.drop (k*1) [T.str [(97:UInt8)],T.str [(98:UInt8)],T.str [(110:UInt8),(97:UInt8),(109:UInt8),(101:UInt8)]])) (strRow nts)
 |0,_=>rfl
 |1,_=>rfl
 |2,_=>rfl
 |n+3,h=>absurd h (by omega)
theorem va_0{s:Src}(h:nxV s 4=0):vaS s=(nxS s 4,⟨0,0,[]⟩):=by unfold vaS;rw[if_pos h]
theorem va_1{s:Src}(h:nxV s 4=1):vaS s=(nxS (nxS s 4) 6,⟨2,0,vts.getD (nxV (nxS s 4) 6).toNat []⟩):=by unfold vaS;rw[if_neg (by omega),if_pos h]
theorem va_2{s:Src}(h0:nxV s 4≠0)(h:nxV s 4≠1):vaS s=(nxS (nxS (nxS (nxS s 4) 20) 20) 8,⟨1,(vaN (nxS s 4)).getD ((nxV (nxS (nxS (nxS s 4) 20) 20) 8).tdiv 2).toNat 0,[]⟩):=by unfold vaS;rw[if_neg h0,if_neg h]
theorem tdiv2{a:Int}(h:0<=a)(h8:a<8):0<=a.tdiv 2/\a.tdiv 2<4:=by
 rw[Int.tdiv_eq_ediv_of_nonneg h];omega
theorem vaN_rng{s:Src}{m:Nat}(h:SrcOK s m)(i:Nat): -1000000000<=(vaN s).getD i 0/\(vaN s).getD i 0<=1000000000:=by
 have n1:=nx_rng h (n:=20) (by decide)
 have n2:=nx_rng n1.2.2 (n:=20) (by decide)
 unfold vaN
 match i with
 |0=>show _<=nxV s 20-5/\nxV s 20-5<=_;omega
 |1=>show _<=nxV (nxS s 20) 20/\nxV (nxS s 20) 20<=_;omega
 |2=>show(-1000000000:Int)<=1000000000/\(1000000000:Int)<=1000000000;decide
 |3=>show(-1000000000:Int)<= -1000000000/\(-1000000000:Int)<=1000000000;decide
 |n+4=>show(-1000000000:Int)<=0/\(0:Int)<=1000000000;decide
def VaOK(v:Val):Prop:=v.t.length<=4/\(v.k=0∨(v.k=1/\ -1000000000<=v.n/\v.n<=1000000000)∨v.k=2)
theorem va_ok{s:Src}{m:Nat}(h:SrcOK s m):SrcOK (vaS s).1 (m+4)/\VaOK (vaS s).2:=by
 have n1:=nx_rng h (n:=4) (by decide)
 by_cases h0:nxV s 4=0
 ·rw[va_0 h0];exact⟨n1.2.2.le (by omega),Nat.zero_le _,.inl rfl⟩
 ·by_cases h1:nxV s 4=1
  ·rw[va_1 h1];exact⟨(nx_rng n1.2.2 (n:=6) (by decide)).2.2.le (by omega),Nat.le_trans (vts_le _) (by decide),.inr (.inr rfl)⟩
  ·rw[va_2 h0 h1];have n2:=nx_rng n1.2.2 (n:=20) (by decide)
   have n3:=nx_rng n2.2.2 (n:=20) (by decide)
   have n4:=nx_rng n3.2.2 (n:=8) (by decide)
   have nn:=vaN_rng n1.2.2 ((nxV (nxS (nxS (nxS s 4) 20) 20) 8).tdiv 2).toNat;exact⟨n4.2.2.le (by omega),Nat.zero_le _,.inr (.inl ⟨rfl,nn⟩)⟩
theorem valueS_ok:ConOk Tryz.prog 69 k_valueS:=by
 intro(s:Src) (h:SrcOK s 100000);have n1:=nx_rng h (n:=4) (by decide)
 have n2:=nx_rng n1.2.2 (n:=20) (by decide)
 have n3:=nx_rng n2.2.2 (n:=20) (by decide)
 have n4:=nx_rng n3.2.2 (n:=8) (by decide)
 have e4:(4:Int)<=256:=by decide
 have e20:(20:Int)<=256:=by decide
 have e8:(8:Int)<=256:=by decide
 have nd:=tdiv2 n4.1 n4.2.1;refine v_valueS s ⟨(s,4),⟨(by repeat' first|exact trivial|exact rfl|exact rowsR _ _|exact famR _|exact row0|exact le0 _|exact Nat.le_refl _|exact Nat.zero_le _|refine And.intro ?_ ?_),⟨⟨rfl,fun _ _=>rfl⟩,trivial⟩,h.le (by omega),e4⟩,fun hv=> ?_,fun hv=>⟨fun hw=> ?_,fun hw=> ?_⟩⟩
 ·have hv:nxV s 4=0:=eq_of_beq hv;rw[va_0 hv];exact⟨⟨⟨rfl,rfl,rfl,trivial⟩,trivial⟩,⟨rfl,rfl,rfl,rfl,rfl,trivial⟩,trivial⟩
 ·have hw:nxV s 4=1:=eq_of_beq hw;rw[va_1 hw];exact⟨(nxS s 4,vts),⟨⟨⟨rfl,rfl⟩,⟨rfl,vts_row⟩,trivial⟩,⟨⟨rfl,fun _ _=>rfl⟩,trivial⟩,n1.2.2.le (by omega),(by decide:1<=vts.length),(by decide:vts.length<=256)⟩,⟨⟨rfl,rfl,rfl,trivial⟩,trivial⟩,⟨rfl,rfl,rfl,rfl,rfl,trivial⟩,trivial⟩
 ·have hv:nxV s 4≠0:=ne_beq hv;have hw:nxV s 4≠1:=ne_beq hw;rw[va_2 hv hw];exact⟨(nxS s 4,20),⟨(by repeat' first|exact trivial|exact rfl|exact rowsR _ _|exact famR _|exact row0|exact le0 _|exact Nat.le_refl _|exact Nat.zero_le _|refine And.intro ?_ ?_),⟨⟨rfl,fun _ _=>rfl⟩,trivial⟩,n1.2.2.le (by omega),e20⟩,i64_rng (by dsimp only;omega),(nxS (nxS s 4) 20,20),⟨(by repeat' first|exact trivial|exact rfl|exact rowsR _ _|exact famR _|exact row0|exact le0 _|exact Nat.le_refl _|exact Nat.zero_le _|refine And.intro ?_ ?_),⟨⟨rfl,fun _ _=>rfl⟩,trivial⟩,n2.2.2.le (by omega),e20⟩,(nxS (nxS (nxS s 4) 20) 20,8),⟨(by repeat' first|exact trivial|exact rfl|exact rowsR _ _|exact famR _|exact row0|exact le0 _|exact Nat.le_refl _|exact Nat.zero_le _|refine And.intro ?_ ?_),⟨⟨rfl,fun _ _=>rfl⟩,trivial⟩,n3.2.2.le (by omega),e8⟩,⟨by unfold Nz;decide,i64_rng (by dsimp only;omega)⟩,⟨nd.1,nd.2⟩,⟨⟨rfl,rfl,rfl,trivial⟩,trivial⟩,⟨rfl,rfl,rfl,rfl,rfl,trivial⟩,trivial⟩
def roN(s:Src)(v:Val):Src×Val:=if v.k=2 then(nxS s 9,⟨1,nxV s 9,[]⟩) else(s,v)
def roM(s:Src)(v:Val):Src×Val:=if v.k=1 then(nxS s 3,⟨2,0,nts.getD (nxV s 3).toNat []⟩) else(s,v)
def roA(s:Src):Src:=(vaS (vaS (nxS s 6)).1).1
def rowS(s:Src):Src×Rw:=
 ((roM (roN (roA s) (vaS (nxS s 6)).2).1 (vaS (vaS (nxS s 6)).1).2).1,
  ⟨nxV s 6,(roN (roA s) (vaS (nxS s 6)).2).2,(roM (roN (roA s) (vaS (nxS s 6)).2).1 (vaS (vaS (nxS s 6)).1).2).2⟩)
def k_rowD:Con:=.reff ⟨Src,fun _=>[.ref 0 0 0],fun s=>[srcB s],fun s=>.agg (rowS s).2.ts,fun s=>[srcB (rowS s).1],fun s=>SrcOK s 50000⟩
noncomputable def b_rowD:Code:=Tryz.f41.body.getD .skip
theorem call_rowD:Callable Tryz.prog 41:=⟨_,Tryz.func41,by kernel_rfl,by kernel_rfl⟩
theorem v_rowD(s:Src)(h:
  ∃(x:(Src×Int)),(((0=0/\0=0)/\(6:Int)=x.snd/\True)/\((1=1/\RowsEq 1 (fun(x:Nat)=>[T.bys s.c,T.int .i64 (s.at_:Int),T.int .i64 s.sd]) fun(x_1:Nat)=>[T.bys x.fst.c,T.int .i64 (x.fst.at_:Int),T.int
  .i64 x.fst.sd])/\True)/\SrcOK x.fst 1000000/\x.snd<=(256:Int))/\∃(x_1:Src),(((0=0/\0=0)/\True)/\((1=1/\RowsEq 1 (fun(x_2:Nat)=>[T.bys (nxS x.fst x.snd).c,T.int .i64 (↑(nxS x.fst x.snd).at_:Int),T.int
  .i64 (nxS x.fst x.snd).sd]) fun(x:Nat)=>[T.bys x_1.c,T.int .i64 (x_1.at_:Int),T.int .i64 x_1.sd])/\True)/\SrcOK x_1 100000)/\∃(x_2:Src),(((0=0/\0=0)/\True)/\((1=1/\RowsEq 1 (fun(x:Nat)=>[T.bys (vaS
  x_1).fst.c,T.int .i64 (↑(vaS x_1).fst.at_:Int),T.int .i64 (vaS x_1).fst.sd]) fun(x:Nat)=>[T.bys x_2.c,T.int .i64 (x_2.at_:Int),T.int .i64 x_2.sd])/\True)/\SrcOK x_2 100000)/\(((vaS x_1).snd.k==(2:Int))=true->∃
  (x_3:(Src×Int)),(((0=0/\0=0)/\(9:Int)=x_3.snd/\True)/\((1=1/\RowsEq 1 (fun(x:Nat)=>[T.bys (vaS x_2).fst.c,T.int .i64 (↑(vaS x_2).fst.at_:Int),T.int .i64 (vaS x_2).fst.sd]) fun(x:Nat)=>[T.bys
  x_3.fst.c,T.int .i64 (x_3.fst.at_:Int),T.int .i64 x_3.fst.sd])/\True)/\SrcOK x_3.fst 1000000/\x_3.snd<=(256:Int))/\(((vaS x_2).snd.k==(1:Int))=true->∃(x_4:(Src×List (List UInt8))),(((0=0/\0=0)/\(3=
  x_4.snd.length/\RowsEq 3 (fun(k:Nat)=>List.take 1 (List.drop (k*1) [T.str [(97:UInt8)],T.str [(98:UInt8)],T.str [(110:UInt8),(97:UInt8),(109:UInt8),(101:UInt8)]])) (strRow x_4.snd))/\True)/\((1=1/\
  RowsEq 1 (fun(x:Nat)=>[T.bys (nxS x_3.fst x_3.snd).c,T.int .i64 (↑(nxS x_3.fst x_3.snd).at_:Int),T.int .i64 (nxS x_3.fst x_3.snd).sd]) fun(x:Nat)=>[T.bys x_4.fst.c,T.int .i64 (x_4.fst.at_:Int),T.int .i64
  x_4.fst.sd])/\True)/\SrcOK x_4.fst 1000000/\1<=x_4.snd.length/\x_4.snd.length<=256)/\((nxV x.fst x.snd=nxV s (6:Int)/\(1:Int)=(roN (roA s) (vaS (nxS s (6:Int))).snd).snd.k/\nxV x_3.fst x_3.snd=(roN (roA s)
  (vaS (nxS s (6:Int))).snd).snd.n/\[]=(roN (roA s) (vaS (nxS s (6:Int))).snd).snd.t/\(2:Int)=(roM (roN (roA s) (vaS (nxS s (6:Int))).snd).fst (vaS (vaS (nxS s (6:Int))).fst).snd).snd.k/\(0:Int)=(roM (roN (roA
  s) (vaS (nxS s (6:Int))).snd).fst (vaS (vaS (nxS s (6:Int))).fst).snd).snd.n/\x_4.snd.getD (nxV x_4.fst (x_4.snd.length:Int)).toNat []=(roM (roN (roA s) (vaS (nxS s (6:Int))).snd).fst (vaS (vaS (nxS s (6:
  Int))).fst).snd).snd.t/\True)/\True)/\(1=1/\1=1/\(nxS x_4.fst (x_4.snd.length:Int)).c=(roM (roN (roA s) (vaS (nxS s (6:Int))).snd).fst (vaS (vaS (nxS s (6:Int))).fst).snd).fst.c/\(↑(nxS x_4.fst
  (x_4.snd.length:Int)).at_:Int)=(↑(roM (roN (roA s) (vaS (nxS s (6:Int))).snd).fst (vaS (vaS (nxS s (6:Int))).fst).snd).fst.at_:Int)/\(nxS x_4.fst (x_4.snd.length:Int)).sd=(roM (roN (roA s) (vaS (nxS s (6:
  Int))).snd).fst (vaS (vaS (nxS s (6:Int))).fst).snd).fst.sd/\True)/\True)/\(((vaS x_2).snd.k==(1:Int))=false->((nxV x.fst x.snd=nxV s (6:Int)/\(1:Int)=(roN (roA s) (vaS (nxS s (6:Int))).snd).snd.k/\nxV
  x_3.fst x_3.snd=(roN (roA s) (vaS (nxS s (6:Int))).snd).snd.n/\[]=(roN (roA s) (vaS (nxS s (6:Int))).snd).snd.t/\(vaS x_2).snd.k=(roM (roN (roA s) (vaS (nxS s (6:Int))).snd).fst (vaS (vaS (nxS s (6:
  Int))).fst).snd).snd.k/\(vaS x_2).snd.n=(roM (roN (roA s) (vaS (nxS s (6:Int))).snd).fst (vaS (vaS (nxS s (6:Int))).fst).snd).snd.n/\(vaS x_2).snd.t=(roM (roN (roA s) (vaS (nxS s (6:Int))).snd).fst (vaS (vaS (nxS s (6
  :Int))).fst).snd).snd.t/\True)/\True)/\(1=1/\1=1/\(nxS x_3.fst x_3.snd).c=(roM (roN (roA s) (vaS (nxS s (6:Int))).snd).fst (vaS (vaS (nxS s (6:Int))).fst).snd).fst.c/\(↑(nxS x_3.fst x_3.snd).at_:Int)=(↑(roM
  (roN (roA s) (vaS (nxS s (6:Int))).snd).fst (vaS (vaS (nxS s (6:Int))).fst).snd).fst.at_:Int)/\(nxS x_3.fst x_3.snd).sd=(roM (roN (roA s) (vaS (nxS s (6:Int))).snd).fst (vaS (vaS (nxS s (6:Int))).fst).snd).fst.sd/\
  True)/\True))/\(((vaS x_1).snd.k==(2:Int))=false->(((vaS x_2).snd.k==(1:Int))=true->∃(x_3:(Src×List (List UInt8))),(((0=0/\0=0)/\(3=x_3.snd.length/\RowsEq 3 (fun(k:Nat)=>List.take 1 (List.drop
  (k*1) [T.str [(97:UInt8)],T.str [(98:UInt8)],T.str [(110:UInt8),(97:UInt8),(109:UInt8),(101:UInt8)]])) (strRow x_3.snd))/\True)/\((1=1/\RowsEq 1 (fun(x:Nat)=>[T.bys (vaS x_2).fst.c,T.int .i64 (↑(vaS
  x_2).fst.at_:Int),T.int .i64 (vaS x_2).fst.sd]) fun(x:Nat)=>[T.bys x_3.fst.c,T.int .i64 (x_3.fst.at_:Int),T.int .i64 x_3.fst.sd])/\True)/\SrcOK x_3.fst 1000000/\1<=x_3.snd.length/\x_3.snd.length<=256)/\((nxV x.fst
  x.snd=nxV s (6:Int)/\(vaS x_1).snd.k=(roN (roA s) (vaS (nxS s (6:Int))).snd).snd.k/\(vaS x_1).snd.n=(roN (roA s) (vaS (nxS s (6:Int))).snd).snd.n/\(vaS x_1).snd.t=(roN (roA s) (vaS (nxS s (6:Int))).snd).snd.t/\
  (2:Int)=(roM (roN (roA s) (vaS (nxS s (6:Int))).snd).fst (vaS (vaS (nxS s (6:Int))).fst).snd).snd.k/\(0:Int)=(roM (roN (roA s) (vaS (nxS s (6:Int))).snd).fst (vaS (vaS (nxS s (6:Int))).fst).snd).snd.n/\
  x_3.snd.getD (nxV x_3.fst (x_3.snd.length:Int)).toNat []=(roM (roN (roA s) (vaS (nxS s (6:Int))).snd).fst (vaS (vaS (nxS s (6:Int))).fst).snd).snd.t/\True)/\True)/\(1=1/\1=1/\(nxS x_3.fst (x_3.snd.length:Int)).c=
  (roM (roN (roA s) (vaS (nxS s (6:Int))).snd).fst (vaS (vaS (nxS s (6:Int))).fst).snd).fst.c/\(↑(nxS x_3.fst (x_3.snd.length:Int)).at_:Int)=(↑(roM (roN (roA s) (vaS (nxS s (6:Int))).snd).fst (vaS (vaS (nxS s (6:
  Int))).fst).snd).fst.at_:Int)/\(nxS x_3.fst (x_3.snd.length:Int)).sd=(roM (roN (roA s) (vaS (nxS s (6:Int))).snd).fst (vaS (vaS (nxS s (6:Int))).fst).snd).fst.sd/\True)/\True)/\(((vaS x_2).snd.k==(1:Int))=false->
  ((nxV x.fst x.snd=nxV s (6:Int)/\(vaS x_1).snd.k=(roN (roA s) (vaS (nxS s (6:Int))).snd).snd.k/\(vaS x_1).snd.n=(roN (roA s) (vaS (nxS s (6:Int))).snd).snd.n/\(vaS x_1).snd.t=(roN (roA s) (vaS (nxS s (6:
  Int))).snd).snd.t/\(vaS x_2).snd.k=(roM (roN (roA s) (vaS (nxS s (6:Int))).snd).fst (vaS (vaS (nxS s (6:Int))).fst).snd).snd.k/\(vaS x_2).snd.n=(roM (roN (roA s) (vaS (nxS s (6:Int))).snd).fst (vaS (vaS (nxS s (6:
  Int))).fst).snd).snd.n/\(vaS x_2).snd.t=(roM (roN (roA s) (vaS (nxS s (6:Int))).snd).fst (vaS (vaS (nxS s (6:Int))).fst).snd).snd.t/\True)/\True)/\(1=1/\1=1/\(vaS x_2).fst.c=(roM (roN (roA s) (vaS (nxS s (6:
  Int))).snd).fst (vaS (vaS (nxS s (6:Int))).fst).snd).fst.c/\(↑(vaS x_2).fst.at_:Int)=(↑(roM (roN (roA s) (vaS (nxS s (6:Int))).snd).fst (vaS (vaS (nxS s (6:Int))).fst).snd).fst.at_:Int)/\(vaS x_2).fst.sd=(roM (roN
  (roA s) (vaS (nxS s (6:Int))).snd).fst (vaS (vaS (nxS s (6:Int))).fst).snd).fst.sd/\True)/\True))):
  EffFn Tryz.prog 41 [.ref 0 0 0] [srcB s] (.agg (rowS s).2.ts) [srcB (rowS s).1]:=
 vcG (code:=b_rowD) (gC tmpK_ok call_tmpK (gC next_ok call_next (gC valueS_ok call_valueS (gC pick_ok call_pick gN)))) Tryz.func41 (by kernel_rfl) (by kernel_rfl) noAnn [[.box 0]] h (by kernel_rfl)
theorem roN_ok{s:Src}{m:Nat}{v:Val}(h:SrcOK s m)(hv:VaOK v):SrcOK (roN s v).1 (m+1)/\VaOK (roN s v).2:=by
 have n1:=nx_rng h (n:=9) (by decide)
 unfold roN;split
 ·exact⟨n1.2.2,Nat.zero_le _,.inr (.inl ⟨rfl,by dsimp only;omega,by dsimp only;omega⟩)⟩
 ·exact⟨h.le (by omega),hv⟩
theorem roM_ok{s:Src}{m:Nat}{v:Val}(h:SrcOK s m)(hv:VaOK v):SrcOK (roM s v).1 (m+1)/\VaOK (roM s v).2:=by
 have n1:=nx_rng h (n:=3) (by decide)
 unfold roM;split
 ·exact⟨n1.2.2,nts_le _,.inr (.inr rfl)⟩
 ·exact⟨h.le (by omega),hv⟩
theorem roA_ok{s:Src}{m:Nat}(h:SrcOK s m):SrcOK (roA s) (m+9):=(va_ok (va_ok (nx_rng h (n:=6) (by decide)).2.2).1).1
theorem row_ok{s:Src}{m:Nat}(h:SrcOK s m):SrcOK (rowS s).1 (m+11)/\RwB (rowS s).2:=by
 have n1:=nx_rng h (n:=6) (by decide)
 have v1:=va_ok n1.2.2;have v2:=va_ok v1.1;have w1:=roN_ok (roA_ok h) v1.2;have w2:=roM_ok w1.1 v2.2;refine⟨w2.1.le (by omega),?_,?_⟩
 ·have:=w1.2.1;show(roN (roA s) (vaS (nxS s 6)).2).2.t.length<1000000000000;omega
 ·have:=w2.2.1;show(roM (roN (roA s) (vaS (nxS s 6)).2).1 (vaS (vaS (nxS s 6)).1).2).2.t.length<1000000000000;omega
theorem roN_2{s:Src}{v:Val}(h:v.k=2):roN s v=(nxS s 9,⟨1,nxV s 9,[]⟩):=if_pos h
theorem roN_n{s:Src}{v:Val}(h:v.k≠2):roN s v=(s,v):=if_neg h
theorem roM_1{s:Src}{v:Val}(h:v.k=1):roM s v=(nxS s 3,⟨2,0,nts.getD (nxV s 3).toNat []⟩):=if_pos h
theorem roM_n{s:Src}{v:Val}(h:v.k≠1):roM s v=(s,v):=if_neg h
theorem roA_eq(s:Src):roA s=(vaS (vaS (nxS s 6)).1).1:=rfl
theorem rowD_ok:ConOk Tryz.prog 41 k_rowD:=by
 intro(s:Src) (h:SrcOK s 50000);have n1:=nx_rng h (n:=6) (by decide)
 have v1:=va_ok n1.2.2;have v2:=va_ok v1.1;have hA:=v2.1;have w1:=nx_rng hA (n:=9) (by decide)
 have e6:(6:Int)<=256:=by decide
 have e9:(9:Int)<=256:=by decide
 have e3:((nts.length:Nat):Int)=3:=rfl;have eA:roA s=(vaS (vaS (nxS s 6)).1).1:=roA_eq s;refine v_rowD s ?_
 rw[eA];refine⟨(s,6),⟨(by repeat' first|exact trivial|exact rfl|exact rowsR _ _|exact famR _|exact row0|exact le0 _|exact Nat.le_refl _|exact Nat.zero_le _|refine And.intro ?_ ?_),⟨⟨rfl,fun _ _=>rfl⟩,trivial⟩,h.le (by omega),e6⟩,nxS s 6,⟨⟨⟨rfl,rfl⟩,trivial⟩,⟨⟨rfl,fun _ _=>rfl⟩,trivial⟩,n1.2.2.le (by omega)⟩,(vaS (nxS s 6)).1,⟨⟨⟨rfl,rfl⟩,trivial⟩,⟨⟨rfl,fun _ _=>rfl⟩,trivial⟩,v1.1.le (by omega)⟩,fun hv=> ?_,fun hv=> ?_⟩
 ·have hv:(vaS (nxS s 6)).2.k=2:=eq_of_beq hv;rw[roN_2 hv];refine⟨((vaS (vaS (nxS s 6)).1).1,9),⟨(by repeat' first|exact trivial|exact rfl|exact rowsR _ _|exact famR _|exact row0|exact le0 _|exact Nat.le_refl _|exact Nat.zero_le _|refine And.intro ?_ ?_),⟨⟨rfl,fun _ _=>rfl⟩,trivial⟩,hA.le (by omega),e9⟩,fun hw=> ?_,fun hw=> ?_⟩
  ·have hw:(vaS (vaS (nxS s 6)).1).2.k=1:=eq_of_beq hw;rw[roM_1 hw];refine⟨(nxS ((vaS (vaS (nxS s 6)).1).1) 9,nts),⟨⟨⟨rfl,rfl⟩,⟨rfl,nts_row⟩,trivial⟩,⟨⟨rfl,fun _ _=>rfl⟩,trivial⟩,w1.2.2.le (by omega),(by decide:1<=nts.length),(by decide:nts.length<=256)⟩,?_⟩
   dsimp only;rw[e3];exact⟨⟨⟨rfl,rfl,rfl,rfl,rfl,rfl,rfl,trivial⟩,trivial⟩,⟨rfl,rfl,rfl,rfl,rfl,trivial⟩,trivial⟩
  ·rw[roM_n (ne_beq hw)];exact⟨⟨⟨rfl,rfl,rfl,rfl,rfl,rfl,rfl,trivial⟩,trivial⟩,⟨rfl,rfl,rfl,rfl,rfl,trivial⟩,trivial⟩
 ·rw[roN_n (ne_beq hv)];refine⟨fun hw=> ?_,fun hw=> ?_⟩
  ·have hw:(vaS (vaS (nxS s 6)).1).2.k=1:=eq_of_beq hw;rw[roM_1 hw];refine⟨((vaS (vaS (nxS s 6)).1).1,nts),⟨⟨⟨rfl,rfl⟩,⟨rfl,nts_row⟩,trivial⟩,⟨⟨rfl,fun _ _=>rfl⟩,trivial⟩,hA.le (by omega),(by decide:1<=nts.length),(by decide:nts.length<=256)⟩,?_⟩
   dsimp only;rw[e3];exact⟨⟨⟨rfl,rfl,rfl,rfl,rfl,rfl,rfl,trivial⟩,trivial⟩,⟨rfl,rfl,rfl,rfl,rfl,trivial⟩,trivial⟩
  ·rw[roM_n (ne_beq hw)];exact⟨⟨⟨rfl,rfl,rfl,rfl,rfl,rfl,rfl,trivial⟩,trivial⟩,⟨rfl,rfl,rfl,rfl,rfl,trivial⟩,trivial⟩
end Go.Proofs.YtfmngblmdghccaaGreat

namespace Go.Proofs.YtfmngblmdghccaaGreat
set_option maxRecDepth 100000
open Go.SS Go.RowKit

def lfD(s:Src)(L:List Nd):Src×List Nd:=
 if nxV s 2=1 then(nxS (nxS s 2) 3,L++[⟨2,0,0,nxV (nxS s 2) 3,v0⟩]) else((vaS (nxS s 2)).1,L++[⟨1,0,0,0,(vaS (nxS s 2)).2⟩])
def ndD:Nat->Src->List Nd->Src×List Nd
 |0,s,L=>lfD s L
 |d+1,s,L=>if nxV s 3=2 then lfD (nxS s 3) L
  else if nxV (nxS s 3) 4=3 then(nxS (ndD d (nxS (nxS s 3) 4) L).1 3,(ndD d (nxS (nxS s 3) 4) L).2++[⟨3+nxV (ndD d (nxS (nxS s 3) 4) L).1 3,((ndD d (nxS (nxS s 3) 4) L).2.length:Int)-1,0,0,v0⟩])
  else(nxS (ndD d (ndD d (nxS (nxS s 3) 4) L).1 (ndD d (nxS (nxS s 3) 4) L).2).1 8,(ndD d (ndD d (nxS (nxS s 3) 4) L).1 (ndD d (nxS (nxS s 3) 4) L).2).2++[⟨6+nxV (ndD d (ndD d (nxS (nxS s 3) 4) L).1 (ndD d (nxS (nxS s 3) 4) L).2).1 8,((ndD d (nxS (nxS s 3) 4) L).2.length:Int)-1,((ndD d (ndD d (nxS (nxS s 3) 4) L).1 (ndD d (nxS (nxS s 3) 4) L).2).2.length:Int)-1,0,v0⟩])
def kD:Nat->Nat
 |0=>6
 |d+1=>2*kD d+8
def lD:Nat->Nat
 |0=>1
 |d+1=>2*lD d+1
def NB(L:List Nd):Prop:=∀n,n ∈ L->n.v.t.length<=4
theorem NB.app{L:List Nd}{n:Nd}(h:NB L)(hn:n.v.t.length<=4):NB (L++[n]):=fun x hx=>by
 rcases List.mem_append.1 hx with hx|hx
 ·exact h x hx
 ·rw[List.mem_singleton] at hx;rw[hx];exact hn
theorem lf_ok{s:Src}{m:Nat}{L:List Nd}(h:SrcOK s m)(hL:NB L):SrcOK (lfD s L).1 (m+5)/\(lfD s L).2.length=L.length+1/\NB (lfD s L).2:=by
 have n1:=nx_rng h (n:=2) (by decide)
 have v:=va_ok n1.2.2;unfold lfD;split
 ·exact⟨(nx_rng n1.2.2 (n:=3) (by decide)).2.2.le (by omega),by rw[List.length_append];rfl,hL.app (Nat.zero_le _)⟩
 ·exact⟨v.1.le (by omega),by rw[List.length_append];rfl,hL.app v.2.1⟩
theorem nd_ok:∀(d:Nat) {s:Src} {m:Nat} {L:List Nd},SrcOK s m->NB L->SrcOK (ndD d s L).1 (m+kD d)/\L.length<(ndD d s L).2.length/\(ndD d s L).2.length<=L.length+lD d/\NB (ndD d s L).2
 |0,s,m,L,h,hL=>by
  obtain⟨a,b,c⟩:=lf_ok h hL;exact⟨a.le (by unfold kD;omega),by unfold ndD;omega,by unfold ndD lD;omega,c⟩
 |d+1,s,m,L,h,hL=>by
  have ek:kD (d+1)=2*kD d+8:=rfl;have el:lD (d+1)=2*lD d+1:=rfl;have n1:=nx_rng h (n:=3) (by decide)
  have n2:=nx_rng n1.2.2 (n:=4) (by decide)
  obtain⟨a1,a2,a3,a4⟩:=nd_ok d n2.2.2 hL;obtain⟨b1,b2,b3,b4⟩:=nd_ok d a1 a4;unfold ndD;split
  ·obtain⟨a,b,c⟩:=lf_ok n1.2.2 hL;exact⟨a.le (by omega),by omega,by omega,c⟩
  ·split
   ·exact⟨(nx_rng a1 (n:=3) (by decide)).2.2.le (by omega),by dsimp only;rw[List.length_append,List.length_singleton];omega,by dsimp only;rw[List.length_append,List.length_singleton];omega,a4.app (Nat.zero_le _)⟩
   ·exact⟨(nx_rng b1 (n:=8) (by decide)).2.2.le (by omega),by dsimp only;rw[List.length_append,List.length_singleton];omega,by dsimp only;rw[List.length_append,List.length_singleton];omega,b4.app (Nat.zero_le _)⟩
def k_nodeD(n:Nat):Con:=.reff ⟨Src×List Nd×Nat,fun x=>[.ref 0 0 0,.osl 1 0 x.2.1.length,.int .i64 x.2.2],fun x=>[srcB x.1,ndA x.2.1],fun x=>.osl 2 0 (ndD x.2.2 x.1 x.2.1).2.length,fun x=>[srcB (ndD x.2.2 x.1 x.2.1).1,none,ndA (ndD x.2.2 x.1 x.2.1).2],fun x=>x.2.2<n/\x.2.2<=100/\(∃m,SrcOK x.1 m/\m+kD x.2.2<=9000)/\NB x.2.1/\x.2.1.length+lD x.2.2<=900⟩
noncomputable def b_nodeD:Code:=Tryz.f71.body.getD .skip
theorem call_nodeD:Callable Tryz.prog 71:=⟨_,Tryz.func71,by kernel_rfl,by kernel_rfl⟩
theorem v_nodeD(n:Nat)(ih:ConOk Tryz.prog 71 (k_nodeD n))(s:Src)(L:List Nd)(d:Nat)(R:Src×List Nd)(h:
  ∃(x:(Src×Int)),(((d:Int)==(0:Int))=false->((0=0/\0=0)/\(3:Int)=x.snd/\True)/\((1=1/\RowsEq 1 (fun(x:Nat)=>[T.bys s.c,T.int .i64 (s.at_:Int),T.int .i64 s.sd]) fun(x_1:Nat)=>[T.bys x.fst.c,
  T.int .i64 (x.fst.at_:Int),T.int .i64 x.fst.sd])/\True)/\SrcOK x.fst 1000000/\(0:Int)<=x.snd/\x.snd<=(256:Int))/\(((d:Int)==(0:Int))=false->(((d:Int)==(0:Int)||nxV x.fst x.snd==x.snd- (1:Int))=true
  ->∃(x_1:(Src×Int)),(((0=0/\0=0)/\(2:Int)=x_1.snd/\True)/\((1=1/\RowsEq 1 (fun(x_2:Nat)=>[T.bys (nxS x.fst x.snd).c,T.int .i64 (↑(nxS x.fst x.snd).at_:Int),T.int .i64 (nxS x.fst x.snd).sd]) fun(x:
  Nat)=>[T.bys x_1.fst.c,T.int .i64 (x_1.fst.at_:Int),T.int .i64 x_1.fst.sd])/\True)/\SrcOK x_1.fst 1000000/\(0:Int)<=x_1.snd/\x_1.snd<=(256:Int))/\((nxV x_1.fst x_1.snd==x_1.snd- (1:Int))=true->∃(x:(Src×
  Int)),(((0=0/\0=0)/\(3:Int)=x.snd/\True)/\((1=1/\RowsEq 1 (fun(x:Nat)=>[T.bys (nxS x_1.fst x_1.snd).c,T.int .i64 (↑(nxS x_1.fst x_1.snd).at_:Int),T.int .i64 (nxS x_1.fst x_1.snd).sd]) fun(x_2:Nat)=>
  [T.bys x.fst.c,T.int .i64 (x.fst.at_:Int),T.int .i64 x.fst.sd])/\True)/\SrcOK x.fst 1000000/\x.snd<=(256:Int))/\(Le L.length L.length/\AppB L.length 1 64)/\((0=0/\L.length+1=R.snd.length)/\True)/\(1=1/\1=1
  /\(nxS x.fst x.snd).c=R.fst.c/\(↑(nxS x.fst x.snd).at_:Int)=(R.fst.at_:Int)/\(nxS x.fst x.snd).sd=R.fst.sd/\True)/\True/\(L.length+1=R.snd.length/\RowsEq (L.length+1) (appRow (ndRow L) L.length fun(k:Nat)=>
  List.take 7 (List.drop (k*7) [T.int .i64 (2:Int),T.int .i64 (0:Int),T.int .i64 (0:Int),T.int .i64 (nxV x.fst x.snd),T.int .i64 (0:Int),T.int .i64 (0:Int),T.str []])) (ndRow R.snd))/\True)/\((nxV x_1.fst x_1.snd
  ==x_1.snd- (1:Int))=false->∃(x:Src),(((0=0/\0=0)/\True)/\((1=1/\RowsEq 1 (fun(x:Nat)=>[T.bys (nxS x_1.fst x_1.snd).c,T.int .i64 (↑(nxS x_1.fst x_1.snd).at_:Int),T.int .i64 (nxS x_1.fst x_1.snd).sd])
  fun(x_2:Nat)=>[T.bys x.c,T.int .i64 (x.at_:Int),T.int .i64 x.sd])/\True)/\SrcOK x 100000)/\(Le L.length L.length/\AppB L.length 1 64)/\((0=0/\L.length+1=R.snd.length)/\True)/\(1=1/\1=1/\(vaS x).fst.c=
  R.fst.c/\(↑(vaS x).fst.at_:Int)=(R.fst.at_:Int)/\(vaS x).fst.sd=R.fst.sd/\True)/\True/\(L.length+1=R.snd.length/\RowsEq (L.length+1) (appRow (ndRow L) L.length fun(k:Nat)=>List.take 7 (List.drop (k*7)
  [T.int .i64 (1:Int),T.int .i64 (0:Int),T.int .i64 (0:Int),T.int .i64 (0:Int),T.int .i64 (vaS x).snd.k,T.int .i64 (vaS x).snd.n,T.str (vaS x).snd.t])) (ndRow R.snd))/\True))/\(((d:Int)==(0:Int)||nxV x.fst
  x.snd==x.snd- (1:Int))=false->∃(x_1:(Src×Int)),(((0=0/\0=0)/\(4:Int)=x_1.snd/\True)/\((1=1/\RowsEq 1 (fun(x_2:Nat)=>[T.bys (nxS x.fst x.snd).c,T.int .i64 (↑(nxS x.fst x.snd).at_:Int),T.int
  .i64 (nxS x.fst x.snd).sd]) fun(x:Nat)=>[T.bys x_1.fst.c,T.int .i64 (x_1.fst.at_:Int),T.int .i64 x_1.fst.sd])/\True)/\SrcOK x_1.fst 1000000/\(0:Int)<=x_1.snd/\x_1.snd<=(256:Int))/\((nxV x_1.fst x_1.snd==x_1.snd
  - (1:Int))=true->Rng .i64 ((d:Int)- (1:Int))/\∃(x:(Src×List Nd×Nat)),(((0=0/\0=0)/\(0=0/\L.length=x.snd.fst.length)/\(d:Int)- (1:Int)=(x.snd.snd:Int)/\True)/\((1=1/\RowsEq 1 (fun(x:Nat)=>
  [T.bys (nxS x_1.fst x_1.snd).c,T.int .i64 (↑(nxS x_1.fst x_1.snd).at_:Int),T.int .i64 (nxS x_1.fst x_1.snd).sd]) fun(x_2:Nat)=>[T.bys x.fst.c,T.int .i64 (x.fst.at_:Int),T.int .i64 x.fst.sd])/\(EqL ndRow L x.snd.fst)/\
  True)/\x.snd.snd<n/\x.snd.snd<=100/\(∃(m:Nat),SrcOK x.fst m/\m+kD x.snd.snd<=9000)/\NB x.snd.fst/\x.snd.fst.length+lD x.snd.snd<=900)/\∃(x_2:(Src×Int)),(((0=0/\0=0)/\(3:Int)=x_2.snd/\True)/\
  ((1=1/\RowsEq 1 (fun(x_3:Nat)=>[T.bys (ndD x.snd.snd x.fst x.snd.fst).fst.c,T.int .i64 (↑(ndD x.snd.snd x.fst x.snd.fst).fst.at_:Int),T.int .i64 (ndD x.snd.snd x.fst x.snd.fst).fst.sd]) fun(x:Nat)=>[T.bys
  x_2.fst.c,T.int .i64 (x_2.fst.at_:Int),T.int .i64 x_2.fst.sd])/\True)/\SrcOK x_2.fst 1000000/\x_2.snd<=(256:Int))/\Rng .i64 ((3:Int)+nxV x_2.fst x_2.snd)/\Rng .i64 ((↑(ndD x.snd.snd x.fst x.snd.fst).snd.length:Int)
  - (1:Int))/\(Le (ndD x.snd.snd x.fst x.snd.fst).snd.length (ndD x.snd.snd x.fst x.snd.fst).snd.length/\AppB (ndD x.snd.snd x.fst x.snd.fst).snd.length 1 64)/\((0=0/\(ndD x.snd.snd x.fst x.snd.fst).snd.length+1=
  R.snd.length)/\True)/\(1=1/\1=1/\(nxS x_2.fst x_2.snd).c=R.fst.c/\(↑(nxS x_2.fst x_2.snd).at_:Int)=(R.fst.at_:Int)/\(nxS x_2.fst x_2.snd).sd=R.fst.sd/\True)/\True/\((ndD x.snd.snd x.fst x.snd.fst).snd.length+
  1=R.snd.length/\RowsEq ((ndD x.snd.snd x.fst x.snd.fst).snd.length+1) (appRow (ndRow (ndD x.snd.snd x.fst x.snd.fst).snd) (ndD x.snd.snd x.fst x.snd.fst).snd.length fun(k:Nat)=>List.take 7 (List.drop (k*7) [T.int .i64
  ((3:Int)+nxV x_2.fst x_2.snd),T.int .i64 ((↑(ndD x.snd.snd x.fst x.snd.fst).snd.length:Int)- (1:Int)),T.int .i64 (0:Int),T.int .i64 (0:Int),T.int .i64 (0:Int),T.int .i64 (0:Int),T.str []])) (ndRow R.snd))/\
  True)/\((nxV x_1.fst x_1.snd==x_1.snd- (1:Int))=false->Rng .i64 ((d:Int)- (1:Int))/\∃(x:(Src×List Nd×Nat)),(((0=0/\0=0)/\(0=0/\L.length=x.snd.fst.length)/\(d:Int)- (1:Int)=(x.snd.snd:Int)/\
  True)/\((1=1/\RowsEq 1 (fun(x:Nat)=>[T.bys (nxS x_1.fst x_1.snd).c,T.int .i64 (↑(nxS x_1.fst x_1.snd).at_:Int),T.int .i64 (nxS x_1.fst x_1.snd).sd]) fun(x_2:Nat)=>[T.bys x.fst.c,T.int .i64 (x.fst.at_:Int),T.int
  .i64 x.fst.sd])/\(EqL ndRow L x.snd.fst)/\True)/\x.snd.snd<n/\x.snd.snd<=100/\(∃(m:Nat),SrcOK x.fst m/\m+kD x.snd.snd<=9000)/\NB x.snd.fst/\x.snd.fst.length+lD x.snd.snd<=900)/\Rng .i64 ((↑(ndD x.snd.snd
  x.fst x.snd.fst).snd.length:Int)- (1:Int))/\Rng .i64 ((d:Int)- (1:Int))/\∃(x_2:(Src×List Nd×Nat)),(((0=0/\0=0)/\(0=0/\(ndD x.snd.snd x.fst x.snd.fst).snd.length=x_2.snd.fst.length)/\(d:Int)- (1:
  Int)=(x_2.snd.snd:Int)/\True)/\((1=1/\RowsEq 1 (fun(x_3:Nat)=>[T.bys (ndD x.snd.snd x.fst x.snd.fst).fst.c,T.int .i64 (↑(ndD x.snd.snd x.fst x.snd.fst).fst.at_:Int),T.int .i64 (ndD x.snd.snd x.fst
  x.snd.fst).fst.sd]) fun(x:Nat)=>[T.bys x_2.fst.c,T.int .i64 (x_2.fst.at_:Int),T.int .i64 x_2.fst.sd])/\(EqL ndRow (ndD x.snd.snd x.fst x.snd.fst).snd x_2.snd.fst)/\True)/\x_2.snd.snd<n/\x_2.snd.snd<=100/\(∃(m:
  Nat),SrcOK x_2.fst m/\m+kD x_2.snd.snd<=9000)/\NB x_2.snd.fst/\x_2.snd.fst.length+lD x_2.snd.snd<=900)/\∃(x_3:(Src×Int)),(((0=0/\0=0)/\(8:Int)=x_3.snd/\True)/\((1=1/\RowsEq 1 (fun(x:Nat)=>
  [T.bys (ndD x_2.snd.snd x_2.fst x_2.snd.fst).fst.c,T.int .i64 (↑(ndD x_2.snd.snd x_2.fst x_2.snd.fst).fst.at_:Int),T.int .i64 (ndD x_2.snd.snd x_2.fst x_2.snd.fst).fst.sd]) fun(x:Nat)=>[T.bys x_3.fst.c,T.int .i64
  (x_3.fst.at_:Int),T.int .i64 x_3.fst.sd])/\True)/\SrcOK x_3.fst 1000000/\x_3.snd<=(256:Int))/\Rng .i64 ((6:Int)+nxV x_3.fst x_3.snd)/\Rng .i64 ((↑(ndD x_2.snd.snd x_2.fst x_2.snd.fst).snd.length:Int)- (1:Int))/\
  (Le (ndD x_2.snd.snd x_2.fst x_2.snd.fst).snd.length (ndD x_2.snd.snd x_2.fst x_2.snd.fst).snd.length/\AppB (ndD x_2.snd.snd x_2.fst x_2.snd.fst).snd.length 1 64)/\((0=0/\(ndD x_2.snd.snd x_2.fst x_2.snd.fst).snd.length+1=
  R.snd.length)/\True)/\(1=1/\1=1/\(nxS x_3.fst x_3.snd).c=R.fst.c/\(↑(nxS x_3.fst x_3.snd).at_:Int)=(R.fst.at_:Int)/\(nxS x_3.fst x_3.snd).sd=R.fst.sd/\True)/\True/\((ndD x_2.snd.snd x_2.fst
  x_2.snd.fst).snd.length+1=R.snd.length/\RowsEq ((ndD x_2.snd.snd x_2.fst x_2.snd.fst).snd.length+1) (appRow (ndRow (ndD x_2.snd.snd x_2.fst x_2.snd.fst).snd) (ndD x_2.snd.snd x_2.fst x_2.snd.fst).snd.length fun(k:Nat)=>
  List.take 7 (List.drop (k*7) [T.int .i64 ((6:Int)+nxV x_3.fst x_3.snd),T.int .i64 ((↑(ndD x.snd.snd x.fst x.snd.fst).snd.length:Int)- (1:Int)),T.int .i64 ((↑(ndD x_2.snd.snd x_2.fst x_2.snd.fst).snd.length:Int)- (1
  :Int)),T.int .i64 (0:Int),T.int .i64 (0:Int),T.int .i64 (0:Int),T.str []])) (ndRow R.snd))/\True)))/\((((d:Int)==(0:Int))=false->False)->(((d:Int)==(0:Int)||nxV x.fst x.snd==x.snd- (1:Int))=true->
  ∃(x:(Src×Int)),(((0=0/\0=0)/\(2:Int)=x.snd/\True)/\((1=1/\RowsEq 1 (fun(x:Nat)=>[T.bys s.c,T.int .i64 (s.at_:Int),T.int .i64 s.sd]) fun(x_1:Nat)=>[T.bys x.fst.c,T.int .i64 (x.fst.at_:Int),T.int
  .i64 x.fst.sd])/\True)/\SrcOK x.fst 1000000/\(0:Int)<=x.snd/\x.snd<=(256:Int))/\((nxV x.fst x.snd==x.snd- (1:Int))=true->∃(x_1:(Src×Int)),(((0=0/\0=0)/\(3:Int)=x_1.snd/\True)/\((1=1/\RowsEq
  1 (fun(x_2:Nat)=>[T.bys (nxS x.fst x.snd).c,T.int .i64 (↑(nxS x.fst x.snd).at_:Int),T.int .i64 (nxS x.fst x.snd).sd]) fun(x:Nat)=>[T.bys x_1.fst.c,T.int .i64 (x_1.fst.at_:Int),T.int .i64 x_1.fst.sd])/\True)/\
  SrcOK x_1.fst 1000000/\x_1.snd<=(256:Int))/\(Le L.length L.length/\AppB L.length 1 64)/\((0=0/\L.length+1=R.snd.length)/\True)/\(1=1/\1=1/\(nxS x_1.fst x_1.snd).c=R.fst.c/\(↑(nxS x_1.fst x_1.snd).at_:
  Int)=(R.fst.at_:Int)/\(nxS x_1.fst x_1.snd).sd=R.fst.sd/\True)/\True/\(L.length+1=R.snd.length/\RowsEq (L.length+1) (appRow (ndRow L) L.length fun(k:Nat)=>List.take 7 (List.drop (k*7) [T.int .i64 (2:Int),
  T.int .i64 (0:Int),T.int .i64 (0:Int),T.int .i64 (nxV x_1.fst x_1.snd),T.int .i64 (0:Int),T.int .i64 (0:Int),T.str []])) (ndRow R.snd))/\True)/\((nxV x.fst x.snd==x.snd- (1:Int))=false->∃(x_1:Src),(((0=
  0/\0=0)/\True)/\((1=1/\RowsEq 1 (fun(x_2:Nat)=>[T.bys (nxS x.fst x.snd).c,T.int .i64 (↑(nxS x.fst x.snd).at_:Int),T.int .i64 (nxS x.fst x.snd).sd]) fun(x:Nat)=>[T.bys x_1.c,T.int .i64 (x_1.at_:Int),T.int
  .i64 x_1.sd])/\True)/\SrcOK x_1 100000)/\(Le L.length L.length/\AppB L.length 1 64)/\((0=0/\L.length+1=R.snd.length)/\True)/\(1=1/\1=1/\(vaS x_1).fst.c=R.fst.c/\(↑(vaS x_1).fst.at_:Int)=(R.fst.at_:Int)/\
  (vaS x_1).fst.sd=R.fst.sd/\True)/\True/\(L.length+1=R.snd.length/\RowsEq (L.length+1) (appRow (ndRow L) L.length fun(k:Nat)=>List.take 7 (List.drop (k*7) [T.int .i64 (1:Int),T.int .i64 (0:Int),T.int .i64
  (0:Int),T.int .i64 (0:Int),T.int .i64 (vaS x_1).snd.k,T.int .i64 (vaS x_1).snd.n,T.str (vaS x_1).snd.t])) (ndRow R.snd))/\True))/\(((d:Int)==(0:Int)||nxV x.fst x.snd==x.snd- (1:Int))=false->∃(x:(Src×
  Int)),(((0=0/\0=0)/\(4:Int)=x.snd/\True)/\((1=1/\RowsEq 1 (fun(x:Nat)=>[T.bys s.c,T.int .i64 (s.at_:Int),T.int .i64 s.sd]) fun(x_1:Nat)=>[T.bys x.fst.c,T.int .i64 (x.fst.at_:Int),T.int .i64 x.fst.sd])
  /\True)/\SrcOK x.fst 1000000/\(0:Int)<=x.snd/\x.snd<=(256:Int))/\((nxV x.fst x.snd==x.snd- (1:Int))=true->Rng .i64 ((d:Int)- (1:Int))/\∃(x_1:(Src×List Nd×Nat)),(((0=0/\0=0)/\(0=0/\L.length=
  x_1.snd.fst.length)/\(d:Int)- (1:Int)=(x_1.snd.snd:Int)/\True)/\((1=1/\RowsEq 1 (fun(x_2:Nat)=>[T.bys (nxS x.fst x.snd).c,T.int .i64 (↑(nxS x.fst x.snd).at_:Int),T.int .i64 (nxS x.fst x.snd).sd]) fun(x:Nat)
  =>[T.bys x_1.fst.c,T.int .i64 (x_1.fst.at_:Int),T.int .i64 x_1.fst.sd])/\(EqL ndRow L x_1.snd.fst)/\True)/\x_1.snd.snd<n/\x_1.snd.snd<=100/\(∃(m:Nat),SrcOK x_1.fst m/\m+kD x_1.snd.snd<=9000)/\NB x_1.snd.fst/\
  x_1.snd.fst.length+lD x_1.snd.snd<=900)/\∃(x:(Src×Int)),(((0=0/\0=0)/\(3:Int)=x.snd/\True)/\((1=1/\RowsEq 1 (fun(x:Nat)=>[T.bys (ndD x_1.snd.snd x_1.fst x_1.snd.fst).fst.c,T.int .i64 (↑(ndD
  x_1.snd.snd x_1.fst x_1.snd.fst).fst.at_:Int),T.int .i64 (ndD x_1.snd.snd x_1.fst x_1.snd.fst).fst.sd]) fun(x_2:Nat)=>[T.bys x.fst.c,T.int .i64 (x.fst.at_:Int),T.int .i64 x.fst.sd])/\True)/\SrcOK x.fst 1000000/\x.snd
  <=(256:Int))/\Rng .i64 ((3:Int)+nxV x.fst x.snd)/\Rng .i64 ((↑(ndD x_1.snd.snd x_1.fst x_1.snd.fst).snd.length:Int)- (1:Int))/\(Le (ndD x_1.snd.snd x_1.fst x_1.snd.fst).snd.length (ndD x_1.snd.snd x_1.fst
  x_1.snd.fst).snd.length/\AppB (ndD x_1.snd.snd x_1.fst x_1.snd.fst).snd.length 1 64)/\((0=0/\(ndD x_1.snd.snd x_1.fst x_1.snd.fst).snd.length+1=R.snd.length)/\True)/\(1=1/\1=1/\(nxS x.fst x.snd).c=R.fst.c/\
  (↑(nxS x.fst x.snd).at_:Int)=(R.fst.at_:Int)/\(nxS x.fst x.snd).sd=R.fst.sd/\True)/\True/\((ndD x_1.snd.snd x_1.fst x_1.snd.fst).snd.length+1=R.snd.length/\RowsEq ((ndD x_1.snd.snd x_1.fst x_1.snd.fst).snd.length+
  1) (appRow (ndRow (ndD x_1.snd.snd x_1.fst x_1.snd.fst).snd) (ndD x_1.snd.snd x_1.fst x_1.snd.fst).snd.length fun(k:Nat)=>List.take 7 (List.drop (k*7) [T.int .i64 ((3:Int)+nxV x.fst x.snd),T.int .i64 ((↑(ndD
  x_1.snd.snd x_1.fst x_1.snd.fst).snd.length:Int)- (1:Int)),T.int .i64 (0:Int),T.int .i64 (0:Int),T.int .i64 (0:Int),T.int .i64 (0:Int),T.str []])) (ndRow R.snd))/\True)/\((nxV x.fst x.snd==x.snd- (1:Int))
  =false->Rng .i64 ((d:Int)- (1:Int))/\∃(x_1:(Src×List Nd×Nat)),(((0=0/\0=0)/\(0=0/\L.length=x_1.snd.fst.length)/\(d:Int)- (1:Int)=(x_1.snd.snd:Int)/\True)/\((1=1/\RowsEq 1 (fun(x_2:Nat)=>
  [T.bys (nxS x.fst x.snd).c,T.int .i64 (↑(nxS x.fst x.snd).at_:Int),T.int .i64 (nxS x.fst x.snd).sd]) fun(x:Nat)=>[T.bys x_1.fst.c,T.int .i64 (x_1.fst.at_:Int),T.int .i64 x_1.fst.sd])/\(EqL ndRow L x_1.snd.fst)/\True)
  /\x_1.snd.snd<n/\x_1.snd.snd<=100/\(∃(m:Nat),SrcOK x_1.fst m/\m+kD x_1.snd.snd<=9000)/\NB x_1.snd.fst/\x_1.snd.fst.length+lD x_1.snd.snd<=900)/\Rng .i64 ((↑(ndD x_1.snd.snd x_1.fst x_1.snd.fst).snd.length:Int)
  - (1:Int))/\Rng .i64 ((d:Int)- (1:Int))/\∃(x:(Src×List Nd×Nat)),(((0=0/\0=0)/\(0=0/\(ndD x_1.snd.snd x_1.fst x_1.snd.fst).snd.length=x.snd.fst.length)/\(d:Int)- (1:Int)=(x.snd.snd:Int)/\True)/\((1
  =1/\RowsEq 1 (fun(x:Nat)=>[T.bys (ndD x_1.snd.snd x_1.fst x_1.snd.fst).fst.c,T.int .i64 (↑(ndD x_1.snd.snd x_1.fst x_1.snd.fst).fst.at_:Int),T.int .i64 (ndD x_1.snd.snd x_1.fst x_1.snd.fst).fst.sd]) fun(x_2:Nat)=>
  [T.bys x.fst.c,T.int .i64 (x.fst.at_:Int),T.int .i64 x.fst.sd])/\(EqL ndRow (ndD x_1.snd.snd x_1.fst x_1.snd.fst).snd x.snd.fst)/\True)/\x.snd.snd<n/\x.snd.snd<=100/\(∃(m:Nat),SrcOK x.fst m/\m+kD x.snd.snd<=9000)
  /\NB x.snd.fst/\x.snd.fst.length+lD x.snd.snd<=900)/\∃(x_2:(Src×Int)),(((0=0/\0=0)/\(8:Int)=x_2.snd/\True)/\((1=1/\RowsEq 1 (fun(x_3:Nat)=>[T.bys (ndD x.snd.snd x.fst x.snd.fst).fst.c,T.int .i64
  (↑(ndD x.snd.snd x.fst x.snd.fst).fst.at_:Int),T.int .i64 (ndD x.snd.snd x.fst x.snd.fst).fst.sd]) fun(x:Nat)=>[T.bys x_2.fst.c,T.int .i64 (x_2.fst.at_:Int),T.int .i64 x_2.fst.sd])/\True)/\SrcOK x_2.fst 1000000/\
  x_2.snd<=(256:Int))/\Rng .i64 ((6:Int)+nxV x_2.fst x_2.snd)/\Rng .i64 ((↑(ndD x.snd.snd x.fst x.snd.fst).snd.length:Int)- (1:Int))/\(Le (ndD x.snd.snd x.fst x.snd.fst).snd.length (ndD x.snd.snd x.fst
  x.snd.fst).snd.length/\AppB (ndD x.snd.snd x.fst x.snd.fst).snd.length 1 64)/\((0=0/\(ndD x.snd.snd x.fst x.snd.fst).snd.length+1=R.snd.length)/\True)/\(1=1/\1=1/\(nxS x_2.fst x_2.snd).c=R.fst.c/\(↑(nxS x_2.fst
  x_2.snd).at_:Int)=(R.fst.at_:Int)/\(nxS x_2.fst x_2.snd).sd=R.fst.sd/\True)/\True/\((ndD x.snd.snd x.fst x.snd.fst).snd.length+1=R.snd.length/\RowsEq ((ndD x.snd.snd x.fst x.snd.fst).snd.length+1) (appRow (ndRow
  (ndD x.snd.snd x.fst x.snd.fst).snd) (ndD x.snd.snd x.fst x.snd.fst).snd.length fun(k:Nat)=>List.take 7 (List.drop (k*7) [T.int .i64 ((6:Int)+nxV x_2.fst x_2.snd),T.int .i64 ((↑(ndD x_1.snd.snd x_1.fst
  x_1.snd.fst).snd.length:Int)- (1:Int)),T.int .i64 ((↑(ndD x.snd.snd x.fst x.snd.fst).snd.length:Int)- (1:Int)),T.int .i64 (0:Int),T.int .i64 (0:Int),T.int .i64 (0:Int),T.str []])) (ndRow R.snd))/\True)))):
  EffFn Tryz.prog 71 [.ref 0 0 0,.osl 1 0 L.length,.int .i64 d] [srcB s,ndA L] (.osl 2 0 R.2.length) [srcB R.1,none,ndA R.2]:=
 vcG (code:=b_nodeD) (gC ih call_nodeD (gC next_ok call_next (gC chance_ok call_chance (gC valueS_ok call_valueS (gC tmpK_ok call_tmpK gN))))) Tryz.func71 (by kernel_rfl) (by kernel_rfl) noAnn [[.box 0,.arr 1,.vl 0 []]] h (by kernel_rfl)
theorem nd_len(L:List Nd)(n:Nd):L.length+1=(L++[n]).length:=by rw[List.length_append];rfl
theorem leaf_ok{s:Src}{L:List Nd}{R:Src×List Nd}{m:Nat}(hs:SrcOK s m)(hm:m<=9000)(hl:L.length<=900)(hR:R=lfD s L):
  ∃(x:(Src×Int)),(((0=0/\0=0)/\(2:Int)=x.snd/\True)/\((1=1/\RowsEq 1 (fun(x:Nat)=>[T.bys s.c,T.int .i64 (s.at_:Int),T.int .i64 s.sd]) fun(x_1:Nat)=>[T.bys x.fst.c,T.int .i64 (x.fst.at_:Int),T.int .i64 x.fst.sd])/\True)/\SrcOK x.fst 1000000/\(0:Int)<=x.snd/\x.snd<=(256:Int))/\((nxV x.fst x.snd==x.snd- (1:Int))=true->∃(x_1:(Src×Int)),(((0=0/\0=0)/\(3:Int)=x_1.snd/\True)/\((1=1/\RowsEq 1 (fun(x_2:Nat)=>[T.bys (nxS x.fst x.snd).c,T.int .i64 (↑(nxS x.fst x.snd).at_:Int),T.int .i64 (nxS x.fst x.snd).sd]) fun(x:Nat)=>[T.bys x_1.fst.c,T.int .i64 (x_1.fst.at_:Int),T.int .i64 x_1.fst.sd])/\True)/\SrcOK x_1.fst 1000000/\x_1.snd<=(256:Int))/\(Le L.length L.length/\AppB L.length 1 64)/\((0=0/\L.length+1=R.snd.length)/\True)/\(1=1/\1=1/\(nxS x_1.fst x_1.snd).c=R.fst.c/\(↑(nxS x_1.fst x_1.snd).at_:Int)=(R.fst.at_:Int)/\(nxS x_1.fst x_1.snd).sd=R.fst.sd/\True)/\True/\(L.length+1=R.snd.length/\RowsEq (L.length+1) (appRow (ndRow L) L.length fun(k:Nat)=>List.take 7 (List.drop (k*7) [T.int .i64 (2:Int),T.int .i64 (0:Int),T.int .i64 (0:Int),T.int .i64 (nxV x_1.fst x_1.snd),T.int .i64 (0:Int),T.int .i64 (0:Int),T.str []])) (ndRow R.snd))/\True)/\((nxV x.fst x.snd==x.snd- (1:Int))=false->∃(x_1:Src),(((0=0/\0=0)/\True)/\((1=1/\RowsEq 1 (fun(x_2:Nat)=>[T.bys (nxS x.fst x.snd).c,T.int .i64 (↑(nxS x.fst x.snd).at_:Int),T.int .i64 (nxS x.fst x.snd).sd]) fun(x:Nat)=>[T.bys x_1.c,T.int .i64 (x_1.at_:Int),T.int .i64 x_1.sd])/\True)/\SrcOK x_1 100000)/\(Le L.length L.length/\AppB L.length 1 64)/\((0=0/\L.length+1=R.snd.length)/\True)/\(1=1/\1=1/\(vaS x_1).fst.c=R.fst.c/\(↑(vaS x_1).fst.at_:Int)=(R.fst.at_:Int)/\(vaS x_1).fst.sd=R.fst.sd/\True)/\True/\(L.length+1=R.snd.length/\RowsEq (L.length+1) (appRow (ndRow L) L.length fun(k:Nat)=>List.take 7 (List.drop (k*7) [T.int .i64 (1:Int),T.int .i64 (0:Int),T.int .i64 (0:Int),T.int .i64 (0:Int),T.int .i64 (vaS x_1).snd.k,T.int .i64 (vaS x_1).snd.n,T.str (vaS x_1).snd.t])) (ndRow R.snd))/\True):=by
 have n1:=nx_rng hs (n:=2) (by decide)
 refine⟨(s,2),⟨⟨⟨rfl,rfl⟩,rfl,trivial⟩,⟨⟨rfl,fun _ _=>rfl⟩,trivial⟩,hs.le (by omega),by dsimp only;omega,by dsimp only;omega⟩,fun hc=>⟨(nxS s 2,3),⟨⟨⟨rfl,rfl⟩,rfl,trivial⟩,⟨⟨rfl,fun _ _=>rfl⟩,trivial⟩,n1.2.2.le (by omega),by dsimp only;omega⟩,⟨Nat.le_refl _,by unfold AppB;omega⟩,?_⟩,fun hc=>⟨nxS s 2,⟨⟨⟨rfl,rfl⟩,trivial⟩,⟨⟨rfl,fun _ _=>rfl⟩,trivial⟩,n1.2.2.le (by omega)⟩,⟨Nat.le_refl _,by unfold AppB;omega⟩,?_⟩⟩
 ·have hc:nxV s 2=1:=eq_of_beq hc;have e:R=(nxS (nxS s 2) 3,L++[⟨2,0,0,nxV (nxS s 2) 3,v0⟩]):=by rw[hR,lfD,if_pos hc]
  rw[e];exact⟨⟨⟨rfl,nd_len _ _⟩,trivial⟩,⟨rfl,rfl,rfl,rfl,rfl,trivial⟩,trivial,⟨nd_len _ _,app_rows Nd.ts 7 (fun _=>rfl) L ⟨2,0,0,nxV (nxS s 2) 3,v0⟩⟩,trivial⟩
 ·have hc:nxV s 2≠1:=ne_beq hc;have e:R=((vaS (nxS s 2)).1,L++[⟨1,0,0,0,(vaS (nxS s 2)).2⟩]):=by rw[hR,lfD,if_neg hc]
  rw[e];exact⟨⟨⟨rfl,nd_len _ _⟩,trivial⟩,⟨rfl,rfl,rfl,rfl,rfl,trivial⟩,trivial,⟨nd_len _ _,app_rows Nd.ts 7 (fun _=>rfl) L ⟨1,0,0,0,(vaS (nxS s 2)).2⟩⟩,trivial⟩
theorem nodeD_ok:∀n,ConOk Tryz.prog 71 (k_nodeD n)
 |0=>fun x h=>absurd h.1 (Nat.not_lt_zero _)
 |n+1=>by
  have ih:=nodeD_ok n;rintro⟨s,L,d⟩ ⟨hd,hd2,⟨m,hs,hm⟩,hL,hl⟩;dsimp only at hd hd2 hs hm hL hl;have n1:=nx_rng hs (n:=3) (by decide)
  have n2:=nx_rng n1.2.2 (n:=4) (by decide)
  refine v_nodeD n ih s L d (ndD d s L) ⟨(s,3),fun _=>⟨⟨⟨rfl,rfl⟩,rfl,trivial⟩,⟨⟨rfl,fun _ _=>rfl⟩,trivial⟩,hs.le (by omega),by dsimp only;omega,by dsimp only;omega⟩,fun h0=> ?_,fun h0=> ?_⟩
  ·obtain⟨d,rfl⟩:∃e,d=e+1:=⟨d-1,by have:(d:Int)≠0:=ne_beq h0;omega⟩
   have ek:kD (d+1)=2*kD d+8:=rfl;have el:lD (d+1)=2*lD d+1:=rfl;have eR:ndD (d+1) s L=if nxV s 3=2 then lfD (nxS s 3) L
    else if nxV (nxS s 3) 4=3 then(nxS (ndD d (nxS (nxS s 3) 4) L).1 3,(ndD d (nxS (nxS s 3) 4) L).2++[⟨3+nxV (ndD d (nxS (nxS s 3) 4) L).1 3,((ndD d (nxS (nxS s 3) 4) L).2.length:Int)-1,0,0,v0⟩])
    else(nxS (ndD d (ndD d (nxS (nxS s 3) 4) L).1 (ndD d (nxS (nxS s 3) 4) L).2).1 8,(ndD d (ndD d (nxS (nxS s 3) 4) L).1 (ndD d (nxS (nxS s 3) 4) L).2).2++[⟨6+nxV (ndD d (ndD d (nxS (nxS s 3) 4) L).1 (ndD d (nxS (nxS s 3) 4) L).2).1 8,((ndD d (nxS (nxS s 3) 4) L).2.length:Int)-1,((ndD d (ndD d (nxS (nxS s 3) 4) L).1 (ndD d (nxS (nxS s 3) 4) L).2).2.length:Int)-1,0,v0⟩]):=rfl
   obtain⟨a1,a2,a3,a4⟩:=nd_ok d n2.2.2 hL;obtain⟨b1,b2,b3,b4⟩:=nd_ok d a1 a4;have z0:(((d+1:Nat):Int)==(0:Int))=false:=h0;refine⟨fun hc=> ?_,fun hc=>⟨(nxS s 3,4),⟨⟨⟨rfl,rfl⟩,rfl,trivial⟩,⟨⟨rfl,fun _ _=>rfl⟩,trivial⟩,n1.2.2.le (by omega),by dsimp only;omega,by dsimp only;omega⟩,fun hc2=> ?_,fun hc2=> ?_⟩⟩
   ·rw[z0,Bool.false_or] at hc;have hc:nxV s 3=2:=eq_of_beq hc;exact leaf_ok (s:=nxS s 3) n1.2.2 (by omega) (by omega) (by rw[eR,if_pos hc])
   ·rw[z0,Bool.false_or] at hc;have hc:nxV s 3≠2:=ne_beq hc;have hc2:nxV (nxS s 3) 4=3:=eq_of_beq hc2;rw[eR,if_neg hc,if_pos hc2];generalize hA:ndD d (nxS (nxS s 3) 4) L=A at a1 a2 a3 a4;have w:=nx_rng a1 (n:=3) (by decide)
    refine⟨i64_rng (by omega),(nxS (nxS s 3) 4,L,d),⟨⟨⟨rfl,rfl⟩,⟨rfl,rfl⟩,by dsimp only;omega,trivial⟩,⟨⟨rfl,fun _ _=>rfl⟩,⟨rfl,rowsR _ _⟩,trivial⟩,by dsimp only;omega,by dsimp only;omega,⟨m+1+1,n2.2.2,by dsimp only;omega⟩,hL,by dsimp only;omega⟩,?_⟩
    dsimp only;rw[hA];exact⟨(A.1,3),⟨⟨⟨rfl,rfl⟩,rfl,trivial⟩,⟨⟨rfl,fun _ _=>rfl⟩,trivial⟩,a1.le (by omega),by dsimp only;omega⟩,i64_rng (by dsimp only;omega),i64_rng (by omega),⟨Nat.le_refl _,by unfold AppB;omega⟩,⟨⟨rfl,nd_len _ _⟩,trivial⟩,⟨rfl,rfl,rfl,rfl,rfl,trivial⟩,trivial,⟨nd_len _ _,app_rows Nd.ts 7 (fun _=>rfl) A.2 ⟨3+nxV A.1 3,(A.2.length:Int)-1,0,0,v0⟩⟩,trivial⟩
   ·rw[z0,Bool.false_or] at hc;have hc:nxV s 3≠2:=ne_beq hc;have hc2:nxV (nxS s 3) 4≠3:=ne_beq hc2;rw[eR,if_neg hc,if_neg hc2];generalize hA:ndD d (nxS (nxS s 3) 4) L=A at a1 a2 a3 a4 b1 b2 b3 b4;generalize hB:ndD d A.1 A.2=B at b1 b2 b3 b4;have w:=nx_rng b1 (n:=8) (by decide)
    refine⟨i64_rng (by omega),(nxS (nxS s 3) 4,L,d),⟨⟨⟨rfl,rfl⟩,⟨rfl,rfl⟩,by dsimp only;omega,trivial⟩,⟨⟨rfl,fun _ _=>rfl⟩,⟨rfl,rowsR _ _⟩,trivial⟩,by dsimp only;omega,by dsimp only;omega,⟨m+1+1,n2.2.2,by dsimp only;omega⟩,hL,by dsimp only;omega⟩,?_⟩
    dsimp only;rw[hA];refine⟨i64_rng (by omega),i64_rng (by omega),(A.1,A.2,d),⟨⟨⟨rfl,rfl⟩,⟨rfl,rfl⟩,by dsimp only;omega,trivial⟩,⟨⟨rfl,fun _ _=>rfl⟩,⟨rfl,rowsR _ _⟩,trivial⟩,by dsimp only;omega,by dsimp only;omega,⟨m+1+1+kD d,a1,by dsimp only;omega⟩,a4,by dsimp only;omega⟩,?_⟩
    dsimp only;rw[hB];exact⟨(B.1,8),⟨⟨⟨rfl,rfl⟩,rfl,trivial⟩,⟨⟨rfl,fun _ _=>rfl⟩,trivial⟩,b1.le (by omega),by dsimp only;omega⟩,i64_rng (by dsimp only;omega),i64_rng (by omega),⟨Nat.le_refl _,by unfold AppB;omega⟩,⟨⟨rfl,nd_len _ _⟩,trivial⟩,⟨rfl,rfl,rfl,rfl,rfl,trivial⟩,trivial,⟨nd_len _ _,app_rows Nd.ts 7 (fun _=>rfl) B.2 ⟨6+nxV B.1 8,(A.2.length:Int)-1,(B.2.length:Int)-1,0,v0⟩⟩,trivial⟩
  ·have hd0:d=0:=by
    cases d with
    |zero=>rfl
    |succ d=>exact absurd (show(((d+1:Nat):Int)==(0:Int))=false by simp;omega) h0
   subst hd0;refine⟨fun _=>leaf_ok hs (by unfold kD at hm;omega) (by unfold lD at hl;omega) rfl,fun hc=> ?_⟩
   cases hc
end Go.Proofs.YtfmngblmdghccaaGreat

