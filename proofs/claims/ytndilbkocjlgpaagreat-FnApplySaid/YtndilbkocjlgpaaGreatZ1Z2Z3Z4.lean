/- A part of the proof. -/
import Derived.Test.YtndilbkocjlgpaaGreatY6Y7Y13
namespace Go.Proofs.YtndilbkocjlgpaaGreat
set_option maxRecDepth 100000
open Go.SS

structure Src where
 c:List UInt8
 at_:Nat
 sd:Int
def srcB(s:Src):Option Ob:=some (.arr true 1000000 3 1 fun _=>[.bys s.c,.int .i64 s.at_,.int .i64 s.sd])
def SrcOK(s:Src)(m:Nat):Prop:=s.at_<=m/\0<=s.sd/\s.sd<2147483648
def srcN(code:List UInt8):Src:=⟨code,0,(code.length:Int).tmod 1000⟩
def byS(s:Src):Src:=if s.at_+1<=s.c.length then⟨s.c,s.at_+1,(s.sd*31+(s.c.getD s.at_ 0).toNat+7).tmod 2147483648⟩ else
 if 3000<s.at_+1 then⟨s.c,s.at_+1,s.sd⟩ else⟨s.c,s.at_+1,(s.sd*1103515245+12345).tmod 2147483648⟩
def byV(s:Src):Int:=if s.at_+1<=s.c.length then(s.c.getD s.at_ 0).toNat else
 if 3000<s.at_+1 then 0 else((byS s).sd.tdiv 65536).tmod 256
def nxS(s:Src)(n:Int):Src:=if n<=1 then s else byS s
def nxV(s:Src)(n:Int):Int:=if n<=1 then 0 else(byV s).tmod n
def k_l00Source:Con:=.reff ⟨List UInt8,fun c=>[.bys c],fun _=>[],fun _=>.ref 0 0 0,fun c=>[srcB (srcN c)],fun c=>c.length<=1048576⟩
noncomputable def b_l00Source:Code:=Tryz.f43.body.getD .skip
theorem call_l00Source:Callable Tryz.prog 43:=⟨_,Tryz.func43,by kernel_rfl,by kernel_rfl⟩
theorem v_l00Source(c:List UInt8)(h:
  Nz (1000:Int)/\((0=0/\0=0)/\True)/\(1=1/\1=1/\c=c/\(0:Int)=(↑(0:Nat):Int)/\(c.length:Int).tmod (1000:Int)=(c.length:Int).tmod (1000:Int)/\True)/\True):
  EffFn Tryz.prog 43 [.bys c] [] (.ref 0 0 0) [srcB (srcN c)]:=
 vcG (code:=b_l00Source) gN Tryz.func43 (by kernel_rfl) (by kernel_rfl) noAnn [[.box 0]] h (by kernel_rfl)
theorem l00Source_ok:ConOk Tryz.prog 43 k_l00Source:=fun c _=>v_l00Source c ⟨by unfold Nz;decide,(by repeat' first|exact trivial|exact rfl|exact rowsR _ _|exact famR _|exact row0|exact le0 _|exact Nat.le_refl _|exact Nat.zero_le _|refine And.intro ?_ ?_),(by repeat' first|exact trivial|exact rfl|exact rowsR _ _|exact famR _|exact row0|exact le0 _|exact Nat.le_refl _|exact Nat.zero_le _|refine And.intro ?_ ?_)⟩
theorem tmod_rng{a n:Int}(h:0<=a)(hn:0<n):0<=a.tmod n/\a.tmod n<n:=⟨Int.tmod_nonneg _ h,Int.tmod_lt_of_pos _ hn⟩
theorem by_rng{s:Src}{m:Nat}(h:SrcOK s m):0<=byV s/\byV s<256/\SrcOK (byS s) (m+1):=by
 obtain⟨h1,h2,h3⟩:=h;have hb:=(s.c.getD s.at_ 0).toNat_lt;unfold byV byS SrcOK;split
 ·exact⟨by omega,by omega,by dsimp only;omega,tmod_rng (by omega) (by decide)⟩
 ·split
  ·exact⟨by omega,by omega,by dsimp only;omega,h2,h3⟩
  ·have:=tmod_rng (a:=s.sd*1103515245+12345) (n:=2147483648) (by omega) (by decide)
   dsimp only;have e:=tmod_rng (a:=((s.sd*1103515245+12345).tmod 2147483648).tdiv 65536) (n:=256) (Int.tdiv_nonneg this.1 (by decide)) (by decide)
   exact⟨e.1,e.2,by omega,this⟩
theorem nx_rng{s:Src}{m:Nat}{n:Int}(h:SrcOK s m)(hn:1<=n):0<=nxV s n/\nxV s n<n/\SrcOK (nxS s n) (m+1):=by
 unfold nxV nxS;have:=by_rng h;split
 ·exact⟨by omega,by omega,by obtain⟨h1,h2⟩:=h;exact⟨by omega,h2⟩⟩
 ·have:=tmod_rng (a:=byV s) (n:=n) this.1 (by omega)
  exact⟨this.1,this.2,(by_rng h).2.2⟩
def k_byte:Con:=.reff ⟨Src,fun _=>[.ref 0 0 0],fun s=>[srcB s],fun s=>.int .i64 (byV s),fun s=>[srcB (byS s)],fun s=>SrcOK s 1000000⟩
noncomputable def b_byte:Code:=Tryz.f154.body.getD .skip
theorem call_byte:Callable Tryz.prog 154:=⟨_,Tryz.func154,by kernel_rfl,by kernel_rfl⟩
theorem v_byte(s:Src)(h:
  Rng .i64 ((s.at_:Int)+(1:Int))/\(decide ((s.at_:Int)+(1:Int)<=(s.c.length:Int))=true->Rng .i64 (s.sd*(31:Int))/\Rng .i64 ((s.at_:Int)+(1:Int)- (1:Int))/\InB ((s.at_:Int)+(1:Int)- (1:Int))
  s.c.length/\Rng .i64 (s.sd*(31:Int)+IntKind.i64.wrap (↑(s.c.getD ((s.at_:Int)+(1:Int)- (1:Int)).toNat (0:UInt8)).toNat:Int))/\Rng .i64 (s.sd*(31:Int)+IntKind.i64.wrap (↑(s.c.getD ((s.at_:Int)+(1:Int)-
  (1:Int)).toNat (0:UInt8)).toNat:Int)+(7:Int))/\Nz (2147483648:Int)/\Rng .i64 ((s.at_:Int)+(1:Int)- (1:Int))/\InB ((s.at_:Int)+(1:Int)- (1:Int)) s.c.length/\(IntKind.i64.wrap (↑(s.c.getD ((s.at_:Int)+
  (1:Int)- (1:Int)).toNat (0:UInt8)).toNat:Int)=byV s/\True)/\(1=1/\1=1/\s.c=(byS s).c/\(s.at_:Int)+(1:Int)=(↑(byS s).at_:Int)/\(s.sd*(31:Int)+IntKind.i64.wrap (↑(s.c.getD ((s.at_:Int)+(1:
  Int)- (1:Int)).toNat (0:UInt8)).toNat:Int)+(7:Int)).tmod (2147483648:Int)=(byS s).sd/\True)/\True)/\(decide ((s.at_:Int)+(1:Int)<=(s.c.length:Int))=false->(decide ((s.at_:Int)+(1:Int)>(3000:Int))
  =true->((0:Int)=byV s/\True)/\(1=1/\1=1/\s.c=(byS s).c/\(s.at_:Int)+(1:Int)=(↑(byS s).at_:Int)/\s.sd=(byS s).sd/\True)/\True)/\(decide ((s.at_:Int)+(1:Int)>(3000:Int))=false->Rng .i64
  (s.sd*(1103515245:Int))/\Rng .i64 (s.sd*(1103515245:Int)+(12345:Int))/\Nz (2147483648:Int)/\(Nz (65536:Int)/\Rng .i64 (((s.sd*(1103515245:Int)+(12345:Int)).tmod (2147483648:Int)).tdiv (65536:Int)))
  /\Nz (256:Int)/\((((s.sd*(1103515245:Int)+(12345:Int)).tmod (2147483648:Int)).tdiv (65536:Int)).tmod (256:Int)=byV s/\True)/\(1=1/\1=1/\s.c=(byS s).c/\(s.at_:Int)+(1:Int)=(↑(byS s).at_:Int)/\
  (s.sd*(1103515245:Int)+(12345:Int)).tmod (2147483648:Int)=(byS s).sd/\True)/\True))):
  EffFn Tryz.prog 154 [.ref 0 0 0] [srcB s] (.int .i64 (byV s)) [srcB (byS s)]:=
 vcG (code:=b_byte) gN Tryz.func154 (by kernel_rfl) (by kernel_rfl) noAnn [[.box 0]] h (by kernel_rfl)
theorem byte_ok:ConOk Tryz.prog 154 k_byte:=by
 intro(s:Src) (h:SrcOK s 1000000);have hb:=(s.c.getD s.at_ 0).toNat_lt;have e:((s.at_:Int)+1-1).toNat=s.at_:=by omega
 have ew:IntKind.i64.wrap ((s.c.getD s.at_ 0).toNat:Int)=((s.c.getD s.at_ 0).toNat:Int):=by rw[IntKind.wrap_i64];omega
 obtain⟨h1,h2,h3⟩:=h;refine v_byte s ⟨i64_rng (by omega),fun hc=> ?_,fun hc=>⟨fun hd=> ?_,fun hd=> ?_⟩⟩
 ·have hc:=of_decide_eq_true hc;have c1:s.at_+1<=s.c.length:=by omega
  rw[e,ew];unfold byV byS;rw[if_pos c1,if_pos c1];exact⟨i64_rng (by omega),i64_rng (by omega),⟨by omega,by omega⟩,i64_rng (by omega),i64_rng (by omega),by unfold Nz;decide,i64_rng (by omega),⟨by omega,by omega⟩,⟨rfl,trivial⟩,⟨rfl,rfl,rfl,rfl,rfl,trivial⟩,trivial⟩
 ·have hc:=of_decide_eq_false hc;have hd:=of_decide_eq_true hd;unfold byV byS;rw[if_neg (by omega),if_pos (by omega),if_neg (by omega),if_pos (by omega)]
  exact(by repeat' first|exact trivial|exact rfl|exact rowsR _ _|exact famR _|exact row0|exact le0 _|exact Nat.le_refl _|exact Nat.zero_le _|refine And.intro ?_ ?_)
 ·have hc:=of_decide_eq_false hc;have hd:=of_decide_eq_false hd;have t:=tmod_rng (a:=s.sd*1103515245+12345) (n:=2147483648) (by omega) (by decide)
  have t2:((s.sd*1103515245+12345).tmod 2147483648).tdiv 65536=((s.sd*1103515245+12345).tmod 2147483648)/65536:=Int.tdiv_eq_ediv_of_nonneg t.1;unfold byV byS;rw[if_neg (by omega),if_neg (by omega),if_neg (by omega),if_neg (by omega)]
  exact⟨i64_rng (by omega),i64_rng (by omega),by unfold Nz;decide,⟨by unfold Nz;decide,i64_rng (by omega)⟩,by unfold Nz;decide,⟨rfl,trivial⟩,⟨rfl,rfl,rfl,rfl,rfl,trivial⟩,trivial⟩
def k_next:Con:=.reff ⟨Src×Int,fun x=>[.ref 0 0 0,.int .i64 x.2],fun x=>[srcB x.1],fun x=>.int .i64 (nxV x.1 x.2),fun x=>[srcB (nxS x.1 x.2)],fun x=>SrcOK x.1 1000000/\x.2<=256⟩
noncomputable def b_next:Code:=Tryz.f95.body.getD .skip
theorem call_next:Callable Tryz.prog 95:=⟨_,Tryz.func95,by kernel_rfl,by kernel_rfl⟩
theorem v_next(s:Src)(n:Int)(h:
  (decide (n<=(1:Int))=true->((0:Int)=nxV s n/\True)/\(1=1/\1=1/\s.c=(nxS s n).c/\(s.at_:Int)=(↑(nxS s n).at_:Int)/\s.sd=(nxS s n).sd/\True)/\True)/\(decide (n<=(1:Int))=false->(decide (n<=(256
  :Int))=true->∃(x:Src),(((0=0/\0=0)/\True)/\((1=1/\RowsEq 1 (fun(x:Nat)=>[T.bys s.c,T.int .i64 (s.at_:Int),T.int .i64 s.sd]) fun(x_1:Nat)=>[T.bys x.c,T.int .i64 (x.at_:Int),T.int .i64 x.sd])/\True)
  /\SrcOK x 1000000)/\Nz n/\((byV x).tmod n=nxV s n/\True)/\(1=1/\1=1/\(byS x).c=(nxS s n).c/\(↑(byS x).at_:Int)=(↑(nxS s n).at_:Int)/\(byS x).sd=(nxS s n).sd/\True)/\True)/\(decide (n<=(256:Int))=
  false->∃(x:Src),(((0=0/\0=0)/\True)/\((1=1/\RowsEq 1 (fun(x:Nat)=>[T.bys s.c,T.int .i64 (s.at_:Int),T.int .i64 s.sd]) fun(x_1:Nat)=>[T.bys x.c,T.int .i64 (x.at_:Int),T.int .i64 x.sd])/\True)/\SrcOK x
  1000000)/\∃(x_1:Src),(((0=0/\0=0)/\True)/\((1=1/\RowsEq 1 (fun(x_2:Nat)=>[T.bys (byS x).c,T.int .i64 (↑(byS x).at_:Int),T.int .i64 (byS x).sd]) fun(x:Nat)=>[T.bys x_1.c,T.int .i64 (x_1.at_:Int),T.int
  .i64 x_1.sd])/\True)/\SrcOK x_1 1000000)/\∃(x_2:Src),(((0=0/\0=0)/\True)/\((1=1/\RowsEq 1 (fun(x:Nat)=>[T.bys (byS x_1).c,T.int .i64 (↑(byS x_1).at_:Int),T.int .i64 (byS x_1).sd]) fun(x:Nat)=>[T.bys
  x_2.c,T.int .i64 (x_2.at_:Int),T.int .i64 x_2.sd])/\True)/\SrcOK x_2 1000000)/\Rng .i64 (byV x*(65536:Int))/\Rng .i64 (byV x_1*(256:Int))/\Rng .i64 (byV x*(65536:Int)+byV x_1*(256:Int))/\Rng .i64 (byV x*
  (65536:Int)+byV x_1*(256:Int)+byV x_2)/\Nz n/\((byV x*(65536:Int)+byV x_1*(256:Int)+byV x_2).tmod n=nxV s n/\True)/\(1=1/\1=1/\(byS x_2).c=(nxS s n).c/\(↑(byS x_2).at_:Int)=(↑(nxS s n).at_
  :Int)/\(byS x_2).sd=(nxS s n).sd/\True)/\True))):
  EffFn Tryz.prog 95 [.ref 0 0 0,.int .i64 n] [srcB s] (.int .i64 (nxV s n)) [srcB (nxS s n)]:=
 vcG (code:=b_next) (gC byte_ok call_byte gN) Tryz.func95 (by kernel_rfl) (by kernel_rfl) noAnn [[.box 0]] h (by kernel_rfl)
theorem next_ok:ConOk Tryz.prog 95 k_next:=by
 rintro⟨s,n⟩ ⟨h,hn⟩;dsimp only at h hn;unfold nxV nxS;refine v_next s n ⟨fun hc=> ?_,fun hc=>⟨fun hd=>⟨s,⟨(by repeat' first|exact trivial|exact rfl|exact rowsR _ _|exact famR _|exact row0|exact le0 _|exact Nat.le_refl _|exact Nat.zero_le _|refine And.intro ?_ ?_),⟨⟨rfl,fun _ _=>rfl⟩,trivial⟩,h⟩,?_⟩,fun hd=>absurd (of_decide_eq_false hd) (by omega)⟩⟩
 ·unfold nxV nxS;rw[if_pos (of_decide_eq_true hc),if_pos (of_decide_eq_true hc)];exact(by repeat' first|exact trivial|exact rfl|exact rowsR _ _|exact famR _|exact row0|exact le0 _|exact Nat.le_refl _|exact Nat.zero_le _|refine And.intro ?_ ?_)
 ·have hc:=of_decide_eq_false hc;unfold nxV nxS;rw[if_neg hc,if_neg hc];exact⟨by unfold Nz;omega,(by repeat' first|exact trivial|exact rfl|exact rowsR _ _|exact famR _|exact row0|exact le0 _|exact Nat.le_refl _|exact Nat.zero_le _|refine And.intro ?_ ?_),(by repeat' first|exact trivial|exact rfl|exact rowsR _ _|exact famR _|exact row0|exact le0 _|exact Nat.le_refl _|exact Nat.zero_le _|refine And.intro ?_ ?_)⟩
def k_pick:Con:=.reff ⟨Src×List (List UInt8),fun x=>[.ref 0 0 0,strS x.2],fun x=>[srcB x.1],fun x=>.str (x.2.getD (nxV x.1 x.2.length).toNat []),fun x=>[srcB (nxS x.1 x.2.length)],fun x=>SrcOK x.1 1000000/\1<=x.2.length/\x.2.length<=256⟩
noncomputable def b_pick:Code:=Tryz.f96.body.getD .skip
theorem call_pick:Callable Tryz.prog 96:=⟨_,Tryz.func96,by kernel_rfl,by kernel_rfl⟩
theorem v_pick(s:Src)(L:List (List UInt8))(h:
  (((L.length:Int)==(0:Int))=true->([]=L.getD (nxV s (L.length:Int)).toNat []/\True)/\(1=1/\1=1/\s.c=(nxS s (L.length:Int)).c/\(s.at_:Int)=(↑(nxS s (L.length:Int)).at_:Int)/\s.sd=(nxS s (L.length:Int)).sd
  /\True)/\True)/\(((L.length:Int)==(0:Int))=false->∃(x:(Src×Int)),(((0=0/\0=0)/\(L.length:Int)=x.snd/\True)/\((1=1/\RowsEq 1 (fun(x:Nat)=>[T.bys s.c,T.int .i64 (s.at_:Int),T.int .i64 s.sd]) fun
  (x_1:Nat)=>[T.bys x.fst.c,T.int .i64 (x.fst.at_:Int),T.int .i64 x.fst.sd])/\True)/\SrcOK x.fst 1000000/\x.snd<=(256:Int))/\InB (nxV x.fst x.snd) L.length/\(L.getD (nxV x.fst x.snd).toNat []=L.getD (nxV s
  (L.length:Int)).toNat []/\True)/\(1=1/\1=1/\(nxS x.fst x.snd).c=(nxS s (L.length:Int)).c/\(↑(nxS x.fst x.snd).at_:Int)=(↑(nxS s (L.length:Int)).at_:Int)/\(nxS x.fst x.snd).sd=(nxS s (L.length:Int)).sd/\True)/\
  True)):
  EffFn Tryz.prog 96 [.ref 0 0 0,strS L] [srcB s] (.str (L.getD (nxV s L.length).toNat [])) [srcB (nxS s L.length)]:=
 vcG (code:=b_pick) (gC next_ok call_next gN) Tryz.func96 (by kernel_rfl) (by kernel_rfl) noAnn [[.box 0]] h (by kernel_rfl)
theorem pick_ok:ConOk Tryz.prog 96 k_pick:=by
 rintro⟨s,L⟩ ⟨h,h1,h2⟩;dsimp only at h h1 h2;have hn:=nx_rng h (n:=(L.length:Int)) (by omega)
 refine v_pick s L ⟨fun hc=>by have:=eq_of_beq hc;omega,fun _=>⟨(s,(L.length:Int)),⟨(by repeat' first|exact trivial|exact rfl|exact rowsR _ _|exact famR _|exact row0|exact le0 _|exact Nat.le_refl _|exact Nat.zero_le _|refine And.intro ?_ ?_),⟨⟨rfl,fun _ _=>rfl⟩,trivial⟩,h,by dsimp only;omega⟩,⟨hn.1,hn.2.1⟩,⟨rfl,trivial⟩,⟨rfl,rfl,rfl,rfl,rfl,trivial⟩,trivial⟩⟩
def secE(n:Nat):List (List UInt8):=List.replicate n []
def dsk0(n:Nat):Dsk:=⟨secE n,[],false,[]⟩
def k_l02New:Con:=.rmk ⟨Nat,fun n=>[.int .i64 n],fun _=>[],fun n=>.agg ((dsk0 n).tm 0),fun n=>(dsk0 n).hp,fun n=>1<=n/\n<=100⟩
noncomputable def b_l02New:Code:=Tryz.f152.body.getD .skip
theorem call_l02New:Callable Tryz.prog 152:=⟨_,Tryz.func152,by kernel_rfl,by kernel_rfl⟩
theorem v_l02New(n:Nat)(h:
  (Nn (n:Int)/\LeI (n:Int) (n:Int)/\sizeB 16 (n:Int).toNat 140737488355328/\Lt (n:Int).toNat 9223372036854775808)/\(((0=0/\(n:Int).toNat=(secE n).length)/\(0=0/\0=0)/\false=false/\(0=0/\0=0)/\True)/\True)/\
  ((n:Int).toNat=(secE n).length/\RowsEq (n:Int).toNat (fun(x:Nat)=>[T.str []]) (strRow (secE n)))/\(0=0/\RowsEq 0 (fun(k:Nat)=>List.take 2 (List.drop (k*2) [])) (pendRow []))/\(0=0/\RowsEq 0 (fun(k:Nat)=>
  List.take 1 (List.drop (k*1) [])) (intRow []))/\True):
  EffFn Tryz.prog 152 [.int .i64 n] [] (.agg ((dsk0 n).tm 0)) ((dsk0 n).hp):=
 vcG (code:=b_l02New) gN Tryz.func152 (by kernel_rfl) (by kernel_rfl) noAnn [[.arr 1,.arr 2,.arr 3]] h (by kernel_rfl)
theorem l02New_ok:ConOk Tryz.prog 152 k_l02New:=by
 rintro n ⟨h1,h2⟩;have e:(n:Int).toNat=(secE n).length:=by simp[secE]
 refine⟨v_l02New n ⟨⟨by unfold Nn;omega,by unfold LeI;omega,by unfold sizeB;omega,by unfold Lt;omega⟩,⟨⟨⟨rfl,e⟩,(by repeat' first|exact trivial|exact rfl|exact rowsR _ _|exact famR _|exact row0|exact le0 _|exact Nat.le_refl _|exact Nat.zero_le _|refine And.intro ?_ ?_)⟩,trivial⟩,⟨e,fun i hi=> ?_⟩,(by repeat' first|exact trivial|exact rfl|exact rowsR _ _|exact famR _|exact row0|exact le0 _|exact Nat.le_refl _|exact Nat.zero_le _|refine And.intro ?_ ?_)⟩,rfl,plain_dsk _⟩
 unfold strRow secE;rw[List.getD_eq_getElem?_getD,List.getElem?_replicate]
 split<;>rfl
def hdB(ep:Int):List UInt8:=[ofI 104,u8b ep]++by4 (crc [ofI 104,u8b ep])
def k_l04Header:Con:=.rel ⟨Int,fun e=>[.int .i64 e],fun e=>.str (hdB e),fun _=>True⟩
noncomputable def b_l04Header:Code:=Tryz.f153.body.getD .skip
theorem call_l04Header:Callable Tryz.prog 153:=⟨_,Tryz.func153,by kernel_rfl,by kernel_rfl⟩
theorem v_l04Header(e:Int)(h:
  (Rng IntKind.u8 (104:Int)/\Rng IntKind.u8 (IntKind.u8.wrap e))/\SealB 2 (List.map ofI [(104:Int),IntKind.u8.wrap e])/\List.map ofI [(104:Int),IntKind.u8.wrap e]++by4 (crc (List.map ofI [(104:Int),IntKind.u8.wrap
  e]))=hdB e):
  PureFn Tryz.prog 153 [.int .i64 e] (.str (hdB e)):=
 vcR (code:=b_l04Header) (gC l03Sealed_ok call_l03Sealed gN) Tryz.func153 (by kernel_rfl) (by kernel_rfl) noAnn h (by kernel_rfl)
theorem l04Header_ok:ConOk Tryz.prog 153 k_l04Header:=fun e _=>v_l04Header e ⟨⟨(rng_u8 _).2 (by omega),u8_rng _⟩,⟨rfl,by show 2<=1000000;decide⟩,rfl⟩
def sto0:Sto:=⟨⟨(secE 69).set 0 (hdB 1),[],false,[]⟩,1,[],0,[],0⟩
def k_NewStores:Con:=.rel ⟨Unit,fun _=>[],fun _=>.agg sto0.ts,fun _=>True⟩
noncomputable def b_NewStores:Code:=Tryz.f94.body.getD .skip
theorem v_NewStores(h:
  ∃(x:Nat),(((69:Int)=(x:Int)/\True)/\1<=x/\x<=100)/\∃(x_1:Int),(((1:Int)=x_1/\True)/\True)/\InB (0:Int) (secE x).length/\Lt 0 (secE x).length/\(Le (0+(secE x).length) (secE x).length/\Le 0 0/\Le 0 0
  /\Le 0 0/\Le 0 0)/\((secE x).length=69/\RowsEq (secE x).length (setRow (strRow (secE x)) 0 0 [T.str (hdB x_1)]) (strRow ((secE 69).set 0 (hdB (1:Int)))))/\(0=0/\RowsEq 0 (pendRow []) (pendRow []))/\false=false/\(0=
  0/\RowsEq 0 (intRow []) (intRow []))/\(1:Int)=(1:Int)/\(0=0/\RowsEq 0 (fun(k:Nat)=>List.take 10 (List.drop (k*10) [])) (recRow []))/\(0:Int)=(0:Int)/\(0=0/\RowsEq 0 (fun(k:Nat)=>List.take 5
  (List.drop (k*5) [])) (frmRow []))/\(0:Int)=(0:Int)/\True):
  PureFn Tryz.prog 94 [] (.agg sto0.ts):=
 vcR (code:=b_NewStores) (gC l02New_ok call_l02New (gC l04Header_ok call_l04Header gN)) Tryz.func94 (by kernel_rfl) (by kernel_rfl) noAnn h (by kernel_rfl)
theorem NewStores_ok:ConOk Tryz.prog 94 k_NewStores:=by
 intro _ _;have h69:(secE 69).length=69:=List.length_replicate;have ho:(0:Int).toNat=0:=rfl;exact v_NewStores ⟨69,⟨⟨rfl,trivial⟩,by decide,by decide⟩,1,⟨⟨rfl,trivial⟩,trivial⟩,⟨by decide,by omega⟩,by unfold Lt;omega,⟨by unfold Le;omega,(by repeat' first|exact trivial|exact rfl|exact rowsR _ _|exact famR _|exact row0|exact le0 _|exact Nat.le_refl _|exact Nat.zero_le _|refine And.intro ?_ ?_)⟩,⟨h69,fun j hj=>str_set j hj⟩,(by repeat' first|exact trivial|exact rfl|exact rowsR _ _|exact famR _|exact row0|exact le0 _|exact Nat.le_refl _|exact Nat.zero_le _|refine And.intro ?_ ?_),rfl,(by repeat' first|exact trivial|exact rfl|exact rowsR _ _|exact famR _|exact row0|exact le0 _|exact Nat.le_refl _|exact Nat.zero_le _|refine And.intro ?_ ?_)⟩
end Go.Proofs.YtndilbkocjlgpaaGreat

namespace Go.Proofs.YtndilbkocjlgpaaGreat
open Go.SS

theorem u8b_nat(n:Int):((u8b n).toNat:Int)=n % 256:=by
 unfold u8b;rw[ofI_eq (u8_rng _),IntKind.wrap_u8]
theorem u8b_in{n:Int}(h:0<=n)(h2:n<=255):((u8b n).toNat:Int)=n:=by
 rw[u8b_nat];omega
theorem be_by2{n:Nat}(h:n<65536):be (by2 n)=n:=by
 have e1:=u8b_nat ((n:Int).fdiv 256);have e2:=u8b_nat ((n:Int).fdiv 1);rw[Int.fdiv_eq_ediv_of_nonneg _ (by decide)] at e1 e2
 show(0*256+(u8b ((n:Int).fdiv 256)).toNat)*256+(u8b ((n:Int).fdiv 1)).toNat=n;rw[Int.fdiv_eq_ediv_of_nonneg _ (by decide),Int.fdiv_eq_ediv_of_nonneg _ (by decide)]
 omega
theorem be_by4{n:Nat}(h:n<4294967296):be (by4 n)=n:=by
 have e1:=u8b_nat ((n:Int).fdiv 16777216);have e2:=u8b_nat ((n:Int).fdiv 65536);have e3:=u8b_nat ((n:Int).fdiv 256);have e4:=u8b_nat ((n:Int).fdiv 1);rw[Int.fdiv_eq_ediv_of_nonneg _ (by decide)] at e1 e2 e3 e4
 show(((0*256+(u8b ((n:Int).fdiv 16777216)).toNat)*256+(u8b ((n:Int).fdiv 65536)).toNat)*256+(u8b ((n:Int).fdiv 256)).toNat)*256+(u8b ((n:Int).fdiv 1)).toNat=n;rw[Int.fdiv_eq_ediv_of_nonneg _ (by decide),Int.fdiv_eq_ediv_of_nonneg _ (by decide),Int.fdiv_eq_ediv_of_nonneg _ (by decide),Int.fdiv_eq_ediv_of_nonneg _ (by decide)]
 omega
theorem uns_seal(l:List UInt8):unsOK (l++by4 (crc l))=true/\unsB (l++by4 (crc l))=l:=by
 have h4:(by4 (crc l)).length=4:=rfl;have hl:(l++by4 (crc l)).length-4=l.length:=by rw[List.length_append,h4];omega
 have ht:(l++by4 (crc l)).take l.length=l:=List.take_left;have hd:(l++by4 (crc l)).drop l.length=by4 (crc l):=List.drop_left;have ok:unsOK (l++by4 (crc l))=true:=by
  unfold unsOK;rw[hl,ht,hd,be_by4 (crc_lt l),List.length_append,h4];simp
 refine⟨ok,?_⟩
 unfold unsB;rw[if_pos ok,hl,ht]
def FldOK(L:List (List UInt8)):Prop:=L.length<=100/\∀i,i<L.length->(L.getD i []).length<=255
theorem fld_pre(L:List (List UInt8))(i:Nat):∀k,∃r,fldAt L (i+k)=fldAt L i++r
 |0=>⟨[],by simp⟩
 |k+1=>by
  obtain⟨r,hr⟩:=fld_pre L i k;refine⟨r++[u8b (L.getD (i+k) []).length]++L.getD (i+k) [],?_⟩
  show fldAt L (i+k)++[u8b (L.getD (i+k) []).length]++L.getD (i+k) []=_;rw[hr];simp only[List.append_assoc]
theorem take_succ'{α:Type}(d:α)(L:List α){i:Nat}(h:i<L.length):L.take (i+1)=L.take i++[L.getD i d]:=by
 rw[List.take_add_one,List.getD_eq_getElem?_getD,List.getElem?_eq_getElem h]
 rfl
theorem fl_fld{L:List (List UInt8)}(h:FldOK L):∀i,i<=L.length->flAt (fldB L) i=some ((fldAt L i).length,L.take i)
 |0,_=>rfl
 |i+1,hi=>by
  obtain⟨r,hr⟩:=fld_pre L (i+1) (L.length- (i+1));rw[show i+1+(L.length- (i+1))=L.length by omega] at hr
  have hc:((u8b (L.getD i []).length).toNat:Int)=(L.getD i []).length:=u8b_in (by omega) (by have:=h.2 i (by omega);omega)
  have hb:fldB L=fldAt L i++([u8b (L.getD i []).length]++(L.getD i []++r)):=by
   unfold fldB;rw[hr];show fldAt L i++[u8b (L.getD i []).length]++L.getD i []++r=_;simp only[List.append_assoc]
  have g:(fldB L).getD (fldAt L i).length 0=u8b (L.getD i []).length:=by
   rw[hb,List.getD_eq_getElem?_getD,List.getElem?_append_right (Nat.le_refl _)]
   simp
  have hl:(fldB L).length=(fldAt L i).length+(1+((L.getD i []).length+r.length)):=by rw[hb];simp only[List.length_append,List.length_cons,List.length_nil]
  have hn:(u8b (L.getD i []).length).toNat=(L.getD i []).length:=by omega
  have e3:List.drop ((fldAt L i).length+1) (List.take ((fldAt L i).length+1+(L.getD i []).length) (fldB L))=L.getD i []:=by
   rw[hb,←List.append_assoc,←List.append_assoc];rw[List.take_left' (by simp only[List.length_append,List.length_cons,List.length_nil]),List.drop_left' (by simp only[List.length_append,List.length_cons,List.length_nil])]
  conv=>lhs;unfold flAt
  rw[fl_fld h i (by omega)]
  dsimp only;rw[g,hn,if_pos ⟨by omega,by omega⟩,e3,take_succ' [] L (by omega)]
  congr 2
  simp only[fldAt,List.length_append,List.length_cons,List.length_nil]
theorem flAll_fld{L:List (List UInt8)}(h:FldOK L):flAll (fldB L)=some L:=by
 obtain⟨r,hr⟩:=fld_pre L 0 L.length;rw[Nat.zero_add] at hr;have hc:((u8b L.length).toNat:Int)=L.length:=u8b_in (by omega) (by have:=h.1;omega)
 have hf:fcnt (fldB L)=L.length:=by
  unfold fcnt fldB;rw[hr];show(u8b L.length).toNat=_;omega
 have hl:(fldB L).length≠0:=by
  unfold fldB;rw[hr];simp[fldAt]
 unfold flAll;rw[hf,if_neg (by have:=h.1;omega),fl_fld h _ (Nat.le_refl _)]
 dsimp only;rw[show(fldAt L L.length).length=(fldB L).length from rfl,if_pos rfl,List.take_length]
theorem rd_pg{no:Int}{p:Pg}(h:PgP p)(h0:0<=no)(h1:no<=255):rdPg no (pgBytes no p)=(p,true):=by
 obtain⟨p1,p2,p3,p4⟩:=h;obtain⟨u1,u2⟩:=uns_seal (pgB0 no p);have hF:FldOK p.sl:=⟨by omega,fun i hi=>Nat.le_trans (p4 i hi) (by decide)⟩
 obtain⟨r,hr⟩:=fld_pre p.sl 0 p.sl.length;have hlen:1<=(fldB p.sl).length:=by
  unfold fldB;rw[←Nat.zero_add p.sl.length,hr];simp[fldAt]
 have e0:pgB0 no p=ofI 112::u8b no::(by2 p.lsn.toNat++fldB p.sl):=by unfold pgB0;simp
 have e2:(by2 p.lsn.toNat).length=2:=rfl;have hh:hdrOK no (pgB0 no p)=true:=by
  unfold hdrOK;rw[e0];simp only[List.length_cons,List.length_append,e2,Bool.and_eq_true,decide_eq_true_eq];exact⟨by omega,rfl,u8b_in h0 h1⟩
 have d4:(pgB0 no p).drop 4=fldB p.sl:=by
  unfold pgB0;exact List.drop_left' (by simp[e2])
 have d2:((pgB0 no p).drop 2).take 2=by2 p.lsn.toNat:=by
  rw[e0];exact List.take_left' e2
 have hx:pgX (pgB0 no p)=p:=by
  unfold pgX;rw[d4,d2,flAll_fld hF,be_by2 (by omega),Option.getD_some,show((p.lsn.toNat:Nat):Int)=p.lsn by omega]
 have ok:pgOK p=true:=decide_eq_true ⟨p1,p2,p3,p4⟩;unfold rdPg pgBytes;rw[u1,u2,hh,hx,d4,flAll_fld hF,ok];rfl
theorem fld_sz(L:List (List UInt8))(h:∀i,i<L.length->(L.getD i []).length<=30):∀i,i<=L.length->(fldAt L i).length<=1+31*i
 |0,_=>by simp[fldAt]
 |i+1,hi=>by
  have h1:=fld_sz L h i (by omega)
  have h2:=h i (by omega)
  simp only[fldAt,List.length_append,List.length_cons,List.length_nil];omega
theorem pg_sz{no:Int}{p:Pg}(h:PgP p):(pgBytes no p).length<=160/\pgBytes no p≠[]:=by
 obtain⟨p1,p2,p3,p4⟩:=h;have:=fld_sz p.sl p4 p.sl.length (Nat.le_refl _);have e4:(by4 (crc (pgB0 no p))).length=4:=rfl;have e2:(by2 p.lsn.toNat).length=2:=rfl;have hl:(pgBytes no p).length=8+(fldB p.sl).length:=by
  unfold pgBytes;rw[List.length_append,e4];unfold pgB0;simp only[List.length_append,List.length_cons,List.length_nil,e2];omega
 refine⟨by rw[hl];unfold fldB;omega,fun e=> ?_⟩
 rw[e] at hl;simp at hl;omega
end Go.Proofs.YtndilbkocjlgpaaGreat

namespace Go.Proofs.YtndilbkocjlgpaaGreat
open Go.SS

theorem eq_setE{L:List Frm}{k:Nat}(f:Frm)(i:Nat)(hk:k<L.length):(L.set k f).getD i default=if i=k then f else L.getD i default:=by
 by_cases h:i=k
 ·subst h;rw[if_pos rfl];exact set_at f hk
 ·rw[if_neg h,List.getD_eq_getElem?_getD,List.getElem?_set_ne (Ne.symm h),←List.getD_eq_getElem?_getD]
theorem app_at{α:Type}(d:α)(L:List α)(x:α)(i:Nat)(hi:i<L.length+1):(L++[x]).getD i d=if i=L.length then x else L.getD i d:=by
 by_cases h:i=L.length
 ·subst h;rw[if_pos rfl,List.getD_eq_getElem?_getD,List.getElem?_append_right (Nat.le_refl _)]
  simp
 ·rw[if_neg h,List.getD_eq_getElem?_getD,List.getElem?_append_left (by omega),←List.getD_eq_getElem?_getD]
structure DG(d:Dsk):Prop where
 ar:d.armed=false
 kp:d.keep.length=0
 n69:d.sec.length=69
 sc:∀i,i<69->(d.sec.getD i []).length<=160
 cc:∀i,i<d.cache.length->0<=(d.cache.getD i default).at_/\(d.cache.getD i default).at_<69/\(d.cache.getD i default).d.length<=160
theorem DG.pd{d:Dsk}(h:DG d):PdB d:=fun i hi=>by
 have:=h.cc i hi;rw[h.n69];omega
theorem DG.P{d:Dsk}(h:DG d)(hc:d.cache.length<=500):DskP d:=by
 have h1:=h.n69;have h2:=h.kp;refine⟨by omega,by omega,hc,by omega,fun _=>h2,fun i hi=>h.sc i (by omega),fun i hi=> ?_⟩
 obtain⟨c1,c2,c3⟩:=h.cc i hi;unfold badPend inR;rw[h1];simp only[Bool.or_eq_false_iff,Bool.not_eq_false',Bool.and_eq_true,decide_eq_true_eq,decide_eq_false_iff_not];omega
theorem dg_rd{d:Dsk}(h:DG d){n:Nat}(hn:n<69):(rdAt d n).length<=160:=by
 have key:∀m,m<=d.cache.length->∀l,lastAt d.cache n m=some l->l.length<=160:=by
  intro m;induction m with
  |zero=>intro _ l hl;cases hl
  |succ m ih=>
   intro hm l hl;unfold lastAt at hl;split at hl
   ·cases hl;exact(h.cc m (by omega)).2.2
   ·exact ih (by omega) l hl
 unfold rdAt;cases hl:lastAt d.cache n d.cache.length with
 |none=>exact h.sc n hn
 |some l=>exact key _ (Nat.le_refl _) l hl
theorem dg_syn{d:Dsk}(h:DG d):DG (synD d).1/\(synD d).2=true/\(synD d).1.cache=[]/\∀n,n<69->rdAt (synD d).1 n=rdAt d n:=by
 have hu:(synD d).2=true:=by unfold synD;rw[if_neg (by rw[h.ar];simp)]
 have hr:∀n,n<69->rdAt (synD d).1 n=rdAt d n:=fun n hn=>rd_syn hu h.pd (by rw[h.n69];exact hn)
 have e:=syn_t hu;have hc:=syn_cache d;refine⟨⟨by rw[e];exact h.ar,by rw[e];exact h.kp,by rw[syn_sec];exact h.n69,fun i hi=> ?_,fun i hi=> ?_⟩,hu,hc,hr⟩
 ·have:=hr i hi;have h2:rdAt (synD d).1 i=(synD d).1.sec.getD i []:=by
   unfold rdAt;rw[hc];rfl
  rw[←h2,this];exact dg_rd h hi
 ·rw[hc] at hi;exact absurd hi (Nat.not_lt_zero _)
theorem dg_wr{d:Dsk}(h:DG d){a:Int}{t:List UInt8}(h0:0<=a)(h1:a<69)(ht:t.length<=160):DG (wrD d a t):=by
 refine⟨h.ar,h.kp,h.n69,h.sc,fun i hi=> ?_⟩
 have hi:i<d.cache.length+1:=by unfold wrD at hi;dsimp only at hi;rw[List.length_append] at hi;exact hi
 show 0<=((d.cache++[(⟨a,t⟩:Pend)]).getD i default).at_/\((d.cache++[(⟨a,t⟩:Pend)]).getD i default).at_<69/\((d.cache++[(⟨a,t⟩:Pend)]).getD i default).d.length<=160;rw[app_at default _ _ _ hi];split
 ·exact⟨h0,h1,ht⟩
 ·exact h.cc i (by omega)
theorem rec_sz{r:Rec}(h:recOK r=true):r.b.length<=30/\r.a.length<=38:=by
 have h:=(recOK_iff r).1 h;unfold RecP at h;obtain⟨_,_,_,_,_,_,_,_,_,_,_,_,_,_,hb,h6,h7⟩:=h;refine⟨by omega,?_⟩
 by_cases hk:r.k=6
 ·exact chk_len (h6 hk).2.2.2.2.2.2
 ·have:=(h7 hk).2.2.1;omega
theorem rc_sz{r:Rec}(h:recOK r=true):(rcBytes r).length<=160/\rcBytes r≠[]:=by
 obtain⟨h1,h2⟩:=rec_sz h;have e4:(by4 (crc (rcB0 r))).length=4:=rfl;have hl:(rcBytes r).length=16+(r.b.length+r.a.length):=by
  unfold rcBytes rcB0;rw[List.length_append];simp only[fldB,fldAt,List.length_append,List.length_cons,List.length_nil];show _+4=_;simp;omega
 refine⟨by omega,fun e=> ?_⟩
 rw[e] at hl;simp at hl;omega
theorem dg_wrN{s:Sto}{l:Int}(hd:DG s.d)(ho:areOK s.log=true)(h:FluB s l):∀i,i<=fluN s l->DG (wrN s i)/\∀n,n<69->rdAt (wrN s i) n=if 9+s.sure.toNat<=n/\n<9+s.sure.toNat+i then rcBytes (s.log.getD (n-9) default) else rdAt s.d n
 |0,_=>by
  have:wrN s 0=s.d:=by unfold wrN;simp
  rw[this];exact⟨hd,fun n _=>by rw[if_neg (by omega)]⟩
 |i+1,hi=>by
  have e:wrN s (i+1)=wrD (wrN s i) (pdR s i).at_ (pdR s i).d:=by
   unfold wrN wrD;dsimp only;rw[←wrN_succ]
  obtain⟨e2,e3,e4⟩:=flu_nd h (i:=i) (by omega)
  obtain⟨g1,g2⟩:=dg_wrN hd ho h i (by omega)
  obtain⟨_,_,_,_,h0,_,h6,h7,_⟩:=h;have hz:(rcBytes (s.log.getD (s.sure.toNat+i) default)).length<=160:=(rc_sz (areOK_iff.1 ho (s.sure.toNat+i) (by omega)).1).1
  rw[e];refine⟨dg_wr g1 (by omega) (by omega) hz,fun n hn=> ?_⟩
  rw[rd_wrD,g2 n hn,e2];by_cases hq:9+s.sure+(i:Int)=n
  ·rw[if_pos hq,if_pos (by omega),show n-9=s.sure.toNat+i by omega]
   rfl
  ·rw[if_neg hq];by_cases hp:9+s.sure.toNat<=n/\n<9+s.sure.toNat+i
   ·rw[if_pos hp,if_pos (by omega)]
   ·rw[if_neg hp,if_neg (by omega)]
def FrP(n:Nat)(f:Frm):Prop:=0<=f.no/\f.no<=7/\PgP f.pg/\f.pg.lsn<=n/\0<=f.first/\f.first<=n/\(f.dirty=true↔0<f.first)
structure GInv(s:Sto):Prop where
 dg:DG s.d
 ca:s.d.cache.length<=500
 ep:1<=s.ep/\s.ep<=60
 l60:s.log.length<=60
 rc:areOK s.log=true
 su:0<=s.sure/\s.sure<=s.log.length
 be:∀i,i<s.log.length->badEp s i=false
 pg:∀no,no<8->(pgAt s.d no).2=true/\(pgAt s.d no).1.lsn<=s.sure
 fr3:s.fr.length<=3
 fp:∀i,i<s.fr.length->FrP s.log.length (s.fr.getD i default)
 nd:∀i j,i<s.fr.length->j<s.fr.length->(s.fr.getD i default).no=(s.fr.getD j default).no->i=j
 cl:∀i,i<s.fr.length->(s.fr.getD i default).dirty=false->(pgAt s.d (s.fr.getD i default).no.toNat).1=(s.fr.getD i default).pg
 hd:0<=s.hand/\s.hand<=2
 lg:∀i,i<s.sure.toNat->rdAt s.d (9+i)=rcBytes (s.log.getD i default)
 lz:∀i,s.sure.toNat<=i->i<60->rdAt s.d (9+i)=[]
theorem frAt_is{L:List Frm}{no:Int}(h:0<=frAt L no):(L.getD (frAt L no).toNat default).no=no:=by
 unfold frAt fstI at h ⊢;split at h
 ·rename_i i hi;have:=List.find?_some hi
  simpa[isNo] using this
 ·omega
theorem frAt_nd{L:List Frm}{i:Nat}(hi:i<L.length)(nd:∀i j,i<L.length->j<L.length->(L.getD i default).no=(L.getD j default).no->i=j):frAt L (L.getD i default).no=i:=by
 have h:0<=frAt L (L.getD i default).no:=Classical.byContradiction fun h=>frAt_no h hi rfl
 have hk:=frAt_in h;have:(L.getD (frAt L (L.getD i default).no).toNat default).no=(L.getD i default).no:=frAt_is h;have:=nd _ _ hk hi this;omega
theorem GInv.ok{s:Sto}(h:GInv s):stoOK s=true:=by
 refine(sto_split s).2 ⟨⟨(hdr_split s).2 ⟨h.dg.P h.ca,h.dg.n69,h.ep.1,h.ep.2,h.l60⟩,h.rc,?_⟩,h.be,fun no hn=> ?_,?_,?_⟩
 ·have:=h.su;simp[inR,this]
 ·obtain⟨a,b⟩:=h.pg no hn;unfold badPg;rw[a];simp only[Bool.not_true,Bool.false_or,decide_eq_false_iff_not];omega
 ·unfold frmsOK;have h3:=h.fr3;rw[anyI_no.2 fun i hi=> ?_]
  ·simp;omega
  ·obtain⟨p1,p2,p3,p4,p5,p6,p7⟩:=h.fp i hi;unfold frmBad;rw[frAt_nd hi h.nd,show pgOK (s.fr.getD i default).pg=true from decide_eq_true p3]
   simp only[inR,Bool.or_eq_false_iff,Bool.not_eq_false',Bool.and_eq_true,decide_eq_true_eq,decide_eq_false_iff_not,bne_self_eq_false,true_and,and_true,Bool.not_true,bne_eq_false_iff_eq];refine⟨⟨⟨⟨p1,p2⟩,by omega⟩,p5,p6⟩,?_⟩
   rw[Bool.eq_iff_iff,decide_eq_true_eq];exact p7.symm
 ·have:=h.hd;simp[inR,this]
theorem GInv.sm{s:Sto}(h:GInv s):SmS s:=by
 have h1:=h.dg.n69;have h2:=h.dg.kp;have h3:=h.ca;have h4:=h.l60;have h5:=h.fr3;refine⟨⟨by omega,by omega,by omega⟩,by omega,by omega,fun i hi=> ?_⟩
 have:=(h.fp i hi).2.2.1.2.2.1;unfold SmF SmG;omega
theorem GInv.inv{s:Sto}(h:GInv s):SInv s:=sto_inv h.ok h.sm
end Go.Proofs.YtndilbkocjlgpaaGreat

namespace Go.Proofs.YtndilbkocjlgpaaGreat
open Go.SS

theorem g_flu{s:Sto}{l:Int}(h:GInv s)(hl:l<=s.log.length):GInv (fluS s l).1/\(fluS s l).2=true/\l<=(fluS s l).1.sure:=by
 by_cases hs:l<=s.sure
 ·rw[flu_le hs];exact⟨h,rfl,hs⟩
 ·have hF:=h.inv.flu hl;have h60:=h.l60;have hsu:=h.su;obtain⟨g1,g2⟩:=dg_wrN h.dg h.rc hF (fluN s l) (Nat.le_refl _);obtain⟨y1,y2,y3,y4⟩:=dg_syn g1;have hN:fluN s l=l.toNat-s.sure.toNat:=rfl;have rd:∀n,n<69->rdAt (synD (wrN s (fluN s l))).1 n=if 9+s.sure.toNat<=n/\n<9+s.sure.toNat+fluN s l then rcBytes (s.log.getD (n-9) default) else rdAt s.d n:=fun n hn=>(y4 n hn).trans (g2 n hn)
  have rp:∀no,no<8->rdAt (synD (wrN s (fluN s l))).1 (1+no)=rdAt s.d (1+no):=fun no hn=>by rw[rd _ (by omega),if_neg (by omega)]
  rw[flu_gt hs,y2,if_pos rfl];refine⟨⟨y1,by show(synD _).1.cache.length<=_;rw[y3];exact Nat.zero_le _,h.ep,h.l60,h.rc,⟨by show 0<=l;omega,hl⟩,h.be,fun no hn=> ?_,h.fr3,h.fp,h.nd,fun i hi hc=> ?_,h.hd,fun i hi=> ?_,fun i hi h6=> ?_⟩,rfl,Int.le_refl _⟩
  ·obtain⟨a,b⟩:=h.pg no hn;show(pgAt (synD _).1 no).2=true/\(pgAt (synD _).1 no).1.lsn<=l;rw[(pgAt_congr (rp no hn)).1];exact⟨a,by omega⟩
  ·have hf:=h.fp i hi;show(pgAt (synD _).1 _).1=_;rw[(pgAt_congr (rp (s.fr.getD i default).no.toNat (by obtain⟨f1,f2,_⟩:=hf;omega))).1]
   exact h.cl i hi hc
  ·have hi:i<l.toNat:=hi;show rdAt (synD _).1 (9+i)=_;rw[rd _ (by omega)]
   by_cases hq:s.sure.toNat<=i
   ·rw[if_pos (by omega),show 9+i-9=i by omega]
   ·rw[if_neg (by omega)]
    exact h.lg i (by omega)
  ·have hi:l.toNat<=i:=hi;show rdAt (synD _).1 (9+i)=_;rw[rd _ (by omega),if_neg (by omega)]
   exact h.lz i (by omega) h6
theorem g_sd{s:Sto}{d:Dsk}(h:GInv s)(hd:DG d)(hc:d.cache.length<=500)(hr:∀n,n<69->rdAt d n=rdAt s.d n):GInv (s.sd d):=by
 have h60:=h.l60;have hsu:=h.su;refine⟨hd,hc,h.ep,h.l60,h.rc,h.su,h.be,fun no hn=> ?_,h.fr3,h.fp,h.nd,fun i hi hc=> ?_,h.hd,fun i hi=> ?_,fun i hi h6=> ?_⟩
 ·show(pgAt d no).2=true/\(pgAt d no).1.lsn<=_;rw[(pgAt_congr (hr (1+no) (by omega))).1]
  exact h.pg no hn
 ·have hf:=h.fp i hi;show(pgAt d (s.fr.getD i default).no.toNat).1=(s.fr.getD i default).pg;rw[(pgAt_congr (hr (1+(s.fr.getD i default).no.toNat) (by obtain⟨f1,f2,_⟩:=hf;omega))).1]
  exact h.cl i hi hc
 ·have hi:i<s.sure.toNat:=hi;show rdAt d (9+i)=_;rw[hr _ (by omega)]
  exact h.lg i hi
 ·show rdAt d (9+i)=_;rw[hr _ (by omega)]
  exact h.lz i hi h6
theorem g_syn5{s:Sto}(h:GInv s):GInv (s.sd (syn5 s.d).1)/\(syn5 s.d).2=true:=by
 by_cases hc:500<=s.d.cache.length
 ·rw[syn5_t hc];obtain⟨y1,y2,y3,y4⟩:=dg_syn h.dg;exact⟨g_sd h y1 (by rw[y3];exact Nat.zero_le _) y4,y2⟩
 ·rw[syn5_f hc];exact⟨h,rfl⟩
theorem g_wr{a:Sto}{k:Nat}(h:GInv a)(hc:a.d.cache.length<=499)(hk:k<a.fr.length)(hl:(a.fr.getD k default).pg.lsn<=a.sure):GInv (wrF a k):=by
 have h60:=h.l60;have hsu:=h.su;obtain⟨f1,f2,f3,f4,f5,f6,f7⟩:=h.fp k hk;have hz:=(pg_sz (no:=(a.fr.getD k default).no) f3).1;have hz2:=(pg_sz (no:=(a.fr.getD k default).no) f3).2;have eL:(a.fr.set k (clF (a.fr.getD k default))).length=a.fr.length:=List.length_set;have eG:=fun i=>eq_setE (clF (a.fr.getD k default)) i hk
 have rd:∀n,rdAt (wrF a k).d n=if 1+(a.fr.getD k default).no=n then pgBytes (a.fr.getD k default).no (a.fr.getD k default).pg else rdAt a.d n:=fun n=>rd_wrD _ _ _ _
 have pgk:pgAt (wrF a k).d (a.fr.getD k default).no.toNat=((a.fr.getD k default).pg,true):=by
  have hr:rdAt (wrF a k).d (1+(a.fr.getD k default).no.toNat)=pgBytes (a.fr.getD k default).no (a.fr.getD k default).pg:=by rw[rd,if_pos (by omega)]
  unfold pgAt;rw[hr,if_neg hz2,show(((a.fr.getD k default).no.toNat:Nat):Int)=(a.fr.getD k default).no by omega]
  exact rd_pg f3 f1 (by omega)
 have pgn:∀no:Nat,no<8->(a.fr.getD k default).no≠no->pgAt (wrF a k).d no=pgAt a.d no:=fun no hn hne=>(pgAt_congr (by rw[rd,if_neg (by omega)])).1
 refine⟨dg_wr h.dg (by omega) (by omega) hz,?_,h.ep,h.l60,h.rc,h.su,h.be,fun no hn=> ?_,?_,fun i hi=> ?_,fun i j hi hj he=> ?_,fun i hi hcl=> ?_,h.hd,fun i hi=> ?_,fun i hi h6=> ?_⟩
 ·show(a.d.cache++[_]).length<=500;rw[List.length_append];simp only[List.length_cons,List.length_nil];omega
 ·by_cases hne:(a.fr.getD k default).no=no
  ·rw[show no=(a.fr.getD k default).no.toNat by omega,pgk]
   exact⟨rfl,hl⟩
  ·rw[pgn no hn hne];exact h.pg no hn
 ·show(List.set _ _ _).length<=3;rw[eL];exact h.fr3
 ·have hi:i<a.fr.length:=by have:i<(a.fr.set k (clF (a.fr.getD k default))).length:=hi;omega
  show FrP a.log.length ((a.fr.set k (clF (a.fr.getD k default))).getD i default);rw[eG];split
  ·exact⟨f1,f2,f3,f4,Int.le_refl _,by show(0:Int)<=_;omega,by simp[clF]⟩
  ·exact h.fp i hi
 ·have hi:i<a.fr.length:=by have:i<(a.fr.set k (clF (a.fr.getD k default))).length:=hi;omega
  have hj:j<a.fr.length:=by have:j<(a.fr.set k (clF (a.fr.getD k default))).length:=hj;omega
  have en:∀i,((a.fr.set k (clF (a.fr.getD k default))).getD i default).no=(a.fr.getD i default).no:=fun i=>by
   rw[eG];split
   ·rename_i e;rw[e];rfl
   ·rfl
  have he:((a.fr.set k (clF (a.fr.getD k default))).getD i default).no=((a.fr.set k (clF (a.fr.getD k default))).getD j default).no:=he;rw[en,en] at he;exact h.nd i j hi hj he
 ·have hi:i<a.fr.length:=by have:i<(a.fr.set k (clF (a.fr.getD k default))).length:=hi;omega
  have hcl:((a.fr.set k (clF (a.fr.getD k default))).getD i default).dirty=false:=hcl;show(pgAt (wrF a k).d ((a.fr.set k (clF (a.fr.getD k default))).getD i default).no.toNat).1=((a.fr.set k (clF (a.fr.getD k default))).getD i default).pg;rw[eG] at hcl ⊢;by_cases e:i=k
  ·rw[if_pos e];show(pgAt _ (a.fr.getD k default).no.toNat).1=_;rw[pgk];rfl
  ·rw[if_neg e] at hcl ⊢;have hf:=h.fp i hi;rw[pgn _ (by obtain⟨q1,q2,_⟩:=hf;omega) (fun e2=>e (h.nd i k hi hk (by obtain⟨q1,q2,_⟩:=hf;omega)))]
   exact h.cl i hi hcl
 ·have hi:i<a.sure.toNat:=hi;rw[rd,if_neg (by omega)]
  exact h.lg i hi
 ·rw[rd,if_neg (by omega)]
  exact h.lz i hi h6
structure OutP(s a:Sto)(k:Nat):Prop where
 g:GInv a
 le:a.fr.length=s.fr.length
 no:∀i,(a.fr.getD i default).no=(s.fr.getD i default).no/\(a.fr.getD i default).pg=(s.fr.getD i default).pg
 cl:(a.fr.getD k default).dirty=false
 log:a.log=s.log/\a.ep=s.ep/\a.hand=s.hand/\s.sure<=a.sure
 ls:(s.fr.getD k default).dirty=true->(s.fr.getD k default).pg.lsn<=a.sure
theorem flu_mono{s:Sto}{l:Int}(h:GInv s)(hl:l<=s.log.length):s.sure<=(fluS s l).1.sure:=by
 by_cases hs:l<=s.sure
 ·rw[flu_le hs];exact Int.le_refl _
 ·have:=(g_flu h hl).2.2;omega
theorem g_out{s:Sto}{k:Nat}(h:GInv s)(hk:k<s.fr.length):OutP s (outS s k).1 k/\(outS s k).2=true:=by
 cases hd:(s.fr.getD k default).dirty with
 |false=>
  rw[out_clean hd];exact⟨⟨h,rfl,fun _=>⟨rfl,rfl⟩,hd,⟨rfl,rfl,rfl,Int.le_refl _⟩,fun e=>by rw[hd] at e;cases e⟩,rfl⟩
 |true=>
  obtain⟨_,_,_,f4,_⟩:=h.fp k hk;obtain⟨g1,g2,g3⟩:=g_flu h f4;obtain⟨r1,r2,r3,r4⟩:=flu_rest s (s.fr.getD k default).pg.lsn;have hm:=flu_mono h f4;obtain⟨y1,y2⟩:=g_syn5 g1;have hc:=syn5_c (flu_c (l:=(s.fr.getD k default).pg.lsn) h.ca);rw[out_up hd g2 y2];have hk':k<(fluS s (s.fr.getD k default).pg.lsn).1.fr.length:=by rw[r1];exact hk
  have hl':((fluS s (s.fr.getD k default).pg.lsn).1.fr.getD k default).pg.lsn<=(fluS s (s.fr.getD k default).pg.lsn).1.sure:=by rw[r1];exact g3
  have G:=g_wr (k:=k) y1 hc hk' hl';have eG:=fun i=>eq_setE (clF ((fluS s (s.fr.getD k default).pg.lsn).1.fr.getD k default)) i hk'
  have en:∀i,(((fluS s (s.fr.getD k default).pg.lsn).1.fr.set k (clF ((fluS s (s.fr.getD k default).pg.lsn).1.fr.getD k default))).getD i default).no=(s.fr.getD i default).no/\(((fluS s (s.fr.getD k default).pg.lsn).1.fr.set k (clF ((fluS s (s.fr.getD k default).pg.lsn).1.fr.getD k default))).getD i default).pg=(s.fr.getD i default).pg:=fun i=>by
   rw[eG];split
   ·rename_i e;rw[e,r1];exact⟨rfl,rfl⟩
   ·rw[r1];exact⟨rfl,rfl⟩
  refine⟨⟨G,?_,en,?_,⟨r3,r4,r2,hm⟩,fun _=>g3⟩,rfl⟩
  ·show(List.set _ _ _).length=_;rw[List.length_set];exact congrArg List.length r1
  ·have:=eG k;rw[if_pos rfl] at this;exact congrArg (fun f:Frm=>f.dirty) this
theorem g_fetP{s:Sto}{no:Nat}(h:GInv s)(hno:no<8):(pgAt s.d no).2=true/\PgP (pgAt s.d no).1/\(pgAt s.d no).1.lsn<=s.sure:=by
 obtain⟨a,b⟩:=h.pg no hno;exact⟨a,pgAt_ok a,b⟩
theorem frm_new{s:Sto}{no:Nat}(h:GInv s)(hno:no<8):FrP s.log.length (frmN no (pgAt s.d no).1):=by
 obtain⟨a,b,c⟩:=g_fetP h hno;have:=h.su;exact⟨by show(0:Int)<=no;omega,by show(no:Int)<=7;omega,b,by show(pgAt s.d no).1.lsn<=_;omega,Int.le_refl _,by show(0:Int)<=_;omega,by simp[frmN]⟩
theorem g_fr{a:Sto}{L:List Frm}{hand:Int}(h:GInv a)(h3:L.length<=3)(hh:0<=hand/\hand<=2)(fp:∀i,i<L.length->FrP a.log.length (L.getD i default))
  (nd:∀i j,i<L.length->j<L.length->(L.getD i default).no=(L.getD j default).no->i=j)
  (cl:∀i,i<L.length->(L.getD i default).dirty=false->(pgAt a.d (L.getD i default).no.toNat).1=(L.getD i default).pg):GInv ⟨a.d,a.ep,a.log,a.sure,L,hand⟩:=
 ⟨h.dg,h.ca,h.ep,h.l60,h.rc,h.su,h.be,h.pg,h3,fp,nd,cl,hh,h.lg,h.lz⟩
structure FetP(s a:Sto)(k:Nat)(no:Nat):Prop where
 g:GInv a
 kk:k<a.fr.length
 no:(a.fr.getD k default).no=no
 log:a.log=s.log/\a.ep=s.ep/\s.sure<=a.sure
theorem g_fet{s:Sto}{no:Nat}(h:GInv s)(hno:no<8):FetP s (fetS s no).1 (fetS s no).2.1 no/\(fetS s no).2.2=true:=by
 have hh:=h.hd;have h3':=h.fr3;by_cases hc:0<=frAt s.fr no
 ·rw[(fet_hit 0 hc).1];exact⟨⟨h,frAt_in hc,frAt_is hc,rfl,rfl,Int.le_refl _⟩,rfl⟩
 ·have hn:=fun i hi=>frAt_no (i:=i) hc hi
  by_cases h3:s.fr.length=3
  ·have hk:s.hand.toNat<s.fr.length:=by omega
   obtain⟨⟨g,le,en,cl,⟨l1,l2,l3,l4⟩,_⟩,hu⟩:=g_out h hk;rw[(fet_next 0 hc h3 hu).1];have hk':s.hand.toNat<(outS s s.hand.toNat).1.fr.length:=by omega
   have eG:=fun i=>eq_setE (frmN no (pgAt (outS s s.hand.toNat).1.d no).1) i hk'
   have eL:((outS s s.hand.toNat).1.fr.set s.hand.toNat (frmN no (pgAt (outS s s.hand.toNat).1.d no).1)).length=(outS s s.hand.toNat).1.fr.length:=List.length_set;refine⟨⟨g_fr g (by omega) ?_ (fun i hi=> ?_) (fun i j hi hj=> ?_) (fun i hi=> ?_),?_,?_,l1,l2,l4⟩,rfl⟩
   ·rw[l3];have:=tmod_rng (a:=s.hand+1) (n:=3) (by omega) (by decide)
    omega
   ·rw[eG];split
    ·exact frm_new g hno
    ·exact g.fp i (by omega)
   ·rw[eG,eG];have n1:=(en i).1;have n2:=(en j).1;by_cases e1:i=s.hand.toNat
    ·by_cases e2:j=s.hand.toNat
     ·intro _;omega
     ·rw[if_pos e1,if_neg e2];intro e;exact absurd (n2.symm.trans e.symm) (hn j (by omega))
    ·by_cases e2:j=s.hand.toNat
     ·rw[if_neg e1,if_pos e2];intro e;exact absurd (n1.symm.trans e) (hn i (by omega))
     ·rw[if_neg e1,if_neg e2];exact g.nd i j (by omega) (by omega)
   ·rw[eG];split
    ·intro _;show(pgAt _ ((no:Int)).toNat).1=_;rw[Int.toNat_natCast];rfl
    ·exact g.cl i (by omega)
   ·show _<(List.set _ _ _).length;rw[eL];exact hk'
   ·show(((outS s s.hand.toNat).1.fr.set s.hand.toNat (frmN no (pgAt (outS s s.hand.toNat).1.d no).1)).getD s.hand.toNat default).no=_;rw[eG,if_pos rfl];rfl
  ·rw[(fet_add 0 hc h3).1];have eL:(s.fr++[frmN no (pgAt s.d no).1]).length=s.fr.length+1:=by simp
   have eG:=fun i hi=>app_at default s.fr (frmN no (pgAt s.d no).1) i hi
   refine⟨⟨g_fr h (by omega) hh (fun i hi=> ?_) (fun i j hi hj=> ?_) (fun i hi=> ?_),?_,?_,rfl,rfl,Int.le_refl _⟩,rfl⟩
   ·rw[eG i (by omega)]
    split
    ·exact frm_new h hno
    ·exact h.fp i (by omega)
   ·rw[eG i (by omega),eG j (by omega)]
    by_cases e1:i=s.fr.length
    ·by_cases e2:j=s.fr.length
     ·intro _;omega
     ·rw[if_pos e1,if_neg e2];intro e;exact absurd e.symm (hn j (by omega))
    ·by_cases e2:j=s.fr.length
     ·rw[if_neg e1,if_pos e2];intro e;exact absurd e (hn i (by omega))
     ·rw[if_neg e1,if_neg e2];exact h.nd i j (by omega) (by omega)
   ·rw[eG i (by omega)]
    split
    ·intro _;show(pgAt _ ((no:Int)).toNat).1=_;rw[Int.toNat_natCast];rfl
    ·exact h.cl i (by omega)
   ·show s.fr.length<(s.fr++[frmN no (pgAt s.d no).1]).length;omega
   ·show((s.fr++[frmN no (pgAt s.d no).1]).getD s.fr.length default).no=_;rw[eG _ (by omega),if_pos rfl]
    rfl
theorem g_evi{s:Sto}{k:Nat}(h:GInv s)(hk:k<s.fr.length):GInv (evi s k).1/\(evi s k).2=true/\(evi s k).1.log=s.log/\(evi s k).1.ep=s.ep:=by
 obtain⟨⟨g,le,en,cl,⟨l1,l2,l3,l4⟩,_⟩,hu⟩:=g_out h hk;have h3:=h.fr3;rw[(evi_up 0 hu).1];have hk':k<(outS s k).1.fr.length:=by omega
 have eL:=erase_len hk';have eG:=fun i=>erase_at (outS s k).1.fr k i
 refine⟨g_fr g (by omega) ⟨by decide,by decide⟩ (fun i hi=> ?_) (fun i j hi hj he=> ?_) (fun i hi=> ?_),rfl,l1,l2⟩
 ·rw[eG];exact g.fp _ (by unfold shI;split<;>omega)
 ·rw[eG,eG] at he;have:=g.nd _ _ (by unfold shI;split<;>omega) (by unfold shI;split<;>omega) he
  unfold shI at this;split at this<;>split at this<;>omega
 ·rw[eG];exact g.cl _ (by unfold shI;split<;>omega)
theorem g_eviR{s:Sto}{no:Nat}(h:GInv s):GInv (eviR s no).1/\(eviR s no).1.log=s.log/\(eviR s no).1.ep=s.ep:=by
 unfold eviR;split
 ·rename_i hc;obtain⟨a,_,b,c⟩:=g_evi h (frAt_in hc);exact⟨a,b,c⟩
 ·exact⟨h,rfl,rfl⟩
def appX(s:Sto)(r:Rec):Sto:=⟨s.d,s.ep,s.log++[appR s r],s.sure,s.fr,s.hand⟩
theorem g_app{s:Sto}{r:Rec}(h:GInv s)(h6:s.log.length<60)(hr:recOK (appR s r)=true):GInv (appX s r):=by
 have eL:(s.log++[appR s r]).length=s.log.length+1:=by simp
 have eG:=fun i hi=>app_at default s.log (appR s r) i hi
 have hsu:=h.su;have hep:=h.ep;refine⟨h.dg,h.ca,h.ep,by show(s.log++[_]).length<=_;omega,areOK_iff.2 fun i hi=> ?_,⟨hsu.1,by show s.sure<=((s.log++[_]).length:Nat);omega⟩,fun i hi=> ?_,h.pg,h.fr3,fun i hi=> ?_,h.nd,h.cl,h.hd,fun i hi=> ?_,h.lz⟩
 ·show recOK ((s.log++[_]).getD i default)=true/\((s.log++[_]).getD i default).l=_;have hi:i<(s.log++[appR s r]).length:=hi;rw[eG i (by omega)]
  split
  ·rename_i e;exact⟨hr,by rw[e];rfl⟩
  ·exact areOK_iff.1 h.rc i (by omega)
 ·have hi:i<(s.log++[appR s r]).length:=hi;unfold badEp;show(!inR ((s.log++[appR s r]).getD i default).e (prevE (s.log++[appR s r]) i) s.ep)=false;have hb:=fun j hj=>h.be j hj
  unfold badEp at hb;rw[eG i (by omega)]
  by_cases e:i=s.log.length
  ·rw[if_pos e];show(!inR s.ep _ s.ep)=false;have:prevE (s.log++[appR s r]) i<=s.ep:=by
    unfold prevE;split
    ·exact hep.1
    ·rw[eG (i-1) (by omega),if_neg (by omega)]
     have:=inR_nt (hb (i-1) (by omega))
     exact this.2
   simp[inR,this]
  ·rw[if_neg e,←hb i (by omega)]
   have:prevE (s.log++[appR s r]) i=prevE s.log i:=by
    unfold prevE;split
    ·rfl
    ·rw[eG (i-1) (by omega),if_neg (by omega)]
   rw[this]
 ·have hf:FrP s.log.length (s.fr.getD i default):=h.fp i hi;obtain⟨p1,p2,p3,p4,p5,p6,p7⟩:=hf;show FrP (s.log++[appR s r]).length (s.fr.getD i default);rw[eL];exact⟨p1,p2,p3,by omega,p5,by omega,p7⟩
 ·have hi:i<s.sure.toNat:=hi;show rdAt s.d (9+i)=rcBytes ((s.log++[appR s r]).getD i default);rw[eG i (by omega),if_neg (by omega)]
  exact h.lg i hi
theorem g_apl{s:Sto}{r:Rec}(h:GInv s)(g0:0<=r.g/\r.g<8)(s0:0<=r.s/\r.s<4)(l0:1<=r.l/\r.l<=s.log.length)(ha:r.a.length<=30):GInv (aplS s r).1/\(aplS s r).2=true/\(aplS s r).1.log=s.log/\(aplS s r).1.ep=s.ep:=by
 obtain⟨⟨g,hk,no,l1,l2,l4⟩,hu⟩:=g_fet h (no:=r.g.toNat) (by omega)
 have e:aplS s r=(setP (fetS s r.g.toNat).1 (fetS s r.g.toNat).2.1 r,true):=if_pos hu;rw[e];generalize fetS s r.g.toNat=A at*;obtain⟨a,k,up⟩:=A;dsimp only at*;have eG:=fun i=>eq_setE (chgF (a.fr.getD k default) r) i hk
 have eL:(a.fr.set k (chgF (a.fr.getD k default) r)).length=a.fr.length:=List.length_set;have h60:=h.l60;have h3:=g.fr3;obtain⟨p1,p2,⟨q1,q2,q3,q4⟩,p4,p5,p6,p7⟩:=g.fp k hk;have hlen:=congrArg List.length l1;have en:∀i,((a.fr.set k (chgF (a.fr.getD k default) r)).getD i default).no=(a.fr.getD i default).no:=fun i=>by
  rw[eG];split
  ·rename_i e;rw[e];rfl
  ·rfl
 refine⟨g_fr g (by omega) g.hd (fun i hi=> ?_) (fun i j hi hj he=> ?_) (fun i hi hcl=> ?_),rfl,l1,l2⟩
 ·rw[eG];split
  ·refine⟨p1,p2,⟨by show 0<=r.l;omega,by show r.l<=1000;omega,by show(List.set _ _ _).length=4;rw[List.length_set];exact q3,fun i hi=> ?_⟩,by show r.l<=_;omega,?_,?_,?_⟩
   ·show(List.getD (List.set _ _ _) i []).length<=30;by_cases ei:i=r.s.toNat
    ·rw[ei,List.getD_eq_getElem?_getD,List.getElem?_set_self (by omega)]
     exact ha
    ·rw[List.getD_eq_getElem?_getD,List.getElem?_set_ne (Ne.symm ei),←List.getD_eq_getElem?_getD]
     refine q4 i ?_
     have:i<(List.set (a.fr.getD k default).pg.sl r.s.toNat r.a).length:=hi;rw[List.length_set] at this;exact this
   ·show 0<=(if(a.fr.getD k default).dirty=true then(a.fr.getD k default).first else r.l)
    split<;>omega
   ·show(if(a.fr.getD k default).dirty=true then(a.fr.getD k default).first else r.l)<=_
    split<;>omega
   ·show(true=true↔0<(if(a.fr.getD k default).dirty=true then(a.fr.getD k default).first else r.l))
    split
    ·rename_i hd;exact⟨fun _=>p7.1 hd,fun _=>rfl⟩
    ·exact⟨fun _=>by omega,fun _=>rfl⟩
  ·exact g.fp i (by omega)
 ·rw[en,en] at he;exact g.nd i j (by omega) (by omega) he
 ·rw[eG] at hcl ⊢;by_cases ei:i=k
  ·rw[if_pos ei] at hcl;cases hcl
  ·rw[if_neg ei] at hcl ⊢;exact g.cl i (by omega) hcl
end Go.Proofs.YtndilbkocjlgpaaGreat

