/- A part of the proof. -/
import Derived.Test.YtfmngblmdghccaaGreatK23
import Derived.Test.YtfmngblmdghccaaGreatK28
namespace Go.Proofs.YtfmngblmdghccaaGreat
open Go.SS Go.RowKit

theorem dn_x0{s:Stm}{L:List Rw}{i:Nat}(h:(dnN s L (i+1)).x=0):(dnN s L i).x=0:=by
 by_cases h0:(dnN s L i).x=0
 ·exact h0
 ·rw[dn_suc,dn_stop h0] at h;exact h
theorem take_s{L:List Rw}{i:Nat}(h:i<L.length):L.take i++[L.getD i default]=L.take (i+1):=by
 rw[List.take_add_one,List.getElem?_eq_getElem h,List.getD_eq_getElem?_getD,List.getElem?_eq_getElem h]
 rfl
theorem dn_sel{s:Stm}{L:List Rw}(hk:s.k=1):∀i,i<=L.length->(dnN s L i).x=0->(dnN s L i).o=L.take i/\(dnN s L i).q.length=(dnN s L i).n
 |0,_,_=>⟨rfl,rfl⟩
 |i+1,hi,hx=>by
  have h0:=dn_x0 hx;obtain⟨h1,h2⟩:=dn_sel hk i (by omega) h0
  rw[dn_suc] at hx ⊢;unfold dnS at hx ⊢;rw[if_neg (fun g=>g h0)] at hx ⊢
  by_cases c1:(mea s (L.getD i default)).2≠0
  ·rw[if_pos c1] at hx;exact absurd hx c1
  rw[if_neg c1];by_cases c2:(mea s (L.getD i default)).1=false
  ·rw[if_pos c2];exact⟨by dsimp only;rw[h1,take_s hi],h2⟩
  ·rw[if_neg c2,if_pos hk];exact⟨by dsimp only;rw[h1,take_s hi],by dsimp only;rw[List.length_append,h2];rfl⟩
theorem dn_del{s:Stm}{L:List Rw}(hk:s.k=4):∀i,(dnN s L i).x=0->(dnN s L i).o.length+(dnN s L i).n=i
 |0,_=>rfl
 |i+1,hx=>by
  have h0:=dn_x0 hx;have h1:=dn_del hk i h0;rw[dn_suc] at hx ⊢;unfold dnS at hx ⊢;rw[if_neg (fun g=>g h0)] at hx ⊢
  by_cases c1:(mea s (L.getD i default)).2≠0
  ·rw[if_pos c1] at hx;exact absurd hx c1
  rw[if_neg c1];by_cases c2:(mea s (L.getD i default)).1=false
  ·rw[if_pos c2];dsimp only;rw[List.length_append,List.length_singleton];omega
  ·rw[if_neg c2,if_neg (by omega),if_neg (by omega)]
   dsimp only;omega
theorem dn_twin{s t:Stm}{L:List Rw}(hs:s.k=4)(ht:t.k=1)(hw:t.whr=s.whr):∀i,(dnN t L i).x=(dnN s L i).x/\(dnN t L i).n=(dnN s L i).n
 |0=>⟨rfl,rfl⟩
 |i+1=>by
  obtain⟨h1,h2⟩:=dn_twin (L:=L) hs ht hw i;have em:mea t (L.getD i default)=mea s (L.getD i default):=by unfold mea;rw[hw]
  rw[dn_suc,dn_suc];unfold dnS;rw[em,h1,h2];by_cases c0:(dnN s L i).x≠0
  ·rw[if_pos c0,if_pos c0];exact⟨h1,h2⟩
  rw[if_neg c0,if_neg c0];by_cases c1:(mea s (L.getD i default)).2≠0
  ·rw[if_pos c1,if_pos c1];exact⟨rfl,rfl⟩
  rw[if_neg c1,if_neg c1];by_cases c2:(mea s (L.getD i default)).1=false
  ·rw[if_pos c2,if_pos c2];exact⟨rfl,rfl⟩
  ·rw[if_neg c2,if_neg c2,if_pos ht,if_neg (by omega),if_neg (by omega)];exact⟨rfl,rfl⟩
theorem den_no{s:Stm}{L:List Rw}(hL:L.length<=4096)(h:(denA s L).x≠0):(denA s L).r=L/\(denA s L).n=0:=by
 unfold denA at h ⊢;rw[if_neg (by omega)] at h ⊢
 by_cases h1:L.length>100
 ·rw[if_pos h1];exact⟨rfl,rfl⟩
 rw[if_neg h1] at h ⊢;by_cases h2:(!rwsOK L|| !stmOK s)=true
 ·rw[if_pos h2];exact⟨rfl,rfl⟩
 rw[if_neg h2] at h ⊢;unfold denR at h ⊢;by_cases h3:s.k=2
 ·rw[if_pos h3] at h ⊢;by_cases h4:isRw L s.row.id=true
  ·rw[if_pos h4];exact⟨rfl,rfl⟩
  ·rw[if_neg h4] at h;exact absurd rfl h
 ·rw[if_neg h3] at h ⊢;by_cases h4:(dnN s L L.length).x≠0
  ·rw[if_pos h4];exact⟨rfl,rfl⟩
  ·rw[if_neg h4] at h;exact absurd rfl h
theorem den_yes{s:Stm}{L:List Rw}(h:(denA s L).x=0):rwsOK L=true/\stmOK s=true/\L.length<=100/\denA s L=denR s L:=by
 unfold denA at h;by_cases h0:L.length>4096
 ·rw[if_pos h0] at h;cases h
 rw[if_neg h0] at h;by_cases h1:L.length>100
 ·rw[if_pos h1] at h;cases h
 rw[if_neg h1] at h;by_cases h2:(!rwsOK L|| !stmOK s)=true
 ·rw[if_pos h2] at h;cases h
 have e:denA s L=denR s L:=by rw[denA,if_neg h0,if_neg h1,if_neg h2]
 have h2:(!rwsOK L|| !stmOK s)=false:=by simpa using h2
 rw[Bool.or_eq_false_iff,Bool.not_eq_false',Bool.not_eq_false'] at h2;exact⟨h2.1,h2.2,by omega,e⟩
theorem den_sel{s:Stm}{L:List Rw}(h:(denA s L).x=0)(hk:s.k=1):(denA s L).r=L/\(denA s L).n=(denA s L).a.length:=by
 obtain⟨_,_,_,e⟩:=den_yes h;rw[e] at h ⊢;unfold denR at h ⊢;rw[if_neg (by omega)] at h ⊢
 by_cases h4:(dnN s L L.length).x≠0
 ·rw[if_pos h4] at h;exact absurd h h4
 ·obtain⟨a,b⟩:=dn_sel hk L.length (Nat.le_refl _) (by simpa using h4)
  rw[if_neg h4];refine⟨?_,?_⟩
  ·dsimp only;rw[a,List.take_length]
  ·dsimp only;rw[ansR,if_neg h4,srt_len,b]
theorem den_del{s:Stm}{L:List Rw}(h:(denA s L).x=0)(hk:s.k=4):(denA ⟨1,s.ta,rwZ,0,[],s.whr,0,false⟩ L).x=0/\(denA ⟨1,s.ta,rwZ,0,[],s.whr,0,false⟩ L).n=(denA s L).n/\(denA s L).r.length+(denA s L).n=L.length:=by
 obtain⟨h1,h2,h3,e⟩:=den_yes h;have ok:stmOK ⟨1,s.ta,rwZ,0,[],s.whr,0,false⟩=true:=by
  unfold stmOK at h2 ⊢;rw[Bool.and_eq_true] at h2;dsimp only;rw[h2.1];rfl
 have e2:denA ⟨1,s.ta,rwZ,0,[],s.whr,0,false⟩ L=denR ⟨1,s.ta,rwZ,0,[],s.whr,0,false⟩ L:=by
  rw[denA,if_neg (by omega),if_neg (by omega),if_neg (by rw[h1,ok];exact Bool.false_ne_true)]
 obtain⟨t1,t2⟩:=dn_twin (s:=s) (t:=⟨1,s.ta,rwZ,0,[],s.whr,0,false⟩) (L:=L) hk rfl rfl L.length;rw[e] at h ⊢;rw[e2];unfold denR at h ⊢;rw[if_neg (show ¬s.k=2 by omega)] at h ⊢
 rw[if_neg (show ¬ (1:Int)=2 by decide)]
 by_cases h4:(dnN s L L.length).x≠0
 ·rw[if_pos h4] at h;exact absurd h h4
 ·have:=dn_del (L:=L) hk L.length (by simpa using h4)
  rw[if_neg h4,if_neg (by rw[t1];exact h4)]
  exact⟨rfl,t2,this⟩
end Go.Proofs.YtfmngblmdghccaaGreat

namespace Go.Proofs.YtfmngblmdghccaaGreat
set_option maxRecDepth 100000
open Go.SS Go.RowKit

theorem nb_B{L:List Nd}(h:NB L)(hl:L.length<=40):NdB L:=by
 refine⟨by omega,fun i hi=> ?_⟩
 have hm:L.getD i default ∈ L:=by
  rw[List.getD_eq_getElem?_getD,List.getElem?_eq_getElem hi]
  exact List.getElem_mem hi
 have:=h _ hm;show(L.getD i default).v.t.length<1000000000000;omega
theorem nb_nil:NdB []:=nb_B (fun n hn=>absurd hn List.not_mem_nil) (by decide)
theorem ab_le(i:Nat):(([[97],[98]]:List (List UInt8)).getD i []).length<=4:=by
 match i with
 |0=>decide
 |1=>decide
 |n+2=>exact Nat.zero_le _
theorem stW_B{s:Src}{m:Nat}(h:SrcOK s m):NdB (stW s).2:=by
 have q1:=nx_rng h (n:=2) (by decide)
 have q2:=ex_ok q1.2.2;by_cases w1:nxV s 2=1
 ·by_cases w2:nxV (exD (nxS s 2)).1 2=1
  ·rw[stW_a rfl rfl rfl rfl w1 w2];refine nb_B (fun n hn=> ?_) (by show 3<=40;decide)
   simp only[List.mem_cons,List.not_mem_nil,or_false] at hn;rcases hn with rfl|rfl|rfl<;>exact Nat.zero_le _
  ·rw[stW_b rfl rfl w1 w2];exact nb_B q2.2.2.1 (by dsimp only;omega)
 ·rw[stW_c w1];exact nb_nil
theorem stS_B{s:Src}{m:Nat}{c:Int}(h:SrcOK s m):NdB (stS s c).2/\SrcOK (stS s c).1 (m+303):=by
 have q2:=ex_ok h;have q3:=nx_rng q2.1 (n:=2) (by decide)
 have q4:=nx_rng q3.2.2 (n:=9) (by decide)
 have q5:=nx_rng q4.2.2 (n:=2) (by decide)
 by_cases w1:nxV (exD s).1 2=1
 ·by_cases w2:c=2
  ·rw[stS_a rfl rfl rfl w1 w2];refine⟨nb_B (fun n hn=> ?_) (by show 1<=40;decide),q5.2.2.le (by omega)⟩
   rw[List.mem_singleton] at hn;rw[hn];exact ab_le _
  ·rw[stS_b rfl rfl w1 w2];refine⟨nb_B (fun n hn=> ?_) (by show 1<=40;decide),q4.2.2.le (by omega)⟩
   rw[List.mem_singleton] at hn;rw[hn];exact Nat.zero_le _
 ·rw[stS_c rfl w1];exact⟨nb_B q2.2.2.1 (by dsimp only;omega),q3.2.2.le (by omega)⟩
theorem ne_of_bne{a b:Int}(h:(a !=b)=true):a≠b:=by simpa using h
theorem rwZ_B:RwB rwZ:=⟨by show(0:Nat)<_;decide,by show(0:Nat)<_;decide⟩
theorem st_B(c:List UInt8):StmB (stD (srcN c)):=by
 have h:=srcN_ok c;generalize srcN c=s at h ⊢;have n1:=nx_rng h (n:=4) (by decide)
 generalize h1:nxS s 4=a at n1;have n2:=nx_rng n1.2.2 (n:=2) (by decide)
 generalize h2:nxS a 2=b at n2;by_cases k2:nxV s 4=1
 ·have r:=(row_ok n2.2.2).2;rw[st_2 h1 h2 k2];generalize (rowS b).2=q at r ⊢;exact⟨r,nb_nil,nb_nil⟩
 by_cases k3:nxV s 4=2
 ·have n3:=nx_rng n2.2.2 (n:=2) (by decide)
  generalize h3:nxS b 2=d at n3;have q:=stS_B (c:=1+nxV b 2) n3.2.2;generalize hY:stS d (1+nxV b 2)=Y at q;have w:=stW_B q.2;rw[st_3 h1 h2 h3 k3 hY];generalize (stW Y.1).2=z at w ⊢;exact⟨rwZ_B,q.1,w⟩
 by_cases k1:nxV s 4=0
 ·have m3:=nx_rng n2.2.2 (n:=3) (by decide)
  generalize h3:nxS b 3=d at m3;have m4:=nx_rng m3.2.2 (n:=3) (by decide)
  generalize h4:nxS d 3=e at m4;have w:=stW_B m4.2.2;rw[st_1 h1 h2 h3 h4 k1];generalize (stW e).2=z at w ⊢;exact⟨rwZ_B,nb_nil,w⟩
 ·have w:=stW_B n2.2.2;rw[st_4 h1 h2 (by omega)]
  generalize (stW b).2=z at w ⊢;exact⟨rwZ_B,nb_nil,w⟩
theorem rl_B(c:List UInt8):RwsB (rlR (srcN c)).1.2/\(rlR (srcN c)).1.2.length<=6:=by
 have h:=rl_ok (srcN_ok c) 6;rw[(rlR (srcN c)).2];refine⟨⟨by omega,fun i hi=>h.2.2 _ ?_⟩,h.2.1⟩
 rw[List.getD_eq_getElem?_getD,List.getElem?_eq_getElem hi]
 exact List.getElem_mem hi
def k_sameRws:Con:=.rel ⟨List Rw,fun L=>[rwS L,rwS L],fun _=>.bool true,fun L=>L.length<=1048576⟩
def A_sameRws(L:List Rw):Nat->Ann
 |0=>.one {i:Nat//i<=L.length} (fun x=>⟨[(0,rwS L),(1,rwS L),(5,.int .i64 x.1)],[]⟩) (fun x=>L.length-x.1) [] [] (fun _=>noAnn)
 |_=>.none
noncomputable def b_sameRws:Code:=Tryz.f9.body.getD .skip
theorem call_sameRws:Callable Tryz.prog 9:=⟨_,Tryz.func9,by kernel_rfl,by kernel_rfl⟩
theorem v_sameRws(L:List Rw)(h:
  (((L.length:Int) !=(L.length:Int))=true->false=true)/\(((L.length:Int) !=(L.length:Int))=false->(∃(x:{i:Nat//i<=L.length}),((EqL rwRow L L)/\(EqL rwRow L L)/\(0:Int)=(x.val:Int)/\True)/\True)/\∀(x:
  {i:Nat//i<=L.length}),(decide ((x.val:Int)<(L.length:Int))=true->InB (x.val:Int) L.length/\InB (x.val:Int) L.length/\((!((L.getD (x.val:Int).toNat default).id==(L.getD (x.val:Int).toNat default).id&&((L.getD
  (x.val:Int).toNat default).n.k==(L.getD (x.val:Int).toNat default).n.k&&((L.getD (x.val:Int).toNat default).n.n==(L.getD (x.val:Int).toNat default).n.n&&((L.getD (x.val:Int).toNat default).n.t==(L.getD (x.val:Int).toNat
  default).n.t&&true))&&((L.getD (x.val:Int).toNat default).name.k==(L.getD (x.val:Int).toNat default).name.k&&((L.getD (x.val:Int).toNat default).name.n==(L.getD (x.val:Int).toNat default).name.n&&((L.getD
  (x.val:Int).toNat default).name.t==(L.getD (x.val:Int).toNat default).name.t&&true))&&true))))=true->false=true)/\((!((L.getD (x.val:Int).toNat default).id==(L.getD (x.val:Int).toNat default).id&&((L.getD
  (x.val:Int).toNat default).n.k==(L.getD (x.val:Int).toNat default).n.k&&((L.getD (x.val:Int).toNat default).n.n==(L.getD (x.val:Int).toNat default).n.n&&((L.getD (x.val:Int).toNat default).n.t==(L.getD (x.val:Int).toNat
  default).n.t&&true))&&((L.getD (x.val:Int).toNat default).name.k==(L.getD (x.val:Int).toNat default).name.k&&((L.getD (x.val:Int).toNat default).name.n==(L.getD (x.val:Int).toNat default).name.n&&((L.getD
  (x.val:Int).toNat default).name.t==(L.getD (x.val:Int).toNat default).name.t&&true))&&true))))=false->Rng .i64 ((x.val:Int)+(1:Int))/\∃(y:{i:Nat//i<=L.length}),(((EqL rwRow L L)/\(EqL rwRow L L)/\
  (x.val:Int)+(1:Int)=(y.val:Int)/\True)/\True)/\Lt (L.length-y.val) (L.length-x.val)))/\(decide ((x.val:Int)<(L.length:Int))=false->true=true))):
  PureFn Tryz.prog 9 [rwS L,rwS L] (.bool true):=
 vcR (code:=b_sameRws) gN Tryz.func9 (by kernel_rfl) (by kernel_rfl) (A_sameRws L) h (by kernel_rfl)
theorem sameRws_ok:ConOk Tryz.prog 9 k_sameRws:=by
 intro(L:List Rw) (hL:L.length<=1048576);refine v_sameRws L ⟨fun h=>by simp at h,fun _=>⟨⟨⟨0,Nat.zero_le _⟩,⟨⟨rfl,rowsR _ _⟩,⟨rfl,rowsR _ _⟩,rfl,trivial⟩,trivial⟩,fun x=>⟨fun hc=> ?_,fun _=>rfl⟩⟩⟩
 have hlt:=lt_of_dec hc;exact⟨inB_nat hlt,inB_nat hlt,fun h=>by simp at h,fun _=>⟨add_rng hlt (by omega),⟨x.val+1,hlt⟩,⟨⟨⟨rfl,rowsR _ _⟩,⟨rfl,rowsR _ _⟩,by dsimp only;omega,trivial⟩,trivial⟩,Cnt.ext_lt hlt⟩⟩
noncomputable def b_LawN:Code:=Tryz.f3.body.getD .skip
theorem v_LawN(c m:List UInt8)(h:
  ((decide ((c.length:Int)>(1048576:Int))||decide ((m.length:Int)>(1048576:Int)))=true->true=true)/\((decide ((c.length:Int)>(1048576:Int))||decide ((m.length:Int)>(1048576:Int)))=false->∃(x:(List
  UInt8)),((c=x/\True)/\x.length<=1048576)/\∃(x_1:(List UInt8)),((m=x_1/\True)/\x_1.length<=1048576)/\∃(x_2:(List Rw×Stm)),(((EqL rwRow (rlR (srcN x)).val.snd x_2.fst)/\((stD (srcN x_1)).k=x_2.snd.k/\(stD
  (srcN x_1)).ta=x_2.snd.ta/\(stD (srcN x_1)).row.id=x_2.snd.row.id/\(stD (srcN x_1)).row.n.k=x_2.snd.row.n.k/\(stD (srcN x_1)).row.n.n=x_2.snd.row.n.n/\(stD (srcN x_1)).row.n.t=x_2.snd.row.n.t/\(stD (srcN
  x_1)).row.name.k=x_2.snd.row.name.k/\(stD (srcN x_1)).row.name.n=x_2.snd.row.name.n/\(stD (srcN x_1)).row.name.t=x_2.snd.row.name.t/\(stD (srcN x_1)).c=x_2.snd.c/\(EqL ndRow (stD (srcN x_1)).set x_2.snd.set)/\(EqL
  ndRow (stD (srcN x_1)).whr x_2.snd.whr)/\(stD (srcN x_1)).ord=x_2.snd.ord/\(stD (srcN x_1)).down=x_2.snd.down/\True)/\True)/\RwsB x_2.fst/\StmB x_2.snd)/\∃(x_3:(List Rw×Stm)),(((EqL rwRow (rlR (srcN x)).val.snd
  x_3.fst)/\((stD (srcN x_1)).k=x_3.snd.k/\(stD (srcN x_1)).ta=x_3.snd.ta/\(stD (srcN x_1)).row.id=x_3.snd.row.id/\(stD (srcN x_1)).row.n.k=x_3.snd.row.n.k/\(stD (srcN x_1)).row.n.n=x_3.snd.row.n.n/\(stD (srcN
  x_1)).row.n.t=x_3.snd.row.n.t/\(stD (srcN x_1)).row.name.k=x_3.snd.row.name.k/\(stD (srcN x_1)).row.name.n=x_3.snd.row.name.n/\(stD (srcN x_1)).row.name.t=x_3.snd.row.name.t/\(stD (srcN x_1)).c=x_3.snd.c/\(EqL ndRow
  (stD (srcN x_1)).set x_3.snd.set)/\(EqL ndRow (stD (srcN x_1)).whr x_3.snd.whr)/\(stD (srcN x_1)).ord=x_3.snd.ord/\(stD (srcN x_1)).down=x_3.snd.down/\True)/\True)/\RwsB x_3.fst/\StmB x_3.snd)/\∃(x_4:(List Rw)),
  (((denA x_2.snd x_2.fst).x !=(denA x_3.snd x_3.fst).x)=false->Le (0+(denA x_2.snd x_2.fst).r.length) (denA x_2.snd x_2.fst).r.length/\((EqL rwRow (denA x_2.snd x_2.fst).r x_4)/\(EqL rwRow (denA x_3.snd x_3.fst).r x_4)/\
  True)/\x_4.length<=1048576)/\∃(x_5:(List Rw)),(((denA x_2.snd x_2.fst).x !=(denA x_3.snd x_3.fst).x||false||(↑(denA x_2.snd x_2.fst).n:Int) !=(↑(denA x_3.snd x_3.fst).n:Int))=false->Le (0+(denA x_2.snd
  x_2.fst).a.length) (denA x_2.snd x_2.fst).a.length/\((EqL rwRow (denA x_2.snd x_2.fst).a x_5)/\(EqL rwRow (denA x_3.snd x_3.fst).a x_5)/\True)/\x_5.length<=1048576)/\(((denA x_2.snd x_2.fst).x !=(denA x_3.snd x_3.fst).x||
  false||(↑(denA x_2.snd x_2.fst).n:Int) !=(↑(denA x_3.snd x_3.fst).n:Int)||false)=true->false=true)/\(((denA x_2.snd x_2.fst).x !=(denA x_3.snd x_3.fst).x||false||(↑(denA x_2.snd x_2.fst).n:Int) !=(↑(denA
  x_3.snd x_3.fst).n:Int)||false)=false->(((denA x_2.snd x_2.fst).x !=(0:Int))=true->∃(x_6:(List Rw)),(Le (0+(denA x_2.snd x_2.fst).r.length) (denA x_2.snd x_2.fst).r.length/\((EqL rwRow (denA x_2.snd x_2.fst).r
  x_6)/\(EqL rwRow (rlR (srcN x)).val.snd x_6)/\True)/\x_6.length<=1048576)/\(true&&(↑(denA x_2.snd x_2.fst).n:Int)==(0:Int))=true)/\(((denA x_2.snd x_2.fst).x !=(0:Int))=false->(((stD (srcN x_1)).k==(1:
  Int))=true->∃(x_6:(List Rw)),(Le (0+(denA x_2.snd x_2.fst).r.length) (denA x_2.snd x_2.fst).r.length/\((EqL rwRow (denA x_2.snd x_2.fst).r x_6)/\(EqL rwRow (rlR (srcN x)).val.snd x_6)/\True)/\x_6.length<=1048576)/\
  (true&&(↑(denA x_2.snd x_2.fst).n:Int)==(↑(denA x_2.snd x_2.fst).a.length:Int))=true)/\(((stD (srcN x_1)).k==(1:Int))=false->(((stD (srcN x_1)).k !=(4:Int))=true->true=true)/\(((stD (srcN x_1)).k !=(4:
  Int))=false->∃(x_6:(List Rw×Stm)),(((EqL rwRow (rlR (srcN x)).val.snd x_6.fst)/\((1:Int)=x_6.snd.k/\(stD (srcN x_1)).ta=x_6.snd.ta/\(0:Int)=x_6.snd.row.id/\(0:Int)=x_6.snd.row.n.k/\(0:Int)=
  x_6.snd.row.n.n/\[]=x_6.snd.row.n.t/\(0:Int)=x_6.snd.row.name.k/\(0:Int)=x_6.snd.row.name.n/\[]=x_6.snd.row.name.t/\(0:Int)=x_6.snd.c/\x_6.snd.set.length=0/\(EqL ndRow (stD (srcN x_1)).whr x_6.snd.whr)/\
  (0:Int)=x_6.snd.ord/\false=x_6.snd.down/\True)/\True)/\RwsB x_6.fst/\StmB x_6.snd)/\(((denA x_6.snd x_6.fst).x==(0:Int)&&(↑(denA x_6.snd x_6.fst).n:Int)==(↑(denA x_2.snd x_2.fst).n:Int))=true->Rng .i64
  ((↑(denA x_2.snd x_2.fst).r.length:Int)+(↑(denA x_2.snd x_2.fst).n:Int)))/\((denA x_6.snd x_6.fst).x==(0:Int)&&(↑(denA x_6.snd x_6.fst).n:Int)==(↑(denA x_2.snd x_2.fst).n:Int)&&(↑(denA x_2.snd
  x_2.fst).r.length:Int)+(↑(denA x_2.snd x_2.fst).n:Int)==(↑(rlR (srcN x)).val.snd.length:Int))=true)))))):
  PureFn Tryz.prog 3 [.bys c,.bys m] (.bool true):=
 vcR (code:=b_LawN) (gC RowsOf_ok call_RowsOf (gC StmtOf_ok call_StmtOf (gC Deni_ok call_Deni (gC Dens_ok call_Dens (gC sameRws_ok call_sameRws gN))))) Tryz.func3 (by kernel_rfl) (by kernel_rfl) noAnn h (by kernel_rfl)
theorem lawN_pure(c m:List UInt8):PureFn Tryz.prog 3 [.bys c,.bys m] (.bool true):=by
 refine v_LawN c m ⟨fun _=>rfl,fun hq=> ?_⟩
 rw[Bool.or_eq_false_iff] at hq;have hc:=of_decide_eq_false hq.1;have hm:=of_decide_eq_false hq.2;refine⟨c,⟨⟨rfl,trivial⟩,by omega⟩,m,⟨⟨rfl,trivial⟩,by omega⟩,?_⟩
 obtain⟨hL,hl⟩:=rl_B c;have hs:=st_B m;generalize (rlR (srcN c)).1.2=L at hL hl ⊢;generalize stD (srcN m)=s at hs ⊢;obtain⟨hR,hA⟩:=den_ln s L;refine⟨(L,s),⟨⟨⟨rfl,rowsR _ _⟩,⟨rfl,rfl,rfl,rfl,rfl,rfl,rfl,rfl,rfl,rfl,⟨rfl,rowsR _ _⟩,⟨rfl,rowsR _ _⟩,rfl,rfl,trivial⟩,trivial⟩,hL,hs⟩,(L,s),⟨⟨⟨rfl,rowsR _ _⟩,⟨rfl,rfl,rfl,rfl,rfl,rfl,rfl,rfl,rfl,rfl,⟨rfl,rowsR _ _⟩,⟨rfl,rowsR _ _⟩,rfl,rfl,trivial⟩,trivial⟩,hL,hs⟩,(denA s L).r,fun _=>⟨leZ _,⟨⟨rfl,rowsR _ _⟩,⟨rfl,rowsR _ _⟩,trivial⟩,by omega⟩,(denA s L).a,fun _=>⟨leZ _,⟨⟨rfl,rowsR _ _⟩,⟨rfl,rowsR _ _⟩,trivial⟩,by omega⟩,fun he=>by simp at he,fun _=>⟨fun hx=> ?_,fun hx=>⟨fun k1=> ?_,fun k1=>⟨fun _=>rfl,fun k4=> ?_⟩⟩⟩⟩
 ·have hx:(denA s L).x≠0:=ne_of_bne hx;obtain⟨e1,e2⟩:=den_no (show L.length<=4096 by omega) hx
  refine⟨L,⟨leZ _,⟨⟨by dsimp only;rw[e1],by dsimp only;rw[e1];exact rowsR _ _⟩,⟨rfl,rowsR _ _⟩,trivial⟩,by omega⟩,?_⟩
  dsimp only;rw[e2];rfl
 ·have hx:(denA s L).x=0:=by simpa using hx
  have k1:s.k=1:=eq_of_beq k1;obtain⟨e1,e2⟩:=den_sel hx k1;refine⟨L,⟨leZ _,⟨⟨by dsimp only;rw[e1],by dsimp only;rw[e1];exact rowsR _ _⟩,⟨rfl,rowsR _ _⟩,trivial⟩,by omega⟩,?_⟩
  dsimp only;rw[e2,Bool.true_and,beq_self_eq_true]
 ·have hx:(denA s L).x=0:=by simpa using hx
  have k4:s.k=4:=by simpa using k4
  obtain⟨e1,e2,e3⟩:=den_del hx k4;refine⟨(L,⟨1,s.ta,rwZ,0,[],s.whr,0,false⟩),⟨⟨⟨rfl,rowsR _ _⟩,⟨rfl,rfl,rfl,rfl,rfl,rfl,rfl,rfl,rfl,rfl,rfl,⟨rfl,rowsR _ _⟩,rfl,rfl,trivial⟩,trivial⟩,hL,rwZ_B,nb_nil,hs.2.2⟩,fun _=>i64_rng (by dsimp only;omega),?_⟩
  dsimp only;rw[e1,e2,beq_self_eq_true,beq_self_eq_true,Bool.true_and,Bool.true_and];exact beq_iff_eq.2 (by omega)
end Go.Proofs.YtfmngblmdghccaaGreat

