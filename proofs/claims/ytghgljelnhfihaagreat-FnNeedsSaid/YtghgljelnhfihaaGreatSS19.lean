/- A calculus of symbolic states: a function that writes to what it is given, from its code. -/
import Derived.Test.YtghgljelnhfihaaGreatSS18
namespace Go.SS
open Go.RowKit

def lW(b:Nat)(H:Y1)(o:Option Ob):Option (Option Ob×Option Prop):=
 match o with
 |none=>some (none,none)
 |some (.arr false ty sz n row)=>match n with
  |1=>match O5 (N3 b H 6) (row 0) with
   |some cs=>some (some (.arr (cs.all λx=>W5 x.1) ty sz 1 λ_=>cs.map (·.1)),wS cs)
   |none=>none
  |_=>none
 |some ob=>some (some ob,none)

def kF:List (Option Ob×Option Prop)->Option Prop
 | []=>none
 |x::r=>qP x.2 (kF r)

def lks:Nat->List Bool->List Lk
 |_,[]=>[]
 |i,true::r=>.box i::lks (i+1) r
 |i,false::r=>.arr i::lks (i+1) r

def b5q(P:Program)(rs:List ResultVar)(bs:List Bool)(res:T)(Hres:Y1):Exit->Sy->Prop
 | .normal,σ| .ret,σ=>match b3a P σ.s σ.H rs with
  |some (r,p)=>match N3 bs.length σ.H 6 r,O5 (lW bs.length σ.H) (σ.H.take bs.length) with
   |some (r',p'),some os=>iM p (iM p' (iM (kF os) (rE (q9 (k7 (lks 0 bs))) 6 r' res/\a5Y (q9 (k7 (lks 0 bs))) (os.map (·.1)) (lks 0 bs) Hres)))
   |_,_=>False
  |none=>False
 |_,_=>False

def b7o(P:Program)(G:I2)(nt:Nat)(rs:List ResultVar)(code:Code)(args:List T)(H:Y1)(bs:List Bool)(res:T)(Hres:Y1)(A:Nat->Ann):Prop:=
 gP P G nt bs.length code 0 (λe σ _=>b5q P rs bs res Hres e σ) ⟨sV 0 args,H⟩ A

section
variable {c:Ctx} {E:Env} {H:Y1} {w:World} {P:Program} {G:I2}

theorem a7I:∀{l:List (Option Ob×Option Prop)},(kF l).getD True->∀x ∈ l,x.2.getD True:=by
 intro l;induction l with
 |nil=>intro _ x hx;cases hx
 |cons y l ih=>
  intro h x hx;simp only[kF] at h;obtain⟨h1,h2⟩:=zI h;rcases wY.1 hx with rfl|hx
  ·exact h1
  ·exact ih h2 x hx

theorem a5j{b:Nat}{d:Nat}{t r:T}{p:Option Prop}(h:N3 b H d t=some (r,p))(ht:J7 t=true):J7 r=true:=by
 cases d with
 |zero=>simp[N3] at h
 |succ d=>
  unfold N3 at h;split at h
  ·split at h
   ·simp only[W8,T5] at h;rw[←h.1];rfl
   ·split at h
    ·split at h
     ·split at h
      ·split at h
       ·simp only[W8,T5] at h;rw[←h.1];rfl
       ·cases h
      ·cases h
     ·cases h
    ·cases h
  ·split at h
   ·simp only[W8,T5] at h;rw[←h.1];rfl
   ·split at h
    ·simp only[W8,T5] at h;rw[←h.1];rfl
    ·simp only[W8,T5] at h;rw[←h.1];rfl
    ·simp only[W8,T5] at h;rw[←h.1];rfl
    ·cases h
  ·simp[J7] at ht
  ·simp only[I3,T5] at h;obtain⟨_,_,rfl,_⟩:=h;rfl
  ·simp[J7] at ht
  ·cases h
  ·split at h
   ·simp only[W8,T5] at h;rw[←h.1];rfl
   ·split at h
    ·simp only[W8,T5] at h;rw[←h.1];rfl
    ·cases h
  ·split at h
   ·simp only[W8,T5] at h;rw[←h.1];rfl
   ·cases h
  ·cases h
  ·simp only[W8,T5] at h;rw[←h.1];exact ht

theorem kW:∀(bs:List Bool) (i k:Nat),q9 (k7 (lks i bs)) k=if k<bs.length then some (i+k) else none:=by
 intro bs;induction bs with
 |nil=>intro i k;simp[lks,k7,q9]
 |cons b bs ih=>
  intro i k;cases b<;>
  ·simp only[lks,k7,Lk.old];cases k with
   |zero=>simp[q9]
   |succ k=>
    simp only[q9,ih,List.length_cons];by_cases h:k<bs.length
    ·rw[if_pos h,if_pos (by omega)];congr 1;omega
    ·rw[if_neg h,if_neg (by omega)]

theorem b11:∀(l:List Lk),(k7 l).length=l.length:=by
 intro l;induction l with
 |nil=>rfl
 |cons x l ih=>simp[k7,ih]

theorem b5a:∀(bs:List Bool) (i:Nat),(lks i bs).length=bs.length:=by
 intro bs;induction bs with
 |nil=>intro i;rfl
 |cons b bs ih=>intro i;cases b<;>simp[lks,ih]

theorem b8z{b:Nat}{os:List (Option Ob×Option Prop)}(hc0:c.m=0)(h:Inv c E H w)(hm:O5 (lW b H) (H.take b)=some os)(hs:(kF os).getD True):Inv c (E.lent b H) (os.map (·.1)) w:=by
 obtain⟨m1,m2⟩:=L5 hm;have hget:∀k ob',Z0 (os.map (·.1)) k=some ob'->k<b/\∃ob,Z0 H k=some ob/\∃p,lW b H (some ob)=some (some ob',p)/\p.getD True:=by
  intro k ob' hk;have hlt:k<(os.map (·.1)).length:=J2 hk;have hlt1:k<os.length:=by simpa using hlt
  have hlt2:k<(H.take b).length:=by rw[←m1];exact hlt1
  have hkb:k<b:=by simp at hlt2;omega
  have hkH:k<H.length:=by simp at hlt2;omega
  have he:=m2 k _ _ (K7 hlt2) (K7 hlt1)
  have hk':os[k].1=some ob':=by
   unfold Z0 at hk;simp only[pN,K7 hlt1,j8,Option.bind_some,id] at hk
   exact hk
  have hside:=a7I hs _ (List.getElem_mem hlt1);rw[List.getElem_take] at he;cases hob:H[k] with
  |none=>
   rw[hob] at he;simp only[lW,W8] at he;rw[←he] at hk';cases hk'
  |some ob=>
   rw[hob] at he;refine⟨hkb,ob,?_,os[k].2,?_,hside⟩
   ·unfold Z0;rw[K7 hkH,hob]
    rfl
   ·rw[he,←hk']
 have hstep:∀t x,W5 t=true->Rd E w t x->Rd (E.lent b H) w t x:=λt x ht hx=>Rd.closed (E:=E) (E':=E.lent b H) (λ_ h=>Or.inl h) hx ht
 have hblk:∀{k:Nat} {ob':Ob} {x:Nat},Z0 (os.map (·.1)) k=some ob'->E6 (E.lent b H) k ob' x->∃ob,k<b/\Z0 H k=some ob/\E6 E k ob x:=by
  intro k ob' x hk hx;obtain⟨hkb,ob,hob,p,hfin,hp⟩:=hget k ob' hk;refine⟨ob,hkb,hob,?_⟩
  rcases hx with hx|⟨v,ty,sz,n,row,i,j,oty,osz,on,orow,rfl,hi,hj,hc,rfl⟩
  ·exact .inl hx
  ·unfold lW at hfin;split at hfin
   ·cases hfin
   ·split at hfin
    ·split at hfin
     ·cases hfin
     ·cases hfin
    ·cases hfin
   ·rename_i he;simp only[W8,T5] at hfin he;obtain⟨rfl,_⟩:=hfin;subst he;exact .inr ⟨v,ty,sz,n,row,i,j,oty,osz,on,orow,rfl,hi,hj,hc,rfl⟩
 refine⟨⟨λk ob' hk=> ?_,λk k' o o' x hk hk' hx hx'=> ?_,λk hk=> ?_,λk v hv=>⟨h.heap.l2 k v hv.1,hv.2⟩,λk ob' v hk hv=> ?_⟩,λx hx=> ?_,λx hx=> ?_,λk ob' x hk hx=> ?_,h.fr,⟨λb hb=>.inl (h.keep.N b hb),λk hk=>by omega,h.keep.same,λk v hk=>by omega⟩⟩
 ·obtain⟨hkb,ob,hob,p,hfin,hp⟩:=hget k ob' hk;obtain⟨hL,hO,hN⟩:=h.heap.live k ob hob;refine⟨⟨hL,hkb⟩,?_,λx hx hN'=> ?_⟩
  ·unfold lW at hfin;split at hfin
   ·rename_i he;cases he
   ·rename_i ty0 sz n row he;simp only[W8] at he;subst he;obtain⟨hz0,hn,hl,hone,hcl,cs,ty,hblk,hsz,hc⟩:=hO;simp only[Ob.toArr] at hz0 hn hl hone hcl hsz hc;split at hfin
    ·rename_i n0;split at hfin
     ·rename_i cs' hcs';simp only[W8,T5] at hfin;obtain⟨rfl,rfl⟩:=hfin;obtain⟨q1,q2⟩:=L5 hcs';have hgc:∀(j:Nat) (t':T),(cs'.map (·.1))[j]? =some t'->∃t p,(row 0)[j]? =some t/\N3 b H 6 t=some (t',p)/\p.getD True:=by
       intro j t' hj;simp only[pN,I3] at hj
       obtain⟨x,hx,rfl⟩:=hj;have hlt:j<(row 0).length:=by rw[←q1];exact(z5.1 hx).1
       exact⟨_,x.2,K7 hlt,q2 j _ x (K7 hlt) hx,zB hp x (B5 hx)⟩
      refine⟨hz0,hn,λi hi=> ?_,λi t hi ht=> ?_,λhall i t hi ht=> ?_,cs,ty,hblk,hsz,λi j t hi hj=> ?_⟩
      ·simp only[Ob.toArr,List.length_map,q1];exact hl 0 (Nat.lt_succ_self 0)
      ·obtain⟨j,hj⟩:=List.getElem?_of_mem ht
       obtain⟨t0,p0,h0,hb0,_⟩:=hgc j t hj;exact a5j hb0 (hone 0 t0 (by omega) (B5 h0))
      ·obtain⟨x,hx,rfl⟩:=List.mem_map.1 ht;exact i5.1 hall x hx
      ·obtain rfl:i=0:=by have:i<1:=hi;omega
       obtain⟨t0,p0,h0,hb0,hp0⟩:=hgc j t hj;obtain⟨u,hu,hr⟩:=hc 0 j t0 (by omega) h0
       exact⟨u,hu,y5 h 6 hb0 hp0 hr⟩
     ·cases hfin
    ·cases hfin
   ·rename_i ob2 hne he;simp only[W8] at he;subst he;simp only[W8,T5] at hfin;obtain⟨rfl,rfl⟩:=hfin;by_cases hia:ob.isArr=true
    case neg=>
     cases ob with
     |mp bo get=>
      obtain⟨h0,es,clock,h1,h2⟩:=hO;exact(⟨h0,es,clock,h1,h2⟩:a7i _ _ _ _ _)
     |mp2 get=>
      obtain⟨h0,es,clock,h1,h2⟩:=hO;exact(⟨h0,es,clock,h1,h2⟩:bX _ _ _ _)
     |fam v ty sz n row=>
      have hF:FamOk E w k v ty sz n row:=hO;exact(FamOk.ren (E2:=E.lent b H) (w':=w) hF (iW _) (λt x _ ht hx=>hstep t x ht hx) rfl rfl rfl ⟨hF.l2,hkb⟩ (λ_ _=>rfl) (λ_ _=>rfl) (λ_ _=>rfl):FamOk _ _ _ _ _ _ _ _)
     |_=>exact absurd rfl hia
    obtain⟨hz0,hn,hl,hone,hcl,cs,ty,hblk,hsz,hc⟩:=hO.arr hia;have hclo:ob.toArr.cl=true:=by
     cases ob with
     |bys=>rfl
     |mp=>rfl
     |mp2=>rfl
     |fam=>cases hia
     |arr cl ty sz n row=>cases cl with
      |true=>rfl
      |false=>exact absurd rfl (hne _ _ _ _)
    refine S9.ob ?_ hia
    refine⟨hz0,hn,hl,hone,hcl,cs,ty,hblk,hsz,λi j t hi hj=> ?_⟩
    obtain⟨u,hu,hr⟩:=hc i j t hi hj;exact⟨u,hu,hstep t u (hcl hclo i t hi (B5 hj)) hr⟩
  ·obtain⟨ob3,_,hob3,hx⟩:=hblk hk hx;rw[hob] at hob3;simp only[W8] at hob3;subst hob3;rcases hN' with hN'|⟨k',ob2,hk',hob2,he⟩
   ·exact hN x hx hN'
   ·have:=h.heap.inj k k' ob ob2 x hob hob2 hx he;omega
 ·obtain⟨ob,_,hob,hx⟩:=hblk hk hx;obtain⟨ob',_,hob',hx'⟩:=hblk hk' hx';exact h.heap.inj k k' ob ob' x hob hob' hx hx'
 ·have:=h.heap.lt k hk.1;simp only[List.length_map,m1,List.length_take];have:=hk.2;omega
 ·obtain⟨hkb,ob,hob,p,hfin,hp⟩:=hget k ob' hk;obtain⟨v0,ty,sz,n,row,rfl,hle⟩:=h.heap.cur k ob v hob hv.1;simp only[lW,W8,T5] at hfin;exact⟨v0,ty,sz,n,row,hfin.1.symm,hle⟩
 ·rcases hx with hx|⟨k,ob,_,hob,hx⟩
  ·exact h.nlt x hx
  ·exact h.heap.blt hob hx
 ·rcases hx with hx|⟨k,ob,hkb,hob,hx⟩
  ·exact h.nnew x hx
  ·exact .inr (h.bnew k ob x hob hx)
 ·obtain⟨ob,_,hob,hx⟩:=hblk hk hx;exact h.bnew k ob x hob hx


theorem fA{vs:Array Value}{args:List T}{nt:Nat}(hH:HeapOk E w H)(hN:∀b,E.N b->b<w.heap.size)(ha:vB E w args vs)(hnt:args.length<=nt):
  RealE ⟨w,XB E H,E.N,nt,E,H.length⟩ E (sV 0 args) [] H {tmps:=vs++Array.replicate (nt-vs.size) undef,defers:=[]} w:=by
 have hlen:args.length=vs.size:=ha.1;refine⟨rfl,by simp;omega,⟨λi _=> ?_,λi hi=>absurd (λq hq=>by cases hq) hi⟩,⟨hH,hN,λb hb=>.inl hb,λk ob b hk hb=>.inr ⟨k,ob,hk,hb⟩,⟨rfl,rfl,rfl,W4 _,λ_ _ _=>rfl⟩,⟨λ_ h=>h,λ_ _ h=>⟨h,rfl,rfl,rfl⟩,λ_ _=>rfl,λ_ _ _ h=>⟨h,λ_ _=>⟨rfl,rfl⟩⟩⟩⟩⟩
 rw[dO,if_pos (S7 _),Nat.sub_zero];simp only[P8,Array.getD_eq_getD_getElem?,Array.getElem?_append]
 by_cases hi:i<vs.size
 ·rw[if_pos hi,K7 (by omega),rL hi]
  exact ha.2 i _ _ (K7 (by omega)) (rL hi)
 ·rw[List.getElem?_eq_none (by omega)]
  exact .und _

theorem b7Z(hm:P.follows .mixedOrders=true)(hG:D0 P G)(hGc:∀x ∈ G,P4 P x.1){f:FuncId}{fn:Func}{code:Code}{args:List T}{H Hres:Y1}{bs:List Bool}{res:T}(hf:P.funcs[f]? =some fn)(hb:fn.body=some code)(hnt:args.length<=fn.ntmps)
  (hl:H.length=bs.length) (A:Nat->Ann) (h:b7o P G fn.ntmps fn.results.toList code args H bs res Hres A):H3 P f args H res Hres:=by
 intro E w vs hH hN ha;have hsz:vs.size=args.length:=ha.1.symm;have hvc:=a4h (P:=P) (G:=G) (nt:=fn.ntmps) (m:=bs.length) code 0 _ (λe σ=>b5q P fn.results.toList bs res Hres e σ) _ A (λe σ A' hq=>hq) h
 rw[←hl] at hvc;refine calls_of_wp hf hb (Code.wp_mono (λe a' w' hh=> ?_) (b0I (c:=⟨w,XB E H,E.N,fn.ntmps,E,H.length⟩) hm hG hGc code _ _ _ w hvc ⟨E,fA hH hN ha hnt⟩))
 obtain⟨σ',hq,E',hr⟩:=hh;have hEL:∀k,E.L k->k<bs.length:=λk hk=>by rw[←hl];exact hH.lt k hk
 have main:b5q P fn.results.toList bs res Hres .ret σ'->a'.defers=[]/\∃v,(results fn a'.tmps).run P w'= .ok v w'/\
   ∃v' E',Ending.returned v= .returned v'/\Inv ⟨w,XB E H,E.N,0,E,0⟩ E' Hres w'/\Stp E w E' w'/\Rd E' w' res v':=by
  intro hq;have hk:=hr.inv.keep;have hstp:(∀b,E.N b->E'.N b)/\(∀k,E.L k->E'.L k/\E'.β k=E.β k/\E'.κ k=E.κ k/\E'.z k=E.z k)/\∀b,E.N b->w'.heap[b]? =w.heap[b]? :=⟨hk.N,λk hL=>hk.L k (hH.lt k hL) hL,hk.same⟩
  have hI0:Inv ⟨w,XB E H,E.N,0,E,0⟩ E' σ'.H w':=⟨hr.inv.heap,hr.inv.nlt,hr.inv.nnew,hr.inv.bnew,hr.inv.fr,⟨hk.N,λk h=>absurd h (J5 _),hk.same,λk v h=>absurd h (J5 _)⟩⟩
  refine⟨hr.defers,?_⟩
  simp only[b5q] at hq;split at hq
  ·rename_i r p hres;split at hq
   ·rename_i r' p' os hbor hfin;obtain⟨hp,hq⟩:=tZ hq;obtain⟨hp',hq⟩:=tZ hq;obtain⟨hos,htl,hhp⟩:=tZ hq;obtain⟨v,hrun,hrd⟩:=a0B (P:=P) hr.inv.heap (λi=>hr.slots.on i (λq hq=>by cases hq)) hres hp
    have hI1:=b8z (b:=bs.length) rfl hI0 hfin hos;obtain⟨e1,e2⟩:=a1z hhp;have hlen:Hres.length=bs.length:=by rw[←e1,b11,b5a]
    have hρlt:∀k m,q9 (k7 (lks 0 bs)) k=some m->k<Hres.length:=λk m hk=>by
     rw[kW] at hk;split at hk
     ·omega
     ·cases hk
    have hρid:∀k m,q9 (k7 (lks 0 bs)) k=some m->m=k:=λk m hk=>by
     rw[kW] at hk;split at hk
     ·simp at hk;omega
     ·cases hk
    have hI2:=a6l (ρ:=q9 (k7 (lks 0 bs))) (H':=Hres) hρlt (λk k' m _ _ h1 h2=>by rw[←hρid k m h1,←hρid k' m h2]) e2 (λk hk=>absurd hk (J5 _)) hI1
    have hid:∀k,E.L k->(q9 (k7 (lks 0 bs)) k)=some k:=λk hk=>by rw[kW,if_pos (hEL k hk)];simp
    refine⟨v,hrun,v,_,rfl,hI2,⟨⟨λb hb=>.inl (hstp.1 b hb),λk hk=>⟨?_,k,hid k hk,(hstp.2.1 k hk).1,hEL k hk⟩,λk hk=> ?_,λk hk=> ?_,λk hk=> ?_,λk v hv=> ?_,λk v i j hv=> ?_,λk v i j hv=> ?_⟩,λb hb=>hstp.2.2 b hb⟩,?_⟩
    ·rw[hlen];exact hEL k hk
    ·simp only[Env.ren,hid k hk,Option.getD_some];exact(hstp.2.1 k hk).2.1
    ·simp only[Env.ren,hid k hk,Option.getD_some];exact(hstp.2.1 k hk).2.2.1
    ·simp only[Env.ren,hid k hk,Option.getD_some];exact(hstp.2.1 k hk).2.2.2
    ·have hL:=hH.l2 k v hv;exact⟨by rw[hlen];exact hEL k hL,k,hid k hL,(hk.L2 k v (hH.lt k hL) hv).1,hEL k hL⟩
    ·have hL:=hH.l2 k v hv;simp only[Env.ren,hid k hL,Option.getD_some];exact((hk.L2 k v (hH.lt k hL) hv).2 i j).1
    ·have hL:=hH.l2 k v hv;simp only[Env.ren,hid k hL,Option.getD_some];exact((hk.L2 k v (hH.lt k hL) hv).2 i j).2
    ·obtain⟨d,t'',hr1,hle⟩:=rG htl;exact Rd.ren hρlt d hr1 (hle _ _ _ (y5 hr.inv 6 hbor hp' hrd))
   ·exact hq.elim
  ·exact hq.elim
 cases e with
 |normal=>exact main hq
 |ret=>exact main hq
 |_=>exact hq.elim

end
end Go.SS
namespace Go.SS
inductive ObEq:Option Ob->Option Ob->Prop
 |same (o:Option Ob):ObEq o o
 |rows (cl:Bool) (ty ty':TypeId) (sz n:Nat) (row row':Nat->List T) (h:∀i,i<n->row i=row' i):ObEq (some (.arr cl ty sz n row)) (some (.arr cl ty' sz n row'))

def b5n:Y1->Y1->Prop
 | [],[]=>True
 |o::r,o'::r'=>ObEq o o'/\b5n r r'
 |_,_=>False

theorem b30:∀{H H':Y1},b5n H H'->H.length=H'.length/\∀k,ObEq (Z0 H k) (Z0 H' k):=by
 intro H;induction H with
 |nil=>intro H' h;cases H' with
  |nil=>exact⟨rfl,λk=>.same _⟩
  |cons=>exact h.elim
 |cons o H ih=>intro H' h;cases H' with
  |nil=>exact h.elim
  |cons o' H'=>
   obtain⟨h1,h2⟩:=ih h.2;refine⟨by simp[h1],λk=> ?_⟩
   cases k with
   |zero=>simpa[Z0] using h.1
   |succ k=>simpa[Z0] using h2 k

theorem tW{P:Program}{f:FuncId}{args:List T}{H H1 H':Y1}{res:T}(hh:b5n H H1)(h:H3 P f args H1 res H'):H3 P f args H res H':=by
 obtain⟨h1,h2⟩:=b30 hh;have key:∀k ob,Z0 H k=some ob->∃ob',Z0 H1 k=some ob'/\(ob'=ob∨∃cl ty ty' sz n row row',ob= .arr cl ty sz n row/\ob'= .arr cl ty' sz n row'/\∀i,i<n->row i=row' i):=by
  intro k ob hk;have:=h2 k;rw[hk] at this;generalize Z0 H1 k=b at this;cases this with
  |same=>exact⟨ob,rfl,.inl rfl⟩
  |rows cl ty ty' sz n row row' h=>exact⟨_,rfl,.inr ⟨cl,ty,ty',sz,n,row,row',rfl,rfl,h⟩⟩
 have key':∀k ob',Z0 H1 k=some ob'->∃ob,Z0 H k=some ob/\(ob'=ob∨∃cl ty ty' sz n row row',ob= .arr cl ty sz n row/\ob'= .arr cl ty' sz n row'/\∀i,i<n->row i=row' i):=by
  intro k ob hk;have:=h2 k;rw[hk] at this;generalize Z0 H k=b at this;cases this with
  |same=>exact⟨ob,rfl,.inl rfl⟩
  |rows cl ty ty' sz n row row' h=>exact⟨_,rfl,.inr ⟨cl,ty,ty',sz,n,row,row',rfl,rfl,h⟩⟩
 intro E w vs hH hN ha;have hbk:∀k ob ob' b,(ob'=ob∨∃cl ty ty' sz n row row',ob= .arr cl ty sz n row/\ob'= .arr cl ty' sz n row'/\∀i,i<n->row i=row' i)->(E6 E k ob' b↔E6 E k ob b):=by
  intro k ob ob' b hc;rcases hc with rfl|⟨cl,ty,ty',sz,n,row,row',rfl,rfl,_⟩
  ·exact Iff.rfl
  ·exact⟨λhb=>.inl (hb.arr rfl),λhb=>.inl (hb.arr rfl)⟩
 have hX:XB E H1=XB E H:=by
  funext b
  refine propext ⟨λ⟨k,ob',hk,hb⟩=> ?_,λ⟨k,ob,hk,hb⟩=> ?_⟩
  ·obtain⟨ob,hk',hc⟩:=key' k ob' hk;exact⟨k,ob,hk',(hbk k ob ob' b hc).1 hb⟩
  ·obtain⟨ob',hk',hc⟩:=key k ob hk;exact⟨k,ob',hk',(hbk k ob ob' b hc).2 hb⟩
 have hH1:HeapOk E w H1:=by
  refine⟨λk ob' hk=> ?_,λk k' o o' b hk hk' hb hb'=> ?_,λk hk=>by rw[←h1];exact hH.lt k hk,hH.l2,λk ob' v hk hv=> ?_⟩
  ·obtain⟨ob,hk',hc⟩:=key' k ob' hk;obtain⟨l1,l2,l3⟩:=hH.live k ob hk';refine⟨l1,?_,λb hb=>l3 b ((hbk k ob ob' b hc).1 hb)⟩
   rcases hc with rfl|⟨cl,ty,ty',sz,n,row,row',rfl,rfl,hr⟩
   ·exact l2
   ·obtain⟨hz,hn,hl,hone,hcl,cs,tyc,hblk,hsz,hc⟩:=l2;simp only[Ob.toArr] at*;exact⟨hz,hn,λi hi=>(congrArg List.length (hr i hi)).symm.trans (hl i hi),λi t hi ht=>hone i t hi ((hr i hi)▸ht),λhc' i t hi ht=>hcl hc' i t hi ((hr i hi)▸ht),cs,tyc,hblk,hsz,λi j t hi hj=>hc i j t hi ((hr i hi)▸hj)⟩
  ·obtain⟨x,hx,hc⟩:=key' k o hk;obtain⟨x',hx',hc'⟩:=key' k' o' hk';exact hH.inj k k' x x' b hx hx' ((hbk k x o b hc).1 hb) ((hbk k' x' o' b hc').1 hb')
  ·obtain⟨ob,hk',hc⟩:=key' k ob' hk;obtain⟨v0,ty,sz,n,row,rfl,hle⟩:=hH.cur k ob v hk' hv;rcases hc with rfl|⟨_,_,_,_,_,_,_,he,_⟩
   ·exact⟨v0,ty,sz,n,row,rfl,hle⟩
   ·cases he
 have:=h E w vs hH1 hN ha;rw[hX] at this;exact this

def a5k:Y1->List Lk->Y1->Bool
 |H,lk::l,some _::r=>(match lk.old with|some m=>(Z0 H m).isSome|none=>false)&&a5k H l r
 |H,_::l,none::r=>a5k H l r
 |_,_,_=>true

def c1y(σ:Sy)(l:List Lk)(σ':Sy):Bool:=
 match a84 σ l with
 |some σ1=>a5k σ1.H (gX σ1.s σ1.H (aZ l)) σ'.H
 |none=>false

def b36(m:Nat)(σ σ':Sy):List (List Lk)->Prop
 | []=>False
 | [l]=>gQ m l σ σ'
 |l::r=>match c1y σ l σ' with
  |true=>gQ m l σ σ'
  |false=>b36 m σ σ' r

theorem b5B{m:Nat}{σ σ':Sy}:∀{ls:List (List Lk)},b36 m σ σ' ls->Sub m σ σ':=by
 intro ls;induction ls with
 |nil=>intro h;exact h.elim
 |cons l ls ih=>
  intro h;cases ls with
  |nil=>exact vI h
  |cons l' ls=>
   simp only[b36] at h;split at h
   ·exact vI h
   ·exact ih h

def b6y(P:Program)(rs:List ResultVar)(m:Nat)(lk:List (List Lk))(res:T)(Hres:Y1):Exit->Sy->Prop
 | .normal,σ| .ret,σ=>match b3a P σ.s σ.H rs with
  |some (r,p)=>iM p (b36 m ⟨[(0,r)],σ.H⟩ ⟨[(0,res)],Hres⟩ lk)
  |none=>False
 |_,_=>False

def b7q(P:Program)(G:I2)(nt:Nat)(rs:List ResultVar)(code:Code)(args:List T)(H:Y1)(res:T)(Hres:Y1)(A:Nat->Ann)(lk:List (List Lk)):Prop:=
 gP P G nt H.length code 0 (λe σ _=>b6y P rs H.length lk res Hres e σ) ⟨sV 0 args,H⟩ A

theorem b74{P:Program}{G:I2}(hm:P.follows .mixedOrders=true)(hG:D0 P G)(hGc:∀x ∈ G,P4 P x.1){f:FuncId}{fn:Func}{code:Code}{args:List T}{H Hres:Y1}{res:T}(hf:P.funcs[f]? =some fn)(hb:fn.body=some code)(hnt:args.length<=fn.ntmps)
  (A:Nat->Ann) (lk:List (List Lk)) (h:b7q P G fn.ntmps fn.results.toList code args H res Hres A lk):H3 P f args H res Hres:=by
 intro E w vs hH hN ha;have hsz:vs.size=args.length:=ha.1.symm;have hvc:=a4h (P:=P) (G:=G) (nt:=fn.ntmps) (m:=H.length) code 0 _ (λe σ=>b6y P fn.results.toList H.length lk res Hres e σ) _ A (λe σ A' hq=>hq) h
 refine calls_of_wp hf hb (Code.wp_mono (λe a' w' hh=> ?_) (b0I (c:=⟨w,XB E H,E.N,fn.ntmps,E,H.length⟩) hm hG hGc code _ _ _ w hvc ⟨E,fA hH hN ha hnt⟩))
 obtain⟨σ',hq,E',hr⟩:=hh;have main:b6y P fn.results.toList H.length lk res Hres .ret σ'->a'.defers=[]/\∃v,(results fn a'.tmps).run P w'= .ok v w'/\
   ∃v' E',Ending.returned v= .returned v'/\Inv ⟨w,XB E H,E.N,0,E,0⟩ E' Hres w'/\Stp E w E' w'/\Rd E' w' res v':=by
  intro hq;refine⟨hr.defers,?_⟩
  simp only[b6y] at hq;split at hq
  ·rename_i r p hres;obtain⟨hp,hq⟩:=tZ hq;obtain⟨v,hrun,hrd⟩:=a0B (P:=P) hr.inv.heap (λi=>hr.slots.on i (λq hq=>by cases hq)) hres hp
   refine⟨v,hrun,v,?_⟩
   have hI:=hr.inv;have h1:hZ ⟨w,XB E H,E.N,1,E,H.length⟩ [(0,r)] σ'.H {tmps:= #[v],defers:=[]} w':=by
    refine⟨E',rfl,rfl,⟨λi _=> ?_,λi hi=>absurd (λq hq=>by cases hq) hi⟩,⟨hI.heap,hI.nlt,hI.nnew,hI.bnew,hI.fr,⟨hI.keep.N,hI.keep.L,hI.keep.same,hI.keep.L2⟩⟩⟩
    cases i with
    |zero=>exact hrd
    |succ i=>exact .und _
   obtain⟨E2,hr2⟩:=b5B hq ⟨w,XB E H,E.N,1,E,H.length⟩ _ w' rfl h1;have hI2:=hr2.inv;have hk:=hI2.keep;refine⟨E2,rfl,⟨hI2.heap,hI2.nlt,hI2.nnew,hI2.bnew,hI2.fr,⟨hk.N,λk h=>absurd h (J5 _),hk.same,λk v h=>absurd h (J5 _)⟩⟩,⟨⟨hk.N,λk hL=> ?_,λk hL=> ?_,λk hL=> ?_,λk hL=> ?_,λk u hu=> ?_,λk u i j hu=> ?_,λk u i j hu=> ?_⟩,hk.same⟩,?_⟩
   ·exact(hk.L k (hH.lt k hL) hL).1
   ·exact(hk.L k (hH.lt k hL) hL).2.1
   ·exact(hk.L k (hH.lt k hL) hL).2.2.1
   ·exact(hk.L k (hH.lt k hL) hL).2.2.2
   ·exact(hk.L2 k u (hH.lt k (hH.l2 k u hu)) hu).1
   ·exact((hk.L2 k u (hH.lt k (hH.l2 k u hu)) hu).2 i j).1
   ·exact((hk.L2 k u (hH.lt k (hH.l2 k u hu)) hu).2 i j).2
   ·exact hr2.slots.on 0 (λq hq=>by cases hq)
  ·exact hq.elim
 cases e with
 |normal=>exact main hq
 |ret=>exact main hq
 |_=>exact hq.elim
end Go.SS
