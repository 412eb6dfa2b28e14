/- A calculus of symbolic states: a function that writes to what it is given, from its code. -/
import Derived.Test.YtokaojbaacnngaaGreatSS18
namespace Go.SS
open Go.RowKit

def kZ(b:Nat)(H:Y3)(o:Option Ob):Option (Option Ob×Option Prop):=
 match o with
 |none=>some (none,none)
 |some (.arr false ty sz n row)=>match n with
  |1=>match P7 (O9 b H 6) (row 0) with
   |some cs=>some (some (.arr (cs.all λx=>W9 x.1) ty sz 1 λ_=>cs.map (·.1)),xP cs)
   |none=>none
  |_=>none
 |some ob=>some (some ob,none)

def nE:List (Option Ob×Option Prop)->Option Prop
 | []=>none
 |x::r=>rT x.2 (nE r)

def lks:Nat->List Bool->List Lk
 |_,[]=>[]
 |i,true::r=>.box i::lks (i+1) r
 |i,false::r=>.arr i::lks (i+1) r

def b42(P:Program)(rs:List ResultVar)(bs:List Bool)(res:T)(Hres:Y3):Exit->Sy->Prop
 | .normal,σ| .ret,σ=>match b19 P σ.s σ.H rs with
  |some (r,p)=>match O9 bs.length σ.H 6 r,P7 (kZ bs.length σ.H) (σ.H.take bs.length) with
   |some (r',p'),some os=>kS p (kS p' (kS (nE os) (rY (v9 (t5 (lks 0 bs))) 6 r' res/\a5l (v9 (t5 (lks 0 bs))) (os.map (·.1)) (lks 0 bs) Hres)))
   |_,_=>False
  |none=>False
 |_,_=>False

def b6B(P:Program)(G:I4)(nt:Nat)(rs:List ResultVar)(code:Code)(args:List T)(H:Y3)(bs:List Bool)(res:T)(Hres:Y3)(A:Nat->Ann):Prop:=
 kE P G nt bs.length code 0 (λe σ _=>b42 P rs bs res Hres e σ) ⟨tY 0 args,H⟩ A

section
variable {c:Ctx} {E:Env} {H:Y3} {w:World} {P:Program} {G:I4}

theorem a7U:∀{l:List (Option Ob×Option Prop)},(nE l).getD True->∀x ∈ l,x.2.getD True:=by
 intro l;induction l with
 |nil=>intro _ x hx;cases hx
 |cons y l ih=>
  intro h x hx;simp only[nE] at h;obtain⟨h1,h2⟩:=f9 h;rcases vN.1 hx with rfl|hx
  ·exact h1
  ·exact ih h2 x hx

theorem a4w{b:Nat}{d:Nat}{t r:T}{p:Option Prop}(h:O9 b H d t=some (r,p))(ht:M0 t=true):M0 r=true:=by
 cases d with
 |zero=>simp[O9] at h
 |succ d=>
  unfold O9 at h;split at h
  ·split at h
   ·simp only[X1,U4] at h;rw[←h.1];rfl
   ·split at h
    ·split at h
     ·split at h
      ·split at h
       ·simp only[X1,U4] at h;rw[←h.1];rfl
       ·cases h
      ·cases h
     ·cases h
    ·cases h
  ·split at h
   ·simp only[X1,U4] at h;rw[←h.1];rfl
   ·split at h
    ·simp only[X1,U4] at h;rw[←h.1];rfl
    ·simp only[X1,U4] at h;rw[←h.1];rfl
    ·simp only[X1,U4] at h;rw[←h.1];rfl
    ·cases h
  ·simp[M0] at ht
  ·simp only[J8,U4] at h;obtain⟨_,_,rfl,_⟩:=h;rfl
  ·simp[M0] at ht
  ·cases h
  ·split at h
   ·simp only[X1,U4] at h;rw[←h.1];rfl
   ·split at h
    ·simp only[X1,U4] at h;rw[←h.1];rfl
    ·cases h
  ·split at h
   ·simp only[X1,U4] at h;rw[←h.1];rfl
   ·cases h
  ·cases h
  ·simp only[X1,U4] at h;rw[←h.1];exact ht

theorem lC:∀(bs:List Bool) (i k:Nat),v9 (t5 (lks i bs)) k=if k<bs.length then some (i+k) else none:=by
 intro bs;induction bs with
 |nil=>intro i k;simp[lks,t5,v9]
 |cons b bs ih=>
  intro i k;cases b<;>
  ·simp only[lks,t5,Lk.old];cases k with
   |zero=>simp[v9]
   |succ k=>
    simp only[v9,ih,List.length_cons];by_cases h:k<bs.length
    ·rw[if_pos h,if_pos (by omega)];congr 1;omega
    ·rw[if_neg h,if_neg (by omega)]

theorem b2Q:∀(l:List Lk),(t5 l).length=l.length:=by
 intro l;induction l with
 |nil=>rfl
 |cons x l ih=>simp[t5,ih]

theorem b4V:∀(bs:List Bool) (i:Nat),(lks i bs).length=bs.length:=by
 intro bs;induction bs with
 |nil=>intro i;rfl
 |cons b bs ih=>intro i;cases b<;>simp[lks,ih]

theorem b6P{b:Nat}{os:List (Option Ob×Option Prop)}(hc0:c.m=0)(h:Inv c E H w)(hm:P7 (kZ b H) (H.take b)=some os)(hs:(nE os).getD True):Inv c (E.lent b H) (os.map (·.1)) w:=by
 obtain⟨m1,m2⟩:=M8 hm;have hget:∀k ob',Z1 (os.map (·.1)) k=some ob'->k<b/\∃ob,Z1 H k=some ob/\∃p,kZ b H (some ob)=some (some ob',p)/\p.getD True:=by
  intro k ob' hk;have hlt:k<(os.map (·.1)).length:=K4 hk;have hlt1:k<os.length:=by simpa using hlt
  have hlt2:k<(H.take b).length:=by rw[←m1];exact hlt1
  have hkb:k<b:=by simp at hlt2;omega
  have hkH:k<H.length:=by simp at hlt2;omega
  have he:=m2 k _ _ (L4 hlt2) (L4 hlt1)
  have hk':os[k].1=some ob':=by
   unfold Z1 at hk;simp only[sH,L4 hlt1,q7,Option.bind_some,id] at hk
   exact hk
  have hside:=a7U hs _ (List.getElem_mem hlt1);rw[List.getElem_take] at he;cases hob:H[k] with
  |none=>
   rw[hob] at he;simp only[kZ,X1] at he;rw[←he] at hk';cases hk'
  |some ob=>
   rw[hob] at he;refine⟨hkb,ob,?_,os[k].2,?_,hside⟩
   ·unfold Z1;rw[L4 hkH,hob]
    rfl
   ·rw[he,←hk']
 have hstep:∀t x,W9 t=true->Rd E w t x->Rd (E.lent b H) w t x:=λt x ht hx=>Rd.closed (E:=E) (E':=E.lent b H) (λ_ h=>Or.inl h) hx ht
 have hblk:∀{k:Nat} {ob':Ob} {x:Nat},Z1 (os.map (·.1)) k=some ob'->G6 (E.lent b H) k ob' x->∃ob,k<b/\Z1 H k=some ob/\G6 E k ob x:=by
  intro k ob' x hk hx;obtain⟨hkb,ob,hob,p,hfin,hp⟩:=hget k ob' hk;refine⟨ob,hkb,hob,?_⟩
  rcases hx with hx|⟨v,ty,sz,n,row,i,j,oty,osz,on,orow,rfl,hi,hj,hc,rfl⟩
  ·exact .inl hx
  ·unfold kZ at hfin;split at hfin
   ·cases hfin
   ·split at hfin
    ·split at hfin
     ·cases hfin
     ·cases hfin
    ·cases hfin
   ·rename_i he;simp only[X1,U4] at hfin he;obtain⟨rfl,_⟩:=hfin;subst he;exact .inr ⟨v,ty,sz,n,row,i,j,oty,osz,on,orow,rfl,hi,hj,hc,rfl⟩
 refine⟨⟨λk ob' hk=> ?_,λk k' o o' x hk hk' hx hx'=> ?_,λk hk=> ?_,λk v hv=>⟨h.heap.l2 k v hv.1,hv.2⟩,λk ob' v hk hv=> ?_⟩,λx hx=> ?_,λx hx=> ?_,λk ob' x hk hx=> ?_,h.fr,⟨λb hb=>.inl (h.keep.N b hb),λk hk=>by omega,h.keep.same,λk v hk=>by omega⟩⟩
 ·obtain⟨hkb,ob,hob,p,hfin,hp⟩:=hget k ob' hk;obtain⟨hL,hO,hN⟩:=h.heap.live k ob hob;refine⟨⟨hL,hkb⟩,?_,λx hx hN'=> ?_⟩
  ·unfold kZ at hfin;split at hfin
   ·rename_i he;cases he
   ·rename_i ty0 sz n row he;simp only[X1] at he;subst he;obtain⟨hz0,hn,hl,hone,hcl,cs,ty,hblk,hsz,hc⟩:=hO;simp only[Ob.toArr] at hz0 hn hl hone hcl hsz hc;split at hfin
    ·rename_i n0;split at hfin
     ·rename_i cs' hcs';simp only[X1,U4] at hfin;obtain⟨rfl,rfl⟩:=hfin;obtain⟨q1,q2⟩:=M8 hcs';have hgc:∀(j:Nat) (t':T),(cs'.map (·.1))[j]? =some t'->∃t p,(row 0)[j]? =some t/\O9 b H 6 t=some (t',p)/\p.getD True:=by
       intro j t' hj;simp only[sH,J8] at hj
       obtain⟨x,hx,rfl⟩:=hj;have hlt:j<(row 0).length:=by rw[←q1];exact(A0.1 hx).1
       exact⟨_,x.2,L4 hlt,q2 j _ x (L4 hlt) hx,g9 hp x (C6 hx)⟩
      refine⟨hz0,hn,λi hi=> ?_,λi t hi ht=> ?_,λhall i t hi ht=> ?_,cs,ty,hblk,hsz,λi j t hi hj=> ?_⟩
      ·simp only[Ob.toArr,List.length_map,q1];exact hl 0 (Nat.lt_succ_self 0)
      ·obtain⟨j,hj⟩:=List.getElem?_of_mem ht
       obtain⟨t0,p0,h0,hb0,_⟩:=hgc j t hj;exact a4w hb0 (hone 0 t0 (by omega) (C6 h0))
      ·obtain⟨x,hx,rfl⟩:=List.mem_map.1 ht;exact m4.1 hall x hx
      ·obtain rfl:i=0:=by have:i<1:=hi;omega
       obtain⟨t0,p0,h0,hb0,hp0⟩:=hgc j t hj;obtain⟨u,hu,hr⟩:=hc 0 j t0 (by omega) h0
       exact⟨u,hu,A6 h 6 hb0 hp0 hr⟩
     ·cases hfin
    ·cases hfin
   ·rename_i ob2 hne he;simp only[X1] at he;subst he;simp only[X1,U4] at hfin;obtain⟨rfl,rfl⟩:=hfin;by_cases hia:ob.isArr=true
    case neg=>
     cases ob with
     |mp bo get=>
      obtain⟨h0,es,clock,h1,h2⟩:=hO;exact(⟨h0,es,clock,h1,h2⟩:a4W _ _ _ _ _)
     |mp2 get=>
      obtain⟨h0,es,clock,h1,h2⟩:=hO;exact(⟨h0,es,clock,h1,h2⟩:gK _ _ _ _)
     |fam v ty sz n row=>
      have hF:FamOk E w k v ty sz n row:=hO;exact(FamOk.ren (E2:=E.lent b H) (w':=w) hF (nA _) (λt x _ ht hx=>hstep t x ht hx) rfl rfl rfl ⟨hF.l2,hkb⟩ (λ_ _=>rfl) (λ_ _=>rfl) (λ_ _=>rfl):FamOk _ _ _ _ _ _ _ _)
     |_=>exact absurd rfl hia
    obtain⟨hz0,hn,hl,hone,hcl,cs,ty,hblk,hsz,hc⟩:=hO.arr hia;have hclo:ob.toArr.cl=true:=by
     cases ob with
     |bys=>rfl
     |mp=>rfl
     |mp2=>rfl
     |fam=>cases hia
     |arr cl ty sz n row=>cases cl with
      |true=>rfl
      |false=>exact absurd rfl (hne _ _ _ _)
    refine T7.ob ?_ hia
    refine⟨hz0,hn,hl,hone,hcl,cs,ty,hblk,hsz,λi j t hi hj=> ?_⟩
    obtain⟨u,hu,hr⟩:=hc i j t hi hj;exact⟨u,hu,hstep t u (hcl hclo i t hi (C6 hj)) hr⟩
  ·obtain⟨ob3,_,hob3,hx⟩:=hblk hk hx;rw[hob] at hob3;simp only[X1] at hob3;subst hob3;rcases hN' with hN'|⟨k',ob2,hk',hob2,he⟩
   ·exact hN x hx hN'
   ·have:=h.heap.inj k k' ob ob2 x hob hob2 hx he;omega
 ·obtain⟨ob,_,hob,hx⟩:=hblk hk hx;obtain⟨ob',_,hob',hx'⟩:=hblk hk' hx';exact h.heap.inj k k' ob ob' x hob hob' hx hx'
 ·have:=h.heap.lt k hk.1;simp only[List.length_map,m1,List.length_take];have:=hk.2;omega
 ·obtain⟨hkb,ob,hob,p,hfin,hp⟩:=hget k ob' hk;obtain⟨v0,ty,sz,n,row,rfl,hle⟩:=h.heap.cur k ob v hob hv.1;simp only[kZ,X1,U4] at hfin;exact⟨v0,ty,sz,n,row,hfin.1.symm,hle⟩
 ·rcases hx with hx|⟨k,ob,_,hob,hx⟩
  ·exact h.nlt x hx
  ·exact h.heap.blt hob hx
 ·rcases hx with hx|⟨k,ob,hkb,hob,hx⟩
  ·exact h.nnew x hx
  ·exact .inr (h.bnew k ob x hob hx)
 ·obtain⟨ob,_,hob,hx⟩:=hblk hk hx;exact h.bnew k ob x hob hx


theorem iG{vs:Array Value}{args:List T}{nt:Nat}(hH:HeapOk E w H)(hN:∀b,E.N b->b<w.heap.size)(ha:wU E w args vs)(hnt:args.length<=nt):
  RealE ⟨w,XB E H,E.N,nt,E,H.length⟩ E (tY 0 args) [] H {tmps:=vs++Array.replicate (nt-vs.size) undef,defers:=[]} w:=by
 have hlen:args.length=vs.size:=ha.1;refine⟨rfl,by simp;omega,⟨λi _=> ?_,λi hi=>absurd (λq hq=>by cases hq) hi⟩,⟨hH,hN,λb hb=>.inl hb,λk ob b hk hb=>.inr ⟨k,ob,hk,hb⟩,⟨rfl,rfl,rfl,V2 _,λ_ _ _=>rfl⟩,⟨λ_ h=>h,λ_ _ h=>⟨h,rfl,rfl,rfl⟩,λ_ _=>rfl,λ_ _ _ h=>⟨h,λ_ _=>⟨rfl,rfl⟩⟩⟩⟩⟩
 rw[jL,if_pos (S7 _),Nat.sub_zero];simp only[L5,Array.getD_eq_getD_getElem?,Array.getElem?_append]
 by_cases hi:i<vs.size
 ·rw[if_pos hi,L4 (by omega),sJ hi]
  exact ha.2 i _ _ (L4 (by omega)) (sJ hi)
 ·rw[List.getElem?_eq_none (by omega)]
  exact .und _

theorem b7p(hm:P.follows .mixedOrders=true)(hG:F6 P G)(hGc:∀x ∈ G,R4 P x.1){f:FuncId}{fn:Func}{code:Code}{args:List T}{H Hres:Y3}{bs:List Bool}{res:T}(hf:P.funcs[f]? =some fn)(hb:fn.body=some code)(hnt:args.length<=fn.ntmps)
  (hl:H.length=bs.length) (A:Nat->Ann) (h:b6B P G fn.ntmps fn.results.toList code args H bs res Hres A):B1 P f args H res Hres:=by
 intro E w vs hH hN ha;have hsz:vs.size=args.length:=ha.1.symm;have hvc:=a2G (P:=P) (G:=G) (nt:=fn.ntmps) (m:=bs.length) code 0 _ (λe σ=>b42 P fn.results.toList bs res Hres e σ) _ A (λe σ A' hq=>hq) h
 rw[←hl] at hvc;refine calls_of_wp hf hb (Code.wp_mono (λe a' w' hh=> ?_) (b2H (c:=⟨w,XB E H,E.N,fn.ntmps,E,H.length⟩) hm hG hGc code _ _ _ w hvc ⟨E,iG hH hN ha hnt⟩))
 obtain⟨σ',hq,E',hr⟩:=hh;have hEL:∀k,E.L k->k<bs.length:=λk hk=>by rw[←hl];exact hH.lt k hk
 have main:b42 P fn.results.toList bs res Hres .ret σ'->a'.defers=[]/\∃v,(results fn a'.tmps).run P w'= .ok v w'/\
   ∃v' E',Ending.returned v= .returned v'/\Inv ⟨w,XB E H,E.N,0,E,0⟩ E' Hres w'/\Stp E w E' w'/\Rd E' w' res v':=by
  intro hq;have hk:=hr.inv.keep;have hstp:(∀b,E.N b->E'.N b)/\(∀k,E.L k->E'.L k/\E'.β k=E.β k/\E'.κ k=E.κ k/\E'.z k=E.z k)/\∀b,E.N b->w'.heap[b]? =w.heap[b]? :=⟨hk.N,λk hL=>hk.L k (hH.lt k hL) hL,hk.same⟩
  have hI0:Inv ⟨w,XB E H,E.N,0,E,0⟩ E' σ'.H w':=⟨hr.inv.heap,hr.inv.nlt,hr.inv.nnew,hr.inv.bnew,hr.inv.fr,⟨hk.N,λk h=>absurd h (F2 _),hk.same,λk v h=>absurd h (F2 _)⟩⟩
  refine⟨hr.defers,?_⟩
  simp only[b42] at hq;split at hq
  ·rename_i r p hres;split at hq
   ·rename_i r' p' os hbor hfin;obtain⟨hp,hq⟩:=uU hq;obtain⟨hp',hq⟩:=uU hq;obtain⟨hos,htl,hhp⟩:=uU hq;obtain⟨v,hrun,hrd⟩:=eM (P:=P) hr.inv.heap (λi=>hr.slots.on i (λq hq=>by cases hq)) hres hp
    have hI1:=b6P (b:=bs.length) rfl hI0 hfin hos;obtain⟨e1,e2⟩:=a1a hhp;have hlen:Hres.length=bs.length:=by rw[←e1,b2Q,b4V]
    have hρlt:∀k m,v9 (t5 (lks 0 bs)) k=some m->k<Hres.length:=λk m hk=>by
     rw[lC] at hk;split at hk
     ·omega
     ·cases hk
    have hρid:∀k m,v9 (t5 (lks 0 bs)) k=some m->m=k:=λk m hk=>by
     rw[lC] at hk;split at hk
     ·simp at hk;omega
     ·cases hk
    have hI2:=a5h (ρ:=v9 (t5 (lks 0 bs))) (H':=Hres) hρlt (λk k' m _ _ h1 h2=>by rw[←hρid k m h1,←hρid k' m h2]) e2 (λk hk=>absurd hk (F2 _)) hI1
    have hid:∀k,E.L k->(v9 (t5 (lks 0 bs)) k)=some k:=λk hk=>by rw[lC,if_pos (hEL k hk)];simp
    refine⟨v,hrun,v,_,rfl,hI2,⟨⟨λb hb=>.inl (hstp.1 b hb),λk hk=>⟨?_,k,hid k hk,(hstp.2.1 k hk).1,hEL k hk⟩,λk hk=> ?_,λk hk=> ?_,λk hk=> ?_,λk v hv=> ?_,λk v i j hv=> ?_,λk v i j hv=> ?_⟩,λb hb=>hstp.2.2 b hb⟩,?_⟩
    ·rw[hlen];exact hEL k hk
    ·simp only[Env.ren,hid k hk,Option.getD_some];exact(hstp.2.1 k hk).2.1
    ·simp only[Env.ren,hid k hk,Option.getD_some];exact(hstp.2.1 k hk).2.2.1
    ·simp only[Env.ren,hid k hk,Option.getD_some];exact(hstp.2.1 k hk).2.2.2
    ·have hL:=hH.l2 k v hv;exact⟨by rw[hlen];exact hEL k hL,k,hid k hL,(hk.L2 k v (hH.lt k hL) hv).1,hEL k hL⟩
    ·have hL:=hH.l2 k v hv;simp only[Env.ren,hid k hL,Option.getD_some];exact((hk.L2 k v (hH.lt k hL) hv).2 i j).1
    ·have hL:=hH.l2 k v hv;simp only[Env.ren,hid k hL,Option.getD_some];exact((hk.L2 k v (hH.lt k hL) hv).2 i j).2
    ·obtain⟨d,t'',hr1,hle⟩:=sG htl;exact Rd.ren hρlt d hr1 (hle _ _ _ (A6 hr.inv 6 hbor hp' hrd))
   ·exact hq.elim
  ·exact hq.elim
 cases e with
 |normal=>exact main hq
 |ret=>exact main hq
 |_=>exact hq.elim

end
end Go.SS
namespace Go.SS
inductive ObEq:Option Ob->Option Ob->Prop
 |same (o:Option Ob):ObEq o o
 |rows (cl:Bool) (ty ty':TypeId) (sz n:Nat) (row row':Nat->List T) (h:∀i,i<n->row i=row' i):ObEq (some (.arr cl ty sz n row)) (some (.arr cl ty' sz n row'))

def b3y:Y3->Y3->Prop
 | [],[]=>True
 |o::r,o'::r'=>ObEq o o'/\b3y r r'
 |_,_=>False

theorem b3Q:∀{H H':Y3},b3y H H'->H.length=H'.length/\∀k,ObEq (Z1 H k) (Z1 H' k):=by
 intro H;induction H with
 |nil=>intro H' h;cases H' with
  |nil=>exact⟨rfl,λk=>.same _⟩
  |cons=>exact h.elim
 |cons o H ih=>intro H' h;cases H' with
  |nil=>exact h.elim
  |cons o' H'=>
   obtain⟨h1,h2⟩:=ih h.2;refine⟨by simp[h1],λk=> ?_⟩
   cases k with
   |zero=>simpa[Z1] using h.1
   |succ k=>simpa[Z1] using h2 k

theorem uY{P:Program}{f:FuncId}{args:List T}{H H1 H':Y3}{res:T}(hh:b3y H H1)(h:B1 P f args H1 res H'):B1 P f args H res H':=by
 obtain⟨h1,h2⟩:=b3Q hh;have key:∀k ob,Z1 H k=some ob->∃ob',Z1 H1 k=some ob'/\(ob'=ob∨∃cl ty ty' sz n row row',ob= .arr cl ty sz n row/\ob'= .arr cl ty' sz n row'/\∀i,i<n->row i=row' i):=by
  intro k ob hk;have:=h2 k;rw[hk] at this;generalize Z1 H1 k=b at this;cases this with
  |same=>exact⟨ob,rfl,.inl rfl⟩
  |rows cl ty ty' sz n row row' h=>exact⟨_,rfl,.inr ⟨cl,ty,ty',sz,n,row,row',rfl,rfl,h⟩⟩
 have key':∀k ob',Z1 H1 k=some ob'->∃ob,Z1 H k=some ob/\(ob'=ob∨∃cl ty ty' sz n row row',ob= .arr cl ty sz n row/\ob'= .arr cl ty' sz n row'/\∀i,i<n->row i=row' i):=by
  intro k ob hk;have:=h2 k;rw[hk] at this;generalize Z1 H k=b at this;cases this with
  |same=>exact⟨ob,rfl,.inl rfl⟩
  |rows cl ty ty' sz n row row' h=>exact⟨_,rfl,.inr ⟨cl,ty,ty',sz,n,row,row',rfl,rfl,h⟩⟩
 intro E w vs hH hN ha;have hbk:∀k ob ob' b,(ob'=ob∨∃cl ty ty' sz n row row',ob= .arr cl ty sz n row/\ob'= .arr cl ty' sz n row'/\∀i,i<n->row i=row' i)->(G6 E k ob' b↔G6 E k ob b):=by
  intro k ob ob' b hc;rcases hc with rfl|⟨cl,ty,ty',sz,n,row,row',rfl,rfl,_⟩
  ·exact Iff.rfl
  ·exact⟨λhb=>.inl (hb.arr rfl),λhb=>.inl (hb.arr rfl)⟩
 have hX:XB E H1=XB E H:=by
  funext b
  refine propext ⟨λ⟨k,ob',hk,hb⟩=> ?_,λ⟨k,ob,hk,hb⟩=> ?_⟩
  ·obtain⟨ob,hk',hc⟩:=key' k ob' hk;exact⟨k,ob,hk',(hbk k ob ob' b hc).1 hb⟩
  ·obtain⟨ob',hk',hc⟩:=key k ob hk;exact⟨k,ob',hk',(hbk k ob ob' b hc).2 hb⟩
 have hH1:HeapOk E w H1:=by
  refine⟨λk ob' hk=> ?_,λk k' o o' b hk hk' hb hb'=> ?_,λk hk=>by rw[←h1];exact hH.lt k hk,hH.l2,λk ob' v hk hv=> ?_⟩
  ·obtain⟨ob,hk',hc⟩:=key' k ob' hk;obtain⟨l1,l2,l3⟩:=hH.live k ob hk';refine⟨l1,?_,λb hb=>l3 b ((hbk k ob ob' b hc).1 hb)⟩
   rcases hc with rfl|⟨cl,ty,ty',sz,n,row,row',rfl,rfl,hr⟩
   ·exact l2
   ·obtain⟨hz,hn,hl,hone,hcl,cs,tyc,hblk,hsz,hc⟩:=l2;simp only[Ob.toArr] at*;exact⟨hz,hn,λi hi=>(congrArg List.length (hr i hi)).symm.trans (hl i hi),λi t hi ht=>hone i t hi ((hr i hi)▸ht),λhc' i t hi ht=>hcl hc' i t hi ((hr i hi)▸ht),cs,tyc,hblk,hsz,λi j t hi hj=>hc i j t hi ((hr i hi)▸hj)⟩
  ·obtain⟨x,hx,hc⟩:=key' k o hk;obtain⟨x',hx',hc'⟩:=key' k' o' hk';exact hH.inj k k' x x' b hx hx' ((hbk k x o b hc).1 hb) ((hbk k' x' o' b hc').1 hb')
  ·obtain⟨ob,hk',hc⟩:=key' k ob' hk;obtain⟨v0,ty,sz,n,row,rfl,hle⟩:=hH.cur k ob v hk' hv;rcases hc with rfl|⟨_,_,_,_,_,_,_,he,_⟩
   ·exact⟨v0,ty,sz,n,row,rfl,hle⟩
   ·cases he
 have:=h E w vs hH1 hN ha;rw[hX] at this;exact this

def a4h:Y3->List Lk->Y3->Bool
 |H,lk::l,some _::r=>(match lk.old with|some m=>(Z1 H m).isSome|none=>false)&&a4h H l r
 |H,_::l,none::r=>a4h H l r
 |_,_,_=>true

def b9D(σ:Sy)(l:List Lk)(σ':Sy):Bool:=
 match a7u σ l with
 |some σ1=>a4h σ1.H (kP σ1.s σ1.H (dW l)) σ'.H
 |none=>false

def b4O(m:Nat)(σ σ':Sy):List (List Lk)->Prop
 | []=>False
 | [l]=>kC m l σ σ'
 |l::r=>match b9D σ l σ' with
  |true=>kC m l σ σ'
  |false=>b4O m σ σ' r

theorem b4T{m:Nat}{σ σ':Sy}:∀{ls:List (List Lk)},b4O m σ σ' ls->Sub m σ σ':=by
 intro ls;induction ls with
 |nil=>intro h;exact h.elim
 |cons l ls ih=>
  intro h;cases ls with
  |nil=>exact wO h
  |cons l' ls=>
   simp only[b4O] at h;split at h
   ·exact wO h
   ·exact ih h

def b3D(P:Program)(rs:List ResultVar)(m:Nat)(lk:List (List Lk))(res:T)(Hres:Y3):Exit->Sy->Prop
 | .normal,σ| .ret,σ=>match b19 P σ.s σ.H rs with
  |some (r,p)=>kS p (b4O m ⟨[(0,r)],σ.H⟩ ⟨[(0,res)],Hres⟩ lk)
  |none=>False
 |_,_=>False

def b6s(P:Program)(G:I4)(nt:Nat)(rs:List ResultVar)(code:Code)(args:List T)(H:Y3)(res:T)(Hres:Y3)(A:Nat->Ann)(lk:List (List Lk)):Prop:=
 kE P G nt H.length code 0 (λe σ _=>b3D P rs H.length lk res Hres e σ) ⟨tY 0 args,H⟩ A

theorem b8d{P:Program}{G:I4}(hm:P.follows .mixedOrders=true)(hG:F6 P G)(hGc:∀x ∈ G,R4 P x.1){f:FuncId}{fn:Func}{code:Code}{args:List T}{H Hres:Y3}{res:T}(hf:P.funcs[f]? =some fn)(hb:fn.body=some code)(hnt:args.length<=fn.ntmps)
  (A:Nat->Ann) (lk:List (List Lk)) (h:b6s P G fn.ntmps fn.results.toList code args H res Hres A lk):B1 P f args H res Hres:=by
 intro E w vs hH hN ha;have hsz:vs.size=args.length:=ha.1.symm;have hvc:=a2G (P:=P) (G:=G) (nt:=fn.ntmps) (m:=H.length) code 0 _ (λe σ=>b3D P fn.results.toList H.length lk res Hres e σ) _ A (λe σ A' hq=>hq) h
 refine calls_of_wp hf hb (Code.wp_mono (λe a' w' hh=> ?_) (b2H (c:=⟨w,XB E H,E.N,fn.ntmps,E,H.length⟩) hm hG hGc code _ _ _ w hvc ⟨E,iG hH hN ha hnt⟩))
 obtain⟨σ',hq,E',hr⟩:=hh;have main:b3D P fn.results.toList H.length lk res Hres .ret σ'->a'.defers=[]/\∃v,(results fn a'.tmps).run P w'= .ok v w'/\
   ∃v' E',Ending.returned v= .returned v'/\Inv ⟨w,XB E H,E.N,0,E,0⟩ E' Hres w'/\Stp E w E' w'/\Rd E' w' res v':=by
  intro hq;refine⟨hr.defers,?_⟩
  simp only[b3D] at hq;split at hq
  ·rename_i r p hres;obtain⟨hp,hq⟩:=uU hq;obtain⟨v,hrun,hrd⟩:=eM (P:=P) hr.inv.heap (λi=>hr.slots.on i (λq hq=>by cases hq)) hres hp
   refine⟨v,hrun,v,?_⟩
   have hI:=hr.inv;have h1:kL ⟨w,XB E H,E.N,1,E,H.length⟩ [(0,r)] σ'.H {tmps:= #[v],defers:=[]} w':=by
    refine⟨E',rfl,rfl,⟨λi _=> ?_,λi hi=>absurd (λq hq=>by cases hq) hi⟩,⟨hI.heap,hI.nlt,hI.nnew,hI.bnew,hI.fr,⟨hI.keep.N,hI.keep.L,hI.keep.same,hI.keep.L2⟩⟩⟩
    cases i with
    |zero=>exact hrd
    |succ i=>exact .und _
   obtain⟨E2,hr2⟩:=b4T hq ⟨w,XB E H,E.N,1,E,H.length⟩ _ w' rfl h1;have hI2:=hr2.inv;have hk:=hI2.keep;refine⟨E2,rfl,⟨hI2.heap,hI2.nlt,hI2.nnew,hI2.bnew,hI2.fr,⟨hk.N,λk h=>absurd h (F2 _),hk.same,λk v h=>absurd h (F2 _)⟩⟩,⟨⟨hk.N,λk hL=> ?_,λk hL=> ?_,λk hL=> ?_,λk hL=> ?_,λk u hu=> ?_,λk u i j hu=> ?_,λk u i j hu=> ?_⟩,hk.same⟩,?_⟩
   ·exact(hk.L k (hH.lt k hL) hL).1
   ·exact(hk.L k (hH.lt k hL) hL).2.1
   ·exact(hk.L k (hH.lt k hL) hL).2.2.1
   ·exact(hk.L k (hH.lt k hL) hL).2.2.2
   ·exact(hk.L2 k u (hH.lt k (hH.l2 k u hu)) hu).1
   ·exact((hk.L2 k u (hH.lt k (hH.l2 k u hu)) hu).2 i j).1
   ·exact((hk.L2 k u (hH.lt k (hH.l2 k u hu)) hu).2 i j).2
   ·exact hr2.slots.on 0 (λq hq=>by cases hq)
  ·exact hq.elim
 cases e with
 |normal=>exact main hq
 |ret=>exact main hq
 |_=>exact hq.elim
end Go.SS
