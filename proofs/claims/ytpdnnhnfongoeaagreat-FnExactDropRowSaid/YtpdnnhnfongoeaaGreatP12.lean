/- A part of the proof. -/
import Derived.Test.YtpdnnhnfongoeaaGreatP1
import Derived.Test.YtpdnnhnfongoeaaGreatN8
import Derived.Test.YtpdnnhnfongoeaaGreatU1
namespace Go.Proofs.YtpdnnhnfongoeaaGreat
set_option maxRecDepth 100000
open Go.SS Go.Proofs.Tryz
noncomputable section
def k5(e:Eng)(k:Nat)(g s:Int)(b a:Bz)(v:Nat):(Eng×Nat)×Int:=if(e.s.L.length:Int)+1+nM e+1>60 then((e,v),7) else
 if(l6 e k (J5 g s b a)).2=true then(((l6 e k (J5 g s b a)).1,P8 (F1 e k (J5 g s b a)).s g.toNat v),0) else((k6 (l6 e k (J5 g s b a)).1,0),15)
def fV(e:Eng)(k:Nat)(ta:Int)(r:Rw)(gone:Bool)(f:Sto×Plc×Bool)(v:Nat):(Eng×Nat)×Int:=
 if f.2.2=true then
  (if f.2.1.a<0 then(if gone=true then((R7 e f.1,v),5) else if f.2.1.c<0 then((R7 e f.1,v),12) else k5 (R7 e f.1) k f.2.1.c f.2.1.d [] (sV ta r) v)
  else if(Y3 f.1 f.2.1.a.toNat).2.2=true then k5 (R7 e (v9 e f.2.1 f.1).1) k f.2.1.a f.2.1.b (v9 e f.2.1 f.1).2 (if gone=true then[] else sV ta r) (P8 f.1 f.2.1.a.toNat v)
  else((k6 (R7 e (v9 e f.2.1 f.1).1),0),15))
 else((k6 (R7 e f.1),0),15)
def oO(e:Eng)(k:Nat)(tx ta:Int)(r:Rw)(gone:Bool):(Eng×Nat)×Int:=
 if(zF e k ta 2 r.id 4).2=0 then fV (zF e k ta 2 r.id 4).1.1 k ta r gone (T2 (zF e k ta 2 r.id 4).1.1 tx ta r.id 8) (sO (zF e k ta 2 r.id 4).1.1 tx ta r.id 8) else zF e k ta 2 r.id 4
def nS(e:Eng)(tx ta:Int)(r:Rw)(gone:Bool):(Eng×Nat)×Int:=if(H3 e tx).2=0 then oO e (H3 e tx).1.toNat tx ta r gone else((e,0),(H3 e tx).2)
def a54(e:Eng)(ta:Int)(r:Rw):Prop:=R2 e=true/\M2 e/\RwK r/\(1<=ta/\ta<=3)/\(sV ta r).length<=30
def b52:Con:=.reff ⟨Eng×Int×Int×Rw×Bool,λx=>[.ref 0 0 0,Ji x.2.1,Ji x.2.2.1,.agg x.2.2.2.1.ts,.bool x.2.2.2.2],λx=>x.1.bx 0,λx=>Ji (nS x.1 x.2.1 x.2.2.1 x.2.2.2.1 x.2.2.2.2).2,λx=>(nS x.1 x.2.1 x.2.2.1 x.2.2.2.1 x.2.2.2.2).1.1.nx (nS x.1 x.2.1 x.2.2.1 x.2.2.2.1 x.2.2.2.2).1.2,λx=>a54 x.1 x.2.2.1 x.2.2.2.1⟩
theorem yP{a:Bool}(h:(!a)=false):a=true:=by cases a with|false=>cases h|true=>rfl
theorem a1J{e:Eng}{k:Nat}{g s:Int}{b a:Bz}{v:Nat}(h:(e.s.L.length:Int)+1+nM e+1>60):k5 e k g s b a v=((e,v),7):=if_pos h
theorem dP{e:Eng}{k:Nat}{g s:Int}{b a:Bz}{v:Nat}(h:¬ (e.s.L.length:Int)+1+nM e+1>60)(u:(l6 e k (J5 g s b a)).2=true):k5 e k g s b a v=(((l6 e k (J5 g s b a)).1,P8 (F1 e k (J5 g s b a)).s g.toNat v),0):=by
 unfold k5;rw[if_neg h,if_pos u]
theorem eT{e:Eng}{k:Nat}{g s:Int}{b a:Bz}{v:Nat}(h:¬ (e.s.L.length:Int)+1+nM e+1>60)(u:(l6 e k (J5 g s b a)).2=false):k5 e k g s b a v=((k6 (l6 e k (J5 g s b a)).1,0),15):=by
 unfold k5;rw[if_neg h,if_neg (by rw[u];simp)]
theorem a3s{e:Eng}{k:Nat}{tx g s:Int}{b a:Bz}(h:XI e k tx)(i:0<=g/\g<=7)(f:0<=s/\s<=3)(B:b.length<=30)(A:a.length<=30):
  AddB e tx k (J5 g s b a)/\mF (F1 e k (J5 g s b a)).s (P9 e.s (C1 e k (J5 g s b a)))/\((l6 e k (J5 g s b a)).2=false->G4 (l6 e k (J5 g s b a)).1.s.d/\(l6 e k (J5 g s b a)).1.s.d.E.length=69)/\((l6 e k (J5 g s b a)).2=true->SI (l6 e k (J5 g s b a)).1.s):=by
 have R:a3x e k (J5 g s b a):=by
  unfold a3x J5;dsimp only;exact⟨Z9,Z9,Z9,Z9,λ_=>rfl,λh=>absurd rfl h,Z9,Z9,i.1,i.2,f.1,f.2,B,A,λh=>Z9,h.u.u.lt⟩
 obtain⟨n,O⟩:=a4i h.u.u R;have j:SI (F1 e k (J5 g s b a)).s:=a8v h.u.u.si O h.u.u.rm;have l:mF (F1 e k (J5 g s b a)).s (P9 e.s (C1 e k (J5 g s b a))):=⟨j.iv,i.1,by show g<8;omega,f.1,by show s<4;omega⟩
 have L:=sF e k (J5 g s b a);exact⟨n,l,λU=>b7M j U,λU=>(b6h j l ⟨by show 0<=((e.s.L.length:Int)+1);omega,by show((e.s.L.length:Int)+1)<=_;omega⟩ A U).1⟩
theorem c83{e:Eng}{tx ta:Int}{r:Rw}{gone:Bool}(h:¬ (zW e tx ta 2 r.id 4).2=0):nS e tx ta r gone=zW e tx ta 2 r.id 4:=by
 unfold nS;by_cases d:(H3 e tx).2=0
 ·have f:zW e tx ta 2 r.id 4=zF e (H3 e tx).1.toNat ta 2 r.id 4:=if_pos d;rw[f] at h;rw[if_pos d,f];exact if_neg h
 ·rw[if_neg d,a7p d]
theorem c8R{e:Eng}{tx ta:Int}{r:Rw}{gone:Bool}{k:Nat}(f:(H3 e tx).2=0)(d:(H3 e tx).1=k)(h:(zF e k ta 2 r.id 4).2=0):nS e tx ta r gone=fV (zF e k ta 2 r.id 4).1.1 k ta r gone (T2 (zF e k ta 2 r.id 4).1.1 tx ta r.id 8) (sO (zF e k ta 2 r.id 4).1.1 tx ta r.id 8):=by
 unfold nS oO;rw[if_pos f,d,E4,if_pos h]
set_option maxHeartbeats 4000000 in
theorem b3s:GK 55 b52:=gk func55<|by
 rintro⟨e,tx,ta,r,gone⟩ ⟨O,M,hr,C,hb⟩;dsimp only at O M hr C hb ⊢;generalize hZ:nS e tx ta r gone=Z;refine C7 (gC b2p (gC c3l (gC a95 (gC b8m (gC lH (gC lI (gC gY (gC a5R (gC a48 gN))))))))) func55 Z3 bC (α:=let pv:=(0=Z.2/\True);let pj:=(15=Z.2/\True);let m:=(0=0/\0=0);let pu:=(m/\True);∃(x:(Eng×Int×Int×Int×Int×Int)),let qe:=x.2.2.2;let v:=(zW x.1 x.2.1 x.2.2.1 qe.1 qe.2.1 qe.2.2);((m/\tx=x.2.1/\ta=x.2.2.1/\2=qe.1/\r.id=qe.2.1/\4=qe.2.2/\True)/\(iQ (0) (0) e x.1)/\R2 x.1=true/\M2 x.1)/\br (v.2 !=0) ((v.2=Z.2/\True)/\lP (v.1.2) (Z.1.2) v.1.1 Z.1.1) (∃(X:(Eng×Int×Int×Int)),let z:=(r7 X.1 X.2.1 X.2.2.1 X.2.2.2);let w:=z.1.snd.fst;let y:=z.1.fst;((m/\tx=X.2.1/\ta=X.2.2.1/\r.id=X.2.2.2/\True)/\(iQ (v.1.2) (0) v.1.1 X.1)/\SI X.1.s/\wT X.1)/\br (! z.1.snd.snd) (∃(x:(Eng×Nat)),(pu/\(iQ (y.snd) (x.2) y.fst x.1)/\G4 x.1.s.d)/\pj/\lP (0) (Z.1.2) (k6 x.1) Z.1.1) (∃(x:(Int×Rw)),((ta=x.1/\(r.id=x.2.id/\r.n.k=x.2.n.k/\r.n.n=x.2.n.n/\r.n.t=x.2.n.t/\r.name.k=x.2.name.k/\r.name.n=x.2.name.n/\r.name.t=x.2.name.t/\True)/\True)/\RwK x.2/\1<=x.1/\x.1<=3)/\bd (w.a≥(0:Int)) ((∃(o:(Sto×Nat×Nat)),let f:=(P8 o.1 o.2.1 o.2.2);let u:=(Y3 o.1 o.2.1);let qf:=u.1.fr.length;let pk:=(u.1.fr.getD u.2.1 dz);((m/\w.a=(o.2.1:Int)/\True)/\(LnS (y.snd) (o.2.2) y.fst.s o.1)/\iX o.1 o.2.1/\u.2.2=true)/\br false (∃(x:(Eng×Nat)),(pu/\(iQ f (x.2) {y.fst with s:=u.1} x.1)/\G4 x.1.s.d)/\pj/\lP (0) (Z.1.2) (k6 x.1) Z.1.1) (Lt u.2.1 qf/\W9 w.b pk.pg.sl.length/\PfB f f u.2.1 u.1.fr.length w.b.toNat pk.pg.sl.length/\∃(j:(Eng×Int)),((Le (0+u.1.d.E.length) u.1.d.E.length/\Le (0+u.1.d.C.length) u.1.d.C.length/\Le (0+u.1.d.keep.length) u.1.d.keep.length/\Le (0+u.1.L.length) u.1.L.length/\Le (0+qf) qf/\Le (0+y.fst.X.length) y.fst.X.length/\Le (0+y.fst.lk.H.length) y.fst.lk.H.length/\Le (0+y.fst.lk.W.length) y.fst.lk.W.length)/\((qD {y.fst with s:=u.1} j.1)/\2=j.2/\True)/\wT j.1/\m7 j.2)/\br (!decide ((j.1.s.L.length:Int)+(↑(nM j.1):Int)+j.2<=60)) ((7=Z.2/\True)/\lP f (Z.1.2) {y.fst with s:=u.1} Z.1.1) (br gone (∃(x:(Eng×Int×Rec×Nat×Nat)),let qk:=x.1.s;let qg:=x.2.2.2;let pm:=(x.1.X.getD qg.1 dz);let pe:=x.2.2.1;let pq:=(qk.L++[P9 x.1.s (C1 x.1 qg.1 pe)]);let pa:=(x.1.X.set qg.1 (Txn.mk pm.id ((qk.L.length:Int)+1)));((m/\tx=x.2.1/\(0=pe.e/\0=pe.l/\0=pe.t/\2=pe.k/\0=pe.p/\0=pe.n/\w.a=pe.g/\w.b=pe.s/\pk.pg.sl.getD w.b.toNat []=pe.b/\[]=pe.a/\True)/\True)/\(iQ f (qg.2) {y.fst with s:=u.1} x.1)/\AddB x.1 x.2.1 qg.1 pe)/\∃(i:(Sto×Rec×Nat)),let pw:=i.2.1;let qa:=(P8 i.1 pw.g.toNat i.2.2);((m/\(qk.ep=pw.e/\(qk.L.length:Int)+1=pw.l/\pm.id=pw.t/\pe.k=pw.k/\pm.Z=pw.p/\pe.n=pw.n/\pe.g=pw.g/\pe.s=pw.s/\pe.b=pw.b/\pe.a=pw.a/\True)/\True)/\(nQ {x.1.s with L:=pq} i.1/\(Z0 Z5 qk.d.E i.1.d.E)/\(Z0 Z1 qk.d.C i.1.d.C)/\(Z0 Y9 qk.d.keep i.1.d.keep)/\(Z0 Y1 pq i.1.L)/\(qg.2=i.2.2/\qk.fr.length=i.1.fr.length/\V2 qk.fr.length (Y5 qk.fr) (Y5 i.1.fr))/\True)/\mF i.1 pw)/\br (!(U0 i.1 pw).2) (∃(q:(Eng×Nat)),(pu/\(iQ qa (q.2) {x.1 with s:=(U0 i.1 pw).1,X:=pa} q.1)/\G4 q.1.s.d)/\pj/\lP (0) (Z.1.2) (k6 q.1) Z.1.1) (pv/\lP qa (Z.1.2) {x.1 with s:=(U0 i.1 pw).1,X:=pa} Z.1.1)) (∃(i:(Eng×Int×Rec×Nat×Nat)),let qm:=i.1.s;let qh:=i.2.2.2;let pn:=(i.1.X.getD qh.1 dz);let pf:=i.2.2.1;let pr:=(qm.L++[P9 i.1.s (C1 i.1 qh.1 pf)]);let pb:=(i.1.X.set qh.1 (Txn.mk pn.id ((qm.L.length:Int)+1)));((m/\tx=i.2.1/\(0=pf.e/\0=pf.l/\0=pf.t/\2=pf.k/\0=pf.p/\0=pf.n/\w.a=pf.g/\w.b=pf.s/\pk.pg.sl.getD w.b.toNat []=pf.b/\sV x.1 x.2=pf.a/\True)/\True)/\(iQ f (qh.2) {y.fst with s:=u.1} i.1)/\AddB i.1 i.2.1 qh.1 pf)/\∃(x:(Sto×Rec×Nat)),let px:=x.2.1;let qb:=(P8 x.1 px.g.toNat x.2.2);((m/\(qm.ep=px.e/\(qm.L.length:Int)+1=px.l/\pn.id=px.t/\pf.k=px.k/\pn.Z=px.p/\pf.n=px.n/\pf.g=px.g/\pf.s=px.s/\pf.b=px.b/\pf.a=px.a/\True)/\True)/\(nQ {i.1.s with L:=pr} x.1/\(Z0 Z5 qm.d.E x.1.d.E)/\(Z0 Z1 qm.d.C x.1.d.C)/\(Z0 Y9 qm.d.keep x.1.d.keep)/\(Z0 Y1 pr x.1.L)/\(qh.2=x.2.2/\qm.fr.length=x.1.fr.length/\V2 qm.fr.length (Y5 qm.fr) (Y5 x.1.fr))/\True)/\mF x.1 px)/\br (!(U0 x.1 px).2) (∃(q:(Eng×Nat)),(pu/\(iQ qb (q.2) {i.1 with s:=(U0 x.1 px).1,X:=pb} q.1)/\G4 q.1.s.d)/\pj/\lP (0) (Z.1.2) (k6 q.1) Z.1.1) (pv/\lP qb (Z.1.2) {i.1 with s:=(U0 x.1 px).1,X:=pb} Z.1.1)))))∨∃(x:(Sto×Nat×Nat)),((m/\w.a=(x.2.1:Int)/\True)/\(LnS (y.snd) (x.2.2) y.fst.s x.1)/\iX x.1 x.2.1/\(Y3 x.1 x.2.1).2.2=false)/\br true (∃(o:(Eng×Nat)),(pu/\(iQ (P8 x.1 x.2.1 x.2.2) (o.2) {y.fst with s:=(Y3 x.1 x.2.1).1} o.1)/\G4 o.1.s.d)/\pj/\lP (0) (Z.1.2) (k6 o.1) Z.1.1) False) (br gone ((5=Z.2/\True)/\lP (y.snd) (Z.1.2) y.fst Z.1.1) (bd (w.c<0) ((12=Z.2/\True)/\lP (y.snd) (Z.1.2) y.fst Z.1.1) (∃(o:(Eng×Int)),((LeG y.fst)/\((qD y.fst o.1)/\2=o.2/\True)/\wT o.1/\m7 o.2)/\br (!decide ((o.1.s.L.length:Int)+(↑(nM o.1):Int)+o.2<=60)) ((7=Z.2/\True)/\lP (y.snd) (Z.1.2) y.fst Z.1.1) (br gone (∃(x:(Eng×Int×Rec×Nat×Nat)),let qn:=x.1.s;let qi:=x.2.2.2;let po:=(x.1.X.getD qi.1 dz);let ph:=x.2.2.1;let ps:=(qn.L++[P9 x.1.s (C1 x.1 qi.1 ph)]);let pc:=(x.1.X.set qi.1 (Txn.mk po.id ((qn.L.length:Int)+1)));((m/\tx=x.2.1/\(0=ph.e/\0=ph.l/\0=ph.t/\2=ph.k/\0=ph.p/\0=ph.n/\w.c=ph.g/\w.d=ph.s/\[]=ph.b/\[]=ph.a/\True)/\True)/\(iQ (y.snd) (qi.2) y.fst x.1)/\AddB x.1 x.2.1 qi.1 ph)/\∃(j:(Sto×Rec×Nat)),let py:=j.2.1;let qc:=(P8 j.1 py.g.toNat j.2.2);((m/\(qn.ep=py.e/\(qn.L.length:Int)+1=py.l/\po.id=py.t/\ph.k=py.k/\po.Z=py.p/\ph.n=py.n/\ph.g=py.g/\ph.s=py.s/\ph.b=py.b/\ph.a=py.a/\True)/\True)/\(nQ {x.1.s with L:=ps} j.1/\(Z0 Z5 qn.d.E j.1.d.E)/\(Z0 Z1 qn.d.C j.1.d.C)/\(Z0 Y9 qn.d.keep j.1.d.keep)/\(Z0 Y1 ps j.1.L)/\(qi.2=j.2.2/\qn.fr.length=j.1.fr.length/\V2 qn.fr.length (Y5 qn.fr) (Y5 j.1.fr))/\True)/\mF j.1 py)/\br (!(U0 j.1 py).2) (∃(i:(Eng×Nat)),(pu/\(iQ qc (i.2) {x.1 with s:=(U0 j.1 py).1,X:=pc} i.1)/\G4 i.1.s.d)/\pj/\lP (0) (Z.1.2) (k6 i.1) Z.1.1) (pv/\lP qc (Z.1.2) {x.1 with s:=(U0 j.1 py).1,X:=pc} Z.1.1)) (∃(j:(Eng×Int×Rec×Nat×Nat)),let qo:=j.1.s;let qj:=j.2.2.2;let pp:=(j.1.X.getD qj.1 dz);let pi:=j.2.2.1;let pt:=(qo.L++[P9 j.1.s (C1 j.1 qj.1 pi)]);let pd:=(j.1.X.set qj.1 (Txn.mk pp.id ((qo.L.length:Int)+1)));((m/\tx=j.2.1/\(0=pi.e/\0=pi.l/\0=pi.t/\2=pi.k/\0=pi.p/\0=pi.n/\w.c=pi.g/\w.d=pi.s/\[]=pi.b/\sV x.1 x.2=pi.a/\True)/\True)/\(iQ (y.snd) (qj.2) y.fst j.1)/\AddB j.1 j.2.1 qj.1 pi)/\∃(x:(Sto×Rec×Nat)),let pz:=x.2.1;let qd:=(P8 x.1 pz.g.toNat x.2.2);((m/\(qo.ep=pz.e/\(qo.L.length:Int)+1=pz.l/\pp.id=pz.t/\pi.k=pz.k/\pp.Z=pz.p/\pi.n=pz.n/\pi.g=pz.g/\pi.s=pz.s/\pi.b=pz.b/\pi.a=pz.a/\True)/\True)/\(nQ {j.1.s with L:=pt} x.1/\(Z0 Z5 qo.d.E x.1.d.E)/\(Z0 Z1 qo.d.C x.1.d.C)/\(Z0 Y9 qo.d.keep x.1.d.keep)/\(Z0 Y1 pt x.1.L)/\(qj.2=x.2.2/\qo.fr.length=x.1.fr.length/\V2 qo.fr.length (Y5 qo.fr) (Y5 x.1.fr))/\True)/\mF x.1 pz)/\br (!(U0 x.1 pz).2) (∃(i:(Eng×Nat)),(pu/\(iQ qd (i.2) {j.1 with s:=(U0 x.1 pz).1,X:=pd} i.1)/\G4 i.1.s.d)/\pj/\lP (0) (Z.1.2) (k6 i.1) Z.1.1) (pv/\lP qd (Z.1.2) {j.1 with s:=(U0 x.1 pz).1,X:=pd} Z.1.1))))))))) ⟨(e,tx,ta,2,r.id,4),⟨Z8,Z8,O,M⟩,λQ=>?_,λQ=>?_⟩
 ·rw[←hZ,c83 (b1e Q)];exact Z8
 have Q:(zW e tx ta 2 r.id 4).2=0:=a3g Q;have A:(H3 e tx).2=0:=by
  by_cases h:(H3 e tx).2=0
  ·exact h
  ·rw[a7p h] at Q;exact absurd Q h
 obtain⟨U,k,J,hk,hi,ha⟩:=a1A A;have Y:=b0u O M U ha hk hi;have B:zW e tx ta 2 r.id 4=zF e k ta 2 r.id 4:=a2f A J;rw[B] at Q;have z:=sI (sI Y ta (-1) 2) ta r.id 4;rw[c8R A J Q] at hZ;dsimp only;rw[B];rw[c4Q Q] at hZ ⊢;dsimp only at hZ ⊢;generalize pF (pF e k ta (-1) 2) k ta r.id 4=e2 at*;clear B Q O M Y U hk hi ha J A;have hF:=b4b z.u.u.si tx ta r.id 8 (U9 _);refine⟨(e2,tx,ta,r.id),⟨Z8,Z8,z.u.u.si,z.nd⟩,?_⟩
 dsimp only;rw[(r7 e2 tx ta r.id).2];dsimp only;generalize T2 e2 tx ta r.id 8=f at*;generalize sO e2 tx ta r.id 8=v at*;obtain⟨fs,fp,fl⟩:=f;obtain⟨hlv,N,hpl⟩:=hF;dsimp only at hlv N hpl hZ ⊢;refine⟨λhd=>?_,λhl=>⟨(ta,r),⟨Z8,hr,C.1,C.2⟩,λha=>?_,λha=>?_⟩⟩
 ·have hd:fl=false:=uT hd;have eZ:Z=((k6 (R7 e2 fs),0),15):=by rw[←hZ,hd];rfl
  rw[eZ];exact⟨(R7 e2 fs,v),⟨Z8,Z8,(N hd).1⟩,Z8⟩
 ·have hl:fl=true:=yP hl;subst hl;obtain⟨s1,s2,s3⟩:=hlv rfl;have ha:fp.a≥0:=G6 ha;have hna:¬fp.a<0:=by omega
  have aa:=hpl.1.resolve_left Z9
  have L:(nX fp).b=fp.b:=if_neg hna;have eW:Z=if(Y3 fs fp.a.toNat).2.2=true then k5 (R7 e2 (v9 e2 fp fs).1) k fp.a fp.b (v9 e2 fp fs).2 (if gone=true then[] else sV ta r) (P8 fs fp.a.toNat v) else((k6 (R7 e2 (v9 e2 fp fs).1),0),15):=by
   rw[←hZ];unfold fV;dsimp only;rw[if_pos rfl,if_neg hna]
  clear hZ;rw[L];have F:(nX fp).a=fp.a:=rfl;rw[F];cases U:(Y3 fs fp.a.toNat).2.2 with
  |false=>
   rw[if_neg (by rw[U];simp)] at eW
   refine .inr ⟨(fs,fp.a.toNat,v),⟨⟨Z8,X5,Z6⟩,Z8,⟨s1.iv,X5⟩,U⟩,λ_=>?_,λW=>(by cases W)⟩
   rw[eW];exact⟨(R7 e2 (v9 e2 fp fs).1,P8 fs fp.a.toNat v),⟨Z8,Z8,(rN s1 U).1⟩,Z8⟩
  |true=>
   rw[if_pos U] at eW;obtain⟨j1,j2⟩:=rQ s1 (show fp.a.toNat<8 by omega) U
   obtain⟨f2,_,_,R,ps⟩:=xM s1.iv (show fp.a.toNat<8 by omega) U
   have hX3:XI (R7 e2 (v9 e2 fp fs).1) k tx:=a7l z j1 (j2.trans s2) (cP.trans s3);have hsl:(v9 e2 fp fs).2.length<=30:=ps fp.b.toNat (by rw[R];omega)
   refine .inl ⟨(fs,fp.a.toNat,v),⟨⟨Z8,X5,Z6⟩,Z8,⟨s1.iv,X5⟩,U⟩,λW=>(by cases W),λ_=>⟨f2,⟨Z9,by dsimp only;rw[R];omega⟩,⟨rfl,f2,by dsimp only;rw[R];omega⟩,(R7 e2 (v9 e2 fp fs).1,2),⟨⟨uA _,uA _,uA _,uA _,uA _,uA _,uA _,uA _⟩,⟨⟨⟨rfl,X6 _ _⟩,⟨rfl,X6 _ _⟩,rfl,⟨rfl,X6 _ _⟩,rfl,⟨rfl,X6 _ _⟩,rfl,⟨rfl,λ_ _=>rfl⟩,rfl,rfl,Z8,Z8,Z8,rfl,Z6⟩,Z8⟩,hX3.nd,b68⟩,λhc=>?_,λhc=>⟨λhg=>?_,λhg=>?_⟩⟩⟩
   ·have hc:=m9 (uT hc);rw[eW,a1J (by dsimp only at hc;omega)]
    exact Z8
   ·have hc:=G6 (yP hc);dsimp only at hc;rw[if_pos hg] at eW;obtain⟨hA,hP,hD,_⟩:=a3s hX3 (g:=fp.a) (s:=fp.b) (b:=(v9 e2 fp fs).2) (a:=[]) Z9 Z9 hsl (N5 _)
    have hZ:=eW;exact⟨((R7 e2 (v9 e2 fp fs).1),tx,J5 fp.a fp.b (v9 e2 fp fs).2 [],k,(P8 fs fp.a.toNat v)),⟨Z8,Z8,hA⟩,((F1 (R7 e2 (v9 e2 fp fs).1) k (J5 fp.a fp.b (v9 e2 fp fs).2 [])).s,P9 (R7 e2 (v9 e2 fp fs).1).s (C1 (R7 e2 (v9 e2 fp fs).1) k (J5 fp.a fp.b (v9 e2 fp fs).2 [])),(P8 fs fp.a.toNat v)),⟨Z8,Z8,hP⟩,λU=>(by
      have U:(l6 (R7 e2 (v9 e2 fp fs).1) k (J5 fp.a fp.b (v9 e2 fp fs).2 [])).2=false:=uT U;rw[hZ,eT Z9 U]
      exact⟨((l6 (R7 e2 (v9 e2 fp fs).1) k (J5 fp.a fp.b (v9 e2 fp fs).2 [])).1,P8 (F1 (R7 e2 (v9 e2 fp fs).1) k (J5 fp.a fp.b (v9 e2 fp fs).2 [])).s fp.a.toNat (P8 fs fp.a.toNat v)),⟨Z8,Z8,(hD U).1⟩,Z8⟩),λU=>(by
      have U:(l6 (R7 e2 (v9 e2 fp fs).1) k (J5 fp.a fp.b (v9 e2 fp fs).2 [])).2=true:=yP U;rw[hZ,dP Z9 U]
      exact Z8)⟩
   ·have hc:=G6 (yP hc);dsimp only at hc;rw[if_neg (by rw[hg];simp)] at eW
    obtain⟨hA,hP,hD,_⟩:=a3s hX3 (g:=fp.a) (s:=fp.b) (b:=(v9 e2 fp fs).2) (a:=sV ta r) Z9 Z9 hsl hb
    have hZ:=eW;exact⟨((R7 e2 (v9 e2 fp fs).1),tx,J5 fp.a fp.b (v9 e2 fp fs).2 (sV ta r),k,(P8 fs fp.a.toNat v)),⟨Z8,Z8,hA⟩,((F1 (R7 e2 (v9 e2 fp fs).1) k (J5 fp.a fp.b (v9 e2 fp fs).2 (sV ta r))).s,P9 (R7 e2 (v9 e2 fp fs).1).s (C1 (R7 e2 (v9 e2 fp fs).1) k (J5 fp.a fp.b (v9 e2 fp fs).2 (sV ta r))),(P8 fs fp.a.toNat v)),⟨Z8,Z8,hP⟩,λU=>(by
      have U:(l6 (R7 e2 (v9 e2 fp fs).1) k (J5 fp.a fp.b (v9 e2 fp fs).2 (sV ta r))).2=false:=uT U;rw[hZ,eT Z9 U]
      exact⟨((l6 (R7 e2 (v9 e2 fp fs).1) k (J5 fp.a fp.b (v9 e2 fp fs).2 (sV ta r))).1,P8 (F1 (R7 e2 (v9 e2 fp fs).1) k (J5 fp.a fp.b (v9 e2 fp fs).2 (sV ta r))).s fp.a.toNat (P8 fs fp.a.toNat v)),⟨Z8,Z8,(hD U).1⟩,Z8⟩),λU=>(by
      have U:(l6 (R7 e2 (v9 e2 fp fs).1) k (J5 fp.a fp.b (v9 e2 fp fs).2 (sV ta r))).2=true:=yP U;rw[hZ,dP Z9 U]
      exact Z8)⟩
 ·have hl:fl=true:=yP hl;subst hl;obtain⟨s1,s2,s3⟩:=hlv rfl;have ha:fp.a<0:=by have:¬fp.a≥0:=m9 ha;omega
  have hX3:XI (R7 e2 fs) k tx:=a7l z s1 s2 s3;have eW:Z=if gone=true then((R7 e2 fs,v),5) else if fp.c<0 then((R7 e2 fs,v),12) else k5 (R7 e2 fs) k fp.c fp.d [] (sV ta r) v:=by
   rw[←hZ];unfold fV;dsimp only;rw[if_pos rfl,if_pos ha]
  clear hZ;refine⟨λhg=>?_,λhg=>⟨λhc=>?_,λhc=>?_⟩⟩
  ·rw[eW,if_pos hg];exact Z8
  ·have hc:fp.c<0:=G6 hc;rw[eW,if_neg (by rw[hg];simp),if_pos hc]
   exact Z8
  ·have hnc:¬fp.c<0:=m9 hc;have hpc:=hpl.2.resolve_left Z9
   have L:(nX fp).d=fp.d:=if_neg hnc;have I:(nX fp).c=fp.c:=rfl;rw[if_neg (by rw[hg];simp),if_neg hnc] at eW
   rw[L,I];refine⟨(R7 e2 fs,2),⟨Z8,Z8,hX3.nd,b68⟩,λhc=>?_,λhc=>⟨λV=>?_,λ_=>?_⟩⟩
   ·have hc:=m9 (uT hc);rw[eW,a1J (by dsimp only at hc;omega)]
    exact Z8
   ·rw[V] at hg;cases hg
   ·have hc:=G6 (yP hc);dsimp only at hc;obtain⟨hA,hP,hD,_⟩:=a3s hX3 (g:=fp.c) (s:=fp.d) (b:=[]) (a:=sV ta r) Z9 Z9 (N5 _) hb
    have hZ:=eW;exact⟨((R7 e2 fs),tx,J5 fp.c fp.d [] (sV ta r),k,v),⟨Z8,Z8,hA⟩,((F1 (R7 e2 fs) k (J5 fp.c fp.d [] (sV ta r))).s,P9 (R7 e2 fs).s (C1 (R7 e2 fs) k (J5 fp.c fp.d [] (sV ta r))),v),⟨Z8,Z8,hP⟩,λU=>(by
      have U:(l6 (R7 e2 fs) k (J5 fp.c fp.d [] (sV ta r))).2=false:=uT U;rw[hZ,eT Z9 U]
      exact⟨((l6 (R7 e2 fs) k (J5 fp.c fp.d [] (sV ta r))).1,P8 (F1 (R7 e2 fs) k (J5 fp.c fp.d [] (sV ta r))).s fp.c.toNat v),⟨Z8,Z8,(hD U).1⟩,Z8⟩),λU=>(by
      have U:(l6 (R7 e2 fs) k (J5 fp.c fp.d [] (sV ta r))).2=true:=yP U;rw[hZ,dP Z9 U]
      exact Z8)⟩
theorem b05{e:Eng}{k:Nat}{tx:Int}(h:XI e k tx):M2 e:=c4O h.u.u
theorem b5X{e:Eng}{k:Nat}{tx ta row mo:Int}(h:XI e k tx):M2 (R5 e k ta row mo).1:=by
 have t:=sI h ta row mo;unfold R5;split
 ·exact c66 (b1a t.u (Int.le_refl 0))
 ·exact b05 t
theorem b8b{e:Eng}{k:Nat}{tx g s:Int}{b a:Bz}{v:Nat}(h:XI e k tx)(i:0<=g/\g<=7)(d:0<=s/\s<=3)(B:b.length<=30)(A:a.length<=30):M2 (k5 e k g s b a v).1.1:=by
 obtain⟨_,_,j,n⟩:=a3s h i d B A;by_cases C:(e.s.L.length:Int)+1+nM e+1>60
 ·rw[a1J C];exact b05 h
 ·cases hu:(l6 e k (J5 g s b a)).2 with
  |false=>
   rw[eT C hu];exact a09 (j hu).1
  |true=>
   rw[dP C hu];have l:=h.u.u.t10;have f:=h.u.u.lk;have L:(l6 e k (J5 g s b a)).1.X.length=e.X.length:=b9;exact⟨(n hu).iv.sm,X5,by show e.lk.H.length<=_;omega,by show e.lk.W.length<=_;omega⟩
theorem a8O{e:Eng}{tx ta:Int}{r:Rw}{gone:Bool}(h:a54 e ta r):M2 (nS e tx ta r gone).1.1:=by
 obtain⟨ho,hm,R,t,B⟩:=h;by_cases hk0:(H3 e tx).2=0
 ·obtain⟨hu,k,e1,hk,hi,ha⟩:=a1A hk0;have hX:=b0u ho hm hu ha hk hi;by_cases hq:(zF e k ta 2 r.id 4).2=0
  ·rw[c8R hk0 e1 hq,c4Q hq];have hX2:=sI (sI hX ta (-1) 2) ta r.id 4;dsimp only;generalize pF (pF e k ta (-1) 2) k ta r.id 4=e2 at*;have hF:=b4b hX2.u.u.si tx ta r.id 8 (U9 _);generalize T2 e2 tx ta r.id 8=f at*;generalize sO e2 tx ta r.id 8=v at*;obtain⟨fs,fp,fl⟩:=f;obtain⟨hlv,hdn,hpl⟩:=hF;dsimp only at hlv hdn hpl;unfold fV;dsimp only;cases fl with
   |false=>
    rw[if_neg W7]
    exact a09 (hdn rfl).1
   |true=>
    obtain⟨s1,i,j⟩:=hlv rfl;have d:XI (R7 e2 fs) k tx:=a7l hX2 s1 i j;rw[if_pos rfl];split
    ·split
     ·exact b05 d
     ·split
      ·exact b05 d
      ·rename_i _ _ hnc;have hpc:=hpl.2.resolve_left Z9
       exact b8b d Z9 Z9 (N5 _) B
    ·rename_i hna;have hpa:=hpl.1.resolve_left Z9
     split
     ·rename_i hu;obtain⟨j1,j2⟩:=rQ s1 (show fp.a.toNat<8 by omega) hu
      obtain⟨F,_,_,n,ps⟩:=xM s1.iv (show fp.a.toNat<8 by omega) hu
      have g:XI (R7 e2 (v9 e2 fp fs).1) k tx:=a7l hX2 j1 (j2.trans i) (cP.trans j);have l:(v9 e2 fp fs).2.length<=30:=ps fp.b.toNat (by rw[n];omega)
      refine b8b g Z9 Z9 l ?_
      split
      ·exact N5 _
      ·exact B
     ·rename_i hu;exact a09 (rN s1 a4X).1
  ·rw[c83 (by rw[a2f hk0 e1];exact hq),a2f hk0 e1]
   unfold zF;split
   ·rename_i o;rw[a0i o];exact b5X (sI hX ta (-1) 2)
   ·exact b5X hX
 ·have e1:nS e tx ta r gone=((e,0),(H3 e tx).2):=if_neg hk0;rw[e1];exact hm
def xP(o a b:Bool):Int:=if(o&&a)=true then(if b=true then 0 else 4) else 1
def c23:Con:=.rel ⟨Eng×Bool×Bool,λx=>[.agg x.1.ts,.bool x.2.1,.bool x.2.2],λx=>Ji (xP (R2 x.1) x.2.1 x.2.2),λx=>gT x.1⟩
theorem b6C:GK 39 c23:=gk func39<|by
 rintro⟨e,a,b⟩ h;refine U6 (gC a1M gN) func39 Z3 (α:=∃(x:tT.ι),(((L4 e x)/\True)/\gT x)/\br (!R2 x|| !a) (1=xP (R2 e) a b) (br (!b) (4=xP (R2 e) a b) (0=xP (R2 e) a b))) ⟨e,⟨Z8,h⟩,λhq=>?_,λhq=>⟨λB=>?_,λB=>?_⟩⟩
 ·unfold xP;rw[if_neg (by intro h2;rw[I4] at h2;rw[h2.1,h2.2] at hq;cases hq)]
 ·have h2:(R2 e&&a)=true:=by cases ho:R2 e<;>cases a<;>rw[ho] at hq<;>first|rfl|cases hq
  unfold xP;rw[if_pos h2,if_neg (by cases b<;>simp at B ⊢)]
 ·have h2:(R2 e&&a)=true:=by cases ho:R2 e<;>cases a<;>rw[ho] at hq<;>first|rfl|cases hq
  unfold xP;rw[if_pos h2,if_pos (by cases b<;>simp at B ⊢)]
def V0(e:Eng)(tx ta id:Int):Eng×Int:=if xP (R2 e) true (V9 ta 1 3&&V9 id 0 1000)=0 then((nS e tx ta (wS id) true).1.1,(nS e tx ta (wS id) true).2) else(uW,xP (R2 e) true (V9 ta 1 3&&V9 id 0 1000))
def a8W:Rle:=⟨Eng×Int×Int×Int,λx=>[.agg x.1.ts,Ji x.2.1,Ji x.2.2.1,Ji x.2.2.2],λ_=>[],λx=>.tup [.agg ((V0 x.1 x.2.1 x.2.2.1 x.2.2.2).1.tm 0),Ji (V0 x.1 x.2.1 x.2.2.1 x.2.2.2).2],λx=>(V0 x.1 x.2.1 x.2.2.1 x.2.2.2).1.hp 0,λx=>gT x.1/\M2 x.1⟩
def c1a:Con:=.rmk a8W
theorem c74{o a b:Bool}(h:(xP o a b !=0)=false):o=true/\a=true/\b=true:=by
 unfold xP at h;cases o<;>cases a<;>cases b<;>first|exact⟨rfl,rfl,rfl⟩|cases h
theorem c8a{o a b:Bool}(h:(xP o a b !=0)=true):¬xP o a b=0:=x8
theorem c8U{ta id:Int}(h:1<=ta/\ta<=3)(hi:0<=id/\id<=1000):(sV ta (wS id)).length<=30:=by
 unfold sV zJ;simp only[F6];exact yY rfl
theorem b9c{e:Eng}{tx ta id:Int}(h:¬xP (R2 e) true (V9 ta 1 3&&V9 id 0 1000)=0):V0 e tx ta id=(uW,xP (R2 e) true (V9 ta 1 3&&V9 id 0 1000)):=if_neg h
theorem c4J{e:Eng}{tx ta id:Int}(h:xP (R2 e) true (V9 ta 1 3&&V9 id 0 1000)=0):V0 e tx ta id=((nS e tx ta (wS id) true).1.1,(nS e tx ta (wS id) true).2):=if_pos h
theorem b6b{e:Eng}{ta id:Int}(h:(xP (R2 e) true (V9 ta 1 3&&V9 id 0 1000) !=0)=false)(d:M2 e):a54 e ta (wS id):=by
 obtain⟨o,_,B⟩:=c74 h;rw[I4] at B;have t:=mC B.1;have hi:=mC B.2;exact⟨o,d,⟨⟨N5 _,.inl rfl⟩,⟨N5 _,.inl rfl⟩,hi⟩,t,c8U t hi⟩
theorem b9I:GK 17 c1a:=gk func17<|by
 rintro⟨e,tx,ta,id⟩ ⟨h,h2⟩;dsimp only at h h2;refine⟨C7 (gC fM (gC b0O (gC b6C (gC b8P (gC b3s gN))))) func17 Z3 [[.nilS 0 [0,0] 0 1,.nilS 0 [0,1] 0 2,.nilS 0 [0,3] 0 1,.nilS 0 [0,5] 0 10,.nilS 0 [0,7] 0 5,.nilS 0 [0,10] 0 2,.nilS 0 [0,11] 0 4,.nilS 0 [0,12] 0 2,.fav 0 [0,7],.vl 0 [0,0],.vl 0 [0,1],.vl 0 [0,3],.vl 0 [0,5],.vl 0 [0,7],.vl 0 [0,10],.vl 0 [0,11],.vl 0 [0,12]],[.vl 0 [0,0],.vl 0 [0,1],.vl 0 [0,3],.vl 0 [0,5],.vl 0 [0,7],.vl 0 [0,10],.vl 0 [0,11],.vl 0 [0,12]]] (α:=let p:=(V0 e tx ta id);let u:=p.1.lk;let z:=p.1.s;∃(x:Int),let q:=(λ(x:Nat)=>[]);((ta=x/\True)/\True)/\∃(g:Int),(V9 x (1:Int) 3=true->(id=g/\True)/\True)/\∃(f:(Eng×Bool×Bool)),(((L4 e f.1)/\true=f.2.1/\(V9 x (1:Int) (3:Int)&&V9 g (0:Int) (1000:Int))=f.2.2/\True)/\gT f.1)/\br (xP (R2 f.1) f.2.1 f.2.2 !=(0:Int)) (((((0=0/\0=z.d.E.length)/\(0=0/\0=z.d.C.length)/\false=z.d.A/\(0=0/\0=z.d.keep.length)/\0=z.ep/\(0=0/\0=z.L.length)/\0=z.S/\(0=0/\0=z.fr.length)/\0=z.J/\false=p.1.up/\(0=0/\0=p.1.X.length)/\(0=0/\0=u.H.length)/\(0=0/\0=u.W.length)/\0=p.1.N/\True)/\xP (R2 f.1) f.2.1 f.2.2=p.2/\True)/\True)/\(0=z.d.E.length/\Z7 0 q (Z5 z.d.E))/\(0=z.d.C.length/\Z7 0 q (Z1 z.d.C))/\(0=z.d.keep.length/\Z7 0 q (Y9 z.d.keep))/\(0=z.L.length/\Z7 0 q (Y1 z.L))/\(0=0/\0=z.fr.length/\V2 0 q (Y5 z.fr))/\(0=p.1.X.length/\Z7 0 q (X2 p.1.X))/\(0=u.H.length/\Z7 0 q (Z2 u.H))/\(0=u.W.length/\Z7 0 q (Y7 u.W))/\True) (∃(x:Eng),(((L4 e x)/\True)/\M2 x)/\∃(X:(Eng×Int×Int×Rw×Bool)),let r:=(nS X.1 X.2.1 X.2.2.1 X.2.2.2.1 X.2.2.2.2);(((0=0/\0=0)/\tx=X.2.1/\ta=X.2.2.1/\(id=X.2.2.2.1.id/\0=X.2.2.2.1.n.k/\0=X.2.2.2.1.n.n/\[]=X.2.2.2.1.n.t/\0=X.2.2.2.1.name.k/\0=X.2.2.2.1.name.n/\[]=X.2.2.2.1.name.t/\True)/\true=X.2.2.2.2/\True)/\(iQ (0) (0) x X.1)/\a54 X.1 X.2.2.1 X.2.2.2.1)/\∃(x:Eng),((LeG r.1.1)/\((qD r.1.1 x)/\True)/\M2 x)/\(((c0h x p.1)/\r.2=p.2/\True)/\True)/\uL (0) (0) x p.1)) ⟨ta,Z8,id,λ_=>Z8,(e,true,V9 ta 1 3&&V9 id 0 1000),⟨Z8,h⟩,λhq=>?_,λhq=>?_⟩,rfl,kK _ 0⟩
 ·rw[b9c (c8a hq)];exact⟨Z8,⟨rfl,P1⟩,⟨rfl,P1⟩,⟨rfl,P1⟩,⟨rfl,P1⟩,⟨rfl,rfl,λi hi=>absurd hi (D4 _)⟩,⟨rfl,P1⟩,⟨rfl,P1⟩,⟨rfl,P1⟩,Z6⟩
 ·have hC:=b6b (ta:=ta) (id:=id) hq h2;have h0:xP (R2 e) true (V9 ta 1 3&&V9 id 0 1000)=0:=by simpa using hq
  rw[c4J h0];exact⟨e,⟨Z8,h2⟩,(e,tx,ta,wS id,true),⟨Z8,Z8,hC⟩,(nS e tx ta (wS id) true).1.1,⟨Z8,Z8,a8O hC⟩,Z8⟩
def stX(e:Eng)(no sl:Nat):{y:Eng×Bz×Bool//y=(R7 e (Y3 e.s no).1,if(Y3 e.s no).2.2=true then((Y3 e.s no).1.fr.getD (Y3 e.s no).2.1 dz).pg.sl.getD sl [] else[],(Y3 e.s no).2.2)}:=Classical.choice ⟨⟨_,rfl⟩⟩
def c5f:Con:=.rel ⟨Eng×Nat×Nat,λx=>[.agg x.1.ts,Ji x.2.1,Ji x.2.2],λx=>.tup [.agg (stX x.1 x.2.1 x.2.2).1.1.ts,.str (stX x.1 x.2.1 x.2.2).1.2.1,.bool (stX x.1 x.2.1 x.2.2).1.2.2],λx=>SI x.1.s/\x.2.1<8/\x.2.2<4⟩
theorem c1H:GK 81 c5f:=gk func81<|by
 rintro⟨e,no,sl⟩ ⟨h,n,d⟩;dsimp only at h n d;show V3 _ _ _ (.tup [.agg (stX e no sl).1.1.ts,.str (stX e no sl).1.2.1,.bool (stX e no sl).1.2.2]);have hy:=(stX e no sl).2;generalize (stX e no sl).1=y at*;refine U6 (gC rP gN) func81 Z3 (α:=∃(x:(Sto×Nat)),let p:=(Y3 x.1 x.2);let q:=(p.1.fr.getD (↑p.2.1:Int).toNat dz);(((yU e.s x.1)/\(no:Int)=(x.2:Int)/\True)/\iX x.1 x.2)/\br (! p.2.2) ((L4 {e with s:=p.1} y.1)/\[]=y.2.1/\false=y.2.2/\True) (W9 (↑p.2.1:Int) p.1.fr.length/\W9 (sl:Int) q.pg.sl.length/\(L4 {e with s:=p.1} y.1)/\q.pg.sl.getD (sl:Int).toNat []=y.2.1/\true=y.2.2/\True)) ⟨(e.s,no),⟨Z8,h.iv,n⟩,λhu=>?_,λhu=>?_⟩
 ·have hu:(Y3 e.s no).2.2=false:=uT hu;rw[hy,hu,if_neg W7]
  exact Z8
 ·have hu:(Y3 e.s no).2.2=true:=yP hu;obtain⟨f,_,_,g,ps⟩:=xM h.iv n hu;dsimp only;rw[hy,E4,hu,if_pos rfl];exact⟨Y6 f,Y6 (by rw[g];exact d),Z8⟩
def c6p:Con:=.rel ⟨Eng×Nat×Int×Int×Bz×Bz×Int×Nat,λx=>[.agg x.1.ts,Ji x.2.1,Ji x.2.2.1,Ji x.2.2.2.1,.str x.2.2.2.2.1,.str x.2.2.2.2.2.1],λx=>.tup [.agg (k5 x.1 x.2.1 x.2.2.1 x.2.2.2.1 x.2.2.2.2.1 x.2.2.2.2.2.1 x.2.2.2.2.2.2.2).1.1.ts,Ji (k5 x.1 x.2.1 x.2.2.1 x.2.2.2.1 x.2.2.2.2.1 x.2.2.2.2.2.1 x.2.2.2.2.2.2.2).2],
 λx=>XI x.1 x.2.1 x.2.2.2.2.2.2.1/\(0<=x.2.2.1/\x.2.2.1<=7)/\(0<=x.2.2.2.1/\x.2.2.2.1<=3)/\x.2.2.2.2.1.length<=30/\x.2.2.2.2.2.1.length<=30⟩
theorem c7d(e:Eng)(k:Nat)(g s:Int)(b a:Bz)(Z:Eng×Int)(h:
let z:=(e.s.L.length:Int);  Ri (z+1)/\∃(x:Eng),let v:=(↑(nM x):Int);(((L4 e x)/\True)/\wT x)/\Ri (z+1+v)/\Ri (z+1+v+1)/\bd (z+1+v+1>60) ((L4 e Z.1)/\7=Z.2/\True) (∃(x:(Eng×Nat×Rec)),let y:=x.1.s.L.length;let u:=x.2.2;let r:=(x.1.X.set x.2.1 (Txn.mk (x.1.X.getD x.2.1 dz).id ((y:Int)+1)));(((L4 e x.1)/\(k:Int)=(x.2.1:Int)/\(0=u.e/\0=u.l/\0=u.t/\2=u.k/\0=u.p/\0=u.n/\g=u.g/\s=u.s/\b=u.b/\a=u.a/\True)/\True)/\x.2.1<x.1.X.length/\x.1.X.length<=1000/\y<=1000)/\∃(X:(Sto×Int)),let q:=(U0 X.1 (X.1.L.getD (X.2-1).toNat dz));(((yU {x.1.s with L:=(x.1.s.L++[P9 x.1.s (C1 x.1 x.2.1 u)])} X.1)/\(↑(y+1):Int)=X.2/\True)/\SInv X.1/\1<=X.2/\X.2<=(X.1.L.length:Int))/\br (! q.2) (∃(f:(Eng×Dsk)),(((L4 {x.1 with s:=q.1,X:=r} f.1)/\(zN q.1.d f.2)/\True)/\G4 f.2/\f.2.E.length=69)/\(L4 (k6 (sdE f.1 f.2)) Z.1)/\15=Z.2/\True) ((L4 {x.1 with s:=q.1,X:=r} Z.1)/\0=Z.2/\True))):
  V3 prog 203 [.agg e.ts,Ji k,Ji g,Ji s,.str b,.str a] (.tup [.agg Z.1.ts,Ji Z.2]):=
 U6 (gC pT (gC a1C (gC jP (gC oI gN)))) func203 Z3 h
theorem c5g{e:Eng}(h:wT e):nM e<=620:=by
 have d:=dK e.s.L e.X e.X.length;have f:=h.2.1;show tR e.s.L e.X e.X.length<=620;omega
theorem c3K:GK 203 c6p:=gk func203<|by
 rintro⟨e,k,g,s,b,a,tx,v⟩ ⟨h,i,f,B,A⟩;dsimp only at h i f B A ⊢;have M:=h.u.u.rm;have n:=h.u.u.t10;have l:=c5g h.nd;obtain⟨o,hP,j,_⟩:=a3s h i f B A;refine c7d e k g s b a ((k5 e k g s b a v).1.1,(k5 e k g s b a v).2) ⟨Z4 Z9,e,⟨Z8,h.nd⟩,Z4 Z9,Z4 Z9,λhq=>?_,λhq=>?_⟩
 ·rw[a1J (G6 hq)];exact Z8
 ·have hq:=m9 hq;have e2:=c2B e k (J5 g s b a);refine⟨(e,k,J5 g s b a),⟨Z8,h.u.u.lt,X5,X5⟩,((F1 e k (J5 g s b a)).s,((e.s.L.length+1:Nat):Int)),⟨⟨jV (F1 e k (J5 g s b a)).s,Z8⟩,hP.1,X5,by rw[sF];exact Int.le_refl _⟩,λhu=>?_,λhu=>?_⟩
  ·dsimp only at hu ⊢;rw[e2] at hu ⊢;have hu:(l6 e k (J5 g s b a)).2=false:=uT hu;rw[eT hq hu];exact⟨((l6 e k (J5 g s b a)).1,(l6 e k (J5 g s b a)).1.s.d),⟨⟨vS (l6 e k (J5 g s b a)).1,Z8⟩,(j hu).1,(j hu).2⟩,Z8⟩
  ·dsimp only at hu ⊢;rw[e2] at hu ⊢;have hu:(l6 e k (J5 g s b a)).2=true:=yP hu;rw[dP hq hu];exact⟨vS (l6 e k (J5 g s b a)).1,Z8⟩
def WrB(e:Eng)(k:Nat)(ta:Int)(r:Rw)(tx:Int):Prop:=XI e k tx/\(1<=ta/\ta<=3)/\RwK r/\(sV ta r).length<=30
def c5D:Con:=.rel ⟨Eng×Nat×Int×Rw×Bool×Int,λx=>[.agg x.1.ts,Ji x.2.1,Ji x.2.2.1,.agg x.2.2.2.1.ts,.bool x.2.2.2.2.1],λx=>.tup [.agg (oO x.1 x.2.1 x.2.2.2.2.2 x.2.2.1 x.2.2.2.1 x.2.2.2.2.1).1.1.ts,Ji (oO x.1 x.2.1 x.2.2.2.2.2 x.2.2.1 x.2.2.2.1 x.2.2.2.2.1).2],
 λx=>WrB x.1 x.2.1 x.2.2.1 x.2.2.2.1 x.2.2.2.2.2⟩
theorem c8r{e:Eng}{k:Nat}{tx ta:Int}{r:Rw}{gone:Bool}(h:¬ (R5 e k ta (-1) 2).2=0):oO e k tx ta r gone=(((R5 e k ta (-1) 2).1,vB e k ta (-1) 2),(R5 e k ta (-1) 2).2):=by
 have d:zF e k ta 2 r.id 4=(((R5 e k ta (-1) 2).1,vB e k ta (-1) 2),(R5 e k ta (-1) 2).2):=if_neg h;unfold oO;rw[d,if_neg h]
theorem c7V{e d:Eng}{k:Nat}{tx ta:Int}{r:Rw}{gone:Bool}(h:R5 e k ta (-1) 2=(d,0))(f:¬ (R5 d k ta r.id 4).2=0):oO e k tx ta r gone=(((R5 d k ta r.id 4).1,vB d k ta r.id 4),(R5 d k ta r.id 4).2):=by
 have g:zF e k ta 2 r.id 4=(((R5 d k ta r.id 4).1,vB d k ta r.id 4),(R5 d k ta r.id 4).2):=by
  unfold zF;rw[if_pos (by rw[h]),h]
 unfold oO;rw[g,if_neg f]
theorem c8g{e f d:Eng}{k:Nat}{tx ta:Int}{r:Rw}{gone:Bool}(h:R5 e k ta (-1) 2=(f,0))(i:R5 f k ta r.id 4=(d,0)):oO e k tx ta r gone=fV d k ta r gone (T2 d tx ta r.id 8) (sO d tx ta r.id 8):=by
 have g:zF e k ta 2 r.id 4=((d,vB f k ta r.id 4),0):=by
  unfold zF;rw[if_pos (by rw[h]),h]
  dsimp only;rw[i]
 unfold oO;rw[g,if_pos rfl]
theorem c1k:GK 116 c5D:=gk func116<|by
 rintro⟨e,k,ta,r,gone,tx⟩ ⟨h,o,R,B⟩;dsimp only at h o R B ⊢;generalize hZ:oO e k tx ta r gone=Z;have ab:=R.2.2;refine U6 (gC c1F (gC c17 (gC a2Q (gC c3K (gC c1H (gC oI gN)))))) func116 Z3 (α:=∃(x:(Eng×Nat×Int×Int×Int×Int)),let u:=(R5 x.1 x.2.1 x.2.2.1 x.2.2.2.1 x.2.2.2.2.1);(((L4 e x.1)/\(k:Int)=(x.2.1:Int)/\ta=x.2.2.1/\(-1:Int)=x.2.2.2.1/\2=x.2.2.2.2.1/\True)/\XI x.1 x.2.1 x.2.2.2.2.2)/\br (u.2 !=0) ((L4 u.1 Z.1.1)/\u.2=Z.2/\True) (∃(i:(Eng×Nat×Int×Int×Int×Int)),let q:=(R5 i.1 i.2.1 i.2.2.1 i.2.2.2.1 i.2.2.2.2.1);(((L4 u.1 i.1)/\(k:Int)=(i.2.1:Int)/\ta=i.2.2.1/\r.id=i.2.2.2.1/\4=i.2.2.2.2.1/\True)/\XI i.1 i.2.1 i.2.2.2.2.2)/\br (q.2 !=0) ((L4 q.1 Z.1.1)/\q.2=Z.2/\True) (W9 (k:Int) q.1.X.length/\∃(x:(Eng×Int×Int×Int)),let p:=(rV x.1 x.2.1 x.2.2.1 x.2.2.2);let pa:=(L4 p.val.fst Z.1.1);let z:=p.val.snd.fst;(((L4 q.1 x.1)/\(q.1.X.getD (k:Int).toNat dz).id=x.2.1/\ta=x.2.2.1/\r.id=x.2.2.2/\True)/\SI x.1.s/\wT x.1)/\br (! p.val.snd.snd) (∃(j:(Eng×Dsk)),(((L4 p.val.fst j.1)/\(zN p.val.fst.s.d j.2)/\True)/\G4 j.2/\j.2.E.length=69)/\(L4 (k6 (sdE j.1 j.2)) Z.1.1)/\15=Z.2/\True) (∃(j:(Int×Rw)),((ta=j.1/\(r.id=j.2.id/\r.n.k=j.2.n.k/\r.n.n=j.2.n.n/\r.n.t=j.2.n.t/\r.name.k=j.2.name.k/\r.name.n=j.2.name.n/\r.name.t=j.2.name.t/\True)/\True)/\RwK j.2/\1<=j.1/\j.1<=3)/\br gone (W9 (0:Int) 4/\bd (z.a<0) (br gone (pa/\5=Z.2/\True) (W9 (2:Int) 4/\bd (z.c<0) (pa/\12=Z.2/\True) (W9 (2:Int) 4/\W9 (3:Int) 4/\∃(X:(Eng×Nat×Int×Int×Bz×Bz×Int×Nat)),let f:=(k5 X.1 X.2.1 X.2.2.1 X.2.2.2.1 X.2.2.2.2.1 X.2.2.2.2.2.1 X.2.2.2.2.2.2.2);(((L4 p.val.fst X.1)/\(k:Int)=(X.2.1:Int)/\z.c=X.2.2.1/\z.d=X.2.2.2.1/\[]=X.2.2.2.2.1/\[]=X.2.2.2.2.2.1/\True)/\XI X.1 X.2.1 X.2.2.2.2.2.2.1/\(0<=X.2.2.1/\X.2.2.1<=(7:Int))/\(0<=X.2.2.2.1/\X.2.2.2.1<=(3:Int))/\X.2.2.2.2.1.length<=30/\X.2.2.2.2.2.1.length<=30)/\(L4 f.1.1 Z.1.1)/\f.2=Z.2/\True))) (W9 (0:Int) 4/\W9 (1:Int) 4/\∃(X:(Eng×Nat×Nat)),let v:=(stX X.1 X.2.1 X.2.2);(((L4 p.val.fst X.1)/\z.a=(X.2.1:Int)/\z.b=(X.2.2:Int)/\True)/\SI X.1.s/\X.2.1<8/\X.2.2<4)/\br (! v.val.snd.snd) (∃(x:(Eng×Dsk)),(((L4 v.val.fst x.1)/\(zN v.val.fst.s.d x.2)/\True)/\G4 x.2/\x.2.E.length=69)/\(L4 (k6 (sdE x.1 x.2)) Z.1.1)/\15=Z.2/\True) (W9 (0:Int) 4/\W9 (1:Int) 4/\∃(g:(Eng×Nat×Int×Int×Bz×Bz×Int×Nat)),let w:=g.2.2.2;let pb:=(k5 g.1 g.2.1 g.2.2.1 w.1 w.2.1 w.2.2.1 w.2.2.2.2);(((L4 v.val.fst g.1)/\(k:Int)=(g.2.1:Int)/\z.a=g.2.2.1/\z.b=w.1/\v.val.snd.fst=w.2.1/\[]=w.2.2.1/\True)/\XI g.1 g.2.1 w.2.2.2.1/\(0<=g.2.2.1/\g.2.2.1<=(7:Int))/\(0<=w.1/\w.1<=(3:Int))/\w.2.1.length<=30/\w.2.2.1.length<=30)/\(L4 pb.1.1 Z.1.1)/\pb.2=Z.2/\True))) (W9 (0:Int) 4/\bd (z.a<0) (br gone (pa/\5=Z.2/\True) (W9 (2:Int) 4/\bd (z.c<0) (pa/\12=Z.2/\True) (W9 (2:Int) 4/\W9 (3:Int) 4/\∃(X:(Eng×Nat×Int×Int×Bz×Bz×Int×Nat)),let l:=(k5 X.1 X.2.1 X.2.2.1 X.2.2.2.1 X.2.2.2.2.1 X.2.2.2.2.2.1 X.2.2.2.2.2.2.2);(((L4 p.val.fst X.1)/\(k:Int)=(X.2.1:Int)/\z.c=X.2.2.1/\z.d=X.2.2.2.1/\[]=X.2.2.2.2.1/\sV j.1 j.2=X.2.2.2.2.2.1/\True)/\XI X.1 X.2.1 X.2.2.2.2.2.2.1/\(0<=X.2.2.1/\X.2.2.1<=(7:Int))/\(0<=X.2.2.2.1/\X.2.2.2.1<=(3:Int))/\X.2.2.2.2.1.length<=30/\X.2.2.2.2.2.1.length<=30)/\(L4 l.1.1 Z.1.1)/\l.2=Z.2/\True))) (W9 (0:Int) 4/\W9 (1:Int) 4/\∃(X:(Eng×Nat×Nat)),let y:=(stX X.1 X.2.1 X.2.2);(((L4 p.val.fst X.1)/\z.a=(X.2.1:Int)/\z.b=(X.2.2:Int)/\True)/\SI X.1.s/\X.2.1<8/\X.2.2<4)/\br (! y.1.snd.snd) (∃(x:(Eng×Dsk)),(((L4 y.1.fst x.1)/\(zN y.1.fst.s.d x.2)/\True)/\G4 x.2/\x.2.E.length=69)/\(L4 (k6 (sdE x.1 x.2)) Z.1.1)/\15=Z.2/\True) (W9 (0:Int) 4/\W9 (1:Int) 4/\∃(g:(Eng×Nat×Int×Int×Bz×Bz×Int×Nat)),let m:=g.2.2.2;let pc:=(k5 g.1 g.2.1 g.2.2.1 m.1 m.2.1 m.2.2.1 m.2.2.2.2);(((L4 y.1.fst g.1)/\(k:Int)=(g.2.1:Int)/\z.a=g.2.2.1/\z.b=m.1/\y.1.snd.fst=m.2.1/\sV j.1 j.2=m.2.2.1/\True)/\XI g.1 g.2.1 m.2.2.2.1/\(0<=g.2.2.1/\g.2.2.1<=(7:Int))/\(0<=m.1/\m.1<=(3:Int))/\m.2.1.length<=30/\m.2.2.1.length<=30)/\(L4 pc.1.1 Z.1.1)/\pc.2=Z.2/\True))))))) ⟨(e,k,ta,-1,2,tx),⟨Z8,h⟩,λq=>?_,λq=>?_⟩
 ·rw[←hZ,c8r (c7F q)];exact⟨vS (R5 e k ta (-1) 2).1,Z8⟩
 have J:=a0i (c2b q);have Q:=sI h ta (-1) 2;dsimp only;rw[J];generalize pF e k ta (-1) 2=e1 at*;dsimp only;refine⟨(e1,k,ta,r.id,4,tx),⟨Z8,Q⟩,λq=>?_,λq=>?_⟩
 ·rw[←hZ,c7V J (c7F q)];exact⟨vS (R5 e1 k ta r.id 4).1,Z8⟩
 have U:=a0i (c2b q);have h2:=sI Q ta r.id 4;dsimp only;rw[c8g J U] at hZ;rw[U];generalize pF e1 k ta r.id 4=e2 at*;dsimp only;have hF:=b4b h2.u.u.si tx ta r.id 8 (U9 _);have Y:(e2.X.getD k dz).id=tx:=h2.u.u.id;refine⟨Y6 h2.u.u.lt,(e2,tx,ta,r.id),⟨⟨vS _,by rw[E4,Y],rfl,rfl,Z6⟩,h2.u.u.si,h2.nd⟩,?_⟩
 dsimp only;rw[(rV e2 tx ta r.id).2];generalize T2 e2 tx ta r.id 8=f at*;generalize sO e2 tx ta r.id 8=v at*;obtain⟨fs,fp,fl⟩:=f;obtain⟨V,N,hpl⟩:=hF;dsimp only at V N hpl hZ ⊢;refine⟨λhd=>?_,λL=>⟨(ta,r),⟨Z8,R,o.1,o.2⟩,?_⟩⟩
 ·have hd:fl=false:=uT hd;have eZ:Z=((k6 (R7 e2 fs),0),15):=by rw[←hZ,hd];rfl
  rw[eZ];exact⟨(R7 e2 fs,fs.d),⟨Z8,(N hd).1,(N hd).2⟩,Z8⟩
 have L:fl=true:=yP L;subst L;obtain⟨s1,s2,s3⟩:=V rfl;have F:XI (R7 e2 fs) k tx:=a7l h2 s1 s2 s3;have hd:decide (fp.a<0)=false->¬fp.a<0:=m9;have W:¬fp.a<0->(fp.a.toNat:Int)=fp.a/\(fp.b.toNat:Int)=fp.b/\fp.a.toNat<8/\fp.b.toNat<4/\(0<=fp.a/\fp.a<=7)/\(0<=fp.b/\fp.b<=3):=λha=>by
  have aa:=hpl.1.resolve_left Z9
  omega
 have O:=(stX (R7 e2 fs) fp.a.toNat fp.b.toNat).2;refine⟨λM=>?_,λM=>?_⟩<;>subst M
 ·refine⟨⟨Z9,Z9⟩,λha=>⟨λ_=>?_,λhc=>by cases hc⟩,λha=>?_⟩
  ·have ha:=G6 ha;have eW:Z=((R7 e2 fs,v),5):=by rw[←hZ];unfold fV;rw[if_pos rfl,if_pos ha,if_pos rfl]
   rw[eW];exact Z8
  ·have ha:=hd ha;obtain⟨I,A,n3,z,l,C⟩:=W ha;have eW:Z=if(Y3 fs fp.a.toNat).2.2=true then k5 (R7 e2 (v9 e2 fp fs).1) k fp.a fp.b (v9 e2 fp fs).2 [] (P8 fs fp.a.toNat v) else((k6 (R7 e2 (v9 e2 fp fs).1),0),15):=by
    rw[←hZ];unfold fV;rw[if_pos rfl,if_neg ha];rfl
   refine⟨⟨Z9,Z9⟩,⟨Z9,Z9⟩,(R7 e2 fs,fp.a.toNat,fp.b.toNat),⟨⟨vS (R7 e2 fs),I.symm,A.symm,Z6⟩,s1,n3,z⟩,?_⟩
   dsimp only;rw[O];refine⟨λhu=>?_,λhu=>?_⟩
   ·have hu:(Y3 fs fp.a.toNat).2.2=false:=uT hu;rw[if_neg (by rw[hu];simp)] at eW
    rw[eW];exact⟨(R7 e2 (v9 e2 fp fs).1,(v9 e2 fp fs).1.d),⟨Z8,(rN s1 hu).1,(rN s1 hu).2⟩,Z8⟩
   ·have hu:(Y3 fs fp.a.toNat).2.2=true:=yP hu;rw[if_pos hu] at eW;obtain⟨j1,j2⟩:=rQ s1 n3 hu;obtain⟨f2,_,_,p4,ps⟩:=xM s1.iv n3 hu;have hX4:XI (R7 e2 (v9 e2 fp fs).1) k tx:=a7l h2 j1 (j2.trans s2) (cP.trans s3);have hsl:(v9 e2 fp fs).2.length<=30:=ps fp.b.toNat (by rw[p4];omega)
    rw[eW];exact⟨⟨Z9,Z9⟩,⟨Z9,Z9⟩,(R7 e2 (v9 e2 fp fs).1,k,fp.a,fp.b,(v9 e2 fp fs).2,[],tx,P8 fs fp.a.toNat v),⟨⟨vS (R7 e2 (v9 e2 fp fs).1),rfl,rfl,rfl,if_pos hu,Z8⟩,hX4,l,C,hsl,N5 _⟩,vS (k5 (R7 e2 (v9 e2 fp fs).1) k fp.a fp.b (v9 e2 fp fs).2 [] (P8 fs fp.a.toNat v)).1.1,Z8⟩
 ·refine⟨⟨Z9,Z9⟩,λha=>⟨λhc=>(by cases hc),λ_=>⟨⟨Z9,Z9⟩,λhc=>?_,λhc=>?_⟩⟩,λha=>?_⟩
  ·have eW:Z=((R7 e2 fs,v),12):=by rw[←hZ];unfold fV;rw[if_pos rfl,if_pos (G6 ha),if_neg W7,if_pos (G6 hc)]
   rw[eW];exact Z8
  ·have hc:=m9 hc;have hC:=hpl.2.resolve_left Z9
   have eW:Z=k5 (R7 e2 fs) k fp.c fp.d [] (sV ta r) v:=by rw[←hZ];unfold fV;rw[if_pos rfl,if_pos (G6 ha),if_neg W7,if_neg hc]
   rw[eW];exact⟨⟨Z9,Z9⟩,⟨Z9,Z9⟩,(R7 e2 fs,k,fp.c,fp.d,[],sV ta r,tx,v),⟨Z8,F,X5,X5,N5 _,B⟩,vS (k5 (R7 e2 fs) k fp.c fp.d [] (sV ta r) v).1.1,Z8⟩
  ·have ha:=hd ha;obtain⟨I,A,n3,z,l,C⟩:=W ha;have eW:Z=if(Y3 fs fp.a.toNat).2.2=true then k5 (R7 e2 (v9 e2 fp fs).1) k fp.a fp.b (v9 e2 fp fs).2 (sV ta r) (P8 fs fp.a.toNat v) else((k6 (R7 e2 (v9 e2 fp fs).1),0),15):=by
    rw[←hZ];unfold fV;rw[if_pos rfl,if_neg ha];rfl
   refine⟨⟨Z9,Z9⟩,⟨Z9,Z9⟩,(R7 e2 fs,fp.a.toNat,fp.b.toNat),⟨⟨vS (R7 e2 fs),I.symm,A.symm,Z6⟩,s1,n3,z⟩,?_⟩
   dsimp only;rw[O];refine⟨λhu=>?_,λhu=>?_⟩
   ·have hu:(Y3 fs fp.a.toNat).2.2=false:=uT hu;rw[if_neg (by rw[hu];simp)] at eW
    rw[eW];exact⟨(R7 e2 (v9 e2 fp fs).1,(v9 e2 fp fs).1.d),⟨Z8,(rN s1 hu).1,(rN s1 hu).2⟩,Z8⟩
   ·have hu:(Y3 fs fp.a.toNat).2.2=true:=yP hu;rw[if_pos hu] at eW;obtain⟨j1,j2⟩:=rQ s1 n3 hu;obtain⟨f2,_,_,p4,ps⟩:=xM s1.iv n3 hu;have hX4:XI (R7 e2 (v9 e2 fp fs).1) k tx:=a7l h2 j1 (j2.trans s2) (cP.trans s3);have hsl:(v9 e2 fp fs).2.length<=30:=ps fp.b.toNat (by rw[p4];omega)
    rw[eW];exact⟨⟨Z9,Z9⟩,⟨Z9,Z9⟩,(R7 e2 (v9 e2 fp fs).1,k,fp.a,fp.b,(v9 e2 fp fs).2,sV ta r,tx,P8 fs fp.a.toNat v),⟨⟨vS (R7 e2 (v9 e2 fp fs).1),rfl,rfl,rfl,if_pos hu,Z8⟩,hX4,l,C,hsl,B⟩,vS (k5 (R7 e2 (v9 e2 fp fs).1) k fp.a fp.b (v9 e2 fp fs).2 (sV ta r) (P8 fs fp.a.toNat v)).1.1,Z8⟩
def c56:Con:=.rel ⟨Eng×Int×Int×Int,λx=>[.agg x.1.ts,Ji x.2.1,Ji x.2.2.1,Ji x.2.2.2],λx=>.tup [.agg (nS x.1 x.2.1 x.2.2.1 (wS x.2.2.2) true).1.1.ts,Ji (nS x.1 x.2.1 x.2.2.1 (wS x.2.2.2) true).2],λx=>a54 x.1 x.2.2.1 (wS x.2.2.2)⟩
theorem c7S(e:Eng)(tx ta id:Int)(Z:(Eng×Nat)×Int)(h:
  ∃(x:(Eng×Int)),let q:=(H3 x.1 x.2);(((L4 e x.1)/\tx=x.2/\True)/\L7 x.1.X.length)/\br (q.2 !=0) ((L4 e Z.1.1)/\q.2=Z.2/\True) (∃(X:(Eng×Nat×Int×Rw×Bool×Int)),let p:=(oO X.1 X.2.1 X.2.2.2.2.2 X.2.2.1 X.2.2.2.1 X.2.2.2.2.1);(((L4 e X.1)/\q.1=(X.2.1:Int)/\ta=X.2.2.1/\(id=X.2.2.2.1.id/\0=X.2.2.2.1.n.k/\0=X.2.2.2.1.n.n/\[]=X.2.2.2.1.n.t/\0=X.2.2.2.1.name.k/\0=X.2.2.2.1.name.n/\[]=X.2.2.2.1.name.t/\True)/\true=X.2.2.2.2.1/\True)/\WrB X.1 X.2.1 X.2.2.1 X.2.2.2.1 X.2.2.2.2.2)/\(L4 p.1.1 Z.1.1)/\p.2=Z.2/\True)):
  V3 prog 54 [.agg e.ts,Ji tx,Ji ta,Ji id] (.tup [.agg Z.1.1.ts,Ji Z.2]):=
 U6 (gC a3D (gC c1k gN)) func54 Z3 h
theorem c8B{e:Eng}{tx ta:Int}{r:Rw}{gone:Bool}(h:¬ (H3 e tx).2=0):nS e tx ta r gone=((e,0),(H3 e tx).2):=if_neg h
theorem c8Y{e:Eng}{tx ta:Int}{r:Rw}{gone:Bool}{k:Nat}(h:(H3 e tx).2=0)(d:(H3 e tx).1=k):nS e tx ta r gone=oO e k tx ta r gone:=by
 unfold nS;rw[if_pos h,d,E4]
theorem c3p:GK 54 c56:=gk func54<|by
 rintro⟨e,tx,ta,id⟩ ⟨o,M,r,t,B⟩;dsimp only at o M r t B ⊢;have g:=(xK (u6 o).2.1).1;refine c7S e tx ta id (nS e tx ta (wS id) true) ⟨(e,tx),⟨Z8,rT⟩,λh=>?_,λh=>?_⟩
 ·rw[c8B (c7F h)];exact Z8
 ·obtain⟨u,k,d,f,hi,A⟩:=a1A (c2b h);rw[c8Y (c2b h) d];exact⟨(e,k,ta,wS id,true,tx),⟨⟨vS _,d,Z8⟩,b0u o M u A f hi,t,r,B⟩,vS (oO e k tx ta (wS id) true).1.1,Z8⟩
def c0d:Con:=.rfz ⟨Eng×Int×Int×Int,λx=>[.agg x.1.ts,Ji x.2.1,Ji x.2.2.1,Ji x.2.2.2],λx=>.tup [.agg (V0 x.1 x.2.1 x.2.2.1 x.2.2.2).1.ts,Ji (V0 x.1 x.2.1 x.2.2.1 x.2.2.2).2],λx=>gT x.1/\M2 x.1⟩
theorem c4z(e:Eng)(tx ta id:Int):(R2 e=false->V0 e tx ta id=(uW,1))/\(R2 e=true->(V9 ta 1 3&&V9 id 0 1000)=false->V0 e tx ta id=(uW,4))/\(R2 e=true->(V9 ta 1 3&&V9 id 0 1000)=true->V0 e tx ta id=((nS e tx ta (wS id) true).1.1,(nS e tx ta (wS id) true).2)):=by
 refine⟨λh=>?_,λh h2=>?_,λh h2=>?_⟩
 ·have e1:∀b,xP (R2 e) true b=1:=λb=>by rw[h];rfl
  rw[b9c (by rw[e1];decide),e1]
 ·have e1:xP (R2 e) true (V9 ta 1 3&&V9 id 0 1000)=4:=by rw[h,h2];rfl
  rw[b9c (by rw[e1];decide),e1]
 ·have e1:xP (R2 e) true (V9 ta 1 3&&V9 id 0 1000)=0:=by rw[h,h2];rfl
  exact c4J e1
theorem c4j{a b:Bool}:(!a|| !b)= !(a&&b):=by cases a<;>rfl
theorem b8J:GK 16 c0d:=gk func16<|by
 rintro⟨e,tx,ta,id⟩ ⟨h,h2⟩;dsimp only at h h2 ⊢;obtain⟨d1,d2,f⟩:=c4z e tx ta id;generalize V0 e tx ta id=Z at*;refine U6 (gC a05 (gC A2 (gC c3p (gC b2T gN)))) func16 Z3 (α:=let p:=(Z.1.s.d.E.length=0/\Z.1.s.d.C.length=0/\false=Z.1.s.d.A/\Z.1.s.d.keep.length=0/\0=Z.1.s.ep/\Z.1.s.L.length=0/\0=Z.1.s.S/\Z.1.s.fr.length=0/\0=Z.1.s.J/\false=Z.1.up/\Z.1.X.length=0/\Z.1.lk.H.length=0/\Z.1.lk.W.length=0/\0=Z.1.N/\True);∃(x:tT.ι),(((L4 e x)/\True)/\gT x)/\br (!R2 x) (p/\1=Z.2/\True) (br (!V9 ta (1:Int) (3:Int)|| !V9 id (0:Int) (1000:Int)) (p/\4=Z.2/\True) (∃(x:(Eng×Int×Int×Int)),let q:=(nS x.1 x.2.1 x.2.2.1 (wS x.2.2.2) true);(((L4 e x.1)/\tx=x.2.1/\ta=x.2.2.1/\id=x.2.2.2/\True)/\a54 x.1 x.2.2.1 (wS x.2.2.2))/\∃(X:Eng),(((L4 q.1.1 X)/\True)/\M2 X)/\(L4 X Z.1)/\q.2=Z.2/\True))) ⟨e,⟨Z8,h⟩,λhq=>?_,λhq=>⟨λhr=>?_,λhr=>?_⟩⟩
 ·rw[d1 (uT hq)];exact Z8
 ·rw[c4j] at hr;rw[d2 (yP hq) (uT hr)];exact Z8
 ·rw[c4j] at hr;have ho:R2 e=true:=yP hq;have hi:=yP hr;have hC:a54 e ta (wS id):=b6b (by rw[ho,hi];rfl) h2
  rw[f ho hi];exact⟨(e,tx,ta,id),⟨Z8,hC⟩,(nS e tx ta (wS id) true).1.1,⟨⟨vS (nS e tx ta (wS id) true).1.1,Z6⟩,a8O hC⟩,Z8⟩
theorem c2r{e:Eng}{tx ta id:Int}(h:M2 e):M2 (V0 e tx ta id).1:=by
 obtain⟨d1,d2,d⟩:=c4z e tx ta id;cases o:R2 e with
 |false=>rw[d1 o];exact b8V
 |true=>
  cases hi:(V9 ta 1 3&&V9 id 0 1000) with
  |false=>rw[d2 o hi];exact b8V
  |true=>rw[d o hi];exact a8O (b6b (by rw[o,hi];rfl) h)
theorem a78(e:Eng)(tx ta id:Int)(h:b0Z e):V3 prog 4 [.agg e.ts,Ji tx,Ji ta,Ji id] (.bool true):=by
 have L:y9 1048576:=⟨Z9,Z9⟩
 refine U6 (gC b9q (gC b8n (gC b8J (gC b9I (gC b6H (gC a6O (gC a87 gN))))))) func4 Z3 (α:=let pe:=(false=true);∃(x:(Eng×Int)),(((L4 e x.1)/\1048576=x.2/\True)/\y9 x.2/\b0Z x.1)/\bd (rem x.2 (yI x.1)<0) (true=true) (∃(x:Eng),(((L4 e x)/\True)/\M2 x)/\∃(i:(Eng×Int×Int×Int)),let y:=(V0 i.1 i.2.1 i.2.2.1 i.2.2.2);((LeG x)/\((qD x i.1)/\tx=i.2.1/\ta=i.2.2.1/\id=i.2.2.2/\True)/\gT i.1/\M2 i.1)/\∃(x:Eng),(((L4 e x)/\True)/\M2 x)/\∃(X:a8W.ι),let p:=(V0 X.1 X.2.1 X.2.2.1 X.2.2.2);let qg:=p.1.X.length;let pu:=p.1.lk;let a:=p.1.s;let qf:=a.d.C.length;let qe:=a.d.E.length;let px:=a.d.keep.length;((LeG x)/\((qD x X.1)/\tx=X.2.1/\ta=X.2.2.1/\id=X.2.2.2/\True)/\gT X.1/\M2 X.1)/\∃(z:Eng),((LeG p.1)/\((qD p.1 z)/\(L4 y.1 z)/\True)/\M2 z)/\br (false||p.2 !=y.2) pe (∃(u:Eng),(((L4 e u)/\True)/\M2 u)/\∃(v:Eng),(((LeG x)/\LeG u)/\((qD x v)/\(qD u v)/\True)/\M2 v)/\br false pe (∃(l:(Eng×Nat×Nat)),let pw:=((↑(oR l.1 l.2.1):Int)<0);(((c0h x l.1)/\1=(l.2.1:Int)/\True)/\(uL (x.s.fr.length) (l.2.2) x l.1)/\KBg l.1 l.2.1)/\∃(x:Eng),(decide pw=false->(LeG p.1)/\((qD p.1 x)/\(L4 y.1 x)/\True)/\M2 x)/\br (decide pw||false||p.2 !=y.2) pe (∃(x:(Eng×Nat×Nat)),let pz:=x.2.1;let py:=x.1.s;let pk:=(yT py.d.E.length pz);let pg:=(I8 x.1.X.length (K9 x.1.s pz));let pa:=(i4 py.L.length (O5 py.d pz));let b:=(vI py.d.C.length (pz+py.d.E.length));let n:=(M6 x.1.lk.H.length (K9 x.1.s pz+2*x.1.X.length));let m:=(vG py.d.keep.length (pz+py.d.E.length+2*py.d.C.length));let k:=(B3 x.1.lk.W.length (K9 x.1.s pz+2*x.1.X.length+4*x.1.lk.H.length));let w:=(vP py.fr.length (N6 py.fr) (O5 py.d pz+10*py.L.length));let r:=(Le (0+qe) pk.length/\Le (0+qf) b.length/\Le (0+px) m.length/\Le (0+a.L.length) pa.length/\Le (0+a.fr.length) w.length/\Le (0+qg) pg.length/\Le (0+pu.H.length) n.length/\Le (0+pu.W.length) k.length);(((c0h p.1 x.1)/\1=(pz:Int)/\True)/\(uL (0) (x.2.2) p.1 x.1)/\KBg x.1 pz)/\∃(g:(Eng×Nat)),let qc:=(↑(oR g.1 g.2):Int);let pr:=(I8 g.1.X.length (K9 g.1.s g.2));let pm:=(M6 g.1.lk.H.length (K9 g.1.s g.2+2*g.1.X.length));let pc:=(B3 g.1.lk.W.length (K9 g.1.s g.2+2*g.1.X.length+4*g.1.lk.H.length));let c:=g.1.s;let qb:=(yT c.d.E.length g.2);let pv:=(i4 c.L.length (O5 c.d g.2));let pq:=(vI c.d.C.length (g.2+c.d.E.length));let pj:=(vP c.fr.length (N6 c.fr) (O5 c.d g.2+10*c.L.length));let pi:=(vG c.d.keep.length (g.2+c.d.E.length+2*c.d.C.length));(r/\(((qe=qb.length/\Z7 a.d.E.length (Z5 pk) (Z5 qb))/\(qf=pq.length/\Z7 a.d.C.length (Z1 b) (Z1 pq))/\a.d.A=c.d.A/\(px=pi.length/\Z7 a.d.keep.length (Y9 m) (Y9 pi))/\a.ep=c.ep/\(a.L.length=pv.length/\Z7 a.L.length (Y1 pa) (Y1 pv))/\a.S=c.S/\(a.fr.length=pj.length/\Z7 a.fr.length (a1y (Y5 w)) (W2 pj))/\a.J=c.J/\p.1.up=g.1.up/\(qg=pr.length/\Z7 p.1.X.length (X2 pg) (X2 pr))/\(pu.H.length=pm.length/\Z7 pu.H.length (Z2 n) (Z2 pm))/\(pu.W.length=pc.length/\Z7 pu.W.length (Y7 k) (Y7 pc))/\p.1.N=g.1.N/\True)/\1=(g.2:Int)/\True)/\KBg g.1 g.2)/\bd (qc<0) pe (br (qc !=(↑(oR x.1 pz):Int)) pe (∃(t:Eng),(((L4 e t)/\True)/\M2 t)/\∃(j:a8W.ι),let ph:=(V0 j.1 j.2.1 j.2.2.1 j.2.2.2);((LeG t)/\((qD t j.1)/\tx=j.2.1/\ta=j.2.2.1/\id=j.2.2.2/\True)/\gT j.1/\M2 j.1)/\∃(q:Eng),((LeG ph.1)/\((qD ph.1 q)/\(L4 y.1 q)/\True)/\M2 q)/\br (false||ph.2 !=y.2) pe (∃(f:(Eng×Nat)),let qd:=(↑(oR f.1 f.2):Int);let ps:=(I8 f.1.X.length (K9 f.1.s f.2));let pp:=f.1.s;let qa:=(yT pp.d.E.length f.2);let pt:=(i4 pp.L.length (O5 pp.d f.2));let po:=(vI pp.d.C.length (f.2+pp.d.E.length));let pn:=(M6 f.1.lk.H.length (K9 f.1.s f.2+2*f.1.X.length));let pf:=(vG pp.d.keep.length (f.2+pp.d.E.length+2*pp.d.C.length));let pd:=(B3 f.1.lk.W.length (K9 f.1.s f.2+2*f.1.X.length+4*f.1.lk.H.length));let pb:=(vP pp.fr.length (N6 pp.fr) (O5 pp.d f.2+10*pp.L.length));(r/\(((qe=qa.length/\Z7 a.d.E.length (Z5 pk) (Z5 qa))/\(qf=po.length/\Z7 a.d.C.length (Z1 b) (Z1 po))/\a.d.A=pp.d.A/\(px=pf.length/\Z7 a.d.keep.length (Y9 m) (Y9 pf))/\a.ep=pp.ep/\(a.L.length=pt.length/\Z7 a.L.length (Y1 pa) (Y1 pt))/\a.S=pp.S/\(a.fr.length=pb.length/\Z7 a.fr.length (a1y (Y5 w)) (W2 pb))/\a.J=pp.J/\p.1.up=f.1.up/\(qg=ps.length/\Z7 p.1.X.length (X2 pg) (X2 ps))/\(pu.H.length=pn.length/\Z7 pu.H.length (Z2 n) (Z2 pn))/\(pu.W.length=pd.length/\Z7 pu.W.length (Y7 k) (Y7 pd))/\p.1.N=f.1.N/\True)/\1=(f.2:Int)/\True)/\KBg f.1 f.2)/\bd (qd<0) pe (br (qd !=(↑(oR x.1 pz):Int)) pe (true=true)))))))))) ⟨(e,1048576),⟨Z8,L,h⟩,λ_=>rfl,λQ=>?_⟩
 have C:=c24 (m9 Q);dsimp only at C;obtain⟨r,B⟩:=b1X (e:=e) Z9
 have A:M2 (V0 e tx ta id).1:=c2r r;have F:KBg e 1:=⟨r,U9 _,Z9⟩
 have O:KBg (V0 e tx ta id).1 1:=⟨A,U9 _,Z9⟩
 have N:∀n:Nat,decide ((n:Int)<0)=false:=λn=>tQ Z9
 exact⟨e,⟨Z8,r⟩,(e,tx,ta,id),⟨Z8,Z8,B,r⟩,e,⟨Z8,r⟩,(e,tx,ta,id),⟨Z8,Z8,B,r⟩,
  (V0 e tx ta id).1,⟨⟨uA _,uA _,uA _,uA _,uA _,uA _,uA _,uA _⟩,⟨⟨⟨rfl,X6 _ _⟩,⟨rfl,X6 _ _⟩,rfl,⟨rfl,X6 _ _⟩,rfl,⟨rfl,X6 _ _⟩,rfl,⟨rfl,λ_ _=>rfl⟩,rfl,rfl,Z8,Z8,Z8,rfl,Z6⟩,Z8⟩,A⟩,λo=>by simp at o,λ_=>⟨e,⟨Z8,r⟩,e,⟨Z8,Z8,r⟩,λo=>o,λ_=>
  ⟨(e,1,e.s.fr.length),⟨⟨⟨⟨rfl,rfl⟩,⟨rfl,rfl⟩,rfl,⟨rfl,rfl⟩,rfl,⟨rfl,rfl⟩,rfl,⟨rfl,rfl⟩,rfl,rfl,⟨rfl,rfl⟩,⟨rfl,rfl⟩,⟨rfl,rfl⟩,rfl,Z6⟩,rfl,Z6⟩,⟨⟨rfl,X6 _ _⟩,⟨rfl,X6 _ _⟩,⟨rfl,X6 _ _⟩,⟨rfl,X6 _ _⟩,⟨rfl,rfl,mW _⟩,⟨rfl,X6 _ _⟩,⟨rfl,X6 _ _⟩,⟨rfl,X6 _ _⟩,Z6⟩,F⟩,(V0 e tx ta id).1,λ_=>⟨Z8,Z8,A⟩,λo=>by rw[N] at o;simp at o,λ_=>
  ⟨((V0 e tx ta id).1,1,0),⟨⟨⟨⟨rfl,rfl⟩,⟨rfl,rfl⟩,rfl,⟨rfl,rfl⟩,rfl,⟨rfl,rfl⟩,rfl,⟨rfl,rfl⟩,rfl,rfl,⟨rfl,rfl⟩,⟨rfl,rfl⟩,⟨rfl,rfl⟩,rfl,Z6⟩,rfl,Z6⟩,⟨⟨rfl,X6 _ _⟩,⟨rfl,X6 _ _⟩,⟨rfl,X6 _ _⟩,⟨rfl,X6 _ _⟩,⟨rfl,rfl,mW _⟩,⟨rfl,X6 _ _⟩,⟨rfl,X6 _ _⟩,⟨rfl,X6 _ _⟩,Z6⟩,O⟩,((V0 e tx ta id).1,1),⟨⟨leM _ _,leM _ _,leM _ _,leM _ _,leM _ _,leM _ _,leM _ _,leM _ _⟩,⟨⟨⟨(O4 _ _).symm,X6 _ _⟩,⟨(O4 _ _).symm,X6 _ _⟩,rfl,⟨(O4 _ _).symm,X6 _ _⟩,rfl,⟨(O4 _ _).symm,X6 _ _⟩,rfl,⟨(O4 _ _).symm,λ_ _=>rfl⟩,rfl,rfl,⟨(O4 _ _).symm,X6 _ _⟩,⟨(O4 _ _).symm,X6 _ _⟩,⟨(O4 _ _).symm,X6 _ _⟩,Z8⟩,Z8⟩,O⟩,λo=>by rw[N] at o;simp at o,λ_=>⟨λo=>by simp at o,λ_=>
  ⟨e,⟨⟨vS _,Z6⟩,r⟩,(e,tx,ta,id),⟨⟨uA _,uA _,uA _,uA _,uA _,uA _,uA _,uA _⟩,⟨⟨⟨rfl,X6 _ _⟩,⟨rfl,X6 _ _⟩,rfl,⟨rfl,X6 _ _⟩,rfl,⟨rfl,X6 _ _⟩,rfl,⟨rfl,λ_ _=>rfl⟩,rfl,rfl,Z8,Z8,Z8,rfl,Z6⟩,Z8⟩,B,r⟩,(V0 e tx ta id).1,⟨Z8,Z8,A⟩,λo=>by simp at o,λ_=>⟨((V0 e tx ta id).1,1),⟨⟨leM _ _,leM _ _,leM _ _,leM _ _,leM _ _,leM _ _,leM _ _,leM _ _⟩,⟨⟨⟨(O4 _ _).symm,X6 _ _⟩,⟨(O4 _ _).symm,X6 _ _⟩,rfl,⟨(O4 _ _).symm,X6 _ _⟩,rfl,⟨(O4 _ _).symm,X6 _ _⟩,rfl,⟨(O4 _ _).symm,λ_ _=>rfl⟩,rfl,rfl,⟨(O4 _ _).symm,X6 _ _⟩,⟨(O4 _ _).symm,X6 _ _⟩,⟨(O4 _ _).symm,X6 _ _⟩,Z8⟩,Z8⟩,O⟩,λo=>by rw[N] at o;simp at o,λ_=>⟨λo=>by simp at o,λ_=>rfl⟩⟩⟩⟩⟩⟩⟩⟩
end
end Go.Proofs.YtpdnnhnfongoeaaGreat
