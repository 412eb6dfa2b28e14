/- A part of the proof. -/
import Derived.Test.YtpdnnhnfongoeaaGreatN8
import Derived.Test.YtpdnnhnfongoeaaGreatU1
namespace Go.Proofs.YtpdnnhnfongoeaaGreat
set_option maxRecDepth 100000
open Go.SS Go.Proofs.Tryz
noncomputable section
def j7(e:Eng)(k:Nat)(g s:Int)(b a:Bz)(v:Nat):(Eng×Nat)×Int:=if(e.s.L.length:Int)+1+nK e+1>60 then((e,v),7) else
 if(k8 e k (J2 g s b a)).2=true then(((k8 e k (J2 g s b a)).1,P8 (E9 e k (J2 g s b a)).s g.toNat v),0) else((j8 (k8 e k (J2 g s b a)).1,0),15)
def fS(e:Eng)(k:Nat)(ta:Int)(r:Rw)(gone:Bool)(f:Sto×Plc×Bool)(v:Nat):(Eng×Nat)×Int:=
 if f.2.2=true then
  (if f.2.1.a<0 then(if gone=true then((R7 e f.1,v),5) else if f.2.1.c<0 then((R7 e f.1,v),12) else j7 (R7 e f.1) k f.2.1.c f.2.1.d [] (sW ta r) v)
  else if(Y3 f.1 f.2.1.a.toNat).2.2=true then j7 (R7 e (v7 e f.2.1 f.1).1) k f.2.1.a f.2.1.b (v7 e f.2.1 f.1).2 (if gone=true then[] else sW ta r) (P8 f.1 f.2.1.a.toNat v)
  else((j8 (R7 e (v7 e f.2.1 f.1).1),0),15))
 else((j8 (R7 e f.1),0),15)
def oN(e:Eng)(k:Nat)(tx ta:Int)(r:Rw)(gone:Bool):(Eng×Nat)×Int:=
 if(zC e k ta 2 r.id 4).2=0 then fS (zC e k ta 2 r.id 4).1.1 k ta r gone (T2 (zC e k ta 2 r.id 4).1.1 tx ta r.id 8) (sP (zC e k ta 2 r.id 4).1.1 tx ta r.id 8) else zC e k ta 2 r.id 4
def nQ(e:Eng)(tx ta:Int)(r:Rw)(gone:Bool):(Eng×Nat)×Int:=if(G5 e tx).2=0 then oN e (G5 e tx).1.toNat tx ta r gone else((e,0),(G5 e tx).2)
def a2Y(e:Eng)(ta:Int)(r:Rw):Prop:=R3 e=true/\M7 e/\RwK r/\(1<=ta/\ta<=3)/\(sW ta r).length<=30
def b56:Con:=.reff ⟨Eng×Int×Int×Rw×Bool,λx=>[.ref 0 0 0,Ji x.2.1,Ji x.2.2.1,.agg x.2.2.2.1.ts,.bool x.2.2.2.2],λx=>x.1.bx 0,λx=>Ji (nQ x.1 x.2.1 x.2.2.1 x.2.2.2.1 x.2.2.2.2).2,λx=>(nQ x.1 x.2.1 x.2.2.1 x.2.2.2.1 x.2.2.2.2).1.1.nx (nQ x.1 x.2.1 x.2.2.1 x.2.2.2.1 x.2.2.2.2).1.2,λx=>a2Y x.1 x.2.2.1 x.2.2.2.1⟩
def yN{a:Bool}(h:(!a)=false):a=true:=by cases a with|false=>cases h|true=>rfl
def a1N{e:Eng}{k:Nat}{g s:Int}{b a:Bz}{v:Nat}(h:(e.s.L.length:Int)+1+nK e+1>60):j7 e k g s b a v=((e,v),7):=if_pos h
def dL{e:Eng}{k:Nat}{g s:Int}{b a:Bz}{v:Nat}(h:¬ (e.s.L.length:Int)+1+nK e+1>60)(u:(k8 e k (J2 g s b a)).2=true):j7 e k g s b a v=(((k8 e k (J2 g s b a)).1,P8 (E9 e k (J2 g s b a)).s g.toNat v),0):=by
 unfold j7;rw[if_neg h,if_pos u]
def eO{e:Eng}{k:Nat}{g s:Int}{b a:Bz}{v:Nat}(h:¬ (e.s.L.length:Int)+1+nK e+1>60)(u:(k8 e k (J2 g s b a)).2=false):j7 e k g s b a v=((j8 (k8 e k (J2 g s b a)).1,0),15):=by
 unfold j7;rw[if_neg h,if_neg (by rw[u];simp)]
def a3z{e:Eng}{k:Nat}{tx g s:Int}{b a:Bz}(h:XI e k tx)(i:0<=g/\g<=7)(f:0<=s/\s<=3)(B:b.length<=30)(A:a.length<=30):
  AddB e tx k (J2 g s b a)/\mC (E9 e k (J2 g s b a)).s (P9 e.s (B9 e k (J2 g s b a)))/\((k8 e k (J2 g s b a)).2=false->G0 (k8 e k (J2 g s b a)).1.s.d/\(k8 e k (J2 g s b a)).1.s.d.E.length=69)/\((k8 e k (J2 g s b a)).2=true->SI (k8 e k (J2 g s b a)).1.s):=by
 have R:a3E e k (J2 g s b a):=by
  unfold a3E J2;dsimp only;exact⟨Z9,Z9,Z9,Z9,λ_=>rfl,λh=>absurd rfl h,Z9,Z9,i.1,i.2,f.1,f.2,B,A,λh=>Z9,h.u.u.lt⟩
 obtain⟨n,O⟩:=a4p h.u.u R;have j:SI (E9 e k (J2 g s b a)).s:=a8z h.u.u.si O h.u.u.rm;have l:mC (E9 e k (J2 g s b a)).s (P9 e.s (B9 e k (J2 g s b a))):=⟨j.iv,i.1,by show g<8;omega,f.1,by show s<4;omega⟩
 have L:=sG e k (J2 g s b a);exact⟨n,l,λU=>b7U j U,λU=>(b6l j l ⟨by show 0<=((e.s.L.length:Int)+1);omega,by show((e.s.L.length:Int)+1)<=_;omega⟩ A U).1⟩
def c9v{e:Eng}{tx ta:Int}{r:Rw}{gone:Bool}(h:¬ (zS e tx ta 2 r.id 4).2=0):nQ e tx ta r gone=zS e tx ta 2 r.id 4:=by
 unfold nQ;by_cases d:(G5 e tx).2=0
 ·have f:zS e tx ta 2 r.id 4=zC e (G5 e tx).1.toNat ta 2 r.id 4:=if_pos d;rw[f] at h;rw[if_pos d,f];exact if_neg h
 ·rw[if_neg d,a7t d]
def c9k{e:Eng}{tx ta:Int}{r:Rw}{gone:Bool}{k:Nat}(f:(G5 e tx).2=0)(d:(G5 e tx).1=k)(h:(zC e k ta 2 r.id 4).2=0):nQ e tx ta r gone=fS (zC e k ta 2 r.id 4).1.1 k ta r gone (T2 (zC e k ta 2 r.id 4).1.1 tx ta r.id 8) (sP (zC e k ta 2 r.id 4).1.1 tx ta r.id 8):=by
 unfold nQ oN;rw[if_pos f,d,E3,if_pos h]
set_option maxHeartbeats 4000000 in
def b3u:GK 55 b56:=gk func55<|by
 rintro⟨e,tx,ta,r,gone⟩ ⟨O,M,hr,C,hb⟩;dsimp only at O M hr C hb ⊢;generalize hZ:nQ e tx ta r gone=Z;refine C6 (gC b2r (gC c3B (gC a97 (gC b8u (gC lG (gC lH (gC gT (gC a5Y (gC a5f gN))))))))) func55 Z3 aW (α:=let pv:=(0=Z.2/\True);let pj:=(15=Z.2/\True);let m:=(0=0/\0=0);let pu:=(m/\True);∃(x:(Eng×Int×Int×Int×Int×Int)),let qe:=x.2.2.2;let v:=(zS x.1 x.2.1 x.2.2.1 qe.1 qe.2.1 qe.2.2);((m/\tx=x.2.1/\ta=x.2.2.1/\2=qe.1/\r.id=qe.2.1/\4=qe.2.2/\True)/\(iM (0) (0) e x.1)/\R3 x.1=true/\M7 x.1)/\br (v.2 !=0) ((v.2=Z.2/\True)/\lO (v.1.2) (Z.1.2) v.1.1 Z.1.1) (∃(X:(Eng×Int×Int×Int)),let z:=(q9 X.1 X.2.1 X.2.2.1 X.2.2.2);let w:=z.1.snd.fst;let y:=z.1.fst;((m/\tx=X.2.1/\ta=X.2.2.1/\r.id=X.2.2.2/\True)/\(iM (v.1.2) (0) v.1.1 X.1)/\SI X.1.s/\wR X.1)/\br (! z.1.snd.snd) (∃(x:(Eng×Nat)),(pu/\(iM (y.snd) (x.2) y.fst x.1)/\G0 x.1.s.d)/\pj/\lO (0) (Z.1.2) (j8 x.1) Z.1.1) (∃(x:(Int×Rw)),((ta=x.1/\(r.id=x.2.id/\r.n.k=x.2.n.k/\r.n.n=x.2.n.n/\r.n.t=x.2.n.t/\r.name.k=x.2.name.k/\r.name.n=x.2.name.n/\r.name.t=x.2.name.t/\True)/\True)/\RwK x.2/\1<=x.1/\x.1<=3)/\bd (w.a≥(0:Int)) ((∃(o:(Sto×Nat×Nat)),let f:=(P8 o.1 o.2.1 o.2.2);let u:=(Y3 o.1 o.2.1);let qf:=u.1.fr.length;let pk:=(u.1.fr.getD u.2.1 dz);((m/\w.a=(o.2.1:Int)/\True)/\(LnS (y.snd) (o.2.2) y.fst.s o.1)/\iS o.1 o.2.1/\u.2.2=true)/\br false (∃(x:(Eng×Nat)),(pu/\(iM f (x.2) {y.fst with s:=u.1} x.1)/\G0 x.1.s.d)/\pj/\lO (0) (Z.1.2) (j8 x.1) Z.1.1) (Lt u.2.1 qf/\W9 w.b pk.pg.sl.length/\PfB f f u.2.1 u.1.fr.length w.b.toNat pk.pg.sl.length/\∃(j:(Eng×Int)),((Le (0+u.1.d.E.length) u.1.d.E.length/\Le (0+u.1.d.C.length) u.1.d.C.length/\Le (0+u.1.d.keep.length) u.1.d.keep.length/\Le (0+u.1.L.length) u.1.L.length/\Le (0+qf) qf/\Le (0+y.fst.X.length) y.fst.X.length/\Le (0+y.fst.lk.H.length) y.fst.lk.H.length/\Le (0+y.fst.lk.W.length) y.fst.lk.W.length)/\((oM {y.fst with s:=u.1} j.1)/\2=j.2/\True)/\wR j.1/\m5 j.2)/\br (!decide ((j.1.s.L.length:Int)+(↑(nK j.1):Int)+j.2<=60)) ((7=Z.2/\True)/\lO f (Z.1.2) {y.fst with s:=u.1} Z.1.1) (br gone (∃(x:(Eng×Int×Rec×Nat×Nat)),let qk:=x.1.s;let qg:=x.2.2.2;let pm:=(x.1.X.getD qg.1 dz);let pe:=x.2.2.1;let pq:=(qk.L++[P9 x.1.s (B9 x.1 qg.1 pe)]);let pa:=(x.1.X.set qg.1 (Txn.mk pm.id ((qk.L.length:Int)+1)));((m/\tx=x.2.1/\(0=pe.e/\0=pe.l/\0=pe.t/\2=pe.k/\0=pe.p/\0=pe.n/\w.a=pe.g/\w.b=pe.s/\pk.pg.sl.getD w.b.toNat []=pe.b/\[]=pe.a/\True)/\True)/\(iM f (qg.2) {y.fst with s:=u.1} x.1)/\AddB x.1 x.2.1 qg.1 pe)/\∃(i:(Sto×Rec×Nat)),let pw:=i.2.1;let qa:=(P8 i.1 pw.g.toNat i.2.2);((m/\(qk.ep=pw.e/\(qk.L.length:Int)+1=pw.l/\pm.id=pw.t/\pe.k=pw.k/\pm.Z=pw.p/\pe.n=pw.n/\pe.g=pw.g/\pe.s=pw.s/\pe.b=pw.b/\pe.a=pw.a/\True)/\True)/\(nO {x.1.s with L:=pq} i.1/\(Z0 Z5 qk.d.E i.1.d.E)/\(Z0 Z1 qk.d.C i.1.d.C)/\(Z0 Y9 qk.d.keep i.1.d.keep)/\(Z0 Y1 pq i.1.L)/\(qg.2=i.2.2/\qk.fr.length=i.1.fr.length/\V2 qk.fr.length (Y5 qk.fr) (Y5 i.1.fr))/\True)/\mC i.1 pw)/\br (!(T9 i.1 pw).2) (∃(q:(Eng×Nat)),(pu/\(iM qa (q.2) {x.1 with s:=(T9 i.1 pw).1,X:=pa} q.1)/\G0 q.1.s.d)/\pj/\lO (0) (Z.1.2) (j8 q.1) Z.1.1) (pv/\lO qa (Z.1.2) {x.1 with s:=(T9 i.1 pw).1,X:=pa} Z.1.1)) (∃(i:(Eng×Int×Rec×Nat×Nat)),let qm:=i.1.s;let qh:=i.2.2.2;let pn:=(i.1.X.getD qh.1 dz);let pf:=i.2.2.1;let pr:=(qm.L++[P9 i.1.s (B9 i.1 qh.1 pf)]);let pb:=(i.1.X.set qh.1 (Txn.mk pn.id ((qm.L.length:Int)+1)));((m/\tx=i.2.1/\(0=pf.e/\0=pf.l/\0=pf.t/\2=pf.k/\0=pf.p/\0=pf.n/\w.a=pf.g/\w.b=pf.s/\pk.pg.sl.getD w.b.toNat []=pf.b/\sW x.1 x.2=pf.a/\True)/\True)/\(iM f (qh.2) {y.fst with s:=u.1} i.1)/\AddB i.1 i.2.1 qh.1 pf)/\∃(x:(Sto×Rec×Nat)),let px:=x.2.1;let qb:=(P8 x.1 px.g.toNat x.2.2);((m/\(qm.ep=px.e/\(qm.L.length:Int)+1=px.l/\pn.id=px.t/\pf.k=px.k/\pn.Z=px.p/\pf.n=px.n/\pf.g=px.g/\pf.s=px.s/\pf.b=px.b/\pf.a=px.a/\True)/\True)/\(nO {i.1.s with L:=pr} x.1/\(Z0 Z5 qm.d.E x.1.d.E)/\(Z0 Z1 qm.d.C x.1.d.C)/\(Z0 Y9 qm.d.keep x.1.d.keep)/\(Z0 Y1 pr x.1.L)/\(qh.2=x.2.2/\qm.fr.length=x.1.fr.length/\V2 qm.fr.length (Y5 qm.fr) (Y5 x.1.fr))/\True)/\mC x.1 px)/\br (!(T9 x.1 px).2) (∃(q:(Eng×Nat)),(pu/\(iM qb (q.2) {i.1 with s:=(T9 x.1 px).1,X:=pb} q.1)/\G0 q.1.s.d)/\pj/\lO (0) (Z.1.2) (j8 q.1) Z.1.1) (pv/\lO qb (Z.1.2) {i.1 with s:=(T9 x.1 px).1,X:=pb} Z.1.1)))))∨∃(x:(Sto×Nat×Nat)),((m/\w.a=(x.2.1:Int)/\True)/\(LnS (y.snd) (x.2.2) y.fst.s x.1)/\iS x.1 x.2.1/\(Y3 x.1 x.2.1).2.2=false)/\br true (∃(o:(Eng×Nat)),(pu/\(iM (P8 x.1 x.2.1 x.2.2) (o.2) {y.fst with s:=(Y3 x.1 x.2.1).1} o.1)/\G0 o.1.s.d)/\pj/\lO (0) (Z.1.2) (j8 o.1) Z.1.1) False) (br gone ((5=Z.2/\True)/\lO (y.snd) (Z.1.2) y.fst Z.1.1) (bd (w.c<0) ((12=Z.2/\True)/\lO (y.snd) (Z.1.2) y.fst Z.1.1) (∃(o:(Eng×Int)),((LeG y.fst)/\((oM y.fst o.1)/\2=o.2/\True)/\wR o.1/\m5 o.2)/\br (!decide ((o.1.s.L.length:Int)+(↑(nK o.1):Int)+o.2<=60)) ((7=Z.2/\True)/\lO (y.snd) (Z.1.2) y.fst Z.1.1) (br gone (∃(x:(Eng×Int×Rec×Nat×Nat)),let qn:=x.1.s;let qi:=x.2.2.2;let po:=(x.1.X.getD qi.1 dz);let ph:=x.2.2.1;let ps:=(qn.L++[P9 x.1.s (B9 x.1 qi.1 ph)]);let pc:=(x.1.X.set qi.1 (Txn.mk po.id ((qn.L.length:Int)+1)));((m/\tx=x.2.1/\(0=ph.e/\0=ph.l/\0=ph.t/\2=ph.k/\0=ph.p/\0=ph.n/\w.c=ph.g/\w.d=ph.s/\[]=ph.b/\[]=ph.a/\True)/\True)/\(iM (y.snd) (qi.2) y.fst x.1)/\AddB x.1 x.2.1 qi.1 ph)/\∃(j:(Sto×Rec×Nat)),let py:=j.2.1;let qc:=(P8 j.1 py.g.toNat j.2.2);((m/\(qn.ep=py.e/\(qn.L.length:Int)+1=py.l/\po.id=py.t/\ph.k=py.k/\po.Z=py.p/\ph.n=py.n/\ph.g=py.g/\ph.s=py.s/\ph.b=py.b/\ph.a=py.a/\True)/\True)/\(nO {x.1.s with L:=ps} j.1/\(Z0 Z5 qn.d.E j.1.d.E)/\(Z0 Z1 qn.d.C j.1.d.C)/\(Z0 Y9 qn.d.keep j.1.d.keep)/\(Z0 Y1 ps j.1.L)/\(qi.2=j.2.2/\qn.fr.length=j.1.fr.length/\V2 qn.fr.length (Y5 qn.fr) (Y5 j.1.fr))/\True)/\mC j.1 py)/\br (!(T9 j.1 py).2) (∃(i:(Eng×Nat)),(pu/\(iM qc (i.2) {x.1 with s:=(T9 j.1 py).1,X:=pc} i.1)/\G0 i.1.s.d)/\pj/\lO (0) (Z.1.2) (j8 i.1) Z.1.1) (pv/\lO qc (Z.1.2) {x.1 with s:=(T9 j.1 py).1,X:=pc} Z.1.1)) (∃(j:(Eng×Int×Rec×Nat×Nat)),let qo:=j.1.s;let qj:=j.2.2.2;let pp:=(j.1.X.getD qj.1 dz);let pi:=j.2.2.1;let pt:=(qo.L++[P9 j.1.s (B9 j.1 qj.1 pi)]);let pd:=(j.1.X.set qj.1 (Txn.mk pp.id ((qo.L.length:Int)+1)));((m/\tx=j.2.1/\(0=pi.e/\0=pi.l/\0=pi.t/\2=pi.k/\0=pi.p/\0=pi.n/\w.c=pi.g/\w.d=pi.s/\[]=pi.b/\sW x.1 x.2=pi.a/\True)/\True)/\(iM (y.snd) (qj.2) y.fst j.1)/\AddB j.1 j.2.1 qj.1 pi)/\∃(x:(Sto×Rec×Nat)),let pz:=x.2.1;let qd:=(P8 x.1 pz.g.toNat x.2.2);((m/\(qo.ep=pz.e/\(qo.L.length:Int)+1=pz.l/\pp.id=pz.t/\pi.k=pz.k/\pp.Z=pz.p/\pi.n=pz.n/\pi.g=pz.g/\pi.s=pz.s/\pi.b=pz.b/\pi.a=pz.a/\True)/\True)/\(nO {j.1.s with L:=pt} x.1/\(Z0 Z5 qo.d.E x.1.d.E)/\(Z0 Z1 qo.d.C x.1.d.C)/\(Z0 Y9 qo.d.keep x.1.d.keep)/\(Z0 Y1 pt x.1.L)/\(qj.2=x.2.2/\qo.fr.length=x.1.fr.length/\V2 qo.fr.length (Y5 qo.fr) (Y5 x.1.fr))/\True)/\mC x.1 pz)/\br (!(T9 x.1 pz).2) (∃(i:(Eng×Nat)),(pu/\(iM qd (i.2) {j.1 with s:=(T9 x.1 pz).1,X:=pd} i.1)/\G0 i.1.s.d)/\pj/\lO (0) (Z.1.2) (j8 i.1) Z.1.1) (pv/\lO qd (Z.1.2) {j.1 with s:=(T9 x.1 pz).1,X:=pd} Z.1.1))))))))) ⟨(e,tx,ta,2,r.id,4),⟨Z8,Z8,O,M⟩,λQ=>?_,λQ=>?_⟩
 ·rw[←hZ,c9v (b1g Q)];exact Z8
 have Q:(zS e tx ta 2 r.id 4).2=0:=a3n Q;have A:(G5 e tx).2=0:=by
  by_cases h:(G5 e tx).2=0
  ·exact h
  ·rw[a7t h] at Q;exact absurd Q h
 obtain⟨U,k,J,hk,hi,ha⟩:=a1E A;have Y:=b0w O M U ha hk hi;have B:zS e tx ta 2 r.id 4=zC e k ta 2 r.id 4:=a2j A J;rw[B] at Q;have z:=sJ (sJ Y ta (-1) 2) ta r.id 4;rw[c9k A J Q] at hZ;dsimp only;rw[B];rw[c46 Q] at hZ ⊢;dsimp only at hZ ⊢;generalize pE (pE e k ta (-1) 2) k ta r.id 4=e2 at*;clear B Q O M Y U hk hi ha J A;have hF:=b4d z.u.u.si tx ta r.id 8 (U9 _);refine⟨(e2,tx,ta,r.id),⟨Z8,Z8,z.u.u.si,z.nd⟩,?_⟩
 dsimp only;rw[(q9 e2 tx ta r.id).2];dsimp only;generalize T2 e2 tx ta r.id 8=f at*;generalize sP e2 tx ta r.id 8=v at*;obtain⟨fs,fp,fl⟩:=f;obtain⟨hlv,N,hpl⟩:=hF;dsimp only at hlv N hpl hZ ⊢;refine⟨λhd=>?_,λhl=>⟨(ta,r),⟨Z8,hr,C.1,C.2⟩,λha=>?_,λha=>?_⟩⟩
 ·have hd:fl=false:=uR hd;have eZ:Z=((j8 (R7 e2 fs),0),15):=by rw[←hZ,hd];rfl
  rw[eZ];exact⟨(R7 e2 fs,v),⟨Z8,Z8,(N hd).1⟩,Z8⟩
 ·have hl:fl=true:=yN hl;subst hl;obtain⟨s1,s2,s3⟩:=hlv rfl;have ha:fp.a≥0:=G7 ha;have hna:¬fp.a<0:=by omega
  have aa:=hpl.1.resolve_left Z9
  have L:(nV fp).b=fp.b:=if_neg hna;have eW:Z=if(Y3 fs fp.a.toNat).2.2=true then j7 (R7 e2 (v7 e2 fp fs).1) k fp.a fp.b (v7 e2 fp fs).2 (if gone=true then[] else sW ta r) (P8 fs fp.a.toNat v) else((j8 (R7 e2 (v7 e2 fp fs).1),0),15):=by
   rw[←hZ];unfold fS;dsimp only;rw[if_pos rfl,if_neg hna]
  clear hZ;rw[L];have F:(nV fp).a=fp.a:=rfl;rw[F];cases U:(Y3 fs fp.a.toNat).2.2 with
  |false=>
   rw[if_neg (by rw[U];simp)] at eW
   refine .inr ⟨(fs,fp.a.toNat,v),⟨⟨Z8,X5,Z6⟩,Z8,⟨s1.iv,X5⟩,U⟩,λ_=>?_,λW=>(by cases W)⟩
   rw[eW];exact⟨(R7 e2 (v7 e2 fp fs).1,P8 fs fp.a.toNat v),⟨Z8,Z8,(rN s1 U).1⟩,Z8⟩
  |true=>
   rw[if_pos U] at eW;obtain⟨j1,j2⟩:=rR s1 (show fp.a.toNat<8 by omega) U
   obtain⟨f2,_,_,R,ps⟩:=xI s1.iv (show fp.a.toNat<8 by omega) U
   have hX3:XI (R7 e2 (v7 e2 fp fs).1) k tx:=a7p z j1 (j2.trans s2) (cK.trans s3);have hsl:(v7 e2 fp fs).2.length<=30:=ps fp.b.toNat (by rw[R];omega)
   refine .inl ⟨(fs,fp.a.toNat,v),⟨⟨Z8,X5,Z6⟩,Z8,⟨s1.iv,X5⟩,U⟩,λW=>(by cases W),λ_=>⟨f2,⟨Z9,by dsimp only;rw[R];omega⟩,⟨rfl,f2,by dsimp only;rw[R];omega⟩,(R7 e2 (v7 e2 fp fs).1,2),⟨⟨uA _,uA _,uA _,uA _,uA _,uA _,uA _,uA _⟩,⟨⟨⟨rfl,X6 _ _⟩,⟨rfl,X6 _ _⟩,rfl,⟨rfl,X6 _ _⟩,rfl,⟨rfl,X6 _ _⟩,rfl,⟨rfl,λ_ _=>rfl⟩,rfl,rfl,Z8,Z8,Z8,rfl,Z6⟩,Z8⟩,hX3.nd,b7f⟩,λhc=>?_,λhc=>⟨λhg=>?_,λhg=>?_⟩⟩⟩
   ·have hc:=r9 (uR hc);rw[eW,a1N (by dsimp only at hc;omega)]
    exact Z8
   ·have hc:=G7 (yN hc);dsimp only at hc;rw[if_pos hg] at eW;obtain⟨hA,hP,hD,_⟩:=a3z hX3 (g:=fp.a) (s:=fp.b) (b:=(v7 e2 fp fs).2) (a:=[]) Z9 Z9 hsl (N4 _)
    have hZ:=eW;exact⟨((R7 e2 (v7 e2 fp fs).1),tx,J2 fp.a fp.b (v7 e2 fp fs).2 [],k,(P8 fs fp.a.toNat v)),⟨Z8,Z8,hA⟩,((E9 (R7 e2 (v7 e2 fp fs).1) k (J2 fp.a fp.b (v7 e2 fp fs).2 [])).s,P9 (R7 e2 (v7 e2 fp fs).1).s (B9 (R7 e2 (v7 e2 fp fs).1) k (J2 fp.a fp.b (v7 e2 fp fs).2 [])),(P8 fs fp.a.toNat v)),⟨Z8,Z8,hP⟩,λU=>(by
      have U:(k8 (R7 e2 (v7 e2 fp fs).1) k (J2 fp.a fp.b (v7 e2 fp fs).2 [])).2=false:=uR U;rw[hZ,eO Z9 U]
      exact⟨((k8 (R7 e2 (v7 e2 fp fs).1) k (J2 fp.a fp.b (v7 e2 fp fs).2 [])).1,P8 (E9 (R7 e2 (v7 e2 fp fs).1) k (J2 fp.a fp.b (v7 e2 fp fs).2 [])).s fp.a.toNat (P8 fs fp.a.toNat v)),⟨Z8,Z8,(hD U).1⟩,Z8⟩),λU=>(by
      have U:(k8 (R7 e2 (v7 e2 fp fs).1) k (J2 fp.a fp.b (v7 e2 fp fs).2 [])).2=true:=yN U;rw[hZ,dL Z9 U]
      exact Z8)⟩
   ·have hc:=G7 (yN hc);dsimp only at hc;rw[if_neg (by rw[hg];simp)] at eW
    obtain⟨hA,hP,hD,_⟩:=a3z hX3 (g:=fp.a) (s:=fp.b) (b:=(v7 e2 fp fs).2) (a:=sW ta r) Z9 Z9 hsl hb
    have hZ:=eW;exact⟨((R7 e2 (v7 e2 fp fs).1),tx,J2 fp.a fp.b (v7 e2 fp fs).2 (sW ta r),k,(P8 fs fp.a.toNat v)),⟨Z8,Z8,hA⟩,((E9 (R7 e2 (v7 e2 fp fs).1) k (J2 fp.a fp.b (v7 e2 fp fs).2 (sW ta r))).s,P9 (R7 e2 (v7 e2 fp fs).1).s (B9 (R7 e2 (v7 e2 fp fs).1) k (J2 fp.a fp.b (v7 e2 fp fs).2 (sW ta r))),(P8 fs fp.a.toNat v)),⟨Z8,Z8,hP⟩,λU=>(by
      have U:(k8 (R7 e2 (v7 e2 fp fs).1) k (J2 fp.a fp.b (v7 e2 fp fs).2 (sW ta r))).2=false:=uR U;rw[hZ,eO Z9 U]
      exact⟨((k8 (R7 e2 (v7 e2 fp fs).1) k (J2 fp.a fp.b (v7 e2 fp fs).2 (sW ta r))).1,P8 (E9 (R7 e2 (v7 e2 fp fs).1) k (J2 fp.a fp.b (v7 e2 fp fs).2 (sW ta r))).s fp.a.toNat (P8 fs fp.a.toNat v)),⟨Z8,Z8,(hD U).1⟩,Z8⟩),λU=>(by
      have U:(k8 (R7 e2 (v7 e2 fp fs).1) k (J2 fp.a fp.b (v7 e2 fp fs).2 (sW ta r))).2=true:=yN U;rw[hZ,dL Z9 U]
      exact Z8)⟩
 ·have hl:fl=true:=yN hl;subst hl;obtain⟨s1,s2,s3⟩:=hlv rfl;have ha:fp.a<0:=by have:¬fp.a≥0:=r9 ha;omega
  have hX3:XI (R7 e2 fs) k tx:=a7p z s1 s2 s3;have eW:Z=if gone=true then((R7 e2 fs,v),5) else if fp.c<0 then((R7 e2 fs,v),12) else j7 (R7 e2 fs) k fp.c fp.d [] (sW ta r) v:=by
   rw[←hZ];unfold fS;dsimp only;rw[if_pos rfl,if_pos ha]
  clear hZ;refine⟨λhg=>?_,λhg=>⟨λhc=>?_,λhc=>?_⟩⟩
  ·rw[eW,if_pos hg];exact Z8
  ·have hc:fp.c<0:=G7 hc;rw[eW,if_neg (by rw[hg];simp),if_pos hc]
   exact Z8
  ·have hnc:¬fp.c<0:=r9 hc;have hpc:=hpl.2.resolve_left Z9
   have L:(nV fp).d=fp.d:=if_neg hnc;have I:(nV fp).c=fp.c:=rfl;rw[if_neg (by rw[hg];simp),if_neg hnc] at eW
   rw[L,I];refine⟨(R7 e2 fs,2),⟨Z8,Z8,hX3.nd,b7f⟩,λhc=>?_,λhc=>⟨λV=>?_,λ_=>?_⟩⟩
   ·have hc:=r9 (uR hc);rw[eW,a1N (by dsimp only at hc;omega)]
    exact Z8
   ·rw[V] at hg;cases hg
   ·have hc:=G7 (yN hc);dsimp only at hc;obtain⟨hA,hP,hD,_⟩:=a3z hX3 (g:=fp.c) (s:=fp.d) (b:=[]) (a:=sW ta r) Z9 Z9 (N4 _) hb
    have hZ:=eW;exact⟨((R7 e2 fs),tx,J2 fp.c fp.d [] (sW ta r),k,v),⟨Z8,Z8,hA⟩,((E9 (R7 e2 fs) k (J2 fp.c fp.d [] (sW ta r))).s,P9 (R7 e2 fs).s (B9 (R7 e2 fs) k (J2 fp.c fp.d [] (sW ta r))),v),⟨Z8,Z8,hP⟩,λU=>(by
      have U:(k8 (R7 e2 fs) k (J2 fp.c fp.d [] (sW ta r))).2=false:=uR U;rw[hZ,eO Z9 U]
      exact⟨((k8 (R7 e2 fs) k (J2 fp.c fp.d [] (sW ta r))).1,P8 (E9 (R7 e2 fs) k (J2 fp.c fp.d [] (sW ta r))).s fp.c.toNat v),⟨Z8,Z8,(hD U).1⟩,Z8⟩),λU=>(by
      have U:(k8 (R7 e2 fs) k (J2 fp.c fp.d [] (sW ta r))).2=true:=yN U;rw[hZ,dL Z9 U]
      exact Z8)⟩
def b07{e:Eng}{k:Nat}{tx:Int}(h:XI e k tx):M7 e:=c44 h.u.u
def b51{e:Eng}{k:Nat}{tx ta row mo:Int}(h:XI e k tx):M7 (R4 e k ta row mo).1:=by
 have t:=sJ h ta row mo;unfold R4;split
 ·exact c7u (b1c t.u (Int.le_refl 0))
 ·exact b07 t
def b8j{e:Eng}{k:Nat}{tx g s:Int}{b a:Bz}{v:Nat}(h:XI e k tx)(i:0<=g/\g<=7)(d:0<=s/\s<=3)(B:b.length<=30)(A:a.length<=30):M7 (j7 e k g s b a v).1.1:=by
 obtain⟨_,_,j,n⟩:=a3z h i d B A;by_cases C:(e.s.L.length:Int)+1+nK e+1>60
 ·rw[a1N C];exact b07 h
 ·cases hu:(k8 e k (J2 g s b a)).2 with
  |false=>
   rw[eO C hu];exact a1f (j hu).1
  |true=>
   rw[dL C hu];have l:=h.u.u.t10;have f:=h.u.u.lk;have L:(k8 e k (J2 g s b a)).1.X.length=e.X.length:=zW;exact⟨(n hu).iv.sm,X5,by show e.lk.H.length<=_;omega,by show e.lk.W.length<=_;omega⟩
def a8S{e:Eng}{tx ta:Int}{r:Rw}{gone:Bool}(h:a2Y e ta r):M7 (nQ e tx ta r gone).1.1:=by
 obtain⟨ho,hm,R,t,B⟩:=h;by_cases hk0:(G5 e tx).2=0
 ·obtain⟨hu,k,e1,hk,hi,ha⟩:=a1E hk0;have hX:=b0w ho hm hu ha hk hi;by_cases hq:(zC e k ta 2 r.id 4).2=0
  ·rw[c9k hk0 e1 hq,c46 hq];have hX2:=sJ (sJ hX ta (-1) 2) ta r.id 4;dsimp only;generalize pE (pE e k ta (-1) 2) k ta r.id 4=e2 at*;have hF:=b4d hX2.u.u.si tx ta r.id 8 (U9 _);generalize T2 e2 tx ta r.id 8=f at*;generalize sP e2 tx ta r.id 8=v at*;obtain⟨fs,fp,fl⟩:=f;obtain⟨hlv,hdn,hpl⟩:=hF;dsimp only at hlv hdn hpl;unfold fS;dsimp only;cases fl with
   |false=>
    rw[if_neg W7]
    exact a1f (hdn rfl).1
   |true=>
    obtain⟨s1,i,j⟩:=hlv rfl;have d:XI (R7 e2 fs) k tx:=a7p hX2 s1 i j;rw[if_pos rfl];split
    ·split
     ·exact b07 d
     ·split
      ·exact b07 d
      ·rename_i _ _ hnc;have hpc:=hpl.2.resolve_left Z9
       exact b8j d Z9 Z9 (N4 _) B
    ·rename_i hna;have hpa:=hpl.1.resolve_left Z9
     split
     ·rename_i hu;obtain⟨j1,j2⟩:=rR s1 (show fp.a.toNat<8 by omega) hu
      obtain⟨F,_,_,n,ps⟩:=xI s1.iv (show fp.a.toNat<8 by omega) hu
      have g:XI (R7 e2 (v7 e2 fp fs).1) k tx:=a7p hX2 j1 (j2.trans i) (cK.trans j);have l:(v7 e2 fp fs).2.length<=30:=ps fp.b.toNat (by rw[n];omega)
      refine b8j g Z9 Z9 l ?_
      split
      ·exact N4 _
      ·exact B
     ·rename_i hu;exact a1f (rN s1 a5S).1
  ·rw[c9v (by rw[a2j hk0 e1];exact hq),a2j hk0 e1]
   unfold zC;split
   ·rename_i o;rw[a0m o];exact b51 (sJ hX ta (-1) 2)
   ·exact b51 hX
 ·have e1:nQ e tx ta r gone=((e,0),(G5 e tx).2):=if_neg hk0;rw[e1];exact hm
def i6(o a b:Bool):Int:=if(o&&a)=true then(if b=true then 0 else 4) else 1
def c3k:Con:=.rel ⟨Eng×Bool×Bool,λx=>[.agg x.1.ts,.bool x.2.1,.bool x.2.2],λx=>Ji (i6 (R3 x.1) x.2.1 x.2.2),λx=>iZ x.1⟩
def b6H:GK 39 c3k:=gk func39<|by
 rintro⟨e,a,b⟩ h;refine U5 (gC a1Q gN) func39 Z3 (α:=∃(x:tT.ι),(((L0 e x)/\True)/\iZ x)/\br (!R3 x|| !a) (1=i6 (R3 e) a b) (br (!b) (4=i6 (R3 e) a b) (0=i6 (R3 e) a b))) ⟨e,⟨Z8,h⟩,λhq=>?_,λhq=>⟨λB=>?_,λB=>?_⟩⟩
 ·unfold i6;rw[if_neg (by intro h2;rw[J5] at h2;rw[h2.1,h2.2] at hq;cases hq)]
 ·have h2:(R3 e&&a)=true:=by cases ho:R3 e<;>cases a<;>rw[ho] at hq<;>first|rfl|cases hq
  unfold i6;rw[if_pos h2,if_neg (by cases b<;>simp at B ⊢)]
 ·have h2:(R3 e&&a)=true:=by cases ho:R3 e<;>cases a<;>rw[ho] at hq<;>first|rfl|cases hq
  unfold i6;rw[if_pos h2,if_pos (by cases b<;>simp at B ⊢)]
def c8u{o a b:Bool}(h:(i6 o a b !=0)=false):o=true/\a=true/\b=true:=by
 unfold i6 at h;cases o<;>cases a<;>cases b<;>first|exact⟨rfl,rfl,rfl⟩|cases h
def c8B{o a b:Bool}(h:(i6 o a b !=0)=true):¬i6 o a b=0:=x5
def c3b{t:Bz}(h:xM t=true):t.length<=10:=by
 unfold xM at h;rw[J5] at h;exact G7 h.2
def b9E{v:Val}(h:P0 v=true):jA v/\(m7 v).length<=12/\(v.k≠2->(m7 v).length<=5):=by
 unfold P0 at h;unfold jA m7;by_cases h0:v.k=0
 ·rw[if_pos h0,J5] at h;have ht:v.t=[]:=by simpa using h.2
  rw[if_pos h0,ht];exact⟨⟨N4 _,.inl h0⟩,M4,λ_=>M4⟩
 ·rw[if_neg h0] at h ⊢;by_cases h1:v.k=1
  ·rw[if_pos h1,J5] at h;have ht:v.t=[]:=by simpa using h.2
   have r:=pQ h.1;rw[if_pos h1,ht];have d:(2::z8 (v.n+1000000000).toNat).length=5:=rfl;rw[d];exact⟨⟨N4 _,.inr (.inl ⟨h1,r⟩)⟩,M4,λ_=>M4⟩
  ·rw[if_neg h1,J5,J5] at h;rw[if_neg h1];have h2:v.k=2:=by simpa using h.1.1
   have l:=c3b h.2;refine⟨⟨Z9,.inr (.inr h2)⟩,?_,λN=>absurd h2 N⟩
   simp only[List.length_cons,F9,List.length_nil];omega
def c8U{r:Rw}(h:O2 r=true):RwK r/\∀ta:Int,(sW ta r).length<=30:=by
 unfold O2 at h;rw[J5,J5,J5,J5] at h;obtain⟨⟨⟨⟨g,d⟩,i⟩,e⟩,j⟩:=h;obtain⟨A,_,f⟩:=b9E d;obtain⟨B,b2,_⟩:=b9E e;have hi:=pQ g;refine⟨⟨A,B,hi⟩,λta=>?_⟩
 have l:=f (by simpa using i)
 unfold sW;have C:(m7 ⟨1,ta,[]⟩).length=5:=rfl;have c2:(m7 ⟨1,r.id,[]⟩).length=5:=rfl;rw[F9,F9,F9];omega
def V0(e:Eng)(tx ta:Int)(r:Rw):Eng×Int:=if i6 (R3 e) (O2 r) (V6 ta 1 3)=0 then((nQ e tx ta r false).1.1,(nQ e tx ta r false).2) else(uU,i6 (R3 e) (O2 r) (V6 ta 1 3))
def b7F:Rle:=⟨Eng×Int×Int×Rw,λx=>[.agg x.1.ts,Ji x.2.1,Ji x.2.2.1,.agg x.2.2.2.ts],λ_=>[],λx=>.tup [.agg ((V0 x.1 x.2.1 x.2.2.1 x.2.2.2).1.tm 0),Ji (V0 x.1 x.2.1 x.2.2.1 x.2.2.2).2],λx=>(V0 x.1 x.2.1 x.2.2.1 x.2.2.2).1.hp 0,λx=>iZ x.1/\M7 x.1/\RwB x.2.2.2⟩
def c7V:Con:=.rmk b7F
def b6M{e:Eng}{tx ta:Int}{r:Rw}(h:¬i6 (R3 e) (O2 r) (V6 ta 1 3)=0):V0 e tx ta r=(uU,i6 (R3 e) (O2 r) (V6 ta 1 3)):=if_neg h
def c5d{e:Eng}{tx ta:Int}{r:Rw}(h:i6 (R3 e) (O2 r) (V6 ta 1 3)=0):V0 e tx ta r=((nQ e tx ta r false).1.1,(nQ e tx ta r false).2):=if_pos h
def c4K{e:Eng}{ta:Int}{r:Rw}(h:(i6 (R3 e) (O2 r) (V6 ta 1 3) !=0)=false)(g:M7 e):a2Y e ta r:=by
 obtain⟨o,R,t⟩:=c8u h;obtain⟨d,f⟩:=c8U R;exact⟨o,g,d,pQ t,f ta⟩
def c2Y:GK 21 c7V:=gk func21<|by
 rintro⟨e,tx,ta,r⟩ ⟨j,h2,h⟩;dsimp only at j h2 h;refine⟨C6 (gC a5J (gC fI (gC b6H (gC b8X (gC b3u gN))))) func21 Z3 [[.nilS 0 [0,0] 0 1,.nilS 0 [0,1] 0 2,.nilS 0 [0,3] 0 1,.nilS 0 [0,5] 0 10,.nilS 0 [0,7] 0 5,.nilS 0 [0,10] 0 2,.nilS 0 [0,11] 0 4,.nilS 0 [0,12] 0 2,.fav 0 [0,7],.vl 0 [0,0],.vl 0 [0,1],.vl 0 [0,3],.vl 0 [0,5],.vl 0 [0,7],.vl 0 [0,10],.vl 0 [0,11],.vl 0 [0,12]],[.vl 0 [0,0],.vl 0 [0,1],.vl 0 [0,3],.vl 0 [0,5],.vl 0 [0,7],.vl 0 [0,10],.vl 0 [0,11],.vl 0 [0,12]]] (α:=let p:=(V0 e tx ta r);let v:=p.1.lk;let u:=p.1.s;∃(x:rB.ι),let q:=(λ(x:Nat)=>[]);(((r.id=x.id/\r.n.k=x.n.k/\r.n.n=x.n.n/\r.n.t=x.n.t/\r.name.k=x.name.k/\r.name.n=x.name.n/\r.name.t=x.name.t/\True)/\True)/\RwB x)/\∃(g:Int),((ta=g/\True)/\True)/\∃(f:(Eng×Bool×Bool)),(((L0 e f.1)/\O2 x=f.2.1/\V6 g (1:Int) 3=f.2.2/\True)/\iZ f.1)/\br (i6 (R3 f.1) f.2.1 f.2.2 !=(0:Int)) (((((0=0/\0=u.d.E.length)/\(0=0/\0=u.d.C.length)/\false=u.d.A/\(0=0/\0=u.d.keep.length)/\0=u.ep/\(0=0/\0=u.L.length)/\0=u.S/\(0=0/\0=u.fr.length)/\0=u.J/\false=p.1.up/\(0=0/\0=p.1.X.length)/\(0=0/\0=v.H.length)/\(0=0/\0=v.W.length)/\0=p.1.N/\True)/\i6 (R3 f.1) f.2.1 f.2.2=p.2/\True)/\True)/\(0=u.d.E.length/\Z7 0 q (Z5 u.d.E))/\(0=u.d.C.length/\Z7 0 q (Z1 u.d.C))/\(0=u.d.keep.length/\Z7 0 q (Y9 u.d.keep))/\(0=u.L.length/\Z7 0 q (Y1 u.L))/\(0=0/\0=u.fr.length/\V2 0 q (Y5 u.fr))/\(0=p.1.X.length/\Z7 0 q (X2 p.1.X))/\(0=v.H.length/\Z7 0 q (Z2 v.H))/\(0=v.W.length/\Z7 0 q (Y7 v.W))/\True) (∃(x:Eng),(((L0 e x)/\True)/\M7 x)/\∃(X:(Eng×Int×Int×Rw×Bool)),let z:=(nQ X.1 X.2.1 X.2.2.1 X.2.2.2.1 X.2.2.2.2);(((0=0/\0=0)/\tx=X.2.1/\ta=X.2.2.1/\(r.id=X.2.2.2.1.id/\r.n.k=X.2.2.2.1.n.k/\r.n.n=X.2.2.2.1.n.n/\r.n.t=X.2.2.2.1.n.t/\r.name.k=X.2.2.2.1.name.k/\r.name.n=X.2.2.2.1.name.n/\r.name.t=X.2.2.2.1.name.t/\True)/\false=X.2.2.2.2/\True)/\(iM (0) (0) x X.1)/\a2Y X.1 X.2.2.1 X.2.2.2.1)/\∃(x:Eng),((LeG z.1.1)/\((oM z.1.1 x)/\True)/\M7 x)/\(((b44 x p.1)/\z.2=p.2/\True)/\True)/\vF (0) (0) x p.1)) ⟨r,⟨Z8,h⟩,ta,Z8,(e,O2 r,V6 ta 1 3),⟨Z8,j⟩,λhq=>?_,λhq=>?_⟩,rfl,kG _ 0⟩
 ·rw[b6M (c8B hq)];exact⟨Z8,⟨rfl,P1⟩,⟨rfl,P1⟩,⟨rfl,P1⟩,⟨rfl,P1⟩,⟨rfl,rfl,λi hi=>absurd hi (D2 _)⟩,⟨rfl,P1⟩,⟨rfl,P1⟩,⟨rfl,P1⟩,Z6⟩
 ·have hC:=c4K hq h2;have h0:i6 (R3 e) (O2 r) (V6 ta 1 3)=0:=by simpa using hq
  rw[c5d h0];exact⟨e,⟨Z8,h2⟩,(e,tx,ta,r,false),⟨Z8,Z8,hC⟩,(nQ e tx ta r false).1.1,⟨Z8,Z8,a8S hC⟩,Z8⟩
def stX(e:Eng)(no sl:Nat):{y:Eng×Bz×Bool//y=(R7 e (Y3 e.s no).1,if(Y3 e.s no).2.2=true then((Y3 e.s no).1.fr.getD (Y3 e.s no).2.1 dz).pg.sl.getD sl [] else[],(Y3 e.s no).2.2)}:=Classical.choice ⟨⟨_,rfl⟩⟩
def c5z:Con:=.rel ⟨Eng×Nat×Nat,λx=>[.agg x.1.ts,Ji x.2.1,Ji x.2.2],λx=>.tup [.agg (stX x.1 x.2.1 x.2.2).1.1.ts,.str (stX x.1 x.2.1 x.2.2).1.2.1,.bool (stX x.1 x.2.1 x.2.2).1.2.2],λx=>SI x.1.s/\x.2.1<8/\x.2.2<4⟩
def c1S:GK 81 c5z:=gk func81<|by
 rintro⟨e,no,sl⟩ ⟨h,n,d⟩;dsimp only at h n d;show V4 _ _ _ (.tup [.agg (stX e no sl).1.1.ts,.str (stX e no sl).1.2.1,.bool (stX e no sl).1.2.2]);have hy:=(stX e no sl).2;generalize (stX e no sl).1=y at*;refine U5 (gC rQ gN) func81 Z3 (α:=∃(x:(Sto×Nat)),let p:=(Y3 x.1 x.2);let q:=(p.1.fr.getD (↑p.2.1:Int).toNat dz);(((yS e.s x.1)/\(no:Int)=(x.2:Int)/\True)/\iS x.1 x.2)/\br (! p.2.2) ((L0 {e with s:=p.1} y.1)/\[]=y.2.1/\false=y.2.2/\True) (W9 (↑p.2.1:Int) p.1.fr.length/\W9 (sl:Int) q.pg.sl.length/\(L0 {e with s:=p.1} y.1)/\q.pg.sl.getD (sl:Int).toNat []=y.2.1/\true=y.2.2/\True)) ⟨(e.s,no),⟨Z8,h.iv,n⟩,λhu=>?_,λhu=>?_⟩
 ·have hu:(Y3 e.s no).2.2=false:=uR hu;rw[hy,hu,if_neg W7]
  exact Z8
 ·have hu:(Y3 e.s no).2.2=true:=yN hu;obtain⟨f,_,_,g,ps⟩:=xI h.iv n hu;dsimp only;rw[hy,E3,hu,if_pos rfl];exact⟨Y6 f,Y6 (by rw[g];exact d),Z8⟩
def c6N:Con:=.rel ⟨Eng×Nat×Int×Int×Bz×Bz×Int×Nat,λx=>[.agg x.1.ts,Ji x.2.1,Ji x.2.2.1,Ji x.2.2.2.1,.str x.2.2.2.2.1,.str x.2.2.2.2.2.1],λx=>.tup [.agg (j7 x.1 x.2.1 x.2.2.1 x.2.2.2.1 x.2.2.2.2.1 x.2.2.2.2.2.1 x.2.2.2.2.2.2.2).1.1.ts,Ji (j7 x.1 x.2.1 x.2.2.1 x.2.2.2.1 x.2.2.2.2.1 x.2.2.2.2.2.1 x.2.2.2.2.2.2.2).2],
 λx=>XI x.1 x.2.1 x.2.2.2.2.2.2.1/\(0<=x.2.2.1/\x.2.2.1<=7)/\(0<=x.2.2.2.1/\x.2.2.2.1<=3)/\x.2.2.2.2.1.length<=30/\x.2.2.2.2.2.1.length<=30⟩
def c7B(e:Eng)(k:Nat)(g s:Int)(b a:Bz)(Z:Eng×Int)(h:
let z:=(e.s.L.length:Int);  Ri (z+1)/\∃(x:Eng),let v:=(↑(nK x):Int);(((L0 e x)/\True)/\wR x)/\Ri (z+1+v)/\Ri (z+1+v+1)/\bd (z+1+v+1>60) ((L0 e Z.1)/\7=Z.2/\True) (∃(x:(Eng×Nat×Rec)),let y:=x.1.s.L.length;let u:=x.2.2;let r:=(x.1.X.set x.2.1 (Txn.mk (x.1.X.getD x.2.1 dz).id ((y:Int)+1)));(((L0 e x.1)/\(k:Int)=(x.2.1:Int)/\(0=u.e/\0=u.l/\0=u.t/\2=u.k/\0=u.p/\0=u.n/\g=u.g/\s=u.s/\b=u.b/\a=u.a/\True)/\True)/\x.2.1<x.1.X.length/\x.1.X.length<=1000/\y<=1000)/\∃(X:(Sto×Int)),let q:=(T9 X.1 (X.1.L.getD (X.2-1).toNat dz));(((yS {x.1.s with L:=(x.1.s.L++[P9 x.1.s (B9 x.1 x.2.1 u)])} X.1)/\(↑(y+1):Int)=X.2/\True)/\SInv X.1/\1<=X.2/\X.2<=(X.1.L.length:Int))/\br (! q.2) (∃(f:(Eng×Dsk)),(((L0 {x.1 with s:=q.1,X:=r} f.1)/\(zJ q.1.d f.2)/\True)/\G0 f.2/\f.2.E.length=69)/\(L0 (j8 (sdE f.1 f.2)) Z.1)/\15=Z.2/\True) ((L0 {x.1 with s:=q.1,X:=r} Z.1)/\0=Z.2/\True))):
  V4 prog 203 [.agg e.ts,Ji k,Ji g,Ji s,.str b,.str a] (.tup [.agg Z.1.ts,Ji Z.2]):=
 U5 (gC pT (gC a1G (gC jL (gC oG gN)))) func203 Z3 h
def c5A{e:Eng}(h:wR e):nK e<=620:=by
 have d:=dF e.s.L e.X e.X.length;have f:=h.2.1;show tR e.s.L e.X e.X.length<=620;omega
def c30:GK 203 c6N:=gk func203<|by
 rintro⟨e,k,g,s,b,a,tx,v⟩ ⟨h,i,f,B,A⟩;dsimp only at h i f B A ⊢;have M:=h.u.u.rm;have n:=h.u.u.t10;have l:=c5A h.nd;obtain⟨o,hP,j,_⟩:=a3z h i f B A;refine c7B e k g s b a ((j7 e k g s b a v).1.1,(j7 e k g s b a v).2) ⟨Z4 Z9,e,⟨Z8,h.nd⟩,Z4 Z9,Z4 Z9,λhq=>?_,λhq=>?_⟩
 ·rw[a1N (G7 hq)];exact Z8
 ·have hq:=r9 hq;have e2:=c2O e k (J2 g s b a);refine⟨(e,k,J2 g s b a),⟨Z8,h.u.u.lt,X5,X5⟩,((E9 e k (J2 g s b a)).s,((e.s.L.length+1:Nat):Int)),⟨⟨jR (E9 e k (J2 g s b a)).s,Z8⟩,hP.1,X5,by rw[sG];exact Int.le_refl _⟩,λhu=>?_,λhu=>?_⟩
  ·dsimp only at hu ⊢;rw[e2] at hu ⊢;have hu:(k8 e k (J2 g s b a)).2=false:=uR hu;rw[eO hq hu];exact⟨((k8 e k (J2 g s b a)).1,(k8 e k (J2 g s b a)).1.s.d),⟨⟨vR (k8 e k (J2 g s b a)).1,Z8⟩,(j hu).1,(j hu).2⟩,Z8⟩
  ·dsimp only at hu ⊢;rw[e2] at hu ⊢;have hu:(k8 e k (J2 g s b a)).2=true:=yN hu;rw[dL hq hu];exact⟨vR (k8 e k (J2 g s b a)).1,Z8⟩
def WrB(e:Eng)(k:Nat)(ta:Int)(r:Rw)(tx:Int):Prop:=XI e k tx/\(1<=ta/\ta<=3)/\RwK r/\(sW ta r).length<=30
def c5Y:Con:=.rel ⟨Eng×Nat×Int×Rw×Bool×Int,λx=>[.agg x.1.ts,Ji x.2.1,Ji x.2.2.1,.agg x.2.2.2.1.ts,.bool x.2.2.2.2.1],λx=>.tup [.agg (oN x.1 x.2.1 x.2.2.2.2.2 x.2.2.1 x.2.2.2.1 x.2.2.2.2.1).1.1.ts,Ji (oN x.1 x.2.1 x.2.2.2.2.2 x.2.2.1 x.2.2.2.1 x.2.2.2.2.1).2],
 λx=>WrB x.1 x.2.1 x.2.2.1 x.2.2.2.1 x.2.2.2.2.2⟩
def c8T{e:Eng}{k:Nat}{tx ta:Int}{r:Rw}{gone:Bool}(h:¬ (R4 e k ta (-1) 2).2=0):oN e k tx ta r gone=(((R4 e k ta (-1) 2).1,uZ e k ta (-1) 2),(R4 e k ta (-1) 2).2):=by
 have d:zC e k ta 2 r.id 4=(((R4 e k ta (-1) 2).1,uZ e k ta (-1) 2),(R4 e k ta (-1) 2).2):=if_neg h;unfold oN;rw[d,if_neg h]
def c8l{e d:Eng}{k:Nat}{tx ta:Int}{r:Rw}{gone:Bool}(h:R4 e k ta (-1) 2=(d,0))(f:¬ (R4 d k ta r.id 4).2=0):oN e k tx ta r gone=(((R4 d k ta r.id 4).1,uZ d k ta r.id 4),(R4 d k ta r.id 4).2):=by
 have g:zC e k ta 2 r.id 4=(((R4 d k ta r.id 4).1,uZ d k ta r.id 4),(R4 d k ta r.id 4).2):=by
  unfold zC;rw[if_pos (by rw[h]),h]
 unfold oN;rw[g,if_neg f]
def c8J{e f d:Eng}{k:Nat}{tx ta:Int}{r:Rw}{gone:Bool}(h:R4 e k ta (-1) 2=(f,0))(i:R4 f k ta r.id 4=(d,0)):oN e k tx ta r gone=fS d k ta r gone (T2 d tx ta r.id 8) (sP d tx ta r.id 8):=by
 have g:zC e k ta 2 r.id 4=((d,uZ f k ta r.id 4),0):=by
  unfold zC;rw[if_pos (by rw[h]),h]
  dsimp only;rw[i]
 unfold oN;rw[g,if_pos rfl]
def c1t:GK 116 c5Y:=gk func116<|by
 rintro⟨e,k,ta,r,gone,tx⟩ ⟨h,o,R,B⟩;dsimp only at h o R B ⊢;generalize hZ:oN e k tx ta r gone=Z;have ab:=R.2.2;refine U5 (gC c1Q (gC c2k (gC a2W (gC c30 (gC c1S (gC oG gN)))))) func116 Z3 (α:=∃(x:(Eng×Nat×Int×Int×Int×Int)),let u:=(R4 x.1 x.2.1 x.2.2.1 x.2.2.2.1 x.2.2.2.2.1);(((L0 e x.1)/\(k:Int)=(x.2.1:Int)/\ta=x.2.2.1/\(-1:Int)=x.2.2.2.1/\2=x.2.2.2.2.1/\True)/\XI x.1 x.2.1 x.2.2.2.2.2)/\br (u.2 !=0) ((L0 u.1 Z.1.1)/\u.2=Z.2/\True) (∃(i:(Eng×Nat×Int×Int×Int×Int)),let q:=(R4 i.1 i.2.1 i.2.2.1 i.2.2.2.1 i.2.2.2.2.1);(((L0 u.1 i.1)/\(k:Int)=(i.2.1:Int)/\ta=i.2.2.1/\r.id=i.2.2.2.1/\4=i.2.2.2.2.1/\True)/\XI i.1 i.2.1 i.2.2.2.2.2)/\br (q.2 !=0) ((L0 q.1 Z.1.1)/\q.2=Z.2/\True) (W9 (k:Int) q.1.X.length/\∃(x:(Eng×Int×Int×Int)),let p:=(rW x.1 x.2.1 x.2.2.1 x.2.2.2);let pa:=(L0 p.val.fst Z.1.1);let z:=p.val.snd.fst;(((L0 q.1 x.1)/\(q.1.X.getD (k:Int).toNat dz).id=x.2.1/\ta=x.2.2.1/\r.id=x.2.2.2/\True)/\SI x.1.s/\wR x.1)/\br (! p.val.snd.snd) (∃(j:(Eng×Dsk)),(((L0 p.val.fst j.1)/\(zJ p.val.fst.s.d j.2)/\True)/\G0 j.2/\j.2.E.length=69)/\(L0 (j8 (sdE j.1 j.2)) Z.1.1)/\15=Z.2/\True) (∃(j:(Int×Rw)),((ta=j.1/\(r.id=j.2.id/\r.n.k=j.2.n.k/\r.n.n=j.2.n.n/\r.n.t=j.2.n.t/\r.name.k=j.2.name.k/\r.name.n=j.2.name.n/\r.name.t=j.2.name.t/\True)/\True)/\RwK j.2/\1<=j.1/\j.1<=3)/\br gone (W9 (0:Int) 4/\bd (z.a<0) (br gone (pa/\5=Z.2/\True) (W9 (2:Int) 4/\bd (z.c<0) (pa/\12=Z.2/\True) (W9 (2:Int) 4/\W9 (3:Int) 4/\∃(X:(Eng×Nat×Int×Int×Bz×Bz×Int×Nat)),let f:=(j7 X.1 X.2.1 X.2.2.1 X.2.2.2.1 X.2.2.2.2.1 X.2.2.2.2.2.1 X.2.2.2.2.2.2.2);(((L0 p.val.fst X.1)/\(k:Int)=(X.2.1:Int)/\z.c=X.2.2.1/\z.d=X.2.2.2.1/\[]=X.2.2.2.2.1/\[]=X.2.2.2.2.2.1/\True)/\XI X.1 X.2.1 X.2.2.2.2.2.2.1/\(0<=X.2.2.1/\X.2.2.1<=(7:Int))/\(0<=X.2.2.2.1/\X.2.2.2.1<=(3:Int))/\X.2.2.2.2.1.length<=30/\X.2.2.2.2.2.1.length<=30)/\(L0 f.1.1 Z.1.1)/\f.2=Z.2/\True))) (W9 (0:Int) 4/\W9 (1:Int) 4/\∃(X:(Eng×Nat×Nat)),let v:=(stX X.1 X.2.1 X.2.2);(((L0 p.val.fst X.1)/\z.a=(X.2.1:Int)/\z.b=(X.2.2:Int)/\True)/\SI X.1.s/\X.2.1<8/\X.2.2<4)/\br (! v.val.snd.snd) (∃(x:(Eng×Dsk)),(((L0 v.val.fst x.1)/\(zJ v.val.fst.s.d x.2)/\True)/\G0 x.2/\x.2.E.length=69)/\(L0 (j8 (sdE x.1 x.2)) Z.1.1)/\15=Z.2/\True) (W9 (0:Int) 4/\W9 (1:Int) 4/\∃(g:(Eng×Nat×Int×Int×Bz×Bz×Int×Nat)),let w:=g.2.2.2;let pb:=(j7 g.1 g.2.1 g.2.2.1 w.1 w.2.1 w.2.2.1 w.2.2.2.2);(((L0 v.val.fst g.1)/\(k:Int)=(g.2.1:Int)/\z.a=g.2.2.1/\z.b=w.1/\v.val.snd.fst=w.2.1/\[]=w.2.2.1/\True)/\XI g.1 g.2.1 w.2.2.2.1/\(0<=g.2.2.1/\g.2.2.1<=(7:Int))/\(0<=w.1/\w.1<=(3:Int))/\w.2.1.length<=30/\w.2.2.1.length<=30)/\(L0 pb.1.1 Z.1.1)/\pb.2=Z.2/\True))) (W9 (0:Int) 4/\bd (z.a<0) (br gone (pa/\5=Z.2/\True) (W9 (2:Int) 4/\bd (z.c<0) (pa/\12=Z.2/\True) (W9 (2:Int) 4/\W9 (3:Int) 4/\∃(X:(Eng×Nat×Int×Int×Bz×Bz×Int×Nat)),let l:=(j7 X.1 X.2.1 X.2.2.1 X.2.2.2.1 X.2.2.2.2.1 X.2.2.2.2.2.1 X.2.2.2.2.2.2.2);(((L0 p.val.fst X.1)/\(k:Int)=(X.2.1:Int)/\z.c=X.2.2.1/\z.d=X.2.2.2.1/\[]=X.2.2.2.2.1/\sW j.1 j.2=X.2.2.2.2.2.1/\True)/\XI X.1 X.2.1 X.2.2.2.2.2.2.1/\(0<=X.2.2.1/\X.2.2.1<=(7:Int))/\(0<=X.2.2.2.1/\X.2.2.2.1<=(3:Int))/\X.2.2.2.2.1.length<=30/\X.2.2.2.2.2.1.length<=30)/\(L0 l.1.1 Z.1.1)/\l.2=Z.2/\True))) (W9 (0:Int) 4/\W9 (1:Int) 4/\∃(X:(Eng×Nat×Nat)),let y:=(stX X.1 X.2.1 X.2.2);(((L0 p.val.fst X.1)/\z.a=(X.2.1:Int)/\z.b=(X.2.2:Int)/\True)/\SI X.1.s/\X.2.1<8/\X.2.2<4)/\br (! y.1.snd.snd) (∃(x:(Eng×Dsk)),(((L0 y.1.fst x.1)/\(zJ y.1.fst.s.d x.2)/\True)/\G0 x.2/\x.2.E.length=69)/\(L0 (j8 (sdE x.1 x.2)) Z.1.1)/\15=Z.2/\True) (W9 (0:Int) 4/\W9 (1:Int) 4/\∃(g:(Eng×Nat×Int×Int×Bz×Bz×Int×Nat)),let m:=g.2.2.2;let pc:=(j7 g.1 g.2.1 g.2.2.1 m.1 m.2.1 m.2.2.1 m.2.2.2.2);(((L0 y.1.fst g.1)/\(k:Int)=(g.2.1:Int)/\z.a=g.2.2.1/\z.b=m.1/\y.1.snd.fst=m.2.1/\sW j.1 j.2=m.2.2.1/\True)/\XI g.1 g.2.1 m.2.2.2.1/\(0<=g.2.2.1/\g.2.2.1<=(7:Int))/\(0<=m.1/\m.1<=(3:Int))/\m.2.1.length<=30/\m.2.2.1.length<=30)/\(L0 pc.1.1 Z.1.1)/\pc.2=Z.2/\True))))))) ⟨(e,k,ta,-1,2,tx),⟨Z8,h⟩,λq=>?_,λq=>?_⟩
 ·rw[←hZ,c8T (c75 q)];exact⟨vR (R4 e k ta (-1) 2).1,Z8⟩
 have J:=a0m (c2o q);have Q:=sJ h ta (-1) 2;dsimp only;rw[J];generalize pE e k ta (-1) 2=e1 at*;dsimp only;refine⟨(e1,k,ta,r.id,4,tx),⟨Z8,Q⟩,λq=>?_,λq=>?_⟩
 ·rw[←hZ,c8l J (c75 q)];exact⟨vR (R4 e1 k ta r.id 4).1,Z8⟩
 have U:=a0m (c2o q);have h2:=sJ Q ta r.id 4;dsimp only;rw[c8J J U] at hZ;rw[U];generalize pE e1 k ta r.id 4=e2 at*;dsimp only;have hF:=b4d h2.u.u.si tx ta r.id 8 (U9 _);have Y:(e2.X.getD k dz).id=tx:=h2.u.u.id;refine⟨Y6 h2.u.u.lt,(e2,tx,ta,r.id),⟨⟨vR _,by rw[E3,Y],rfl,rfl,Z6⟩,h2.u.u.si,h2.nd⟩,?_⟩
 dsimp only;rw[(rW e2 tx ta r.id).2];generalize T2 e2 tx ta r.id 8=f at*;generalize sP e2 tx ta r.id 8=v at*;obtain⟨fs,fp,fl⟩:=f;obtain⟨V,N,hpl⟩:=hF;dsimp only at V N hpl hZ ⊢;refine⟨λhd=>?_,λL=>⟨(ta,r),⟨Z8,R,o.1,o.2⟩,?_⟩⟩
 ·have hd:fl=false:=uR hd;have eZ:Z=((j8 (R7 e2 fs),0),15):=by rw[←hZ,hd];rfl
  rw[eZ];exact⟨(R7 e2 fs,fs.d),⟨Z8,(N hd).1,(N hd).2⟩,Z8⟩
 have L:fl=true:=yN L;subst L;obtain⟨s1,s2,s3⟩:=V rfl;have F:XI (R7 e2 fs) k tx:=a7p h2 s1 s2 s3;have hd:decide (fp.a<0)=false->¬fp.a<0:=r9;have W:¬fp.a<0->(fp.a.toNat:Int)=fp.a/\(fp.b.toNat:Int)=fp.b/\fp.a.toNat<8/\fp.b.toNat<4/\(0<=fp.a/\fp.a<=7)/\(0<=fp.b/\fp.b<=3):=λha=>by
  have aa:=hpl.1.resolve_left Z9
  omega
 have O:=(stX (R7 e2 fs) fp.a.toNat fp.b.toNat).2;refine⟨λM=>?_,λM=>?_⟩<;>subst M
 ·refine⟨⟨Z9,Z9⟩,λha=>⟨λ_=>?_,λhc=>by cases hc⟩,λha=>?_⟩
  ·have ha:=G7 ha;have eW:Z=((R7 e2 fs,v),5):=by rw[←hZ];unfold fS;rw[if_pos rfl,if_pos ha,if_pos rfl]
   rw[eW];exact Z8
  ·have ha:=hd ha;obtain⟨I,A,n3,z,l,C⟩:=W ha;have eW:Z=if(Y3 fs fp.a.toNat).2.2=true then j7 (R7 e2 (v7 e2 fp fs).1) k fp.a fp.b (v7 e2 fp fs).2 [] (P8 fs fp.a.toNat v) else((j8 (R7 e2 (v7 e2 fp fs).1),0),15):=by
    rw[←hZ];unfold fS;rw[if_pos rfl,if_neg ha];rfl
   refine⟨⟨Z9,Z9⟩,⟨Z9,Z9⟩,(R7 e2 fs,fp.a.toNat,fp.b.toNat),⟨⟨vR (R7 e2 fs),I.symm,A.symm,Z6⟩,s1,n3,z⟩,?_⟩
   dsimp only;rw[O];refine⟨λhu=>?_,λhu=>?_⟩
   ·have hu:(Y3 fs fp.a.toNat).2.2=false:=uR hu;rw[if_neg (by rw[hu];simp)] at eW
    rw[eW];exact⟨(R7 e2 (v7 e2 fp fs).1,(v7 e2 fp fs).1.d),⟨Z8,(rN s1 hu).1,(rN s1 hu).2⟩,Z8⟩
   ·have hu:(Y3 fs fp.a.toNat).2.2=true:=yN hu;rw[if_pos hu] at eW;obtain⟨j1,j2⟩:=rR s1 n3 hu;obtain⟨f2,_,_,p4,ps⟩:=xI s1.iv n3 hu;have hX4:XI (R7 e2 (v7 e2 fp fs).1) k tx:=a7p h2 j1 (j2.trans s2) (cK.trans s3);have hsl:(v7 e2 fp fs).2.length<=30:=ps fp.b.toNat (by rw[p4];omega)
    rw[eW];exact⟨⟨Z9,Z9⟩,⟨Z9,Z9⟩,(R7 e2 (v7 e2 fp fs).1,k,fp.a,fp.b,(v7 e2 fp fs).2,[],tx,P8 fs fp.a.toNat v),⟨⟨vR (R7 e2 (v7 e2 fp fs).1),rfl,rfl,rfl,if_pos hu,Z8⟩,hX4,l,C,hsl,N4 _⟩,vR (j7 (R7 e2 (v7 e2 fp fs).1) k fp.a fp.b (v7 e2 fp fs).2 [] (P8 fs fp.a.toNat v)).1.1,Z8⟩
 ·refine⟨⟨Z9,Z9⟩,λha=>⟨λhc=>(by cases hc),λ_=>⟨⟨Z9,Z9⟩,λhc=>?_,λhc=>?_⟩⟩,λha=>?_⟩
  ·have eW:Z=((R7 e2 fs,v),12):=by rw[←hZ];unfold fS;rw[if_pos rfl,if_pos (G7 ha),if_neg W7,if_pos (G7 hc)]
   rw[eW];exact Z8
  ·have hc:=r9 hc;have hC:=hpl.2.resolve_left Z9
   have eW:Z=j7 (R7 e2 fs) k fp.c fp.d [] (sW ta r) v:=by rw[←hZ];unfold fS;rw[if_pos rfl,if_pos (G7 ha),if_neg W7,if_neg hc]
   rw[eW];exact⟨⟨Z9,Z9⟩,⟨Z9,Z9⟩,(R7 e2 fs,k,fp.c,fp.d,[],sW ta r,tx,v),⟨Z8,F,X5,X5,N4 _,B⟩,vR (j7 (R7 e2 fs) k fp.c fp.d [] (sW ta r) v).1.1,Z8⟩
  ·have ha:=hd ha;obtain⟨I,A,n3,z,l,C⟩:=W ha;have eW:Z=if(Y3 fs fp.a.toNat).2.2=true then j7 (R7 e2 (v7 e2 fp fs).1) k fp.a fp.b (v7 e2 fp fs).2 (sW ta r) (P8 fs fp.a.toNat v) else((j8 (R7 e2 (v7 e2 fp fs).1),0),15):=by
    rw[←hZ];unfold fS;rw[if_pos rfl,if_neg ha];rfl
   refine⟨⟨Z9,Z9⟩,⟨Z9,Z9⟩,(R7 e2 fs,fp.a.toNat,fp.b.toNat),⟨⟨vR (R7 e2 fs),I.symm,A.symm,Z6⟩,s1,n3,z⟩,?_⟩
   dsimp only;rw[O];refine⟨λhu=>?_,λhu=>?_⟩
   ·have hu:(Y3 fs fp.a.toNat).2.2=false:=uR hu;rw[if_neg (by rw[hu];simp)] at eW
    rw[eW];exact⟨(R7 e2 (v7 e2 fp fs).1,(v7 e2 fp fs).1.d),⟨Z8,(rN s1 hu).1,(rN s1 hu).2⟩,Z8⟩
   ·have hu:(Y3 fs fp.a.toNat).2.2=true:=yN hu;rw[if_pos hu] at eW;obtain⟨j1,j2⟩:=rR s1 n3 hu;obtain⟨f2,_,_,p4,ps⟩:=xI s1.iv n3 hu;have hX4:XI (R7 e2 (v7 e2 fp fs).1) k tx:=a7p h2 j1 (j2.trans s2) (cK.trans s3);have hsl:(v7 e2 fp fs).2.length<=30:=ps fp.b.toNat (by rw[p4];omega)
    rw[eW];exact⟨⟨Z9,Z9⟩,⟨Z9,Z9⟩,(R7 e2 (v7 e2 fp fs).1,k,fp.a,fp.b,(v7 e2 fp fs).2,sW ta r,tx,P8 fs fp.a.toNat v),⟨⟨vR (R7 e2 (v7 e2 fp fs).1),rfl,rfl,rfl,if_pos hu,Z8⟩,hX4,l,C,hsl,B⟩,vR (j7 (R7 e2 (v7 e2 fp fs).1) k fp.a fp.b (v7 e2 fp fs).2 (sW ta r) (P8 fs fp.a.toNat v)).1.1,Z8⟩
def c84{e:Eng}{tx ta:Int}{r:Rw}{gone:Bool}(h:¬ (G5 e tx).2=0):nQ e tx ta r gone=((e,0),(G5 e tx).2):=if_neg h
def c9q{e:Eng}{tx ta:Int}{r:Rw}{gone:Bool}{k:Nat}(h:(G5 e tx).2=0)(d:(G5 e tx).1=k):nQ e tx ta r gone=oN e k tx ta r gone:=by
 unfold nQ;rw[if_pos h,d,E3]
def c6K:Con:=.rel ⟨Eng×Int×Int×Rw,λx=>[.agg x.1.ts,Ji x.2.1,Ji x.2.2.1,.agg x.2.2.2.ts],λx=>.tup [.agg (nQ x.1 x.2.1 x.2.2.1 x.2.2.2 false).1.1.ts,Ji (nQ x.1 x.2.1 x.2.2.1 x.2.2.2 false).2],λx=>a2Y x.1 x.2.2.1 x.2.2.2⟩
def c5F(e:Eng)(tx ta:Int)(r:Rw)(Z:(Eng×Nat)×Int)(h:
  ∃(x:(Eng×Int)),let q:=(G5 x.1 x.2);(((L0 e x.1)/\tx=x.2/\True)/\L9 x.1.X.length)/\br (q.2 !=0) ((L0 e Z.1.1)/\q.2=Z.2/\True) (∃(X:(Eng×Nat×Int×Rw×Bool×Int)),let p:=(oN X.1 X.2.1 X.2.2.2.2.2 X.2.2.1 X.2.2.2.1 X.2.2.2.2.1);(((L0 e X.1)/\q.1=(X.2.1:Int)/\ta=X.2.2.1/\(r.id=X.2.2.2.1.id/\r.n.k=X.2.2.2.1.n.k/\r.n.n=X.2.2.2.1.n.n/\r.n.t=X.2.2.2.1.n.t/\r.name.k=X.2.2.2.1.name.k/\r.name.n=X.2.2.2.1.name.n/\r.name.t=X.2.2.2.1.name.t/\True)/\false=X.2.2.2.2.1/\True)/\WrB X.1 X.2.1 X.2.2.1 X.2.2.2.1 X.2.2.2.2.2)/\(L0 p.1.1 Z.1.1)/\p.2=Z.2/\True)):
  V4 prog 58 [.agg e.ts,Ji tx,Ji ta,.agg r.ts] (.tup [.agg Z.1.1.ts,Ji Z.2]):=
 U5 (gC a3K (gC c1t gN)) func58 Z3 h
def c2Z:GK 58 c6K:=gk func58<|by
 rintro⟨e,tx,ta,r⟩ ⟨o,M,R,t,B⟩;dsimp only at o M R t B ⊢;have g:=(xG (u4 o).2.1).1;refine c5F e tx ta r (nQ e tx ta r false) ⟨(e,tx),⟨Z8,rU⟩,λh=>?_,λh=>?_⟩
 ·rw[c84 (c75 h)];exact Z8
 ·obtain⟨u,k,d,f,hi,A⟩:=a1E (c2o h);rw[c9q (c2o h) d];exact⟨(e,k,ta,r,false,tx),⟨⟨vR _,d,Z8⟩,b0w o M u A f hi,t,R,B⟩,vR (oN e k tx ta r false).1.1,Z8⟩
def b6D{a b:Bool}:(!a|| !b)= !(a&&b):=by cases a<;>rfl
def c5s:Con:=.rfz ⟨Eng×Int×Int×Rw,λx=>[.agg x.1.ts,Ji x.2.1,Ji x.2.2.1,.agg x.2.2.2.ts],λx=>.tup [.agg (V0 x.1 x.2.1 x.2.2.1 x.2.2.2).1.ts,Ji (V0 x.1 x.2.1 x.2.2.1 x.2.2.2).2],λx=>iZ x.1/\M7 x.1/\RwB x.2.2.2⟩
def c5l(e:Eng)(tx ta:Int)(r:Rw):((R3 e&&O2 r)=false->V0 e tx ta r=(uU,1))/\((R3 e&&O2 r)=true->V6 ta 1 3=false->V0 e tx ta r=(uU,4))/\((R3 e&&O2 r)=true->V6 ta 1 3=true->V0 e tx ta r=((nQ e tx ta r false).1.1,(nQ e tx ta r false).2)):=by
 refine⟨λh=>?_,λh h2=>?_,λh h2=>?_⟩
 ·have e1:∀b,i6 (R3 e) (O2 r) b=1:=λb=>by unfold i6;rw[h];rfl
  rw[b6M (by rw[e1];decide),e1]
 ·have e1:i6 (R3 e) (O2 r) (V6 ta 1 3)=4:=by unfold i6;rw[h,h2];rfl
  rw[b6M (by rw[e1];decide),e1]
 ·have e1:i6 (R3 e) (O2 r) (V6 ta 1 3)=0:=by unfold i6;rw[h,h2];rfl
  exact c5d e1
def c4Q{e:Eng}{ta:Int}{r:Rw}(h:(R3 e&&O2 r)=true)(d:V6 ta 1 3=true)(f:M7 e):a2Y e ta r:=c4K (by unfold i6;rw[h,d];rfl) f
def c3L:GK 19 c5s:=gk func19<|by
 rintro⟨e,tx,ta,r⟩ ⟨j,g,i⟩;dsimp only at j g i ⊢;obtain⟨d1,d2,l⟩:=c5l e tx ta r;generalize V0 e tx ta r=Z at*;refine U5 (gC a1b (gC a0Q (gC z9 (gC c2Z (gC b2V gN))))) func19 Z3 (α:=let p:=(Z.1.s.d.E.length=0/\Z.1.s.d.C.length=0/\false=Z.1.s.d.A/\Z.1.s.d.keep.length=0/\0=Z.1.s.ep/\Z.1.s.L.length=0/\0=Z.1.s.S/\Z.1.s.fr.length=0/\0=Z.1.s.J/\false=Z.1.up/\Z.1.X.length=0/\Z.1.lk.H.length=0/\Z.1.lk.W.length=0/\0=Z.1.N/\True);∃(x:tT.ι),(((L0 e x)/\True)/\iZ x)/\∃(X:rB.ι),((!R3 x)=false->((r.id=X.id/\r.n.k=X.n.k/\r.n.n=X.n.n/\r.n.t=X.n.t/\r.name.k=X.name.k/\r.name.n=X.name.n/\r.name.t=X.name.t/\True)/\True)/\RwB X)/\br (!R3 x|| !O2 X) (p/\1=Z.2/\True) (br (!V6 ta (1:Int) (3:Int)) (p/\4=Z.2/\True) (∃(x:(Eng×Int×Int×Rw)),let q:=x.2.2;let z:=(nQ x.1 x.2.1 q.1 q.2 false);(((L0 e x.1)/\tx=x.2.1/\ta=q.1/\(r.id=q.2.id/\r.n.k=q.2.n.k/\r.n.n=q.2.n.n/\r.n.t=q.2.n.t/\r.name.k=q.2.name.k/\r.name.n=q.2.name.n/\r.name.t=q.2.name.t/\True)/\True)/\a2Y x.1 q.1 q.2)/\∃(f:Eng),(((L0 z.1.1 f)/\True)/\M7 f)/\(L0 f Z.1)/\z.2=Z.2/\True))) ⟨e,⟨Z8,j⟩,r,λ_=>⟨Z8,i⟩,λh=>?_,λh=>⟨λR=>?_,λR=>?_⟩⟩
 ·rw[b6D] at h;rw[d1 (uR h)];exact Z8
 ·rw[b6D] at h;rw[d2 (yN h) (uR R)];exact Z8
 ·rw[b6D] at h;have o:=yN h;have hi:=yN R;have C:a2Y e ta r:=c4Q o hi g;rw[l o hi];exact⟨(e,tx,ta,r),⟨Z8,C⟩,(nQ e tx ta r false).1.1,⟨⟨vR (nQ e tx ta r false).1.1,Z6⟩,a8S C⟩,Z8⟩
def c6a{f:FuncId}{args B:List T}{H H':X9}{res:T}{ks:List Nat}{p:Option Prop}(h:V4 prog f B res)(n:c0j (λq=>some (res,some (kM q B))) H ks args=some (res,H',p))(hp:p.getD True):G3 prog f args H res H':=by
 intro E w vs i N A;refine(c4N (c8v i N) (cf:=λq=>some (res,some (kM q B))) ?_ n hp A).mono ?_
 ·intro q R t C d E w vs o g j;simp only[X0,U4] at C;obtain⟨rfl,rfl⟩:=C;exact h E w vs o g (iJ d j)
 ·rintro e w' ⟨v,E',rfl,I,l,r⟩;exact⟨v,E',rfl,I,l.stp,r⟩
def c1z:Con:=.reff ⟨Eng×Nat×Int×Int×Rw,λx=>[.agg (x.1.tm 0),Ji x.2.2.1,Ji x.2.2.2.1,.agg x.2.2.2.2.ts],λx=>x.1.hp x.2.1,λx=>.tup [.agg (V0 x.1 x.2.2.1 x.2.2.2.1 x.2.2.2.2).1.ts,Ji (V0 x.1 x.2.2.1 x.2.2.2.1 x.2.2.2.2).2],λ_=>[none,none,none,none,none,none,none,none],λx=>iZ x.1/\M7 x.1/\RwB x.2.2.2.2⟩
def b6f:GK 19 c1z:=gk func19<|by
 rintro⟨e,v,tx,ta,r⟩ h;exact c6a (ks:=[0,1,2,3,4,5,6,7]) (c3L.1 (e,tx,ta,r) h) rfl Z8
def LmV(v:Val):Prop:=mP v.t.length
def a2r:Rl:=⟨Val×Int,λx=>[.agg x.1.ts,Ji x.2],λx=>Ji (rem x.2 x.1.t.length),λx=>C3 x.2/\LmV x.1⟩
def c1g:Con:=.rel a2r
def c1C(v:Val)(l:Int)(h:
let p:=(v.t.length:Int);  Ri (l- p)/\bd (l- p<0) ((-1:Int)=rem l v.t.length) (l- p=rem l v.t.length)):
  V4 prog 56 [.agg v.ts,Ji l] (.int .i64 (rem l v.t.length)):=
 U5 gN func56 Z3 h
def b86:GK 56 c1g:=gk func56<|by
 rintro⟨r,l⟩ ⟨⟨e,d⟩,B⟩;have B:r.t.length<=9223372036854775807:=B;simp only at e d;exact c1C r l ⟨Z4 Z9,λh=>by have:=G7 h;exact(I7 Z9).symm,λh=>by have:=r9 h;rw[D9 Z9]⟩
def c0Q:Con:=.rel ⟨Val,λr=>[.agg r.ts],λr=>.agg r.ts,λ_=>True⟩
def c4e(r:Val)(h:
  r.k=r.k/\r.n=r.n/\r.t=r.t/\True):
  V4 prog 59 [.agg r.ts] (.agg r.ts):=
 U5 gN func59 Z3 h
def b64:GK 59 c0Q:=gk func59<|λr _=>c4e r Z8
def rP(r:Rw):Nat:=r.n.t.length+r.name.t.length
def c12(r:Rw):Prop:=LmV r.n/\LmV r.name
def c78:Con:=.rel ⟨Rw×Int,λx=>[.agg x.1.ts,Ji x.2],λx=>Ji (rem x.2 (rP x.1)),λx=>C3 x.2/\c12 x.1⟩
def c0R:GK 18 c78:=gk func18<|by
 rintro⟨r,l⟩ ⟨L,f,d⟩;simp only at L f d;have e:rP r=r.n.t.length+r.name.t.length:=rfl;refine U5 (gC b86 gN) func18 Z3 (α:=let p:=((-1:Int)=rem l (rP r));∃(x:a2r.ι),(((r.n.k=x.1.k/\r.n.n=x.1.n/\r.n.t=x.1.t/\True)/\l=x.2/\True)/\C3 x.2/\LmV x.1)/\bd (rem x.2 x.1.t.length<0) p (∃(X:a2r.ι),(((r.name.k=X.1.k/\r.name.n=X.1.n/\r.name.t=X.1.t/\True)/\rem x.2 x.1.t.length=X.2/\True)/\C3 X.2/\LmV X.1)/\bd (rem X.2 X.1.t.length<0) p (rem X.2 X.1.t.length=rem l (rP r)))) ⟨(r.n,l),⟨Z8,L,f⟩,λh=>(B0 (G7 h) cP).symm,λh=>?_⟩
 obtain⟨q,i⟩:=yF (b:=r.name.t.length) (r9 h) L rfl;refine⟨(r.name,rem l r.n.t.length),⟨Z8,i,d⟩,λg=>?_,λg=>?_⟩
 ·simp only at g;rw[q] at g;exact(B0 (G7 g) cP).symm
 ·exact q
def c7S:Con:=.rel ⟨Rw,λr=>[.agg r.ts],λr=>.agg r.ts,λ_=>True⟩
def c6J(r:Rw)(h:
  ∃(x:Val),(((r.n.k=x.k/\r.n.n=x.n/\r.n.t=x.t/\True)/\True)/\True)/\∃(X:Val),(((r.name.k=X.k/\r.name.n=X.n/\r.name.t=X.t/\True)/\True)/\True)/\r.id=r.id/\x.k=r.n.k/\x.n=r.n.n/\x.t=r.n.t/\X.k=r.name.k/\X.n=r.name.n/\X.t=r.name.t/\True):
  V4 prog 20 [.agg r.ts] (.agg r.ts):=
 U5 (gC b64 gN) func20 Z3 h
def c0q:GK 20 c7S:=gk func20<|λ(r:Rw) _=>c6J r ⟨r.n,Z8,r.name,Z8⟩
def c2F{e:Eng}{tx ta:Int}{r:Rw}(h:M7 e):M7 (V0 e tx ta r).1:=by
 obtain⟨d1,d2,d⟩:=c5l e tx ta r;cases o:(R3 e&&O2 r) with
 |false=>rw[d1 o];exact b83
 |true=>
  cases hi:V6 ta 1 3 with
  |false=>rw[d2 o hi];exact b83
  |true=>rw[d o hi];exact a8S (c4Q o hi h)
def a73(e:Eng)(tx ta:Int)(r:Rw)(h:b01 e)(hr:c12 r):V4 prog 5 [.agg e.ts,Ji tx,Ji ta,.agg r.ts] (.bool true):=by
 have W:C3 1048576:=⟨Z9,Z9⟩
 refine U5 (gC b9y (gC c0R (gC b8v (gC c0q (gC b6f (gC c2Y (gC b6N (gC a6T (gC a89 gN))))))))) func5 Z3 (α:=let pg:=(false=true);∃(x:(Eng×Int)),(((L0 e x.1)/\1048576=x.2/\True)/\C3 x.2/\b01 x.1)/\bd (rem x.2 (l0 x.1)<0) (true=true) (∃(u:(Rw×Int)),(((r.id=u.1.id/\r.n.k=u.1.n.k/\r.n.n=u.1.n.n/\r.n.t=u.1.n.t/\r.name.k=u.1.name.k/\r.name.n=u.1.name.n/\r.name.t=u.1.name.t/\True)/\rem x.2 (l0 x.1)=u.2/\True)/\C3 u.2/\c12 u.1)/\bd (rem u.2 (rP u.1)<0) (true=true) (∃(x:Eng),(((L0 e x)/\True)/\M7 x)/\∃(q:Rw),(((r.id=q.id/\r.n.k=q.n.k/\r.n.n=q.n.n/\r.n.t=q.n.t/\r.name.k=q.name.k/\r.name.n=q.name.n/\r.name.t=q.name.t/\True)/\True)/\True)/\∃(i:(Eng×Nat×Int×Int×Rw)),let pn:=i.2.2.2.2;let y:=(V0 i.1 i.2.2.1 i.2.2.2.1 pn);(((b44 x i.1)/\tx=i.2.2.1/\ta=i.2.2.2.1/\(q.id=pn.id/\q.n.k=pn.n.k/\q.n.n=pn.n.n/\q.n.t=pn.n.t/\q.name.k=pn.name.k/\q.name.n=pn.name.n/\q.name.t=pn.name.t/\True)/\True)/\(vF (x.s.fr.length) (i.2.1) x i.1)/\iZ i.1/\M7 i.1/\RwB pn)/\∃(x:Eng),(((L0 e x)/\True)/\M7 x)/\∃(o:Rw),(((r.id=o.id/\r.n.k=o.n.k/\r.n.n=o.n.n/\r.n.t=o.n.t/\r.name.k=o.name.k/\r.name.n=o.name.n/\r.name.t=o.name.t/\True)/\True)/\True)/\∃(X:b7F.ι),let p:=(V0 X.1 X.2.1 X.2.2.1 X.2.2.2);let qk:=p.1.X.length;let pz:=p.1.lk;let c:=p.1.s;let qj:=c.d.C.length;let qi:=c.d.E.length;let qb:=c.d.keep.length;((LeG x)/\((oM x X.1)/\tx=X.2.1/\ta=X.2.2.1/\(o.id=X.2.2.2.id/\o.n.k=X.2.2.2.n.k/\o.n.n=X.2.2.2.n.n/\o.n.t=X.2.2.2.n.t/\o.name.k=X.2.2.2.name.k/\o.name.n=X.2.2.2.name.n/\o.name.t=X.2.2.2.name.t/\True)/\True)/\iZ X.1/\M7 X.1/\RwB X.2.2.2)/\∃(I:Eng),((LeG p.1)/\((oM p.1 I)/\(L0 y.1 I)/\True)/\M7 I)/\br (false||p.2 !=y.2) pg (∃(F:Eng),(((L0 e F)/\True)/\M7 F)/\∃(J:Eng),(((LeG x)/\LeG F)/\((oM x J)/\(oM F J)/\True)/\M7 J)/\br false pg (∃(v:(Eng×Nat×Nat)),let qa:=((↑(oQ v.1 v.2.1):Int)<0);(((b44 x v.1)/\1=(v.2.1:Int)/\True)/\(vF (x.s.fr.length) (v.2.2) x v.1)/\KBg v.1 v.2.1)/\∃(x:Eng),(decide qa=false->(LeG p.1)/\((oM p.1 x)/\(L0 y.1 x)/\True)/\M7 x)/\br (decide qa||false||p.2 !=y.2) pg (∃(x:(Eng×Nat×Nat)),let qd:=x.2.1;let qc:=x.1.s;let pm:=(yR qc.d.E.length qd);let pj:=(I4 x.1.X.length (K7 x.1.s qd));let pb:=(g8 qc.L.length (O4 qc.d qd));let pa:=(vH qc.d.C.length (qd+qc.d.E.length));let b:=(M3 x.1.lk.H.length (K7 x.1.s qd+2*x.1.X.length));let a:=(vE qc.d.keep.length (qd+qc.d.E.length+2*qc.d.C.length));let m:=(B1 x.1.lk.W.length (K7 x.1.s qd+2*x.1.X.length+4*x.1.lk.H.length));let w:=(vO qc.fr.length (N5 qc.fr) (O4 qc.d qd+10*qc.L.length));let z:=(Le (0+qi) pm.length/\Le (0+qj) pa.length/\Le (0+qb) a.length/\Le (0+c.L.length) pb.length/\Le (0+c.fr.length) w.length/\Le (0+qk) pj.length/\Le (0+pz.H.length) b.length/\Le (0+pz.W.length) m.length);(((b44 p.1 x.1)/\1=(qd:Int)/\True)/\(vF (0) (x.2.2) p.1 x.1)/\KBg x.1 qd)/\∃(f:(Eng×Nat)),let qg:=(↑(oQ f.1 f.2):Int);let pv:=(I4 f.1.X.length (K7 f.1.s f.2));let ps:=f.1.s;let qe:=(yR ps.d.E.length f.2);let px:=(g8 ps.L.length (O4 ps.d f.2));let pq:=(vH ps.d.C.length (f.2+ps.d.E.length));let po:=(M3 f.1.lk.H.length (K7 f.1.s f.2+2*f.1.X.length));let ph:=(vE ps.d.keep.length (f.2+ps.d.E.length+2*ps.d.C.length));let pe:=(B1 f.1.lk.W.length (K7 f.1.s f.2+2*f.1.X.length+4*f.1.lk.H.length));let pc:=(vO ps.fr.length (N5 ps.fr) (O4 ps.d f.2+10*ps.L.length));(z/\(((qi=qe.length/\Z7 c.d.E.length (Z5 pm) (Z5 qe))/\(qj=pq.length/\Z7 c.d.C.length (Z1 pa) (Z1 pq))/\c.d.A=ps.d.A/\(qb=ph.length/\Z7 c.d.keep.length (Y9 a) (Y9 ph))/\c.ep=ps.ep/\(c.L.length=px.length/\Z7 c.L.length (Y1 pb) (Y1 px))/\c.S=ps.S/\(c.fr.length=pc.length/\Z7 c.fr.length (a1C (Y5 w)) (V9 pc))/\c.J=ps.J/\p.1.up=f.1.up/\(qk=pv.length/\Z7 p.1.X.length (X2 pj) (X2 pv))/\(pz.H.length=po.length/\Z7 pz.H.length (Z2 b) (Z2 po))/\(pz.W.length=pe.length/\Z7 pz.W.length (Y7 m) (Y7 pe))/\p.1.N=f.1.N/\True)/\1=(f.2:Int)/\True)/\KBg f.1 f.2)/\bd (qg<0) pg (br (qg !=(↑(oQ x.1 qd):Int)) pg (∃(A:Eng),(((L0 e A)/\True)/\M7 A)/\∃(l:Rw),(((r.id=l.id/\r.n.k=l.n.k/\r.n.n=l.n.n/\r.n.t=l.n.t/\r.name.k=l.name.k/\r.name.n=l.name.n/\r.name.t=l.name.t/\True)/\True)/\True)/\∃(j:b7F.ι),let pu:=j.2.2.2;let pk:=(V0 j.1 j.2.1 j.2.2.1 pu);((LeG A)/\((oM A j.1)/\tx=j.2.1/\ta=j.2.2.1/\(l.id=pu.id/\l.n.k=pu.n.k/\l.n.n=pu.n.n/\l.n.t=pu.n.t/\l.name.k=pu.name.k/\l.name.n=pu.name.n/\l.name.t=pu.name.t/\True)/\True)/\iZ j.1/\M7 j.1/\RwB pu)/\∃(B:Eng),((LeG pk.1)/\((oM pk.1 B)/\(L0 y.1 B)/\True)/\M7 B)/\br (false||pk.2 !=y.2) pg (∃(g:(Eng×Nat)),let qh:=(↑(oQ g.1 g.2):Int);let pw:=(I4 g.1.X.length (K7 g.1.s g.2));let pt:=g.1.s;let qf:=(yR pt.d.E.length g.2);let py:=(g8 pt.L.length (O4 pt.d g.2));let pr:=(vH pt.d.C.length (g.2+pt.d.E.length));let pp:=(M3 g.1.lk.H.length (K7 g.1.s g.2+2*g.1.X.length));let pi:=(vE pt.d.keep.length (g.2+pt.d.E.length+2*pt.d.C.length));let pf:=(B1 g.1.lk.W.length (K7 g.1.s g.2+2*g.1.X.length+4*g.1.lk.H.length));let pd:=(vO pt.fr.length (N5 pt.fr) (O4 pt.d g.2+10*pt.L.length));(z/\(((qi=qf.length/\Z7 c.d.E.length (Z5 pm) (Z5 qf))/\(qj=pr.length/\Z7 c.d.C.length (Z1 pa) (Z1 pr))/\c.d.A=pt.d.A/\(qb=pi.length/\Z7 c.d.keep.length (Y9 a) (Y9 pi))/\c.ep=pt.ep/\(c.L.length=py.length/\Z7 c.L.length (Y1 pb) (Y1 py))/\c.S=pt.S/\(c.fr.length=pd.length/\Z7 c.fr.length (a1C (Y5 w)) (V9 pd))/\c.J=pt.J/\p.1.up=g.1.up/\(qk=pw.length/\Z7 p.1.X.length (X2 pj) (X2 pw))/\(pz.H.length=pp.length/\Z7 pz.H.length (Z2 b) (Z2 pp))/\(pz.W.length=pf.length/\Z7 pz.W.length (Y7 m) (Y7 pf))/\p.1.N=g.1.N/\True)/\1=(g.2:Int)/\True)/\KBg g.1 g.2)/\bd (qh<0) pg (br (qh !=(↑(oQ x.1 qd):Int)) pg (true=true))))))))))) ⟨(e,1048576),⟨Z8,W,h⟩,λ_=>rfl,λU=>?_⟩
 have Z:=b0Z (r9 U);obtain⟨V,Y⟩:=yF (b:=rP r) (r9 U) W rfl;dsimp only at Z V Y ⊢;obtain⟨C,Q⟩:=b1Z (e:=e) Z9
 refine⟨(r,rem 1048576 (l0 e)),⟨Z8,Y,hr⟩,λ_=>rfl,λL=>?_⟩
 dsimp only at L;rw[V] at L;have aa:=b0Z (r9 L);have R:RwB r:=by
  have:rP r=r.n.t.length+r.name.t.length:=rfl;exact⟨by unfold cB L9;omega,by unfold cB L9;omega⟩
 have M:M7 (V0 e tx ta r).1:=c2F C;have hk:KBg e 1:=⟨C,U9 _,Z9⟩
 have O:KBg (V0 e tx ta r).1 1:=⟨M,U9 _,Z9⟩
 have N:∀n:Nat,decide ((n:Int)<0)=false:=λn=>tQ Z9
 exact⟨e,⟨Z8,C⟩,r,Z8,(e,e.s.fr.length,tx,ta,r),⟨Z8,Z8,Q,C,R⟩,e,⟨Z8,C⟩,r,Z8,(e,tx,ta,r),⟨Z8,Z8,Q,C,R⟩,
  (V0 e tx ta r).1,⟨⟨uA _,uA _,uA _,uA _,uA _,uA _,uA _,uA _⟩,⟨⟨⟨rfl,X6 _ _⟩,⟨rfl,X6 _ _⟩,rfl,⟨rfl,X6 _ _⟩,rfl,⟨rfl,X6 _ _⟩,rfl,⟨rfl,λ_ _=>rfl⟩,rfl,rfl,Z8,Z8,Z8,rfl,Z6⟩,Z8⟩,M⟩,λz=>by simp at z,λ_=>⟨e,⟨Z8,C⟩,e,⟨Z8,Z8,C⟩,λz=>z,λ_=>
  ⟨(e,1,e.s.fr.length),⟨⟨⟨⟨rfl,rfl⟩,⟨rfl,rfl⟩,rfl,⟨rfl,rfl⟩,rfl,⟨rfl,rfl⟩,rfl,⟨rfl,rfl⟩,rfl,rfl,⟨rfl,rfl⟩,⟨rfl,rfl⟩,⟨rfl,rfl⟩,rfl,Z6⟩,rfl,Z6⟩,⟨⟨rfl,X6 _ _⟩,⟨rfl,X6 _ _⟩,⟨rfl,X6 _ _⟩,⟨rfl,X6 _ _⟩,⟨rfl,rfl,mU _⟩,⟨rfl,X6 _ _⟩,⟨rfl,X6 _ _⟩,⟨rfl,X6 _ _⟩,Z6⟩,hk⟩,(V0 e tx ta r).1,λ_=>⟨Z8,Z8,M⟩,λz=>by rw[N] at z;simp at z,λ_=>
  ⟨((V0 e tx ta r).1,1,0),⟨⟨⟨⟨rfl,rfl⟩,⟨rfl,rfl⟩,rfl,⟨rfl,rfl⟩,rfl,⟨rfl,rfl⟩,rfl,⟨rfl,rfl⟩,rfl,rfl,⟨rfl,rfl⟩,⟨rfl,rfl⟩,⟨rfl,rfl⟩,rfl,Z6⟩,rfl,Z6⟩,⟨⟨rfl,X6 _ _⟩,⟨rfl,X6 _ _⟩,⟨rfl,X6 _ _⟩,⟨rfl,X6 _ _⟩,⟨rfl,rfl,mU _⟩,⟨rfl,X6 _ _⟩,⟨rfl,X6 _ _⟩,⟨rfl,X6 _ _⟩,Z6⟩,O⟩,((V0 e tx ta r).1,1),⟨⟨leM _ _,leM _ _,leM _ _,leM _ _,leM _ _,leM _ _,leM _ _,leM _ _⟩,⟨⟨⟨(O3 _ _).symm,X6 _ _⟩,⟨(O3 _ _).symm,X6 _ _⟩,rfl,⟨(O3 _ _).symm,X6 _ _⟩,rfl,⟨(O3 _ _).symm,X6 _ _⟩,rfl,⟨(O3 _ _).symm,λ_ _=>rfl⟩,rfl,rfl,⟨(O3 _ _).symm,X6 _ _⟩,⟨(O3 _ _).symm,X6 _ _⟩,⟨(O3 _ _).symm,X6 _ _⟩,Z8⟩,Z8⟩,O⟩,λz=>by rw[N] at z;simp at z,λ_=>⟨λz=>by simp at z,λ_=>
  ⟨e,⟨⟨vR _,Z6⟩,C⟩,r,⟨⟨⟨rfl,rfl,rfl,rfl,rfl,rfl,rfl,Z6⟩,Z6⟩,Z6⟩,(e,tx,ta,r),⟨⟨uA _,uA _,uA _,uA _,uA _,uA _,uA _,uA _⟩,⟨⟨⟨rfl,X6 _ _⟩,⟨rfl,X6 _ _⟩,rfl,⟨rfl,X6 _ _⟩,rfl,⟨rfl,X6 _ _⟩,rfl,⟨rfl,λ_ _=>rfl⟩,rfl,rfl,Z8,Z8,Z8,rfl,Z6⟩,Z8⟩,Q,C,R⟩,(V0 e tx ta r).1,⟨Z8,Z8,M⟩,λz=>by simp at z,λ_=>⟨((V0 e tx ta r).1,1),⟨⟨leM _ _,leM _ _,leM _ _,leM _ _,leM _ _,leM _ _,leM _ _,leM _ _⟩,⟨⟨⟨(O3 _ _).symm,X6 _ _⟩,⟨(O3 _ _).symm,X6 _ _⟩,rfl,⟨(O3 _ _).symm,X6 _ _⟩,rfl,⟨(O3 _ _).symm,X6 _ _⟩,rfl,⟨(O3 _ _).symm,λ_ _=>rfl⟩,rfl,rfl,⟨(O3 _ _).symm,X6 _ _⟩,⟨(O3 _ _).symm,X6 _ _⟩,⟨(O3 _ _).symm,X6 _ _⟩,Z8⟩,Z8⟩,O⟩,λz=>by rw[N] at z;simp at z,λ_=>⟨λz=>by simp at z,λ_=>rfl⟩⟩⟩⟩⟩⟩⟩⟩
end
end Go.Proofs.YtpdnnhnfongoeaaGreat
