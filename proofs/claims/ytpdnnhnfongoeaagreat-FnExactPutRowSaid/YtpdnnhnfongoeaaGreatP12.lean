/- A part of the proof. -/
import Derived.Test.YtpdnnhnfongoeaaGreatV1e
import Derived.Test.YtpdnnhnfongoeaaGreatU1
namespace Go.Proofs.YtpdnnhnfongoeaaGreat
set_option maxRecDepth 100000
open Go.SS Go.Proofs.Tryz
noncomputable section
def j6(e:Eng)(k:Nat)(g s:Int)(b a:Bz)(v:Nat):(Eng×Nat)×Int:=if(e.s.L.length:Int)+1+nJ e+1>60 then((e,v),7) else
 if(k7 e k (J1 g s b a)).2=true then(((k7 e k (J1 g s b a)).1,P7 (E7 e k (J1 g s b a)).s g.toNat v),0) else((j7 (k7 e k (J1 g s b a)).1,0),15)
def fS(e:Eng)(k:Nat)(ta:Int)(r:Rw)(gone:Bool)(f:Sto×Plc×Bool)(v:Nat):(Eng×Nat)×Int:=
 if f.2.2=true then
  (if f.2.1.a<0 then(if gone=true then((R6 e f.1,v),5) else if f.2.1.c<0 then((R6 e f.1,v),12) else j6 (R6 e f.1) k f.2.1.c f.2.1.d [] (sV ta r) v)
  else if(Y3 f.1 f.2.1.a.toNat).2.2=true then j6 (R6 e (v5 e f.2.1 f.1).1) k f.2.1.a f.2.1.b (v5 e f.2.1 f.1).2 (if gone=true then[] else sV ta r) (P7 f.1 f.2.1.a.toNat v)
  else((j7 (R6 e (v5 e f.2.1 f.1).1),0),15))
 else((j7 (R6 e f.1),0),15)
def oM(e:Eng)(k:Nat)(tx ta:Int)(r:Rw)(gone:Bool):(Eng×Nat)×Int:=
 if(zB e k ta 2 r.id 4).2=0 then fS (zB e k ta 2 r.id 4).1.1 k ta r gone (T1 (zB e k ta 2 r.id 4).1.1 tx ta r.id 8) (sO (zB e k ta 2 r.id 4).1.1 tx ta r.id 8) else zB e k ta 2 r.id 4
def nP(e:Eng)(tx ta:Int)(r:Rw)(gone:Bool):(Eng×Nat)×Int:=if(G3 e tx).2=0 then oM e (G3 e tx).1.toNat tx ta r gone else((e,0),(G3 e tx).2)
def a2Z(e:Eng)(ta:Int)(r:Rw):Prop:=R2 e=true/\M6 e/\RwK r/\(1<=ta/\ta<=3)/\(sV ta r).length<=30
def b57:Con:=.reff ⟨Eng×Int×Int×Rw×Bool,λx=>[.ref 0 0 0,Ji x.2.1,Ji x.2.2.1,.agg x.2.2.2.1.ts,.bool x.2.2.2.2],λx=>x.1.bx 0,λx=>Ji (nP x.1 x.2.1 x.2.2.1 x.2.2.2.1 x.2.2.2.2).2,λx=>(nP x.1 x.2.1 x.2.2.1 x.2.2.2.1 x.2.2.2.2).1.1.nx (nP x.1 x.2.1 x.2.2.1 x.2.2.2.1 x.2.2.2.2).1.2,λx=>a2Z x.1 x.2.2.1 x.2.2.2.1⟩
theorem yM{a:Bool}(h:(!a)=false):a=true:=by cases a with|false=>cases h|true=>rfl
theorem a1O{e:Eng}{k:Nat}{g s:Int}{b a:Bz}{v:Nat}(h:(e.s.L.length:Int)+1+nJ e+1>60):j6 e k g s b a v=((e,v),7):=if_pos h
theorem dL{e:Eng}{k:Nat}{g s:Int}{b a:Bz}{v:Nat}(h:¬ (e.s.L.length:Int)+1+nJ e+1>60)(u:(k7 e k (J1 g s b a)).2=true):j6 e k g s b a v=(((k7 e k (J1 g s b a)).1,P7 (E7 e k (J1 g s b a)).s g.toNat v),0):=by
 unfold j6;rw[if_neg h,if_pos u]
theorem eO{e:Eng}{k:Nat}{g s:Int}{b a:Bz}{v:Nat}(h:¬ (e.s.L.length:Int)+1+nJ e+1>60)(u:(k7 e k (J1 g s b a)).2=false):j6 e k g s b a v=((j7 (k7 e k (J1 g s b a)).1,0),15):=by
 unfold j6;rw[if_neg h,if_neg (by rw[u];simp)]
theorem a3A{e:Eng}{k:Nat}{tx g s:Int}{b a:Bz}(h:XI e k tx)(i:0<=g/\g<=7)(f:0<=s/\s<=3)(B:b.length<=30)(A:a.length<=30):
  AddB e tx k (J1 g s b a)/\mB (E7 e k (J1 g s b a)).s (P8 e.s (B7 e k (J1 g s b a)))/\((k7 e k (J1 g s b a)).2=false->F8 (k7 e k (J1 g s b a)).1.s.d/\(k7 e k (J1 g s b a)).1.s.d.E.length=69)/\((k7 e k (J1 g s b a)).2=true->SI (k7 e k (J1 g s b a)).1.s):=by
 have R:a3F e k (J1 g s b a):=by
  unfold a3F J1;dsimp only;exact⟨Z9,Z9,Z9,Z9,λ_=>rfl,λh=>absurd rfl h,Z9,Z9,i.1,i.2,f.1,f.2,B,A,λh=>Z9,h.u.u.lt⟩
 obtain⟨n,O⟩:=a4q h.u.u R;have j:SI (E7 e k (J1 g s b a)).s:=a8A h.u.u.si O h.u.u.rm;have l:mB (E7 e k (J1 g s b a)).s (P8 e.s (B7 e k (J1 g s b a))):=⟨j.iv,i.1,by show g<8;omega,f.1,by show s<4;omega⟩
 have L:=sF e k (J1 g s b a);exact⟨n,l,λU=>b7W j U,λU=>(b6m j l ⟨by show 0<=((e.s.L.length:Int)+1);omega,by show((e.s.L.length:Int)+1)<=_;omega⟩ A U).1⟩
theorem c9w{e:Eng}{tx ta:Int}{r:Rw}{gone:Bool}(h:¬ (zR e tx ta 2 r.id 4).2=0):nP e tx ta r gone=zR e tx ta 2 r.id 4:=by
 unfold nP;by_cases d:(G3 e tx).2=0
 ·have f:zR e tx ta 2 r.id 4=zB e (G3 e tx).1.toNat ta 2 r.id 4:=if_pos d;rw[f] at h;rw[if_pos d,f];exact if_neg h
 ·rw[if_neg d,a7u d]
theorem c9l{e:Eng}{tx ta:Int}{r:Rw}{gone:Bool}{k:Nat}(f:(G3 e tx).2=0)(d:(G3 e tx).1=k)(h:(zB e k ta 2 r.id 4).2=0):nP e tx ta r gone=fS (zB e k ta 2 r.id 4).1.1 k ta r gone (T1 (zB e k ta 2 r.id 4).1.1 tx ta r.id 8) (sO (zB e k ta 2 r.id 4).1.1 tx ta r.id 8):=by
 unfold nP oM;rw[if_pos f,d,D8,if_pos h]
set_option maxHeartbeats 4000000 in
theorem b3v:GK 55 b57:=gk func55<|by
 rintro⟨e,tx,ta,r,gone⟩ ⟨O,M,hr,C,hb⟩;dsimp only at O M hr C hb ⊢;generalize hZ:nP e tx ta r gone=Z;refine C4 (gC b2s (gC c3C (gC a98 (gC b8w (gC lG (gC lH (gC gT (gC a5Z (gC a5g gN))))))))) func55 Z3 aW (α:=let pv:=(0=Z.2/\True);let pj:=(15=Z.2/\True);let m:=(0=0/\0=0);let pu:=(m/\True);∃(x:(Eng×Int×Int×Int×Int×Int)),let qe:=x.2.2.2;let v:=(zR x.1 x.2.1 x.2.2.1 qe.1 qe.2.1 qe.2.2);((m/\tx=x.2.1/\ta=x.2.2.1/\2=qe.1/\r.id=qe.2.1/\4=qe.2.2/\True)/\(iM (0) (0) e x.1)/\R2 x.1=true/\M6 x.1)/\br (v.2 !=0) ((v.2=Z.2/\True)/\lO (v.1.2) (Z.1.2) v.1.1 Z.1.1) (∃(X:(Eng×Int×Int×Int)),let z:=(q8 X.1 X.2.1 X.2.2.1 X.2.2.2);let w:=z.1.snd.fst;let y:=z.1.fst;let qt:=y.fst;((m/\tx=X.2.1/\ta=X.2.2.1/\r.id=X.2.2.2/\True)/\(iM (v.1.2) (0) v.1.1 X.1)/\SI X.1.s/\wQ X.1)/\br (! z.1.snd.snd) (∃(x:(Eng×Nat)),(pu/\(iM (y.snd) (x.2) y.fst x.1)/\F8 x.1.s.d)/\pj/\lO (0) (Z.1.2) (j7 x.1) Z.1.1) (∃(x:(Int×Rw)),((ta=x.1/\(r.id=x.2.id/\r.n.k=x.2.n.k/\r.n.n=x.2.n.n/\r.n.t=x.2.n.t/\r.name.k=x.2.name.k/\r.name.n=x.2.name.n/\r.name.t=x.2.name.t/\True)/\True)/\RwK x.2/\1<=x.1/\x.1<=3)/\bd (w.a≥(0:Int)) ((∃(o:(Sto×Nat×Nat)),let f:=(P7 o.1 o.2.1 o.2.2);let u:=(Y3 o.1 o.2.1);let qf:=u.1.fr.length;let pk:=(u.1.fr.getD u.2.1 dz);((m/\w.a=(o.2.1:Int)/\True)/\(LnS (y.snd) (o.2.2) qt.s o.1)/\iS o.1 o.2.1/\u.2.2=true)/\br false (∃(x:(Eng×Nat)),(pu/\(iM f (x.2) {y.fst with s:=u.1} x.1)/\F8 x.1.s.d)/\pj/\lO (0) (Z.1.2) (j7 x.1) Z.1.1) (Lt u.2.1 qf/\W9 w.b pk.pg.sl.length/\PfB f f u.2.1 u.1.fr.length w.b.toNat pk.pg.sl.length/\∃(j:(Eng×Int)),((Le (0+u.1.d.E.length) u.1.d.E.length/\Le (0+u.1.d.C.length) u.1.d.C.length/\Le (0+u.1.d.keep.length) u.1.d.keep.length/\Le (0+u.1.L.length) u.1.L.length/\Le (0+qf) qf/\Le (0+qt.X.length) qt.X.length/\Le (0+qt.lk.H.length) qt.lk.H.length/\Le (0+qt.lk.W.length) qt.lk.W.length)/\((oL {y.fst with s:=u.1} j.1)/\2=j.2/\True)/\wQ j.1/\m4 j.2)/\br (!decide ((j.1.s.L.length:Int)+(↑(nJ j.1):Int)+j.2<=60)) ((7=Z.2/\True)/\lO f (Z.1.2) {y.fst with s:=u.1} Z.1.1) (br gone (∃(x:(Eng×Int×Rec×Nat×Nat)),let qk:=x.1.s;let qg:=x.2.2.2;let pm:=(x.1.X.getD qg.1 dz);let pe:=x.2.2.1;let pq:=(qk.L++[P8 x.1.s (B7 x.1 qg.1 pe)]);let pa:=(x.1.X.set qg.1 (Txn.mk pm.id ((qk.L.length:Int)+1)));((m/\tx=x.2.1/\(0=pe.e/\0=pe.l/\0=pe.t/\2=pe.k/\0=pe.p/\0=pe.n/\w.a=pe.g/\w.b=pe.s/\pk.pg.sl.getD w.b.toNat []=pe.b/\[]=pe.a/\True)/\True)/\(iM f (qg.2) {y.fst with s:=u.1} x.1)/\AddB x.1 x.2.1 qg.1 pe)/\∃(i:(Sto×Rec×Nat)),let pw:=i.2.1;let qp:=(T9 i.1 pw);let qa:=(P7 i.1 pw.g.toNat i.2.2);((m/\(qk.ep=pw.e/\(qk.L.length:Int)+1=pw.l/\pm.id=pw.t/\pe.k=pw.k/\pm.Z=pw.p/\pe.n=pw.n/\pe.g=pw.g/\pe.s=pw.s/\pe.b=pw.b/\pe.a=pw.a/\True)/\True)/\(nN {x.1.s with L:=pq} i.1/\(Z0 Z5 qk.d.E i.1.d.E)/\(Z0 Z1 qk.d.C i.1.d.C)/\(Z0 Y9 qk.d.keep i.1.d.keep)/\(Z0 Y0 pq i.1.L)/\(qg.2=i.2.2/\qk.fr.length=i.1.fr.length/\V2 qk.fr.length (Y5 qk.fr) (Y5 i.1.fr))/\True)/\mB i.1 pw)/\br (! qp.2) (∃(q:(Eng×Nat)),(pu/\(iM qa (q.2) {x.1 with s:=qp.1,X:=pa} q.1)/\F8 q.1.s.d)/\pj/\lO (0) (Z.1.2) (j7 q.1) Z.1.1) (pv/\lO qa (Z.1.2) {x.1 with s:=qp.1,X:=pa} Z.1.1)) (∃(i:(Eng×Int×Rec×Nat×Nat)),let qm:=i.1.s;let qh:=i.2.2.2;let pn:=(i.1.X.getD qh.1 dz);let pf:=i.2.2.1;let pr:=(qm.L++[P8 i.1.s (B7 i.1 qh.1 pf)]);let pb:=(i.1.X.set qh.1 (Txn.mk pn.id ((qm.L.length:Int)+1)));((m/\tx=i.2.1/\(0=pf.e/\0=pf.l/\0=pf.t/\2=pf.k/\0=pf.p/\0=pf.n/\w.a=pf.g/\w.b=pf.s/\pk.pg.sl.getD w.b.toNat []=pf.b/\sV x.1 x.2=pf.a/\True)/\True)/\(iM f (qh.2) {y.fst with s:=u.1} i.1)/\AddB i.1 i.2.1 qh.1 pf)/\∃(x:(Sto×Rec×Nat)),let px:=x.2.1;let qq:=(T9 x.1 px);let qb:=(P7 x.1 px.g.toNat x.2.2);((m/\(qm.ep=px.e/\(qm.L.length:Int)+1=px.l/\pn.id=px.t/\pf.k=px.k/\pn.Z=px.p/\pf.n=px.n/\pf.g=px.g/\pf.s=px.s/\pf.b=px.b/\pf.a=px.a/\True)/\True)/\(nN {i.1.s with L:=pr} x.1/\(Z0 Z5 qm.d.E x.1.d.E)/\(Z0 Z1 qm.d.C x.1.d.C)/\(Z0 Y9 qm.d.keep x.1.d.keep)/\(Z0 Y0 pr x.1.L)/\(qh.2=x.2.2/\qm.fr.length=x.1.fr.length/\V2 qm.fr.length (Y5 qm.fr) (Y5 x.1.fr))/\True)/\mB x.1 px)/\br (! qq.2) (∃(q:(Eng×Nat)),(pu/\(iM qb (q.2) {i.1 with s:=qq.1,X:=pb} q.1)/\F8 q.1.s.d)/\pj/\lO (0) (Z.1.2) (j7 q.1) Z.1.1) (pv/\lO qb (Z.1.2) {i.1 with s:=qq.1,X:=pb} Z.1.1)))))∨∃(x:(Sto×Nat×Nat)),((m/\w.a=(x.2.1:Int)/\True)/\(LnS (y.snd) (x.2.2) qt.s x.1)/\iS x.1 x.2.1/\(Y3 x.1 x.2.1).2.2=false)/\br true (∃(o:(Eng×Nat)),(pu/\(iM (P7 x.1 x.2.1 x.2.2) (o.2) {y.fst with s:=(Y3 x.1 x.2.1).1} o.1)/\F8 o.1.s.d)/\pj/\lO (0) (Z.1.2) (j7 o.1) Z.1.1) False) (br gone ((5=Z.2/\True)/\lO (y.snd) (Z.1.2) y.fst Z.1.1) (bd (w.c<0) ((12=Z.2/\True)/\lO (y.snd) (Z.1.2) y.fst Z.1.1) (∃(o:(Eng×Int)),((LeG qt)/\((oL y.fst o.1)/\2=o.2/\True)/\wQ o.1/\m4 o.2)/\br (!decide ((o.1.s.L.length:Int)+(↑(nJ o.1):Int)+o.2<=60)) ((7=Z.2/\True)/\lO (y.snd) (Z.1.2) y.fst Z.1.1) (br gone (∃(x:(Eng×Int×Rec×Nat×Nat)),let qn:=x.1.s;let qi:=x.2.2.2;let po:=(x.1.X.getD qi.1 dz);let ph:=x.2.2.1;let ps:=(qn.L++[P8 x.1.s (B7 x.1 qi.1 ph)]);let pc:=(x.1.X.set qi.1 (Txn.mk po.id ((qn.L.length:Int)+1)));((m/\tx=x.2.1/\(0=ph.e/\0=ph.l/\0=ph.t/\2=ph.k/\0=ph.p/\0=ph.n/\w.c=ph.g/\w.d=ph.s/\[]=ph.b/\[]=ph.a/\True)/\True)/\(iM (y.snd) (qi.2) y.fst x.1)/\AddB x.1 x.2.1 qi.1 ph)/\∃(j:(Sto×Rec×Nat)),let py:=j.2.1;let qr:=(T9 j.1 py);let qc:=(P7 j.1 py.g.toNat j.2.2);((m/\(qn.ep=py.e/\(qn.L.length:Int)+1=py.l/\po.id=py.t/\ph.k=py.k/\po.Z=py.p/\ph.n=py.n/\ph.g=py.g/\ph.s=py.s/\ph.b=py.b/\ph.a=py.a/\True)/\True)/\(nN {x.1.s with L:=ps} j.1/\(Z0 Z5 qn.d.E j.1.d.E)/\(Z0 Z1 qn.d.C j.1.d.C)/\(Z0 Y9 qn.d.keep j.1.d.keep)/\(Z0 Y0 ps j.1.L)/\(qi.2=j.2.2/\qn.fr.length=j.1.fr.length/\V2 qn.fr.length (Y5 qn.fr) (Y5 j.1.fr))/\True)/\mB j.1 py)/\br (! qr.2) (∃(i:(Eng×Nat)),(pu/\(iM qc (i.2) {x.1 with s:=qr.1,X:=pc} i.1)/\F8 i.1.s.d)/\pj/\lO (0) (Z.1.2) (j7 i.1) Z.1.1) (pv/\lO qc (Z.1.2) {x.1 with s:=qr.1,X:=pc} Z.1.1)) (∃(j:(Eng×Int×Rec×Nat×Nat)),let qo:=j.1.s;let qj:=j.2.2.2;let pp:=(j.1.X.getD qj.1 dz);let pi:=j.2.2.1;let pt:=(qo.L++[P8 j.1.s (B7 j.1 qj.1 pi)]);let pd:=(j.1.X.set qj.1 (Txn.mk pp.id ((qo.L.length:Int)+1)));((m/\tx=j.2.1/\(0=pi.e/\0=pi.l/\0=pi.t/\2=pi.k/\0=pi.p/\0=pi.n/\w.c=pi.g/\w.d=pi.s/\[]=pi.b/\sV x.1 x.2=pi.a/\True)/\True)/\(iM (y.snd) (qj.2) y.fst j.1)/\AddB j.1 j.2.1 qj.1 pi)/\∃(x:(Sto×Rec×Nat)),let pz:=x.2.1;let qs:=(T9 x.1 pz);let qd:=(P7 x.1 pz.g.toNat x.2.2);((m/\(qo.ep=pz.e/\(qo.L.length:Int)+1=pz.l/\pp.id=pz.t/\pi.k=pz.k/\pp.Z=pz.p/\pi.n=pz.n/\pi.g=pz.g/\pi.s=pz.s/\pi.b=pz.b/\pi.a=pz.a/\True)/\True)/\(nN {j.1.s with L:=pt} x.1/\(Z0 Z5 qo.d.E x.1.d.E)/\(Z0 Z1 qo.d.C x.1.d.C)/\(Z0 Y9 qo.d.keep x.1.d.keep)/\(Z0 Y0 pt x.1.L)/\(qj.2=x.2.2/\qo.fr.length=x.1.fr.length/\V2 qo.fr.length (Y5 qo.fr) (Y5 x.1.fr))/\True)/\mB x.1 pz)/\br (! qs.2) (∃(i:(Eng×Nat)),(pu/\(iM qd (i.2) {j.1 with s:=qs.1,X:=pd} i.1)/\F8 i.1.s.d)/\pj/\lO (0) (Z.1.2) (j7 i.1) Z.1.1) (pv/\lO qd (Z.1.2) {j.1 with s:=qs.1,X:=pd} Z.1.1))))))))) ⟨(e,tx,ta,2,r.id,4),⟨Z7,Z7,O,M⟩,λQ=>?_,λQ=>?_⟩
 ·rw[←hZ,c9w (b1h Q)];exact Z7
 have Q:(zR e tx ta 2 r.id 4).2=0:=a3o Q;have A:(G3 e tx).2=0:=by
  by_cases h:(G3 e tx).2=0
  ·exact h
  ·rw[a7u h] at Q;exact absurd Q h
 obtain⟨U,k,J,hk,hi,ha⟩:=a1F A;have Y:=b0x O M U ha hk hi;have B:zR e tx ta 2 r.id 4=zB e k ta 2 r.id 4:=a2k A J;rw[B] at Q;have z:=sI (sI Y ta (-1) 2) ta r.id 4;rw[c9l A J Q] at hZ;dsimp only;rw[B];rw[c47 Q] at hZ ⊢;dsimp only at hZ ⊢;generalize pD (pD e k ta (-1) 2) k ta r.id 4=e2 at*;clear B Q O M Y U hk hi ha J A;have hF:=b4e z.u.u.si tx ta r.id 8 (U9 _);refine⟨(e2,tx,ta,r.id),⟨Z7,Z7,z.u.u.si,z.nd⟩,?_⟩
 dsimp only;rw[(q8 e2 tx ta r.id).2];dsimp only;generalize T1 e2 tx ta r.id 8=f at*;generalize sO e2 tx ta r.id 8=v at*;obtain⟨fs,fp,fl⟩:=f;obtain⟨hlv,N,hpl⟩:=hF;dsimp only at hlv N hpl hZ ⊢;refine⟨λhd=>?_,λhl=>⟨(ta,r),⟨Z7,hr,C.1,C.2⟩,λha=>?_,λha=>?_⟩⟩
 ·have hd:fl=false:=uQ hd;have eZ:Z=((j7 (R6 e2 fs),0),15):=by rw[←hZ,hd];rfl
  rw[eZ];exact⟨(R6 e2 fs,v),⟨Z7,Z7,(N hd).1⟩,Z7⟩
 ·have hl:fl=true:=yM hl;subst hl;obtain⟨s1,s2,s3⟩:=hlv rfl;have ha:fp.a≥0:=G5 ha;have hna:¬fp.a<0:=by omega
  have aa:=hpl.1.resolve_left Z9
  have L:(nU fp).b=fp.b:=if_neg hna;have eW:Z=if(Y3 fs fp.a.toNat).2.2=true then j6 (R6 e2 (v5 e2 fp fs).1) k fp.a fp.b (v5 e2 fp fs).2 (if gone=true then[] else sV ta r) (P7 fs fp.a.toNat v) else((j7 (R6 e2 (v5 e2 fp fs).1),0),15):=by
   rw[←hZ];unfold fS;dsimp only;rw[if_pos rfl,if_neg hna]
  clear hZ;rw[L];have F:(nU fp).a=fp.a:=rfl;rw[F];cases U:(Y3 fs fp.a.toNat).2.2 with
  |false=>
   rw[if_neg (by rw[U];simp)] at eW
   refine .inr ⟨(fs,fp.a.toNat,v),⟨⟨Z7,X5,Z6⟩,Z7,⟨s1.iv,X5⟩,U⟩,λ_=>?_,λW=>(by cases W)⟩
   rw[eW];exact⟨(R6 e2 (v5 e2 fp fs).1,P7 fs fp.a.toNat v),⟨Z7,Z7,(rM s1 U).1⟩,Z7⟩
  |true=>
   rw[if_pos U] at eW;obtain⟨j1,j2⟩:=rQ s1 (show fp.a.toNat<8 by omega) U
   obtain⟨f2,_,_,R,ps⟩:=xH s1.iv (show fp.a.toNat<8 by omega) U
   have hX3:XI (R6 e2 (v5 e2 fp fs).1) k tx:=a7q z j1 (j2.trans s2) (cK.trans s3);have hsl:(v5 e2 fp fs).2.length<=30:=ps fp.b.toNat (by rw[R];omega)
   refine .inl ⟨(fs,fp.a.toNat,v),⟨⟨Z7,X5,Z6⟩,Z7,⟨s1.iv,X5⟩,U⟩,λW=>(by cases W),λ_=>⟨f2,⟨Z9,by dsimp only;rw[R];omega⟩,⟨rfl,f2,by dsimp only;rw[R];omega⟩,(R6 e2 (v5 e2 fp fs).1,2),⟨⟨tZ _,tZ _,tZ _,tZ _,tZ _,tZ _,tZ _,tZ _⟩,⟨⟨⟨rfl,X6 _ _⟩,⟨rfl,X6 _ _⟩,rfl,⟨rfl,X6 _ _⟩,rfl,⟨rfl,X6 _ _⟩,rfl,⟨rfl,λ_ _=>rfl⟩,rfl,rfl,Z7,Z7,Z7,rfl,Z6⟩,Z7⟩,hX3.nd,b7h⟩,λhc=>?_,λhc=>⟨λhg=>?_,λhg=>?_⟩⟩⟩
   ·have hc:=r8 (uQ hc);rw[eW,a1O (by dsimp only at hc;omega)]
    exact Z7
   ·have hc:=G5 (yM hc);dsimp only at hc;rw[if_pos hg] at eW;obtain⟨hA,hP,hD,_⟩:=a3A hX3 (g:=fp.a) (s:=fp.b) (b:=(v5 e2 fp fs).2) (a:=[]) Z9 Z9 hsl (N7 _)
    have hZ:=eW;exact⟨((R6 e2 (v5 e2 fp fs).1),tx,J1 fp.a fp.b (v5 e2 fp fs).2 [],k,(P7 fs fp.a.toNat v)),⟨Z7,Z7,hA⟩,((E7 (R6 e2 (v5 e2 fp fs).1) k (J1 fp.a fp.b (v5 e2 fp fs).2 [])).s,P8 (R6 e2 (v5 e2 fp fs).1).s (B7 (R6 e2 (v5 e2 fp fs).1) k (J1 fp.a fp.b (v5 e2 fp fs).2 [])),(P7 fs fp.a.toNat v)),⟨Z7,Z7,hP⟩,λU=>(by
      have U:(k7 (R6 e2 (v5 e2 fp fs).1) k (J1 fp.a fp.b (v5 e2 fp fs).2 [])).2=false:=uQ U;rw[hZ,eO Z9 U]
      exact⟨((k7 (R6 e2 (v5 e2 fp fs).1) k (J1 fp.a fp.b (v5 e2 fp fs).2 [])).1,P7 (E7 (R6 e2 (v5 e2 fp fs).1) k (J1 fp.a fp.b (v5 e2 fp fs).2 [])).s fp.a.toNat (P7 fs fp.a.toNat v)),⟨Z7,Z7,(hD U).1⟩,Z7⟩),λU=>(by
      have U:(k7 (R6 e2 (v5 e2 fp fs).1) k (J1 fp.a fp.b (v5 e2 fp fs).2 [])).2=true:=yM U;rw[hZ,dL Z9 U]
      exact Z7)⟩
   ·have hc:=G5 (yM hc);dsimp only at hc;rw[if_neg (by rw[hg];simp)] at eW
    obtain⟨hA,hP,hD,_⟩:=a3A hX3 (g:=fp.a) (s:=fp.b) (b:=(v5 e2 fp fs).2) (a:=sV ta r) Z9 Z9 hsl hb
    have hZ:=eW;exact⟨((R6 e2 (v5 e2 fp fs).1),tx,J1 fp.a fp.b (v5 e2 fp fs).2 (sV ta r),k,(P7 fs fp.a.toNat v)),⟨Z7,Z7,hA⟩,((E7 (R6 e2 (v5 e2 fp fs).1) k (J1 fp.a fp.b (v5 e2 fp fs).2 (sV ta r))).s,P8 (R6 e2 (v5 e2 fp fs).1).s (B7 (R6 e2 (v5 e2 fp fs).1) k (J1 fp.a fp.b (v5 e2 fp fs).2 (sV ta r))),(P7 fs fp.a.toNat v)),⟨Z7,Z7,hP⟩,λU=>(by
      have U:(k7 (R6 e2 (v5 e2 fp fs).1) k (J1 fp.a fp.b (v5 e2 fp fs).2 (sV ta r))).2=false:=uQ U;rw[hZ,eO Z9 U]
      exact⟨((k7 (R6 e2 (v5 e2 fp fs).1) k (J1 fp.a fp.b (v5 e2 fp fs).2 (sV ta r))).1,P7 (E7 (R6 e2 (v5 e2 fp fs).1) k (J1 fp.a fp.b (v5 e2 fp fs).2 (sV ta r))).s fp.a.toNat (P7 fs fp.a.toNat v)),⟨Z7,Z7,(hD U).1⟩,Z7⟩),λU=>(by
      have U:(k7 (R6 e2 (v5 e2 fp fs).1) k (J1 fp.a fp.b (v5 e2 fp fs).2 (sV ta r))).2=true:=yM U;rw[hZ,dL Z9 U]
      exact Z7)⟩
 ·have hl:fl=true:=yM hl;subst hl;obtain⟨s1,s2,s3⟩:=hlv rfl;have ha:fp.a<0:=by have:¬fp.a≥0:=r8 ha;omega
  have hX3:XI (R6 e2 fs) k tx:=a7q z s1 s2 s3;have eW:Z=if gone=true then((R6 e2 fs,v),5) else if fp.c<0 then((R6 e2 fs,v),12) else j6 (R6 e2 fs) k fp.c fp.d [] (sV ta r) v:=by
   rw[←hZ];unfold fS;dsimp only;rw[if_pos rfl,if_pos ha]
  clear hZ;refine⟨λhg=>?_,λhg=>⟨λhc=>?_,λhc=>?_⟩⟩
  ·rw[eW,if_pos hg];exact Z7
  ·have hc:fp.c<0:=G5 hc;rw[eW,if_neg (by rw[hg];simp),if_pos hc]
   exact Z7
  ·have hnc:¬fp.c<0:=r8 hc;have hpc:=hpl.2.resolve_left Z9
   have L:(nU fp).d=fp.d:=if_neg hnc;have I:(nU fp).c=fp.c:=rfl;rw[if_neg (by rw[hg];simp),if_neg hnc] at eW
   rw[L,I];refine⟨(R6 e2 fs,2),⟨Z7,Z7,hX3.nd,b7h⟩,λhc=>?_,λhc=>⟨λV=>?_,λ_=>?_⟩⟩
   ·have hc:=r8 (uQ hc);rw[eW,a1O (by dsimp only at hc;omega)]
    exact Z7
   ·rw[V] at hg;cases hg
   ·have hc:=G5 (yM hc);dsimp only at hc;obtain⟨hA,hP,hD,_⟩:=a3A hX3 (g:=fp.c) (s:=fp.d) (b:=[]) (a:=sV ta r) Z9 Z9 (N7 _) hb
    have hZ:=eW;exact⟨((R6 e2 fs),tx,J1 fp.c fp.d [] (sV ta r),k,v),⟨Z7,Z7,hA⟩,((E7 (R6 e2 fs) k (J1 fp.c fp.d [] (sV ta r))).s,P8 (R6 e2 fs).s (B7 (R6 e2 fs) k (J1 fp.c fp.d [] (sV ta r))),v),⟨Z7,Z7,hP⟩,λU=>(by
      have U:(k7 (R6 e2 fs) k (J1 fp.c fp.d [] (sV ta r))).2=false:=uQ U;rw[hZ,eO Z9 U]
      exact⟨((k7 (R6 e2 fs) k (J1 fp.c fp.d [] (sV ta r))).1,P7 (E7 (R6 e2 fs) k (J1 fp.c fp.d [] (sV ta r))).s fp.c.toNat v),⟨Z7,Z7,(hD U).1⟩,Z7⟩),λU=>(by
      have U:(k7 (R6 e2 fs) k (J1 fp.c fp.d [] (sV ta r))).2=true:=yM U;rw[hZ,dL Z9 U]
      exact Z7)⟩
theorem b08{e:Eng}{k:Nat}{tx:Int}(h:XI e k tx):M6 e:=c45 h.u.u
theorem b52{e:Eng}{k:Nat}{tx ta row mo:Int}(h:XI e k tx):M6 (R3 e k ta row mo).1:=by
 have t:=sI h ta row mo;unfold R3;split
 ·exact c7v (b1d t.u (Int.le_refl 0))
 ·exact b08 t
theorem b8l{e:Eng}{k:Nat}{tx g s:Int}{b a:Bz}{v:Nat}(h:XI e k tx)(i:0<=g/\g<=7)(d:0<=s/\s<=3)(B:b.length<=30)(A:a.length<=30):M6 (j6 e k g s b a v).1.1:=by
 obtain⟨_,_,j,n⟩:=a3A h i d B A;by_cases C:(e.s.L.length:Int)+1+nJ e+1>60
 ·rw[a1O C];exact b08 h
 ·cases hu:(k7 e k (J1 g s b a)).2 with
  |false=>
   rw[eO C hu];exact a1g (j hu).1
  |true=>
   rw[dL C hu];have l:=h.u.u.t10;have f:=h.u.u.lk;have L:(k7 e k (J1 g s b a)).1.X.length=e.X.length:=zV;exact⟨(n hu).iv.sm,X5,by show e.lk.H.length<=_;omega,by show e.lk.W.length<=_;omega⟩
theorem a8T{e:Eng}{tx ta:Int}{r:Rw}{gone:Bool}(h:a2Z e ta r):M6 (nP e tx ta r gone).1.1:=by
 obtain⟨ho,hm,R,t,B⟩:=h;by_cases hk0:(G3 e tx).2=0
 ·obtain⟨hu,k,e1,hk,hi,ha⟩:=a1F hk0;have hX:=b0x ho hm hu ha hk hi;by_cases hq:(zB e k ta 2 r.id 4).2=0
  ·rw[c9l hk0 e1 hq,c47 hq];have hX2:=sI (sI hX ta (-1) 2) ta r.id 4;dsimp only;generalize pD (pD e k ta (-1) 2) k ta r.id 4=e2 at*;have hF:=b4e hX2.u.u.si tx ta r.id 8 (U9 _);generalize T1 e2 tx ta r.id 8=f at*;generalize sO e2 tx ta r.id 8=v at*;obtain⟨fs,fp,fl⟩:=f;obtain⟨hlv,hdn,hpl⟩:=hF;dsimp only at hlv hdn hpl;unfold fS;dsimp only;cases fl with
   |false=>
    rw[if_neg W7]
    exact a1g (hdn rfl).1
   |true=>
    obtain⟨s1,i,j⟩:=hlv rfl;have d:XI (R6 e2 fs) k tx:=a7q hX2 s1 i j;rw[if_pos rfl];split
    ·split
     ·exact b08 d
     ·split
      ·exact b08 d
      ·rename_i _ _ hnc;have hpc:=hpl.2.resolve_left Z9
       exact b8l d Z9 Z9 (N7 _) B
    ·rename_i hna;have hpa:=hpl.1.resolve_left Z9
     split
     ·rename_i hu;obtain⟨j1,j2⟩:=rQ s1 (show fp.a.toNat<8 by omega) hu
      obtain⟨F,_,_,n,ps⟩:=xH s1.iv (show fp.a.toNat<8 by omega) hu
      have g:XI (R6 e2 (v5 e2 fp fs).1) k tx:=a7q hX2 j1 (j2.trans i) (cK.trans j);have l:(v5 e2 fp fs).2.length<=30:=ps fp.b.toNat (by rw[n];omega)
      refine b8l g Z9 Z9 l ?_
      split
      ·exact N7 _
      ·exact B
     ·rename_i hu;exact a1g (rM s1 a5T).1
  ·rw[c9w (by rw[a2k hk0 e1];exact hq),a2k hk0 e1]
   unfold zB;split
   ·rename_i o;rw[a0n o];exact b52 (sI hX ta (-1) 2)
   ·exact b52 hX
 ·have e1:nP e tx ta r gone=((e,0),(G3 e tx).2):=if_neg hk0;rw[e1];exact hm
def i5(o a b:Bool):Int:=if(o&&a)=true then(if b=true then 0 else 4) else 1
def c3m:Con:=.rel ⟨Eng×Bool×Bool,λx=>[.agg x.1.ts,.bool x.2.1,.bool x.2.2],λx=>Ji (i5 (R2 x.1) x.2.1 x.2.2),λx=>iZ x.1⟩
theorem b6J:GK 39 c3m:=gk func39<|by
 rintro⟨e,a,b⟩ h;refine U5 (gC a1R gN) func39 Z3 (α:=∃(x:tS.ι),(((K9 e x)/\True)/\iZ x)/\br (!R2 x|| !a) (1=i5 (R2 e) a b) (br (!b) (4=i5 (R2 e) a b) (0=i5 (R2 e) a b))) ⟨e,⟨Z7,h⟩,λhq=>?_,λhq=>⟨λB=>?_,λB=>?_⟩⟩
 ·unfold i5;rw[if_neg (by intro h2;rw[J4] at h2;rw[h2.1,h2.2] at hq;cases hq)]
 ·have h2:(R2 e&&a)=true:=by cases ho:R2 e<;>cases a<;>rw[ho] at hq<;>first|rfl|cases hq
  unfold i5;rw[if_pos h2,if_neg (by cases b<;>simp at B ⊢)]
 ·have h2:(R2 e&&a)=true:=by cases ho:R2 e<;>cases a<;>rw[ho] at hq<;>first|rfl|cases hq
  unfold i5;rw[if_pos h2,if_pos (by cases b<;>simp at B ⊢)]
theorem c8v{o a b:Bool}(h:(i5 o a b !=0)=false):o=true/\a=true/\b=true:=by
 unfold i5 at h;cases o<;>cases a<;>cases b<;>first|exact⟨rfl,rfl,rfl⟩|cases h
theorem c8C{o a b:Bool}(h:(i5 o a b !=0)=true):¬i5 o a b=0:=w9
theorem c3d{t:Bz}(h:xL t=true):t.length<=10:=by
 unfold xL at h;rw[J4] at h;exact G5 h.2
theorem b9G{v:Val}(h:O9 v=true):jA v/\(m6 v).length<=12/\(v.k≠2->(m6 v).length<=5):=by
 unfold O9 at h;unfold jA m6;by_cases h0:v.k=0
 ·rw[if_pos h0,J4] at h;have ht:v.t=[]:=by simpa using h.2
  rw[if_pos h0,ht];exact⟨⟨N7 _,.inl h0⟩,M3,λ_=>M3⟩
 ·rw[if_neg h0] at h ⊢;by_cases h1:v.k=1
  ·rw[if_pos h1,J4] at h;have ht:v.t=[]:=by simpa using h.2
   have r:=pP h.1;rw[if_pos h1,ht];have d:(2::z6 (v.n+1000000000).toNat).length=5:=rfl;rw[d];exact⟨⟨N7 _,.inr (.inl ⟨h1,r⟩)⟩,M3,λ_=>M3⟩
  ·rw[if_neg h1,J4,J4] at h;rw[if_neg h1];have h2:v.k=2:=by simpa using h.1.1
   have l:=c3d h.2;refine⟨⟨Z9,.inr (.inr h2)⟩,?_,λN=>absurd h2 N⟩
   simp only[List.length_cons,F7,List.length_nil];omega
theorem c8V{r:Rw}(h:O1 r=true):RwK r/\∀ta:Int,(sV ta r).length<=30:=by
 unfold O1 at h;rw[J4,J4,J4,J4] at h;obtain⟨⟨⟨⟨g,d⟩,i⟩,e⟩,j⟩:=h;obtain⟨A,_,f⟩:=b9G d;obtain⟨B,b2,_⟩:=b9G e;have hi:=pP g;refine⟨⟨A,B,hi⟩,λta=>?_⟩
 have l:=f (by simpa using i)
 unfold sV;have C:(m6 ⟨1,ta,[]⟩).length=5:=rfl;have c2:(m6 ⟨1,r.id,[]⟩).length=5:=rfl;rw[F7,F7,F7];omega
def V0(e:Eng)(tx ta:Int)(r:Rw):Eng×Int:=if i5 (R2 e) (O1 r) (V6 ta 1 3)=0 then((nP e tx ta r false).1.1,(nP e tx ta r false).2) else(uT,i5 (R2 e) (O1 r) (V6 ta 1 3))
def b7H:Rle:=⟨Eng×Int×Int×Rw,λx=>[.agg x.1.ts,Ji x.2.1,Ji x.2.2.1,.agg x.2.2.2.ts],λ_=>[],λx=>.tup [.agg ((V0 x.1 x.2.1 x.2.2.1 x.2.2.2).1.tm 0),Ji (V0 x.1 x.2.1 x.2.2.1 x.2.2.2).2],λx=>(V0 x.1 x.2.1 x.2.2.1 x.2.2.2).1.hp 0,λx=>iZ x.1/\M6 x.1/\RwB x.2.2.2⟩
def c7W:Con:=.rmk b7H
theorem b6O{e:Eng}{tx ta:Int}{r:Rw}(h:¬i5 (R2 e) (O1 r) (V6 ta 1 3)=0):V0 e tx ta r=(uT,i5 (R2 e) (O1 r) (V6 ta 1 3)):=if_neg h
theorem c5e{e:Eng}{tx ta:Int}{r:Rw}(h:i5 (R2 e) (O1 r) (V6 ta 1 3)=0):V0 e tx ta r=((nP e tx ta r false).1.1,(nP e tx ta r false).2):=if_pos h
theorem c4L{e:Eng}{ta:Int}{r:Rw}(h:(i5 (R2 e) (O1 r) (V6 ta 1 3) !=0)=false)(g:M6 e):a2Z e ta r:=by
 obtain⟨o,R,t⟩:=c8v h;obtain⟨d,f⟩:=c8V R;exact⟨o,g,d,pP t,f ta⟩
theorem c20:GK 21 c7W:=gk func21<|by
 rintro⟨e,tx,ta,r⟩ ⟨j,h2,h⟩;dsimp only at j h2 h;refine⟨C4 (gC a5K (gC fI (gC b6J (gC b8Z (gC b3v gN))))) func21 Z3 [[.nilS 0 [0,0] 0 1,.nilS 0 [0,1] 0 2,.nilS 0 [0,3] 0 1,.nilS 0 [0,5] 0 10,.nilS 0 [0,7] 0 5,.nilS 0 [0,10] 0 2,.nilS 0 [0,11] 0 4,.nilS 0 [0,12] 0 2,.fav 0 [0,7],.vl 0 [0,0],.vl 0 [0,1],.vl 0 [0,3],.vl 0 [0,5],.vl 0 [0,7],.vl 0 [0,10],.vl 0 [0,11],.vl 0 [0,12]],[.vl 0 [0,0],.vl 0 [0,1],.vl 0 [0,3],.vl 0 [0,5],.vl 0 [0,7],.vl 0 [0,10],.vl 0 [0,11],.vl 0 [0,12]]] (α:=let p:=(V0 e tx ta r);let v:=p.1.lk;let u:=p.1.s;∃(x:rA.ι),let q:=(λ(x:Nat)=>[]);(((r.id=x.id/\r.n.k=x.n.k/\r.n.n=x.n.n/\r.n.t=x.n.t/\r.name.k=x.name.k/\r.name.n=x.name.n/\r.name.t=x.name.t/\True)/\True)/\RwB x)/\∃(g:Int),((ta=g/\True)/\True)/\∃(f:(Eng×Bool×Bool)),(((K9 e f.1)/\O1 x=f.2.1/\V6 g (1:Int) 3=f.2.2/\True)/\iZ f.1)/\br (i5 (R2 f.1) f.2.1 f.2.2 !=(0:Int)) (((((0=0/\0=u.d.E.length)/\(0=0/\0=u.d.C.length)/\false=u.d.A/\(0=0/\0=u.d.keep.length)/\0=u.ep/\(0=0/\0=u.L.length)/\0=u.S/\(0=0/\0=u.fr.length)/\0=u.J/\false=p.1.up/\(0=0/\0=p.1.X.length)/\(0=0/\0=v.H.length)/\(0=0/\0=v.W.length)/\0=p.1.N/\True)/\i5 (R2 f.1) f.2.1 f.2.2=p.2/\True)/\True)/\(0=u.d.E.length/\Z8 0 q (Z5 u.d.E))/\(0=u.d.C.length/\Z8 0 q (Z1 u.d.C))/\(0=u.d.keep.length/\Z8 0 q (Y9 u.d.keep))/\(0=u.L.length/\Z8 0 q (Y0 u.L))/\(0=0/\0=u.fr.length/\V2 0 q (Y5 u.fr))/\(0=p.1.X.length/\Z8 0 q (X2 p.1.X))/\(0=v.H.length/\Z8 0 q (Z2 v.H))/\(0=v.W.length/\Z8 0 q (Y7 v.W))/\True) (∃(x:Eng),(((K9 e x)/\True)/\M6 x)/\∃(X:(Eng×Int×Int×Rw×Bool)),let z:=(nP X.1 X.2.1 X.2.2.1 X.2.2.2.1 X.2.2.2.2);(((0=0/\0=0)/\tx=X.2.1/\ta=X.2.2.1/\(r.id=X.2.2.2.1.id/\r.n.k=X.2.2.2.1.n.k/\r.n.n=X.2.2.2.1.n.n/\r.n.t=X.2.2.2.1.n.t/\r.name.k=X.2.2.2.1.name.k/\r.name.n=X.2.2.2.1.name.n/\r.name.t=X.2.2.2.1.name.t/\True)/\false=X.2.2.2.2/\True)/\(iM (0) (0) x X.1)/\a2Z X.1 X.2.2.1 X.2.2.2.1)/\∃(x:Eng),((LeG z.1.1)/\((oL z.1.1 x)/\True)/\M6 x)/\(((b45 x p.1)/\z.2=p.2/\True)/\True)/\vE (0) (0) x p.1)) ⟨r,⟨Z7,h⟩,ta,Z7,(e,O1 r,V6 ta 1 3),⟨Z7,j⟩,λhq=>?_,λhq=>?_⟩,rfl,kG _ 0⟩
 ·rw[b6O (c8C hq)];exact⟨Z7,⟨rfl,P0⟩,⟨rfl,P0⟩,⟨rfl,P0⟩,⟨rfl,P0⟩,⟨rfl,rfl,λi hi=>absurd hi (D0 _)⟩,⟨rfl,P0⟩,⟨rfl,P0⟩,⟨rfl,P0⟩,Z6⟩
 ·have hC:=c4L hq h2;have h0:i5 (R2 e) (O1 r) (V6 ta 1 3)=0:=by simpa using hq
  rw[c5e h0];exact⟨e,⟨Z7,h2⟩,(e,tx,ta,r,false),⟨Z7,Z7,hC⟩,(nP e tx ta r false).1.1,⟨Z7,Z7,a8T hC⟩,Z7⟩
def stX(e:Eng)(no sl:Nat):{y:Eng×Bz×Bool//y=(R6 e (Y3 e.s no).1,if(Y3 e.s no).2.2=true then((Y3 e.s no).1.fr.getD (Y3 e.s no).2.1 dz).pg.sl.getD sl [] else[],(Y3 e.s no).2.2)}:=Classical.choice ⟨⟨_,rfl⟩⟩
def c5A:Con:=.rel ⟨Eng×Nat×Nat,λx=>[.agg x.1.ts,Ji x.2.1,Ji x.2.2],λx=>.tup [.agg (stX x.1 x.2.1 x.2.2).1.1.ts,.str (stX x.1 x.2.1 x.2.2).1.2.1,.bool (stX x.1 x.2.1 x.2.2).1.2.2],λx=>SI x.1.s/\x.2.1<8/\x.2.2<4⟩
theorem c1U:GK 81 c5A:=gk func81<|by
 rintro⟨e,no,sl⟩ ⟨h,n,d⟩;dsimp only at h n d;show V4 _ _ _ (.tup [.agg (stX e no sl).1.1.ts,.str (stX e no sl).1.2.1,.bool (stX e no sl).1.2.2]);have hy:=(stX e no sl).2;generalize (stX e no sl).1=y at*;refine U5 (gC rP gN) func81 Z3 (α:=∃(x:(Sto×Nat)),let p:=(Y3 x.1 x.2);let q:=(p.1.fr.getD (↑p.2.1:Int).toNat dz);(((yR e.s x.1)/\(no:Int)=(x.2:Int)/\True)/\iS x.1 x.2)/\br (! p.2.2) ((K9 {e with s:=p.1} y.1)/\[]=y.2.1/\false=y.2.2/\True) (W9 (↑p.2.1:Int) p.1.fr.length/\W9 (sl:Int) q.pg.sl.length/\(K9 {e with s:=p.1} y.1)/\q.pg.sl.getD (sl:Int).toNat []=y.2.1/\true=y.2.2/\True)) ⟨(e.s,no),⟨Z7,h.iv,n⟩,λhu=>?_,λhu=>?_⟩
 ·have hu:(Y3 e.s no).2.2=false:=uQ hu;rw[hy,hu,if_neg W7]
  exact Z7
 ·have hu:(Y3 e.s no).2.2=true:=yM hu;obtain⟨f,_,_,g,ps⟩:=xH h.iv n hu;dsimp only;rw[hy,D8,hu,if_pos rfl];exact⟨Y6 f,Y6 (by rw[g];exact d),Z7⟩
def c6O:Con:=.rel ⟨Eng×Nat×Int×Int×Bz×Bz×Int×Nat,λx=>[.agg x.1.ts,Ji x.2.1,Ji x.2.2.1,Ji x.2.2.2.1,.str x.2.2.2.2.1,.str x.2.2.2.2.2.1],λx=>.tup [.agg (j6 x.1 x.2.1 x.2.2.1 x.2.2.2.1 x.2.2.2.2.1 x.2.2.2.2.2.1 x.2.2.2.2.2.2.2).1.1.ts,Ji (j6 x.1 x.2.1 x.2.2.1 x.2.2.2.1 x.2.2.2.2.1 x.2.2.2.2.2.1 x.2.2.2.2.2.2.2).2],
 λx=>XI x.1 x.2.1 x.2.2.2.2.2.2.1/\(0<=x.2.2.1/\x.2.2.1<=7)/\(0<=x.2.2.2.1/\x.2.2.2.1<=3)/\x.2.2.2.2.1.length<=30/\x.2.2.2.2.2.1.length<=30⟩
theorem c7C(e:Eng)(k:Nat)(g s:Int)(b a:Bz)(Z:Eng×Int)(h:
let z:=(e.s.L.length:Int);  Ri (z+1)/\∃(x:Eng),let v:=(↑(nJ x):Int);(((K9 e x)/\True)/\wQ x)/\Ri (z+1+v)/\Ri (z+1+v+1)/\bd (z+1+v+1>60) ((K9 e Z.1)/\7=Z.2/\True) (∃(x:(Eng×Nat×Rec)),let y:=x.1.s.L.length;let u:=x.2.2;let r:=(x.1.X.set x.2.1 (Txn.mk (x.1.X.getD x.2.1 dz).id ((y:Int)+1)));(((K9 e x.1)/\(k:Int)=(x.2.1:Int)/\(0=u.e/\0=u.l/\0=u.t/\2=u.k/\0=u.p/\0=u.n/\g=u.g/\s=u.s/\b=u.b/\a=u.a/\True)/\True)/\x.2.1<x.1.X.length/\x.1.X.length<=1000/\y<=1000)/\∃(X:(Sto×Int)),let q:=(T9 X.1 (X.1.L.getD (X.2-1).toNat dz));(((yR {x.1.s with L:=(x.1.s.L++[P8 x.1.s (B7 x.1 x.2.1 u)])} X.1)/\(↑(y+1):Int)=X.2/\True)/\SInv X.1/\1<=X.2/\X.2<=(X.1.L.length:Int))/\br (! q.2) (∃(f:(Eng×Dsk)),(((K9 {x.1 with s:=q.1,X:=r} f.1)/\(zI q.1.d f.2)/\True)/\F8 f.2/\f.2.E.length=69)/\(K9 (j7 (sdE f.1 f.2)) Z.1)/\15=Z.2/\True) ((K9 {x.1 with s:=q.1,X:=r} Z.1)/\0=Z.2/\True))):
  V4 prog 203 [.agg e.ts,Ji k,Ji g,Ji s,.str b,.str a] (.tup [.agg Z.1.ts,Ji Z.2]):=
 U5 (gC pS (gC a1H (gC jL (gC oF gN)))) func203 Z3 h
theorem c5B{e:Eng}(h:wQ e):nJ e<=620:=by
 have d:=dF e.s.L e.X e.X.length;have f:=h.2.1;show tQ e.s.L e.X e.X.length<=620;omega
theorem c31:GK 203 c6O:=gk func203<|by
 rintro⟨e,k,g,s,b,a,tx,v⟩ ⟨h,i,f,B,A⟩;dsimp only at h i f B A ⊢;have M:=h.u.u.rm;have n:=h.u.u.t10;have l:=c5B h.nd;obtain⟨o,hP,j,_⟩:=a3A h i f B A;refine c7C e k g s b a ((j6 e k g s b a v).1.1,(j6 e k g s b a v).2) ⟨Z4 Z9,e,⟨Z7,h.nd⟩,Z4 Z9,Z4 Z9,λhq=>?_,λhq=>?_⟩
 ·rw[a1O (G5 hq)];exact Z7
 ·have hq:=r8 hq;have e2:=c2Q e k (J1 g s b a);refine⟨(e,k,J1 g s b a),⟨Z7,h.u.u.lt,X5,X5⟩,((E7 e k (J1 g s b a)).s,((e.s.L.length+1:Nat):Int)),⟨⟨jR (E7 e k (J1 g s b a)).s,Z7⟩,hP.1,X5,by rw[sF];exact Int.le_refl _⟩,λhu=>?_,λhu=>?_⟩
  ·dsimp only at hu ⊢;rw[e2] at hu ⊢;have hu:(k7 e k (J1 g s b a)).2=false:=uQ hu;rw[eO hq hu];exact⟨((k7 e k (J1 g s b a)).1,(k7 e k (J1 g s b a)).1.s.d),⟨⟨vQ (k7 e k (J1 g s b a)).1,Z7⟩,(j hu).1,(j hu).2⟩,Z7⟩
  ·dsimp only at hu ⊢;rw[e2] at hu ⊢;have hu:(k7 e k (J1 g s b a)).2=true:=yM hu;rw[dL hq hu];exact⟨vQ (k7 e k (J1 g s b a)).1,Z7⟩
def WrB(e:Eng)(k:Nat)(ta:Int)(r:Rw)(tx:Int):Prop:=XI e k tx/\(1<=ta/\ta<=3)/\RwK r/\(sV ta r).length<=30
def c5Z:Con:=.rel ⟨Eng×Nat×Int×Rw×Bool×Int,λx=>[.agg x.1.ts,Ji x.2.1,Ji x.2.2.1,.agg x.2.2.2.1.ts,.bool x.2.2.2.2.1],λx=>.tup [.agg (oM x.1 x.2.1 x.2.2.2.2.2 x.2.2.1 x.2.2.2.1 x.2.2.2.2.1).1.1.ts,Ji (oM x.1 x.2.1 x.2.2.2.2.2 x.2.2.1 x.2.2.2.1 x.2.2.2.2.1).2],
 λx=>WrB x.1 x.2.1 x.2.2.1 x.2.2.2.1 x.2.2.2.2.2⟩
theorem c8U{e:Eng}{k:Nat}{tx ta:Int}{r:Rw}{gone:Bool}(h:¬ (R3 e k ta (-1) 2).2=0):oM e k tx ta r gone=(((R3 e k ta (-1) 2).1,uY e k ta (-1) 2),(R3 e k ta (-1) 2).2):=by
 have d:zB e k ta 2 r.id 4=(((R3 e k ta (-1) 2).1,uY e k ta (-1) 2),(R3 e k ta (-1) 2).2):=if_neg h;unfold oM;rw[d,if_neg h]
theorem c8m{e d:Eng}{k:Nat}{tx ta:Int}{r:Rw}{gone:Bool}(h:R3 e k ta (-1) 2=(d,0))(f:¬ (R3 d k ta r.id 4).2=0):oM e k tx ta r gone=(((R3 d k ta r.id 4).1,uY d k ta r.id 4),(R3 d k ta r.id 4).2):=by
 have g:zB e k ta 2 r.id 4=(((R3 d k ta r.id 4).1,uY d k ta r.id 4),(R3 d k ta r.id 4).2):=by
  unfold zB;rw[if_pos (by rw[h]),h]
 unfold oM;rw[g,if_neg f]
theorem c8K{e f d:Eng}{k:Nat}{tx ta:Int}{r:Rw}{gone:Bool}(h:R3 e k ta (-1) 2=(f,0))(i:R3 f k ta r.id 4=(d,0)):oM e k tx ta r gone=fS d k ta r gone (T1 d tx ta r.id 8) (sO d tx ta r.id 8):=by
 have g:zB e k ta 2 r.id 4=((d,uY f k ta r.id 4),0):=by
  unfold zB;rw[if_pos (by rw[h]),h]
  dsimp only;rw[i]
 unfold oM;rw[g,if_pos rfl]
theorem c1v:GK 116 c5Z:=gk func116<|by
 rintro⟨e,k,ta,r,gone,tx⟩ ⟨h,o,R,B⟩;dsimp only at h o R B ⊢;generalize hZ:oM e k tx ta r gone=Z;have ab:=R.2.2;refine U5 (gC c1S (gC c2m (gC a2X (gC c31 (gC c1U (gC oF gN)))))) func116 Z3 (α:=∃(x:(Eng×Nat×Int×Int×Int×Int)),let pd:=x.2.2.2;let u:=(R3 x.1 x.2.1 x.2.2.1 pd.1 pd.2.1);(((K9 e x.1)/\(k:Int)=(x.2.1:Int)/\ta=x.2.2.1/\(-1:Int)=pd.1/\2=pd.2.1/\True)/\XI x.1 x.2.1 pd.2.2)/\br (u.2 !=0) ((K9 u.1 Z.1.1)/\u.2=Z.2/\True) (∃(i:(Eng×Nat×Int×Int×Int×Int)),let pe:=i.2.2.2;let q:=(R3 i.1 i.2.1 i.2.2.1 pe.1 pe.2.1);(((K9 u.1 i.1)/\(k:Int)=(i.2.1:Int)/\ta=i.2.2.1/\r.id=pe.1/\4=pe.2.1/\True)/\XI i.1 i.2.1 pe.2.2)/\br (q.2 !=0) ((K9 q.1 Z.1.1)/\q.2=Z.2/\True) (W9 (k:Int) q.1.X.length/\∃(x:(Eng×Int×Int×Int)),let p:=(rV x.1 x.2.1 x.2.2.1 x.2.2.2);let pf:=p.val;let pa:=(K9 pf.fst Z.1.1);let z:=pf.snd.fst;(((K9 q.1 x.1)/\(q.1.X.getD (k:Int).toNat dz).id=x.2.1/\ta=x.2.2.1/\r.id=x.2.2.2/\True)/\SI x.1.s/\wQ x.1)/\br (! pf.snd.snd) (∃(j:(Eng×Dsk)),(((K9 pf.fst j.1)/\(zI pf.fst.s.d j.2)/\True)/\F8 j.2/\j.2.E.length=69)/\(K9 (j7 (sdE j.1 j.2)) Z.1.1)/\15=Z.2/\True) (∃(j:(Int×Rw)),((ta=j.1/\(r.id=j.2.id/\r.n.k=j.2.n.k/\r.n.n=j.2.n.n/\r.n.t=j.2.n.t/\r.name.k=j.2.name.k/\r.name.n=j.2.name.n/\r.name.t=j.2.name.t/\True)/\True)/\RwK j.2/\1<=j.1/\j.1<=3)/\br gone (W9 (0:Int) 4/\bd (z.a<0) (br gone (pa/\5=Z.2/\True) (W9 (2:Int) 4/\bd (z.c<0) (pa/\12=Z.2/\True) (W9 (2:Int) 4/\W9 (3:Int) 4/\∃(X:(Eng×Nat×Int×Int×Bz×Bz×Int×Nat)),let f:=(j6 X.1 X.2.1 X.2.2.1 X.2.2.2.1 X.2.2.2.2.1 X.2.2.2.2.2.1 X.2.2.2.2.2.2.2);(((K9 pf.fst X.1)/\(k:Int)=(X.2.1:Int)/\z.c=X.2.2.1/\z.d=X.2.2.2.1/\[]=X.2.2.2.2.1/\[]=X.2.2.2.2.2.1/\True)/\XI X.1 X.2.1 X.2.2.2.2.2.2.1/\(0<=X.2.2.1/\X.2.2.1<=(7:Int))/\(0<=X.2.2.2.1/\X.2.2.2.1<=(3:Int))/\X.2.2.2.2.1.length<=30/\X.2.2.2.2.2.1.length<=30)/\(K9 f.1.1 Z.1.1)/\f.2=Z.2/\True))) (W9 (0:Int) 4/\W9 (1:Int) 4/\∃(X:(Eng×Nat×Nat)),let v:=(stX X.1 X.2.1 X.2.2);(((K9 pf.fst X.1)/\z.a=(X.2.1:Int)/\z.b=(X.2.2:Int)/\True)/\SI X.1.s/\X.2.1<8/\X.2.2<4)/\br (! v.val.snd.snd) (∃(x:(Eng×Dsk)),(((K9 v.val.fst x.1)/\(zI v.val.fst.s.d x.2)/\True)/\F8 x.2/\x.2.E.length=69)/\(K9 (j7 (sdE x.1 x.2)) Z.1.1)/\15=Z.2/\True) (W9 (0:Int) 4/\W9 (1:Int) 4/\∃(g:(Eng×Nat×Int×Int×Bz×Bz×Int×Nat)),let w:=g.2.2.2;let pb:=(j6 g.1 g.2.1 g.2.2.1 w.1 w.2.1 w.2.2.1 w.2.2.2.2);(((K9 v.val.fst g.1)/\(k:Int)=(g.2.1:Int)/\z.a=g.2.2.1/\z.b=w.1/\v.val.snd.fst=w.2.1/\[]=w.2.2.1/\True)/\XI g.1 g.2.1 w.2.2.2.1/\(0<=g.2.2.1/\g.2.2.1<=(7:Int))/\(0<=w.1/\w.1<=(3:Int))/\w.2.1.length<=30/\w.2.2.1.length<=30)/\(K9 pb.1.1 Z.1.1)/\pb.2=Z.2/\True))) (W9 (0:Int) 4/\bd (z.a<0) (br gone (pa/\5=Z.2/\True) (W9 (2:Int) 4/\bd (z.c<0) (pa/\12=Z.2/\True) (W9 (2:Int) 4/\W9 (3:Int) 4/\∃(X:(Eng×Nat×Int×Int×Bz×Bz×Int×Nat)),let l:=(j6 X.1 X.2.1 X.2.2.1 X.2.2.2.1 X.2.2.2.2.1 X.2.2.2.2.2.1 X.2.2.2.2.2.2.2);(((K9 pf.fst X.1)/\(k:Int)=(X.2.1:Int)/\z.c=X.2.2.1/\z.d=X.2.2.2.1/\[]=X.2.2.2.2.1/\sV j.1 j.2=X.2.2.2.2.2.1/\True)/\XI X.1 X.2.1 X.2.2.2.2.2.2.1/\(0<=X.2.2.1/\X.2.2.1<=(7:Int))/\(0<=X.2.2.2.1/\X.2.2.2.1<=(3:Int))/\X.2.2.2.2.1.length<=30/\X.2.2.2.2.2.1.length<=30)/\(K9 l.1.1 Z.1.1)/\l.2=Z.2/\True))) (W9 (0:Int) 4/\W9 (1:Int) 4/\∃(X:(Eng×Nat×Nat)),let y:=(stX X.1 X.2.1 X.2.2);(((K9 pf.fst X.1)/\z.a=(X.2.1:Int)/\z.b=(X.2.2:Int)/\True)/\SI X.1.s/\X.2.1<8/\X.2.2<4)/\br (! y.1.snd.snd) (∃(x:(Eng×Dsk)),(((K9 y.1.fst x.1)/\(zI y.1.fst.s.d x.2)/\True)/\F8 x.2/\x.2.E.length=69)/\(K9 (j7 (sdE x.1 x.2)) Z.1.1)/\15=Z.2/\True) (W9 (0:Int) 4/\W9 (1:Int) 4/\∃(g:(Eng×Nat×Int×Int×Bz×Bz×Int×Nat)),let m:=g.2.2.2;let pc:=(j6 g.1 g.2.1 g.2.2.1 m.1 m.2.1 m.2.2.1 m.2.2.2.2);(((K9 y.1.fst g.1)/\(k:Int)=(g.2.1:Int)/\z.a=g.2.2.1/\z.b=m.1/\y.1.snd.fst=m.2.1/\sV j.1 j.2=m.2.2.1/\True)/\XI g.1 g.2.1 m.2.2.2.1/\(0<=g.2.2.1/\g.2.2.1<=(7:Int))/\(0<=m.1/\m.1<=(3:Int))/\m.2.1.length<=30/\m.2.2.1.length<=30)/\(K9 pc.1.1 Z.1.1)/\pc.2=Z.2/\True))))))) ⟨(e,k,ta,-1,2,tx),⟨Z7,h⟩,λq=>?_,λq=>?_⟩
 ·rw[←hZ,c8U (c76 q)];exact⟨vQ (R3 e k ta (-1) 2).1,Z7⟩
 have J:=a0n (c2q q);have Q:=sI h ta (-1) 2;dsimp only;rw[J];generalize pD e k ta (-1) 2=e1 at*;dsimp only;refine⟨(e1,k,ta,r.id,4,tx),⟨Z7,Q⟩,λq=>?_,λq=>?_⟩
 ·rw[←hZ,c8m J (c76 q)];exact⟨vQ (R3 e1 k ta r.id 4).1,Z7⟩
 have U:=a0n (c2q q);have h2:=sI Q ta r.id 4;dsimp only;rw[c8K J U] at hZ;rw[U];generalize pD e1 k ta r.id 4=e2 at*;dsimp only;have hF:=b4e h2.u.u.si tx ta r.id 8 (U9 _);have Y:(e2.X.getD k dz).id=tx:=h2.u.u.id;refine⟨Y6 h2.u.u.lt,(e2,tx,ta,r.id),⟨⟨vQ _,by rw[D8,Y],rfl,rfl,Z6⟩,h2.u.u.si,h2.nd⟩,?_⟩
 dsimp only;rw[(rV e2 tx ta r.id).2];generalize T1 e2 tx ta r.id 8=f at*;generalize sO e2 tx ta r.id 8=v at*;obtain⟨fs,fp,fl⟩:=f;obtain⟨V,N,hpl⟩:=hF;dsimp only at V N hpl hZ ⊢;refine⟨λhd=>?_,λL=>⟨(ta,r),⟨Z7,R,o.1,o.2⟩,?_⟩⟩
 ·have hd:fl=false:=uQ hd;have eZ:Z=((j7 (R6 e2 fs),0),15):=by rw[←hZ,hd];rfl
  rw[eZ];exact⟨(R6 e2 fs,fs.d),⟨Z7,(N hd).1,(N hd).2⟩,Z7⟩
 have L:fl=true:=yM L;subst L;obtain⟨s1,s2,s3⟩:=V rfl;have F:XI (R6 e2 fs) k tx:=a7q h2 s1 s2 s3;have hd:decide (fp.a<0)=false->¬fp.a<0:=r8;have W:¬fp.a<0->(fp.a.toNat:Int)=fp.a/\(fp.b.toNat:Int)=fp.b/\fp.a.toNat<8/\fp.b.toNat<4/\(0<=fp.a/\fp.a<=7)/\(0<=fp.b/\fp.b<=3):=λha=>by
  have aa:=hpl.1.resolve_left Z9
  omega
 have O:=(stX (R6 e2 fs) fp.a.toNat fp.b.toNat).2;refine⟨λM=>?_,λM=>?_⟩<;>subst M
 ·refine⟨⟨Z9,Z9⟩,λha=>⟨λ_=>?_,λhc=>by cases hc⟩,λha=>?_⟩
  ·have ha:=G5 ha;have eW:Z=((R6 e2 fs,v),5):=by rw[←hZ];unfold fS;rw[if_pos rfl,if_pos ha,if_pos rfl]
   rw[eW];exact Z7
  ·have ha:=hd ha;obtain⟨I,A,n3,z,l,C⟩:=W ha;have eW:Z=if(Y3 fs fp.a.toNat).2.2=true then j6 (R6 e2 (v5 e2 fp fs).1) k fp.a fp.b (v5 e2 fp fs).2 [] (P7 fs fp.a.toNat v) else((j7 (R6 e2 (v5 e2 fp fs).1),0),15):=by
    rw[←hZ];unfold fS;rw[if_pos rfl,if_neg ha];rfl
   refine⟨⟨Z9,Z9⟩,⟨Z9,Z9⟩,(R6 e2 fs,fp.a.toNat,fp.b.toNat),⟨⟨vQ (R6 e2 fs),I.symm,A.symm,Z6⟩,s1,n3,z⟩,?_⟩
   dsimp only;rw[O];refine⟨λhu=>?_,λhu=>?_⟩
   ·have hu:(Y3 fs fp.a.toNat).2.2=false:=uQ hu;rw[if_neg (by rw[hu];simp)] at eW
    rw[eW];exact⟨(R6 e2 (v5 e2 fp fs).1,(v5 e2 fp fs).1.d),⟨Z7,(rM s1 hu).1,(rM s1 hu).2⟩,Z7⟩
   ·have hu:(Y3 fs fp.a.toNat).2.2=true:=yM hu;rw[if_pos hu] at eW;obtain⟨j1,j2⟩:=rQ s1 n3 hu;obtain⟨f2,_,_,p4,ps⟩:=xH s1.iv n3 hu;have hX4:XI (R6 e2 (v5 e2 fp fs).1) k tx:=a7q h2 j1 (j2.trans s2) (cK.trans s3);have hsl:(v5 e2 fp fs).2.length<=30:=ps fp.b.toNat (by rw[p4];omega)
    rw[eW];exact⟨⟨Z9,Z9⟩,⟨Z9,Z9⟩,(R6 e2 (v5 e2 fp fs).1,k,fp.a,fp.b,(v5 e2 fp fs).2,[],tx,P7 fs fp.a.toNat v),⟨⟨vQ (R6 e2 (v5 e2 fp fs).1),rfl,rfl,rfl,if_pos hu,Z7⟩,hX4,l,C,hsl,N7 _⟩,vQ (j6 (R6 e2 (v5 e2 fp fs).1) k fp.a fp.b (v5 e2 fp fs).2 [] (P7 fs fp.a.toNat v)).1.1,Z7⟩
 ·refine⟨⟨Z9,Z9⟩,λha=>⟨λhc=>(by cases hc),λ_=>⟨⟨Z9,Z9⟩,λhc=>?_,λhc=>?_⟩⟩,λha=>?_⟩
  ·have eW:Z=((R6 e2 fs,v),12):=by rw[←hZ];unfold fS;rw[if_pos rfl,if_pos (G5 ha),if_neg W7,if_pos (G5 hc)]
   rw[eW];exact Z7
  ·have hc:=r8 hc;have hC:=hpl.2.resolve_left Z9
   have eW:Z=j6 (R6 e2 fs) k fp.c fp.d [] (sV ta r) v:=by rw[←hZ];unfold fS;rw[if_pos rfl,if_pos (G5 ha),if_neg W7,if_neg hc]
   rw[eW];exact⟨⟨Z9,Z9⟩,⟨Z9,Z9⟩,(R6 e2 fs,k,fp.c,fp.d,[],sV ta r,tx,v),⟨Z7,F,X5,X5,N7 _,B⟩,vQ (j6 (R6 e2 fs) k fp.c fp.d [] (sV ta r) v).1.1,Z7⟩
  ·have ha:=hd ha;obtain⟨I,A,n3,z,l,C⟩:=W ha;have eW:Z=if(Y3 fs fp.a.toNat).2.2=true then j6 (R6 e2 (v5 e2 fp fs).1) k fp.a fp.b (v5 e2 fp fs).2 (sV ta r) (P7 fs fp.a.toNat v) else((j7 (R6 e2 (v5 e2 fp fs).1),0),15):=by
    rw[←hZ];unfold fS;rw[if_pos rfl,if_neg ha];rfl
   refine⟨⟨Z9,Z9⟩,⟨Z9,Z9⟩,(R6 e2 fs,fp.a.toNat,fp.b.toNat),⟨⟨vQ (R6 e2 fs),I.symm,A.symm,Z6⟩,s1,n3,z⟩,?_⟩
   dsimp only;rw[O];refine⟨λhu=>?_,λhu=>?_⟩
   ·have hu:(Y3 fs fp.a.toNat).2.2=false:=uQ hu;rw[if_neg (by rw[hu];simp)] at eW
    rw[eW];exact⟨(R6 e2 (v5 e2 fp fs).1,(v5 e2 fp fs).1.d),⟨Z7,(rM s1 hu).1,(rM s1 hu).2⟩,Z7⟩
   ·have hu:(Y3 fs fp.a.toNat).2.2=true:=yM hu;rw[if_pos hu] at eW;obtain⟨j1,j2⟩:=rQ s1 n3 hu;obtain⟨f2,_,_,p4,ps⟩:=xH s1.iv n3 hu;have hX4:XI (R6 e2 (v5 e2 fp fs).1) k tx:=a7q h2 j1 (j2.trans s2) (cK.trans s3);have hsl:(v5 e2 fp fs).2.length<=30:=ps fp.b.toNat (by rw[p4];omega)
    rw[eW];exact⟨⟨Z9,Z9⟩,⟨Z9,Z9⟩,(R6 e2 (v5 e2 fp fs).1,k,fp.a,fp.b,(v5 e2 fp fs).2,sV ta r,tx,P7 fs fp.a.toNat v),⟨⟨vQ (R6 e2 (v5 e2 fp fs).1),rfl,rfl,rfl,if_pos hu,Z7⟩,hX4,l,C,hsl,B⟩,vQ (j6 (R6 e2 (v5 e2 fp fs).1) k fp.a fp.b (v5 e2 fp fs).2 (sV ta r) (P7 fs fp.a.toNat v)).1.1,Z7⟩
theorem c85{e:Eng}{tx ta:Int}{r:Rw}{gone:Bool}(h:¬ (G3 e tx).2=0):nP e tx ta r gone=((e,0),(G3 e tx).2):=if_neg h
theorem c9r{e:Eng}{tx ta:Int}{r:Rw}{gone:Bool}{k:Nat}(h:(G3 e tx).2=0)(d:(G3 e tx).1=k):nP e tx ta r gone=oM e k tx ta r gone:=by
 unfold nP;rw[if_pos h,d,D8]
def c6L:Con:=.rel ⟨Eng×Int×Int×Rw,λx=>[.agg x.1.ts,Ji x.2.1,Ji x.2.2.1,.agg x.2.2.2.ts],λx=>.tup [.agg (nP x.1 x.2.1 x.2.2.1 x.2.2.2 false).1.1.ts,Ji (nP x.1 x.2.1 x.2.2.1 x.2.2.2 false).2],λx=>a2Z x.1 x.2.2.1 x.2.2.2⟩
theorem c5G(e:Eng)(tx ta:Int)(r:Rw)(Z:(Eng×Nat)×Int)(h:
  ∃(x:(Eng×Int)),let q:=(G3 x.1 x.2);(((K9 e x.1)/\tx=x.2/\True)/\L8 x.1.X.length)/\br (q.2 !=0) ((K9 e Z.1.1)/\q.2=Z.2/\True) (∃(X:(Eng×Nat×Int×Rw×Bool×Int)),let p:=(oM X.1 X.2.1 X.2.2.2.2.2 X.2.2.1 X.2.2.2.1 X.2.2.2.2.1);(((K9 e X.1)/\q.1=(X.2.1:Int)/\ta=X.2.2.1/\(r.id=X.2.2.2.1.id/\r.n.k=X.2.2.2.1.n.k/\r.n.n=X.2.2.2.1.n.n/\r.n.t=X.2.2.2.1.n.t/\r.name.k=X.2.2.2.1.name.k/\r.name.n=X.2.2.2.1.name.n/\r.name.t=X.2.2.2.1.name.t/\True)/\false=X.2.2.2.2.1/\True)/\WrB X.1 X.2.1 X.2.2.1 X.2.2.2.1 X.2.2.2.2.2)/\(K9 p.1.1 Z.1.1)/\p.2=Z.2/\True)):
  V4 prog 58 [.agg e.ts,Ji tx,Ji ta,.agg r.ts] (.tup [.agg Z.1.1.ts,Ji Z.2]):=
 U5 (gC a3L (gC c1v gN)) func58 Z3 h
theorem c21:GK 58 c6L:=gk func58<|by
 rintro⟨e,tx,ta,r⟩ ⟨o,M,R,t,B⟩;dsimp only at o M R t B ⊢;have g:=(xF (u3 o).2.1).1;refine c5G e tx ta r (nP e tx ta r false) ⟨(e,tx),⟨Z7,rT⟩,λh=>?_,λh=>?_⟩
 ·rw[c85 (c76 h)];exact Z7
 ·obtain⟨u,k,d,f,hi,A⟩:=a1F (c2q h);rw[c9r (c2q h) d];exact⟨(e,k,ta,r,false,tx),⟨⟨vQ _,d,Z7⟩,b0x o M u A f hi,t,R,B⟩,vQ (oM e k tx ta r false).1.1,Z7⟩
theorem b6F{a b:Bool}:(!a|| !b)= !(a&&b):=by cases a<;>rfl
def c5t:Con:=.rfz ⟨Eng×Int×Int×Rw,λx=>[.agg x.1.ts,Ji x.2.1,Ji x.2.2.1,.agg x.2.2.2.ts],λx=>.tup [.agg (V0 x.1 x.2.1 x.2.2.1 x.2.2.2).1.ts,Ji (V0 x.1 x.2.1 x.2.2.1 x.2.2.2).2],λx=>iZ x.1/\M6 x.1/\RwB x.2.2.2⟩
theorem c5m(e:Eng)(tx ta:Int)(r:Rw):((R2 e&&O1 r)=false->V0 e tx ta r=(uT,1))/\((R2 e&&O1 r)=true->V6 ta 1 3=false->V0 e tx ta r=(uT,4))/\((R2 e&&O1 r)=true->V6 ta 1 3=true->V0 e tx ta r=((nP e tx ta r false).1.1,(nP e tx ta r false).2)):=by
 refine⟨λh=>?_,λh h2=>?_,λh h2=>?_⟩
 ·have e1:∀b,i5 (R2 e) (O1 r) b=1:=λb=>by unfold i5;rw[h];rfl
  rw[b6O (by rw[e1];decide),e1]
 ·have e1:i5 (R2 e) (O1 r) (V6 ta 1 3)=4:=by unfold i5;rw[h,h2];rfl
  rw[b6O (by rw[e1];decide),e1]
 ·have e1:i5 (R2 e) (O1 r) (V6 ta 1 3)=0:=by unfold i5;rw[h,h2];rfl
  exact c5e e1
theorem c4R{e:Eng}{ta:Int}{r:Rw}(h:(R2 e&&O1 r)=true)(d:V6 ta 1 3=true)(f:M6 e):a2Z e ta r:=c4L (by unfold i5;rw[h,d];rfl) f
theorem c3M:GK 19 c5t:=gk func19<|by
 rintro⟨e,tx,ta,r⟩ ⟨j,g,i⟩;dsimp only at j g i ⊢;obtain⟨d1,d2,l⟩:=c5m e tx ta r;generalize V0 e tx ta r=Z at*;refine U5 (gC a1c (gC a0R (gC z7 (gC c21 (gC b2W gN))))) func19 Z3 (α:=let p:=(Z.1.s.d.E.length=0/\Z.1.s.d.C.length=0/\false=Z.1.s.d.A/\Z.1.s.d.keep.length=0/\0=Z.1.s.ep/\Z.1.s.L.length=0/\0=Z.1.s.S/\Z.1.s.fr.length=0/\0=Z.1.s.J/\false=Z.1.up/\Z.1.X.length=0/\Z.1.lk.H.length=0/\Z.1.lk.W.length=0/\0=Z.1.N/\True);∃(x:tS.ι),(((K9 e x)/\True)/\iZ x)/\∃(X:rA.ι),((!R2 x)=false->((r.id=X.id/\r.n.k=X.n.k/\r.n.n=X.n.n/\r.n.t=X.n.t/\r.name.k=X.name.k/\r.name.n=X.name.n/\r.name.t=X.name.t/\True)/\True)/\RwB X)/\br (!R2 x|| !O1 X) (p/\1=Z.2/\True) (br (!V6 ta (1:Int) (3:Int)) (p/\4=Z.2/\True) (∃(x:(Eng×Int×Int×Rw)),let q:=x.2.2;let z:=(nP x.1 x.2.1 q.1 q.2 false);(((K9 e x.1)/\tx=x.2.1/\ta=q.1/\(r.id=q.2.id/\r.n.k=q.2.n.k/\r.n.n=q.2.n.n/\r.n.t=q.2.n.t/\r.name.k=q.2.name.k/\r.name.n=q.2.name.n/\r.name.t=q.2.name.t/\True)/\True)/\a2Z x.1 q.1 q.2)/\∃(f:Eng),(((K9 z.1.1 f)/\True)/\M6 f)/\(K9 f Z.1)/\z.2=Z.2/\True))) ⟨e,⟨Z7,j⟩,r,λ_=>⟨Z7,i⟩,λh=>?_,λh=>⟨λR=>?_,λR=>?_⟩⟩
 ·rw[b6F] at h;rw[d1 (uQ h)];exact Z7
 ·rw[b6F] at h;rw[d2 (yM h) (uQ R)];exact Z7
 ·rw[b6F] at h;have o:=yM h;have hi:=yM R;have C:a2Z e ta r:=c4R o hi g;rw[l o hi];exact⟨(e,tx,ta,r),⟨Z7,C⟩,(nP e tx ta r false).1.1,⟨⟨vQ (nP e tx ta r false).1.1,Z6⟩,a8T C⟩,Z7⟩
theorem c6b{f:FuncId}{args B:List T}{H H':X8}{res:T}{ks:List Nat}{p:Option Prop}(h:V4 prog f B res)(n:c0l (λq=>some (res,some (kM q B))) H ks args=some (res,H',p))(hp:p.getD True):G1 prog f args H res H':=by
 intro E w vs i N A;refine(c4O (c8w i N) (cf:=λq=>some (res,some (kM q B))) ?_ n hp A).mono ?_
 ·intro q R t C d E w vs o g j;simp only[X0,U4] at C;obtain⟨rfl,rfl⟩:=C;exact h E w vs o g (iJ d j)
 ·rintro e w' ⟨v,E',rfl,I,l,r⟩;exact⟨v,E',rfl,I,l.stp,r⟩
def c1B:Con:=.reff ⟨Eng×Nat×Int×Int×Rw,λx=>[.agg (x.1.tm 0),Ji x.2.2.1,Ji x.2.2.2.1,.agg x.2.2.2.2.ts],λx=>x.1.hp x.2.1,λx=>.tup [.agg (V0 x.1 x.2.2.1 x.2.2.2.1 x.2.2.2.2).1.ts,Ji (V0 x.1 x.2.2.1 x.2.2.2.1 x.2.2.2.2).2],λ_=>[none,none,none,none,none,none,none,none],λx=>iZ x.1/\M6 x.1/\RwB x.2.2.2.2⟩
theorem b6g:GK 19 c1B:=gk func19<|by
 rintro⟨e,v,tx,ta,r⟩ h;exact c6b (ks:=[0,1,2,3,4,5,6,7]) (c3M.1 (e,tx,ta,r) h) rfl Z7
def LmV(v:Val):Prop:=mO v.t.length
def a2s:Rl:=⟨Val×Int,λx=>[.agg x.1.ts,Ji x.2],λx=>Ji (rem x.2 x.1.t.length),λx=>C1 x.2/\LmV x.1⟩
def c1i:Con:=.rel a2s
theorem c1E(v:Val)(l:Int)(h:
let p:=(v.t.length:Int);  Ri (l- p)/\bd (l- p<0) ((-1:Int)=rem l v.t.length) (l- p=rem l v.t.length)):
  V4 prog 56 [.agg v.ts,Ji l] (.int .i64 (rem l v.t.length)):=
 U5 gN func56 Z3 h
theorem b88:GK 56 c1i:=gk func56<|by
 rintro⟨r,l⟩ ⟨⟨e,d⟩,B⟩;have B:r.t.length<=9223372036854775807:=B;simp only at e d;exact c1E r l ⟨Z4 Z9,λh=>by have:=G5 h;exact(I6 Z9).symm,λh=>by have:=r8 h;rw[D7 Z9]⟩
def c0S:Con:=.rel ⟨Val,λr=>[.agg r.ts],λr=>.agg r.ts,λ_=>True⟩
theorem c4f(r:Val)(h:
  r.k=r.k/\r.n=r.n/\r.t=r.t/\True):
  V4 prog 59 [.agg r.ts] (.agg r.ts):=
 U5 gN func59 Z3 h
theorem b66:GK 59 c0S:=gk func59<|λr _=>c4f r Z7
def rO(r:Rw):Nat:=r.n.t.length+r.name.t.length
def c14(r:Rw):Prop:=LmV r.n/\LmV r.name
def c79:Con:=.rel ⟨Rw×Int,λx=>[.agg x.1.ts,Ji x.2],λx=>Ji (rem x.2 (rO x.1)),λx=>C1 x.2/\c14 x.1⟩
theorem c0T:GK 18 c79:=gk func18<|by
 rintro⟨r,l⟩ ⟨L,f,d⟩;simp only at L f d;have e:rO r=r.n.t.length+r.name.t.length:=rfl;refine U5 (gC b88 gN) func18 Z3 (α:=let p:=((-1:Int)=rem l (rO r));∃(x:a2s.ι),(((r.n.k=x.1.k/\r.n.n=x.1.n/\r.n.t=x.1.t/\True)/\l=x.2/\True)/\C1 x.2/\LmV x.1)/\bd (rem x.2 x.1.t.length<0) p (∃(X:a2s.ι),(((r.name.k=X.1.k/\r.name.n=X.1.n/\r.name.t=X.1.t/\True)/\rem x.2 x.1.t.length=X.2/\True)/\C1 X.2/\LmV X.1)/\bd (rem X.2 X.1.t.length<0) p (rem X.2 X.1.t.length=rem l (rO r)))) ⟨(r.n,l),⟨Z7,L,f⟩,λh=>(A8 (G5 h) cP).symm,λh=>?_⟩
 obtain⟨q,i⟩:=yE (b:=r.name.t.length) (r8 h) L rfl;refine⟨(r.name,rem l r.n.t.length),⟨Z7,i,d⟩,λg=>?_,λg=>?_⟩
 ·simp only at g;rw[q] at g;exact(A8 (G5 g) cP).symm
 ·exact q
def c7T:Con:=.rel ⟨Rw,λr=>[.agg r.ts],λr=>.agg r.ts,λ_=>True⟩
theorem c6K(r:Rw)(h:
  ∃(x:Val),(((r.n.k=x.k/\r.n.n=x.n/\r.n.t=x.t/\True)/\True)/\True)/\∃(X:Val),(((r.name.k=X.k/\r.name.n=X.n/\r.name.t=X.t/\True)/\True)/\True)/\r.id=r.id/\x.k=r.n.k/\x.n=r.n.n/\x.t=r.n.t/\X.k=r.name.k/\X.n=r.name.n/\X.t=r.name.t/\True):
  V4 prog 20 [.agg r.ts] (.agg r.ts):=
 U5 (gC b66 gN) func20 Z3 h
theorem c0s:GK 20 c7T:=gk func20<|λ(r:Rw) _=>c6K r ⟨r.n,Z7,r.name,Z7⟩
theorem c2H{e:Eng}{tx ta:Int}{r:Rw}(h:M6 e):M6 (V0 e tx ta r).1:=by
 obtain⟨d1,d2,d⟩:=c5m e tx ta r;cases o:(R2 e&&O1 r) with
 |false=>rw[d1 o];exact b85
 |true=>
  cases hi:V6 ta 1 3 with
  |false=>rw[d2 o hi];exact b85
  |true=>rw[d o hi];exact a8T (c4R o hi h)
theorem a74(e:Eng)(tx ta:Int)(r:Rw)(h:b02 e)(hr:c14 r):V4 prog 5 [.agg e.ts,Ji tx,Ji ta,.agg r.ts] (.bool true):=by
 have W:C1 1048576:=⟨Z9,Z9⟩
 refine U5 (gC b9A (gC c0T (gC b8x (gC c0s (gC b6g (gC c20 (gC b6P (gC a6U (gC a9a gN))))))))) func5 Z3 (α:=let qn:=(true=true);let pg:=(false=true);∃(x:(Eng×Int)),(((K9 e x.1)/\1048576=x.2/\True)/\C1 x.2/\b02 x.1)/\bd (rem x.2 (k9 x.1)<0) qn (∃(u:(Rw×Int)),(((r.id=u.1.id/\r.n.k=u.1.n.k/\r.n.n=u.1.n.n/\r.n.t=u.1.n.t/\r.name.k=u.1.name.k/\r.name.n=u.1.name.n/\r.name.t=u.1.name.t/\True)/\rem x.2 (k9 x.1)=u.2/\True)/\C1 u.2/\c14 u.1)/\bd (rem u.2 (rO u.1)<0) qn (∃(x:Eng),(((K9 e x)/\True)/\M6 x)/\∃(q:Rw),(((r.id=q.id/\r.n.k=q.n.k/\r.n.n=q.n.n/\r.n.t=q.n.t/\r.name.k=q.name.k/\r.name.n=q.name.n/\r.name.t=q.name.t/\True)/\True)/\True)/\∃(i:(Eng×Nat×Int×Int×Rw)),let pn:=i.2.2.2.2;let y:=(V0 i.1 i.2.2.1 i.2.2.2.1 pn);(((b45 x i.1)/\tx=i.2.2.1/\ta=i.2.2.2.1/\(q.id=pn.id/\q.n.k=pn.n.k/\q.n.n=pn.n.n/\q.n.t=pn.n.t/\q.name.k=pn.name.k/\q.name.n=pn.name.n/\q.name.t=pn.name.t/\True)/\True)/\(vE (x.s.fr.length) (i.2.1) x i.1)/\iZ i.1/\M6 i.1/\RwB pn)/\∃(x:Eng),(((K9 e x)/\True)/\M6 x)/\∃(o:Rw),(((r.id=o.id/\r.n.k=o.n.k/\r.n.n=o.n.n/\r.n.t=o.n.t/\r.name.k=o.name.k/\r.name.n=o.name.n/\r.name.t=o.name.t/\True)/\True)/\True)/\∃(X:b7H.ι),let p:=(V0 X.1 X.2.1 X.2.2.1 X.2.2.2);let qk:=p.1.X.length;let pz:=p.1.lk;let qq:=pz.W.length;let qp:=pz.H.length;let c:=p.1.s;let qo:=c.fr.length;let qj:=c.d.C.length;let qi:=c.d.E.length;let qb:=c.d.keep.length;((LeG x)/\((oL x X.1)/\tx=X.2.1/\ta=X.2.2.1/\(o.id=X.2.2.2.id/\o.n.k=X.2.2.2.n.k/\o.n.n=X.2.2.2.n.n/\o.n.t=X.2.2.2.n.t/\o.name.k=X.2.2.2.name.k/\o.name.n=X.2.2.2.name.n/\o.name.t=X.2.2.2.name.t/\True)/\True)/\iZ X.1/\M6 X.1/\RwB X.2.2.2)/\∃(I:Eng),((LeG p.1)/\((oL p.1 I)/\(K9 y.1 I)/\True)/\M6 I)/\br (false||p.2 !=y.2) pg (∃(F:Eng),(((K9 e F)/\True)/\M6 F)/\∃(J:Eng),(((LeG x)/\LeG F)/\((oL x J)/\(oL F J)/\True)/\M6 J)/\br false pg (∃(v:(Eng×Nat×Nat)),let qa:=((↑(oP v.1 v.2.1):Int)<0);(((b45 x v.1)/\1=(v.2.1:Int)/\True)/\(vE (x.s.fr.length) (v.2.2) x v.1)/\KBg v.1 v.2.1)/\∃(x:Eng),(decide qa=false->(LeG p.1)/\((oL p.1 x)/\(K9 y.1 x)/\True)/\M6 x)/\br (decide qa||false||p.2 !=y.2) pg (∃(x:(Eng×Nat×Nat)),let qd:=x.2.1;let qm:=(↑(oP x.1 qd):Int);let qc:=x.1.s;let pm:=(yQ qc.d.E.length qd);let pj:=(I3 x.1.X.length (K6 x.1.s qd));let pb:=(g7 qc.L.length (O3 qc.d qd));let pa:=(vG qc.d.C.length (qd+qc.d.E.length));let b:=(M2 x.1.lk.H.length (K6 x.1.s qd+2*x.1.X.length));let a:=(vD qc.d.keep.length (qd+qc.d.E.length+2*qc.d.C.length));let m:=(A9 x.1.lk.W.length (K6 x.1.s qd+2*x.1.X.length+4*x.1.lk.H.length));let w:=(vN qc.fr.length (N3 qc.fr) (O3 qc.d qd+10*qc.L.length));let z:=(Le (0+qi) pm.length/\Le (0+qj) pa.length/\Le (0+qb) a.length/\Le (0+c.L.length) pb.length/\Le (0+qo) w.length/\Le (0+qk) pj.length/\Le (0+qp) b.length/\Le (0+qq) m.length);(((b45 p.1 x.1)/\1=(qd:Int)/\True)/\(vE (0) (x.2.2) p.1 x.1)/\KBg x.1 qd)/\∃(f:(Eng×Nat)),let qg:=(↑(oP f.1 f.2):Int);let pv:=(I3 f.1.X.length (K6 f.1.s f.2));let ps:=f.1.s;let qe:=(yQ ps.d.E.length f.2);let px:=(g7 ps.L.length (O3 ps.d f.2));let pq:=(vG ps.d.C.length (f.2+ps.d.E.length));let po:=(M2 f.1.lk.H.length (K6 f.1.s f.2+2*f.1.X.length));let ph:=(vD ps.d.keep.length (f.2+ps.d.E.length+2*ps.d.C.length));let pe:=(A9 f.1.lk.W.length (K6 f.1.s f.2+2*f.1.X.length+4*f.1.lk.H.length));let pc:=(vN ps.fr.length (N3 ps.fr) (O3 ps.d f.2+10*ps.L.length));(z/\(((qi=qe.length/\Z8 c.d.E.length (Z5 pm) (Z5 qe))/\(qj=pq.length/\Z8 c.d.C.length (Z1 pa) (Z1 pq))/\c.d.A=ps.d.A/\(qb=ph.length/\Z8 c.d.keep.length (Y9 a) (Y9 ph))/\c.ep=ps.ep/\(c.L.length=px.length/\Z8 c.L.length (Y0 pb) (Y0 px))/\c.S=ps.S/\(qo=pc.length/\Z8 c.fr.length (a1D (Y5 w)) (V9 pc))/\c.J=ps.J/\p.1.up=f.1.up/\(qk=pv.length/\Z8 p.1.X.length (X2 pj) (X2 pv))/\(qp=po.length/\Z8 pz.H.length (Z2 b) (Z2 po))/\(qq=pe.length/\Z8 pz.W.length (Y7 m) (Y7 pe))/\p.1.N=f.1.N/\True)/\1=(f.2:Int)/\True)/\KBg f.1 f.2)/\bd (qg<0) pg (br (qg !=qm) pg (∃(A:Eng),(((K9 e A)/\True)/\M6 A)/\∃(l:Rw),(((r.id=l.id/\r.n.k=l.n.k/\r.n.n=l.n.n/\r.n.t=l.n.t/\r.name.k=l.name.k/\r.name.n=l.name.n/\r.name.t=l.name.t/\True)/\True)/\True)/\∃(j:b7H.ι),let pu:=j.2.2.2;let pk:=(V0 j.1 j.2.1 j.2.2.1 pu);((LeG A)/\((oL A j.1)/\tx=j.2.1/\ta=j.2.2.1/\(l.id=pu.id/\l.n.k=pu.n.k/\l.n.n=pu.n.n/\l.n.t=pu.n.t/\l.name.k=pu.name.k/\l.name.n=pu.name.n/\l.name.t=pu.name.t/\True)/\True)/\iZ j.1/\M6 j.1/\RwB pu)/\∃(B:Eng),((LeG pk.1)/\((oL pk.1 B)/\(K9 y.1 B)/\True)/\M6 B)/\br (false||pk.2 !=y.2) pg (∃(g:(Eng×Nat)),let qh:=(↑(oP g.1 g.2):Int);let pw:=(I3 g.1.X.length (K6 g.1.s g.2));let pt:=g.1.s;let qf:=(yQ pt.d.E.length g.2);let py:=(g7 pt.L.length (O3 pt.d g.2));let pr:=(vG pt.d.C.length (g.2+pt.d.E.length));let pp:=(M2 g.1.lk.H.length (K6 g.1.s g.2+2*g.1.X.length));let pi:=(vD pt.d.keep.length (g.2+pt.d.E.length+2*pt.d.C.length));let pf:=(A9 g.1.lk.W.length (K6 g.1.s g.2+2*g.1.X.length+4*g.1.lk.H.length));let pd:=(vN pt.fr.length (N3 pt.fr) (O3 pt.d g.2+10*pt.L.length));(z/\(((qi=qf.length/\Z8 c.d.E.length (Z5 pm) (Z5 qf))/\(qj=pr.length/\Z8 c.d.C.length (Z1 pa) (Z1 pr))/\c.d.A=pt.d.A/\(qb=pi.length/\Z8 c.d.keep.length (Y9 a) (Y9 pi))/\c.ep=pt.ep/\(c.L.length=py.length/\Z8 c.L.length (Y0 pb) (Y0 py))/\c.S=pt.S/\(qo=pd.length/\Z8 c.fr.length (a1D (Y5 w)) (V9 pd))/\c.J=pt.J/\p.1.up=g.1.up/\(qk=pw.length/\Z8 p.1.X.length (X2 pj) (X2 pw))/\(qp=pp.length/\Z8 pz.H.length (Z2 b) (Z2 pp))/\(qq=pf.length/\Z8 pz.W.length (Y7 m) (Y7 pf))/\p.1.N=g.1.N/\True)/\1=(g.2:Int)/\True)/\KBg g.1 g.2)/\bd (qh<0) pg (br (qh !=qm) pg qn)))))))))) ⟨(e,1048576),⟨Z7,W,h⟩,λ_=>rfl,λU=>?_⟩
 have Z:=b00 (r8 U);obtain⟨V,Y⟩:=yE (b:=rO r) (r8 U) W rfl;dsimp only at Z V Y ⊢;obtain⟨C,Q⟩:=b10 (e:=e) Z9
 refine⟨(r,rem 1048576 (k9 e)),⟨Z7,Y,hr⟩,λ_=>rfl,λL=>?_⟩
 dsimp only at L;rw[V] at L;have aa:=b00 (r8 L);have R:RwB r:=by
  have:rO r=r.n.t.length+r.name.t.length:=rfl;exact⟨by unfold cB L8;omega,by unfold cB L8;omega⟩
 have M:M6 (V0 e tx ta r).1:=c2H C;have hk:KBg e 1:=⟨C,U9 _,Z9⟩
 have O:KBg (V0 e tx ta r).1 1:=⟨M,U9 _,Z9⟩
 have N:∀n:Nat,decide ((n:Int)<0)=false:=λn=>tP Z9
 exact⟨e,⟨Z7,C⟩,r,Z7,(e,e.s.fr.length,tx,ta,r),⟨Z7,Z7,Q,C,R⟩,e,⟨Z7,C⟩,r,Z7,(e,tx,ta,r),⟨Z7,Z7,Q,C,R⟩,
  (V0 e tx ta r).1,⟨⟨tZ _,tZ _,tZ _,tZ _,tZ _,tZ _,tZ _,tZ _⟩,⟨⟨⟨rfl,X6 _ _⟩,⟨rfl,X6 _ _⟩,rfl,⟨rfl,X6 _ _⟩,rfl,⟨rfl,X6 _ _⟩,rfl,⟨rfl,λ_ _=>rfl⟩,rfl,rfl,Z7,Z7,Z7,rfl,Z6⟩,Z7⟩,M⟩,λz=>by simp at z,λ_=>⟨e,⟨Z7,C⟩,e,⟨Z7,Z7,C⟩,λz=>z,λ_=>
  ⟨(e,1,e.s.fr.length),⟨⟨⟨⟨rfl,rfl⟩,⟨rfl,rfl⟩,rfl,⟨rfl,rfl⟩,rfl,⟨rfl,rfl⟩,rfl,⟨rfl,rfl⟩,rfl,rfl,⟨rfl,rfl⟩,⟨rfl,rfl⟩,⟨rfl,rfl⟩,rfl,Z6⟩,rfl,Z6⟩,⟨⟨rfl,X6 _ _⟩,⟨rfl,X6 _ _⟩,⟨rfl,X6 _ _⟩,⟨rfl,X6 _ _⟩,⟨rfl,rfl,mT _⟩,⟨rfl,X6 _ _⟩,⟨rfl,X6 _ _⟩,⟨rfl,X6 _ _⟩,Z6⟩,hk⟩,(V0 e tx ta r).1,λ_=>⟨Z7,Z7,M⟩,λz=>by rw[N] at z;simp at z,λ_=>
  ⟨((V0 e tx ta r).1,1,0),⟨⟨⟨⟨rfl,rfl⟩,⟨rfl,rfl⟩,rfl,⟨rfl,rfl⟩,rfl,⟨rfl,rfl⟩,rfl,⟨rfl,rfl⟩,rfl,rfl,⟨rfl,rfl⟩,⟨rfl,rfl⟩,⟨rfl,rfl⟩,rfl,Z6⟩,rfl,Z6⟩,⟨⟨rfl,X6 _ _⟩,⟨rfl,X6 _ _⟩,⟨rfl,X6 _ _⟩,⟨rfl,X6 _ _⟩,⟨rfl,rfl,mT _⟩,⟨rfl,X6 _ _⟩,⟨rfl,X6 _ _⟩,⟨rfl,X6 _ _⟩,Z6⟩,O⟩,((V0 e tx ta r).1,1),⟨⟨leM _ _,leM _ _,leM _ _,leM _ _,leM _ _,leM _ _,leM _ _,leM _ _⟩,⟨⟨⟨(O2 _ _).symm,X6 _ _⟩,⟨(O2 _ _).symm,X6 _ _⟩,rfl,⟨(O2 _ _).symm,X6 _ _⟩,rfl,⟨(O2 _ _).symm,X6 _ _⟩,rfl,⟨(O2 _ _).symm,λ_ _=>rfl⟩,rfl,rfl,⟨(O2 _ _).symm,X6 _ _⟩,⟨(O2 _ _).symm,X6 _ _⟩,⟨(O2 _ _).symm,X6 _ _⟩,Z7⟩,Z7⟩,O⟩,λz=>by rw[N] at z;simp at z,λ_=>⟨λz=>by simp at z,λ_=>
  ⟨e,⟨⟨vQ _,Z6⟩,C⟩,r,⟨⟨⟨rfl,rfl,rfl,rfl,rfl,rfl,rfl,Z6⟩,Z6⟩,Z6⟩,(e,tx,ta,r),⟨⟨tZ _,tZ _,tZ _,tZ _,tZ _,tZ _,tZ _,tZ _⟩,⟨⟨⟨rfl,X6 _ _⟩,⟨rfl,X6 _ _⟩,rfl,⟨rfl,X6 _ _⟩,rfl,⟨rfl,X6 _ _⟩,rfl,⟨rfl,λ_ _=>rfl⟩,rfl,rfl,Z7,Z7,Z7,rfl,Z6⟩,Z7⟩,Q,C,R⟩,(V0 e tx ta r).1,⟨Z7,Z7,M⟩,λz=>by simp at z,λ_=>⟨((V0 e tx ta r).1,1),⟨⟨leM _ _,leM _ _,leM _ _,leM _ _,leM _ _,leM _ _,leM _ _,leM _ _⟩,⟨⟨⟨(O2 _ _).symm,X6 _ _⟩,⟨(O2 _ _).symm,X6 _ _⟩,rfl,⟨(O2 _ _).symm,X6 _ _⟩,rfl,⟨(O2 _ _).symm,X6 _ _⟩,rfl,⟨(O2 _ _).symm,λ_ _=>rfl⟩,rfl,rfl,⟨(O2 _ _).symm,X6 _ _⟩,⟨(O2 _ _).symm,X6 _ _⟩,⟨(O2 _ _).symm,X6 _ _⟩,Z7⟩,Z7⟩,O⟩,λz=>by rw[N] at z;simp at z,λ_=>⟨λz=>by simp at z,λ_=>rfl⟩⟩⟩⟩⟩⟩⟩⟩
end
end Go.Proofs.YtpdnnhnfongoeaaGreat
