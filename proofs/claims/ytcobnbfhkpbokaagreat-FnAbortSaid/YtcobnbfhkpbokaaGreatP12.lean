/- A part of the proof. -/
import Derived.Test.YtcobnbfhkpbokaaGreatN8
import Derived.Test.YtcobnbfhkpbokaaGreatV1e
import Derived.Test.YtcobnbfhkpbokaaGreatE4
namespace Go.Proofs.YtcobnbfhkpbokaaGreat
set_option maxRecDepth 100000
open Go.SS Go.Proofs.Tryz
noncomputable section
def eN(e:Eng)(k:Nat)(g s:Int)(b a:Bz)(v:Nat):(Eng×Nat)×Int:=if(e.s.L.length:Int)+1+vN e+1>60 then((e,v),7) else
 if(o6 e k (Q4 g s b a)).2=true then(((o6 e k (Q4 g s b a)).1,M9 (K7 e k (Q4 g s b a)).s g.toNat v),0) else((yD (o6 e k (Q4 g s b a)).1,0),15)
def a6u(e:Eng)(k:Nat)(ta:Int)(r:Rw)(gone:Bool)(f:Sto×Plc×Bool)(v:Nat):(Eng×Nat)×Int:=
 if f.2.2=true then
  (if f.2.1.a<0 then(if gone=true then((K1 e f.1,v),5) else if f.2.1.c<0 then((K1 e f.1,v),12) else eN (K1 e f.1) k f.2.1.c f.2.1.d [] (qR ta r) v)
  else if(Y7 f.1 f.2.1.a.toNat).2.2=true then eN (K1 e (yN e f.2.1 f.1).1) k f.2.1.a f.2.1.b (yN e f.2.1 f.1).2 (if gone=true then[] else qR ta r) (M9 f.1 f.2.1.a.toNat v)
  else((yD (K1 e (yN e f.2.1 f.1).1),0),15))
 else((yD (K1 e f.1),0),15)
def c6r(e:Eng)(k:Nat)(tx ta:Int)(r:Rw)(gone:Bool):(Eng×Nat)×Int:=
 if(wY e k ta 2 r.id 4).2=0 then a6u (wY e k ta 2 r.id 4).1.1 k ta r gone (Q6 (wY e k ta 2 r.id 4).1.1 tx ta r.id 8) (qV (wY e k ta 2 r.id 4).1.1 tx ta r.id 8) else wY e k ta 2 r.id 4
def F7(e:Eng)(tx ta:Int)(r:Rw)(gone:Bool):(Eng×Nat)×Int:=if(S8 e tx).2=0 then c6r e (S8 e tx).1.toNat tx ta r gone else((e,0),(S8 e tx).2)
def b0N(e:Eng)(ta:Int)(r:Rw):Prop:=U3 e=true/\O3 e/\RwK r/\(1<=ta/\ta<=3)/\(qR ta r).length<=30
def b4u:Con:=.reff ⟨Eng×Int×Int×Rw×Bool,λx=>[.ref 0 0 0,Ji x.2.1,Ji x.2.2.1,.agg x.2.2.2.1.ts,.bool x.2.2.2.2],λx=>x.1.bx 0,λx=>Ji (F7 x.1 x.2.1 x.2.2.1 x.2.2.2.1 x.2.2.2.2).2,λx=>(F7 x.1 x.2.1 x.2.2.1 x.2.2.2.1 x.2.2.2.2).1.1.nx (F7 x.1 x.2.1 x.2.2.1 x.2.2.2.1 x.2.2.2.2).1.2,λx=>b0N x.1 x.2.2.1 x.2.2.2.1⟩
theorem jQ{a:Bool}(h:(!a)=false):a=true:=by cases a with|false=>cases h|true=>rfl
theorem a1I{e:Eng}{k:Nat}{g s:Int}{b a:Bz}{v:Nat}(h:(e.s.L.length:Int)+1+vN e+1>60):eN e k g s b a v=((e,v),7):=if_pos h
theorem dL{e:Eng}{k:Nat}{g s:Int}{b a:Bz}{v:Nat}(h:¬ (e.s.L.length:Int)+1+vN e+1>60)(u:(o6 e k (Q4 g s b a)).2=true):eN e k g s b a v=(((o6 e k (Q4 g s b a)).1,M9 (K7 e k (Q4 g s b a)).s g.toNat v),0):=by
 unfold eN;rw[if_neg h,if_pos u]
theorem a1J{e:Eng}{k:Nat}{g s:Int}{b a:Bz}{v:Nat}(h:¬ (e.s.L.length:Int)+1+vN e+1>60)(u:(o6 e k (Q4 g s b a)).2=false):eN e k g s b a v=((yD (o6 e k (Q4 g s b a)).1,0),15):=by
 unfold eN;rw[if_neg h,if_neg (by rw[u];simp)]
theorem a84{e:Eng}{k:Nat}{tx g s:Int}{b a:Bz}(h:XI e k tx)(i:0<=g/\g<=7)(f:0<=s/\s<=3)(B:b.length<=30)(A:a.length<=30):
  AddB e tx k (Q4 g s b a)/\mP (K7 e k (Q4 g s b a)).s (U0 e.s (Q9 e k (Q4 g s b a)))/\((o6 e k (Q4 g s b a)).2=false->H9 (o6 e k (Q4 g s b a)).1.s.d/\(o6 e k (Q4 g s b a)).1.s.d.E.length=69)/\((o6 e k (Q4 g s b a)).2=true->SI (o6 e k (Q4 g s b a)).1.s):=by
 have R:fX e k (Q4 g s b a):=by
  unfold fX Q4;dsimp only;exact⟨Z9,Z9,Z9,Z9,λ_=>rfl,λh=>absurd rfl h,Z9,Z9,i.1,i.2,f.1,f.2,B,A,λh=>Z9,h.u.u.lt⟩
 obtain⟨n,O⟩:=a4b h.u.u R;have j:SI (K7 e k (Q4 g s b a)).s:=a75 h.u.u.si O h.u.u.rm;have l:mP (K7 e k (Q4 g s b a)).s (U0 e.s (Q9 e k (Q4 g s b a))):=⟨j.iv,i.1,by show g<8;omega,f.1,by show s<4;omega⟩
 have L:=m3 e k (Q4 g s b a);exact⟨n,l,λU=>b5Q j U,λU=>(b4G j l ⟨by show 0<=((e.s.L.length:Int)+1);omega,by show((e.s.L.length:Int)+1)<=_;omega⟩ A U).1⟩
theorem c5m{e:Eng}{tx ta:Int}{r:Rw}{gone:Bool}(h:¬ (zJ e tx ta 2 r.id 4).2=0):F7 e tx ta r gone=zJ e tx ta 2 r.id 4:=by
 unfold F7;by_cases d:(S8 e tx).2=0
 ·have f:zJ e tx ta 2 r.id 4=wY e (S8 e tx).1.toNat ta 2 r.id 4:=if_pos d;rw[f] at h;rw[if_pos d,f];exact if_neg h
 ·rw[if_neg d,a66 d]
theorem c4S{e:Eng}{tx ta:Int}{r:Rw}{gone:Bool}{k:Nat}(f:(S8 e tx).2=0)(d:(S8 e tx).1=k)(h:(wY e k ta 2 r.id 4).2=0):F7 e tx ta r gone=a6u (wY e k ta 2 r.id 4).1.1 k ta r gone (Q6 (wY e k ta 2 r.id 4).1.1 tx ta r.id 8) (qV (wY e k ta 2 r.id 4).1.1 tx ta r.id 8):=by
 unfold F7 c6r;rw[if_pos f,d,C8,if_pos h]
set_option maxHeartbeats 4000000 in
theorem a0u:GK 28 b4u:=gk func28<|by
 rintro⟨e,tx,ta,r,gone⟩ ⟨O,M,hr,C,hb⟩;dsimp only at O M hr C hb ⊢;generalize hZ:F7 e tx ta r gone=Z;refine r9 (gC b1p (gC c0Y (gC a1F (gC b6q (gC lR (gC lS (gC pU (gC iC (gC a46 gN))))))))) func28 Y5 kP (α:=let pv:=(0=Z.2/\True);let pj:=(15=Z.2/\True);let m:=(0=0/\0=0);let pu:=(m/\True);∃(x:(Eng×Int×Int×Int×Int×Int)),let qe:=x.2.2.2;let v:=(zJ x.1 x.2.1 x.2.2.1 qe.1 qe.2.1 qe.2.2);((m/\tx=x.2.1/\ta=x.2.2.1/\2=qe.1/\r.id=qe.2.1/\4=qe.2.2/\True)/\(lZ (0) (0) e x.1)/\U3 x.1=true/\O3 x.1)/\br (v.2 !=0) ((v.2=Z.2/\True)/\tB (v.1.2) (Z.1.2) v.1.1 Z.1.1) (∃(X:(Eng×Int×Int×Int)),let z:=(q8 X.1 X.2.1 X.2.2.1 X.2.2.2);let w:=z.1.snd.fst;let y:=z.1.fst;let qt:=y.fst;((m/\tx=X.2.1/\ta=X.2.2.1/\r.id=X.2.2.2/\True)/\(lZ (v.1.2) (0) v.1.1 X.1)/\SI X.1.s/\tE X.1)/\br (! z.1.snd.snd) (∃(x:(Eng×Nat)),(pu/\(lZ (y.snd) (x.2) y.fst x.1)/\H9 x.1.s.d)/\pj/\tB (0) (Z.1.2) (yD x.1) Z.1.1) (∃(x:(Int×Rw)),((ta=x.1/\(r.id=x.2.id/\r.n.k=x.2.n.k/\r.n.n=x.2.n.n/\r.n.t=x.2.n.t/\r.name.k=x.2.name.k/\r.name.n=x.2.name.n/\r.name.t=x.2.name.t/\True)/\True)/\RwK x.2/\1<=x.1/\x.1<=3)/\bd (w.a≥(0:Int)) ((∃(o:(Sto×Nat×Nat)),let f:=(M9 o.1 o.2.1 o.2.2);let u:=(Y7 o.1 o.2.1);let qf:=u.1.fr.length;let pk:=(u.1.fr.getD u.2.1 dz);((m/\w.a=(o.2.1:Int)/\True)/\(LnS (y.snd) (o.2.2) qt.s o.1)/\bF o.1 o.2.1/\u.2.2=true)/\br false (∃(x:(Eng×Nat)),(pu/\(lZ f (x.2) {y.fst with s:=u.1} x.1)/\H9 x.1.s.d)/\pj/\tB (0) (Z.1.2) (yD x.1) Z.1.1) (Lt u.2.1 qf/\V3 w.b pk.pg.sl.length/\PfB f f u.2.1 u.1.fr.length w.b.toNat pk.pg.sl.length/\∃(j:(Eng×Int)),((Le (0+u.1.d.E.length) u.1.d.E.length/\Le (0+u.1.d.C.length) u.1.d.C.length/\Le (0+u.1.d.keep.length) u.1.d.keep.length/\Le (0+u.1.L.length) u.1.L.length/\Le (0+qf) qf/\Le (0+qt.X.length) qt.X.length/\Le (0+qt.lk.H.length) qt.lk.H.length/\Le (0+qt.lk.W.length) qt.lk.W.length)/\((qT {y.fst with s:=u.1} j.1)/\2=j.2/\True)/\tE j.1/\o4 j.2)/\br (!decide ((j.1.s.L.length:Int)+(↑(vN j.1):Int)+j.2<=60)) ((7=Z.2/\True)/\tB f (Z.1.2) {y.fst with s:=u.1} Z.1.1) (br gone (∃(x:(Eng×Int×Rec×Nat×Nat)),let qk:=x.1.s;let qg:=x.2.2.2;let pm:=(x.1.X.getD qg.1 dz);let pe:=x.2.2.1;let pq:=(qk.L++[U0 x.1.s (Q9 x.1 qg.1 pe)]);let pa:=(x.1.X.set qg.1 (Txn.mk pm.id ((qk.L.length:Int)+1)));((m/\tx=x.2.1/\(0=pe.e/\0=pe.l/\0=pe.t/\2=pe.k/\0=pe.p/\0=pe.n/\w.a=pe.g/\w.b=pe.s/\pk.pg.sl.getD w.b.toNat []=pe.b/\[]=pe.a/\True)/\True)/\(lZ f (qg.2) {y.fst with s:=u.1} x.1)/\AddB x.1 x.2.1 qg.1 pe)/\∃(i:(Sto×Rec×Nat)),let pw:=i.2.1;let qp:=(T7 i.1 pw);let qa:=(M9 i.1 pw.g.toNat i.2.2);((m/\(qk.ep=pw.e/\(qk.L.length:Int)+1=pw.l/\pm.id=pw.t/\pe.k=pw.k/\pm.Z=pw.p/\pe.n=pw.n/\pe.g=pw.g/\pe.s=pw.s/\pe.b=pw.b/\pe.a=pw.a/\True)/\True)/\(oM {x.1.s with L:=pq} i.1/\(Z3 Z6 qk.d.E i.1.d.E)/\(Z3 Z2 qk.d.C i.1.d.C)/\(Z3 Z0 qk.d.keep i.1.d.keep)/\(Z3 Y6 pq i.1.L)/\(qg.2=i.2.2/\qk.fr.length=i.1.fr.length/\V0 qk.fr.length (Y9 qk.fr) (Y9 i.1.fr))/\True)/\mP i.1 pw)/\br (! qp.2) (∃(q:(Eng×Nat)),(pu/\(lZ qa (q.2) {x.1 with s:=qp.1,X:=pa} q.1)/\H9 q.1.s.d)/\pj/\tB (0) (Z.1.2) (yD q.1) Z.1.1) (pv/\tB qa (Z.1.2) {x.1 with s:=qp.1,X:=pa} Z.1.1)) (∃(i:(Eng×Int×Rec×Nat×Nat)),let qm:=i.1.s;let qh:=i.2.2.2;let pn:=(i.1.X.getD qh.1 dz);let pf:=i.2.2.1;let pr:=(qm.L++[U0 i.1.s (Q9 i.1 qh.1 pf)]);let pb:=(i.1.X.set qh.1 (Txn.mk pn.id ((qm.L.length:Int)+1)));((m/\tx=i.2.1/\(0=pf.e/\0=pf.l/\0=pf.t/\2=pf.k/\0=pf.p/\0=pf.n/\w.a=pf.g/\w.b=pf.s/\pk.pg.sl.getD w.b.toNat []=pf.b/\qR x.1 x.2=pf.a/\True)/\True)/\(lZ f (qh.2) {y.fst with s:=u.1} i.1)/\AddB i.1 i.2.1 qh.1 pf)/\∃(x:(Sto×Rec×Nat)),let px:=x.2.1;let qq:=(T7 x.1 px);let qb:=(M9 x.1 px.g.toNat x.2.2);((m/\(qm.ep=px.e/\(qm.L.length:Int)+1=px.l/\pn.id=px.t/\pf.k=px.k/\pn.Z=px.p/\pf.n=px.n/\pf.g=px.g/\pf.s=px.s/\pf.b=px.b/\pf.a=px.a/\True)/\True)/\(oM {i.1.s with L:=pr} x.1/\(Z3 Z6 qm.d.E x.1.d.E)/\(Z3 Z2 qm.d.C x.1.d.C)/\(Z3 Z0 qm.d.keep x.1.d.keep)/\(Z3 Y6 pr x.1.L)/\(qh.2=x.2.2/\qm.fr.length=x.1.fr.length/\V0 qm.fr.length (Y9 qm.fr) (Y9 x.1.fr))/\True)/\mP x.1 px)/\br (! qq.2) (∃(q:(Eng×Nat)),(pu/\(lZ qb (q.2) {i.1 with s:=qq.1,X:=pb} q.1)/\H9 q.1.s.d)/\pj/\tB (0) (Z.1.2) (yD q.1) Z.1.1) (pv/\tB qb (Z.1.2) {i.1 with s:=qq.1,X:=pb} Z.1.1)))))∨∃(x:(Sto×Nat×Nat)),((m/\w.a=(x.2.1:Int)/\True)/\(LnS (y.snd) (x.2.2) qt.s x.1)/\bF x.1 x.2.1/\(Y7 x.1 x.2.1).2.2=false)/\br true (∃(o:(Eng×Nat)),(pu/\(lZ (M9 x.1 x.2.1 x.2.2) (o.2) {y.fst with s:=(Y7 x.1 x.2.1).1} o.1)/\H9 o.1.s.d)/\pj/\tB (0) (Z.1.2) (yD o.1) Z.1.1) False) (br gone ((5=Z.2/\True)/\tB (y.snd) (Z.1.2) y.fst Z.1.1) (bd (w.c<0) ((12=Z.2/\True)/\tB (y.snd) (Z.1.2) y.fst Z.1.1) (∃(o:(Eng×Int)),((LeG qt)/\((qT y.fst o.1)/\2=o.2/\True)/\tE o.1/\o4 o.2)/\br (!decide ((o.1.s.L.length:Int)+(↑(vN o.1):Int)+o.2<=60)) ((7=Z.2/\True)/\tB (y.snd) (Z.1.2) y.fst Z.1.1) (br gone (∃(x:(Eng×Int×Rec×Nat×Nat)),let qn:=x.1.s;let qi:=x.2.2.2;let po:=(x.1.X.getD qi.1 dz);let ph:=x.2.2.1;let ps:=(qn.L++[U0 x.1.s (Q9 x.1 qi.1 ph)]);let pc:=(x.1.X.set qi.1 (Txn.mk po.id ((qn.L.length:Int)+1)));((m/\tx=x.2.1/\(0=ph.e/\0=ph.l/\0=ph.t/\2=ph.k/\0=ph.p/\0=ph.n/\w.c=ph.g/\w.d=ph.s/\[]=ph.b/\[]=ph.a/\True)/\True)/\(lZ (y.snd) (qi.2) y.fst x.1)/\AddB x.1 x.2.1 qi.1 ph)/\∃(j:(Sto×Rec×Nat)),let py:=j.2.1;let qr:=(T7 j.1 py);let qc:=(M9 j.1 py.g.toNat j.2.2);((m/\(qn.ep=py.e/\(qn.L.length:Int)+1=py.l/\po.id=py.t/\ph.k=py.k/\po.Z=py.p/\ph.n=py.n/\ph.g=py.g/\ph.s=py.s/\ph.b=py.b/\ph.a=py.a/\True)/\True)/\(oM {x.1.s with L:=ps} j.1/\(Z3 Z6 qn.d.E j.1.d.E)/\(Z3 Z2 qn.d.C j.1.d.C)/\(Z3 Z0 qn.d.keep j.1.d.keep)/\(Z3 Y6 ps j.1.L)/\(qi.2=j.2.2/\qn.fr.length=j.1.fr.length/\V0 qn.fr.length (Y9 qn.fr) (Y9 j.1.fr))/\True)/\mP j.1 py)/\br (! qr.2) (∃(i:(Eng×Nat)),(pu/\(lZ qc (i.2) {x.1 with s:=qr.1,X:=pc} i.1)/\H9 i.1.s.d)/\pj/\tB (0) (Z.1.2) (yD i.1) Z.1.1) (pv/\tB qc (Z.1.2) {x.1 with s:=qr.1,X:=pc} Z.1.1)) (∃(j:(Eng×Int×Rec×Nat×Nat)),let qo:=j.1.s;let qj:=j.2.2.2;let pp:=(j.1.X.getD qj.1 dz);let pi:=j.2.2.1;let pt:=(qo.L++[U0 j.1.s (Q9 j.1 qj.1 pi)]);let pd:=(j.1.X.set qj.1 (Txn.mk pp.id ((qo.L.length:Int)+1)));((m/\tx=j.2.1/\(0=pi.e/\0=pi.l/\0=pi.t/\2=pi.k/\0=pi.p/\0=pi.n/\w.c=pi.g/\w.d=pi.s/\[]=pi.b/\qR x.1 x.2=pi.a/\True)/\True)/\(lZ (y.snd) (qj.2) y.fst j.1)/\AddB j.1 j.2.1 qj.1 pi)/\∃(x:(Sto×Rec×Nat)),let pz:=x.2.1;let qs:=(T7 x.1 pz);let qd:=(M9 x.1 pz.g.toNat x.2.2);((m/\(qo.ep=pz.e/\(qo.L.length:Int)+1=pz.l/\pp.id=pz.t/\pi.k=pz.k/\pp.Z=pz.p/\pi.n=pz.n/\pi.g=pz.g/\pi.s=pz.s/\pi.b=pz.b/\pi.a=pz.a/\True)/\True)/\(oM {j.1.s with L:=pt} x.1/\(Z3 Z6 qo.d.E x.1.d.E)/\(Z3 Z2 qo.d.C x.1.d.C)/\(Z3 Z0 qo.d.keep x.1.d.keep)/\(Z3 Y6 pt x.1.L)/\(qj.2=x.2.2/\qo.fr.length=x.1.fr.length/\V0 qo.fr.length (Y9 qo.fr) (Y9 x.1.fr))/\True)/\mP x.1 pz)/\br (! qs.2) (∃(i:(Eng×Nat)),(pu/\(lZ qd (i.2) {j.1 with s:=qs.1,X:=pd} i.1)/\H9 i.1.s.d)/\pj/\tB (0) (Z.1.2) (yD i.1) Z.1.1) (pv/\tB qd (Z.1.2) {j.1 with s:=qs.1,X:=pd} Z.1.1))))))))) ⟨(e,tx,ta,2,r.id,4),⟨Z8,Z8,O,M⟩,λQ=>?_,λQ=>?_⟩
 ·rw[←hZ,c5m (b0u Q)];exact Z8
 have Q:(zJ e tx ta 2 r.id 4).2=0:=a3b Q;have A:(S8 e tx).2=0:=by
  by_cases h:(S8 e tx).2=0
  ·exact h
  ·rw[a66 h] at Q;exact absurd Q h
 obtain⟨U,k,J,hk,hi,ha⟩:=i3 A;have Y:=b6b O M U ha hk hi;have B:zJ e tx ta 2 r.id 4=wY e k ta 2 r.id 4:=kZ A J;rw[B] at Q;have z:=kM (kM Y ta (-1) 2) ta r.id 4;rw[c4S A J Q] at hZ;dsimp only;rw[B];rw[b7h Q] at hZ ⊢;dsimp only at hZ ⊢;generalize jA (jA e k ta (-1) 2) k ta r.id 4=e2 at*;clear B Q O M Y U hk hi ha J A;have hF:=c0R z.u.u.si tx ta r.id 8 (U9 _);refine⟨(e2,tx,ta,r.id),⟨Z8,Z8,z.u.u.si,z.nd⟩,?_⟩
 dsimp only;rw[(q8 e2 tx ta r.id).2];dsimp only;generalize Q6 e2 tx ta r.id 8=f at*;generalize qV e2 tx ta r.id 8=v at*;obtain⟨fs,fp,fl⟩:=f;obtain⟨hlv,N,hpl⟩:=hF;dsimp only at hlv N hpl hZ ⊢;refine⟨λhd=>?_,λhl=>⟨(ta,r),⟨Z8,hr,C.1,C.2⟩,λha=>?_,λha=>?_⟩⟩
 ·have hd:fl=false:=kA hd;have eZ:Z=((yD (K1 e2 fs),0),15):=by rw[←hZ,hd];rfl
  rw[eZ];exact⟨(K1 e2 fs,v),⟨Z8,Z8,(N hd).1⟩,Z8⟩
 ·have hl:fl=true:=jQ hl;subst hl;obtain⟨s1,s2,s3⟩:=hlv rfl;have ha:fp.a≥0:=B3 ha;have hna:¬fp.a<0:=by omega
  have aa:=hpl.1.resolve_left Z9
  have L:(oE fp).b=fp.b:=if_neg hna;have eW:Z=if(Y7 fs fp.a.toNat).2.2=true then eN (K1 e2 (yN e2 fp fs).1) k fp.a fp.b (yN e2 fp fs).2 (if gone=true then[] else qR ta r) (M9 fs fp.a.toNat v) else((yD (K1 e2 (yN e2 fp fs).1),0),15):=by
   rw[←hZ];unfold a6u;dsimp only;rw[if_pos rfl,if_neg hna]
  clear hZ;rw[L];have F:(oE fp).a=fp.a:=rfl;rw[F];cases U:(Y7 fs fp.a.toNat).2.2 with
  |false=>
   rw[if_neg (by rw[U];simp)] at eW
   refine .inr ⟨(fs,fp.a.toNat,v),⟨⟨Z8,W5,Z5⟩,Z8,⟨s1.iv,W5⟩,U⟩,λ_=>?_,λW=>(by cases W)⟩
   rw[eW];exact⟨(K1 e2 (yN e2 fp fs).1,M9 fs fp.a.toNat v),⟨Z8,Z8,(a2e s1 U).1⟩,Z8⟩
  |true=>
   rw[if_pos U] at eW;obtain⟨j1,j2⟩:=eS s1 (show fp.a.toNat<8 by omega) U
   obtain⟨f2,_,_,R,ps⟩:=oX s1.iv (show fp.a.toNat<8 by omega) U
   have hX3:XI (K1 e2 (yN e2 fp fs).1) k tx:=b9D z j1 (j2.trans s2) (a8v.trans s3);have hsl:(yN e2 fp fs).2.length<=30:=ps fp.b.toNat (by rw[R];omega)
   refine .inl ⟨(fs,fp.a.toNat,v),⟨⟨Z8,W5,Z5⟩,Z8,⟨s1.iv,W5⟩,U⟩,λW=>(by cases W),λ_=>⟨f2,⟨Z9,by dsimp only;rw[R];omega⟩,⟨rfl,f2,by dsimp only;rw[R];omega⟩,(K1 e2 (yN e2 fp fs).1,2),⟨⟨cM _,cM _,cM _,cM _,cM _,cM _,cM _,cM _⟩,⟨⟨⟨rfl,W2 _ _⟩,⟨rfl,W2 _ _⟩,rfl,⟨rfl,W2 _ _⟩,rfl,⟨rfl,W2 _ _⟩,rfl,⟨rfl,λ_ _=>rfl⟩,rfl,rfl,Z8,Z8,Z8,rfl,Z5⟩,Z8⟩,hX3.nd,a8K⟩,λhc=>?_,λhc=>⟨λhg=>?_,λhg=>?_⟩⟩⟩
   ·have hc:=k5 (kA hc);rw[eW,a1I (by dsimp only at hc;omega)]
    exact Z8
   ·have hc:=B3 (jQ hc);dsimp only at hc;rw[if_pos hg] at eW;obtain⟨hA,hP,hD,_⟩:=a84 hX3 (g:=fp.a) (s:=fp.b) (b:=(yN e2 fp fs).2) (a:=[]) Z9 Z9 hsl (L8 _)
    have hZ:=eW;exact⟨((K1 e2 (yN e2 fp fs).1),tx,Q4 fp.a fp.b (yN e2 fp fs).2 [],k,(M9 fs fp.a.toNat v)),⟨Z8,Z8,hA⟩,((K7 (K1 e2 (yN e2 fp fs).1) k (Q4 fp.a fp.b (yN e2 fp fs).2 [])).s,U0 (K1 e2 (yN e2 fp fs).1).s (Q9 (K1 e2 (yN e2 fp fs).1) k (Q4 fp.a fp.b (yN e2 fp fs).2 [])),(M9 fs fp.a.toNat v)),⟨Z8,Z8,hP⟩,λU=>(by
      have U:(o6 (K1 e2 (yN e2 fp fs).1) k (Q4 fp.a fp.b (yN e2 fp fs).2 [])).2=false:=kA U;rw[hZ,a1J Z9 U]
      exact⟨((o6 (K1 e2 (yN e2 fp fs).1) k (Q4 fp.a fp.b (yN e2 fp fs).2 [])).1,M9 (K7 (K1 e2 (yN e2 fp fs).1) k (Q4 fp.a fp.b (yN e2 fp fs).2 [])).s fp.a.toNat (M9 fs fp.a.toNat v)),⟨Z8,Z8,(hD U).1⟩,Z8⟩),λU=>(by
      have U:(o6 (K1 e2 (yN e2 fp fs).1) k (Q4 fp.a fp.b (yN e2 fp fs).2 [])).2=true:=jQ U;rw[hZ,dL Z9 U]
      exact Z8)⟩
   ·have hc:=B3 (jQ hc);dsimp only at hc;rw[if_neg (by rw[hg];simp)] at eW
    obtain⟨hA,hP,hD,_⟩:=a84 hX3 (g:=fp.a) (s:=fp.b) (b:=(yN e2 fp fs).2) (a:=qR ta r) Z9 Z9 hsl hb
    have hZ:=eW;exact⟨((K1 e2 (yN e2 fp fs).1),tx,Q4 fp.a fp.b (yN e2 fp fs).2 (qR ta r),k,(M9 fs fp.a.toNat v)),⟨Z8,Z8,hA⟩,((K7 (K1 e2 (yN e2 fp fs).1) k (Q4 fp.a fp.b (yN e2 fp fs).2 (qR ta r))).s,U0 (K1 e2 (yN e2 fp fs).1).s (Q9 (K1 e2 (yN e2 fp fs).1) k (Q4 fp.a fp.b (yN e2 fp fs).2 (qR ta r))),(M9 fs fp.a.toNat v)),⟨Z8,Z8,hP⟩,λU=>(by
      have U:(o6 (K1 e2 (yN e2 fp fs).1) k (Q4 fp.a fp.b (yN e2 fp fs).2 (qR ta r))).2=false:=kA U;rw[hZ,a1J Z9 U]
      exact⟨((o6 (K1 e2 (yN e2 fp fs).1) k (Q4 fp.a fp.b (yN e2 fp fs).2 (qR ta r))).1,M9 (K7 (K1 e2 (yN e2 fp fs).1) k (Q4 fp.a fp.b (yN e2 fp fs).2 (qR ta r))).s fp.a.toNat (M9 fs fp.a.toNat v)),⟨Z8,Z8,(hD U).1⟩,Z8⟩),λU=>(by
      have U:(o6 (K1 e2 (yN e2 fp fs).1) k (Q4 fp.a fp.b (yN e2 fp fs).2 (qR ta r))).2=true:=jQ U;rw[hZ,dL Z9 U]
      exact Z8)⟩
 ·have hl:fl=true:=jQ hl;subst hl;obtain⟨s1,s2,s3⟩:=hlv rfl;have ha:fp.a<0:=by have:¬fp.a≥0:=k5 ha;omega
  have hX3:XI (K1 e2 fs) k tx:=b9D z s1 s2 s3;have eW:Z=if gone=true then((K1 e2 fs,v),5) else if fp.c<0 then((K1 e2 fs,v),12) else eN (K1 e2 fs) k fp.c fp.d [] (qR ta r) v:=by
   rw[←hZ];unfold a6u;dsimp only;rw[if_pos rfl,if_pos ha]
  clear hZ;refine⟨λhg=>?_,λhg=>⟨λhc=>?_,λhc=>?_⟩⟩
  ·rw[eW,if_pos hg];exact Z8
  ·have hc:fp.c<0:=B3 hc;rw[eW,if_neg (by rw[hg];simp),if_pos hc]
   exact Z8
  ·have hnc:¬fp.c<0:=k5 hc;have hpc:=hpl.2.resolve_left Z9
   have L:(oE fp).d=fp.d:=if_neg hnc;have I:(oE fp).c=fp.c:=rfl;rw[if_neg (by rw[hg];simp),if_neg hnc] at eW
   rw[L,I];refine⟨(K1 e2 fs,2),⟨Z8,Z8,hX3.nd,a8K⟩,λhc=>?_,λhc=>⟨λV=>?_,λ_=>?_⟩⟩
   ·have hc:=k5 (kA hc);rw[eW,a1I (by dsimp only at hc;omega)]
    exact Z8
   ·rw[V] at hg;cases hg
   ·have hc:=B3 (jQ hc);dsimp only at hc;obtain⟨hA,hP,hD,_⟩:=a84 hX3 (g:=fp.c) (s:=fp.d) (b:=[]) (a:=qR ta r) Z9 Z9 (L8 _) hb
    have hZ:=eW;exact⟨((K1 e2 fs),tx,Q4 fp.c fp.d [] (qR ta r),k,v),⟨Z8,Z8,hA⟩,((K7 (K1 e2 fs) k (Q4 fp.c fp.d [] (qR ta r))).s,U0 (K1 e2 fs).s (Q9 (K1 e2 fs) k (Q4 fp.c fp.d [] (qR ta r))),v),⟨Z8,Z8,hP⟩,λU=>(by
      have U:(o6 (K1 e2 fs) k (Q4 fp.c fp.d [] (qR ta r))).2=false:=kA U;rw[hZ,a1J Z9 U]
      exact⟨((o6 (K1 e2 fs) k (Q4 fp.c fp.d [] (qR ta r))).1,M9 (K7 (K1 e2 fs) k (Q4 fp.c fp.d [] (qR ta r))).s fp.c.toNat v),⟨Z8,Z8,(hD U).1⟩,Z8⟩),λU=>(by
      have U:(o6 (K1 e2 fs) k (Q4 fp.c fp.d [] (qR ta r))).2=true:=jQ U;rw[hZ,dL Z9 U]
      exact Z8)⟩
theorem b0k{e:Eng}{k:Nat}{tx:Int}(h:XI e k tx):O3 e:=c2g h.u.u
theorem b4q{e:Eng}{k:Nat}{tx ta row mo:Int}(h:XI e k tx):O3 (E6 e k ta row mo).1:=by
 have t:=kM h ta row mo;unfold E6;split
 ·exact b60 (a0M t.u (Int.le_refl 0))
 ·exact b0k t
theorem b6h{e:Eng}{k:Nat}{tx g s:Int}{b a:Bz}{v:Nat}(h:XI e k tx)(i:0<=g/\g<=7)(d:0<=s/\s<=3)(B:b.length<=30)(A:a.length<=30):O3 (eN e k g s b a v).1.1:=by
 obtain⟨_,_,j,n⟩:=a84 h i d B A;by_cases C:(e.s.L.length:Int)+1+vN e+1>60
 ·rw[a1I C];exact b0k h
 ·cases hu:(o6 e k (Q4 g s b a)).2 with
  |false=>
   rw[a1J C hu];exact gX (j hu).1
  |true=>
   rw[dL C hu];have l:=h.u.u.t10;have f:=h.u.u.lk;have L:(o6 e k (Q4 g s b a)).1.X.length=e.X.length:=w6;exact⟨(n hu).iv.sm,W5,by show e.lk.H.length<=_;omega,by show e.lk.W.length<=_;omega⟩
theorem b7A{e:Eng}{tx ta:Int}{r:Rw}{gone:Bool}(h:b0N e ta r):O3 (F7 e tx ta r gone).1.1:=by
 obtain⟨ho,hm,R,t,B⟩:=h;by_cases hk0:(S8 e tx).2=0
 ·obtain⟨hu,k,e1,hk,hi,ha⟩:=i3 hk0;have hX:=b6b ho hm hu ha hk hi;by_cases hq:(wY e k ta 2 r.id 4).2=0
  ·rw[c4S hk0 e1 hq,b7h hq];have hX2:=kM (kM hX ta (-1) 2) ta r.id 4;dsimp only;generalize jA (jA e k ta (-1) 2) k ta r.id 4=e2 at*;have hF:=c0R hX2.u.u.si tx ta r.id 8 (U9 _);generalize Q6 e2 tx ta r.id 8=f at*;generalize qV e2 tx ta r.id 8=v at*;obtain⟨fs,fp,fl⟩:=f;obtain⟨hlv,hdn,hpl⟩:=hF;dsimp only at hlv hdn hpl;unfold a6u;dsimp only;cases fl with
   |false=>
    rw[if_neg W6]
    exact gX (hdn rfl).1
   |true=>
    obtain⟨s1,i,j⟩:=hlv rfl;have d:XI (K1 e2 fs) k tx:=b9D hX2 s1 i j;rw[if_pos rfl];split
    ·split
     ·exact b0k d
     ·split
      ·exact b0k d
      ·rename_i _ _ hnc;have hpc:=hpl.2.resolve_left Z9
       exact b6h d Z9 Z9 (L8 _) B
    ·rename_i hna;have hpa:=hpl.1.resolve_left Z9
     split
     ·rename_i hu;obtain⟨j1,j2⟩:=eS s1 (show fp.a.toNat<8 by omega) hu
      obtain⟨F,_,_,n,ps⟩:=oX s1.iv (show fp.a.toNat<8 by omega) hu
      have g:XI (K1 e2 (yN e2 fp fs).1) k tx:=b9D hX2 j1 (j2.trans i) (a8v.trans j);have l:(yN e2 fp fs).2.length<=30:=ps fp.b.toNat (by rw[n];omega)
      refine b6h g Z9 Z9 l ?_
      split
      ·exact L8 _
      ·exact B
     ·rename_i hu;exact gX (a2e s1 a4W).1
  ·rw[c5m (by rw[kZ hk0 e1];exact hq),kZ hk0 e1]
   unfold wY;split
   ·rename_i o;rw[a33 o];exact b4q (kM hX ta (-1) 2)
   ·exact b4q hX
 ·have e1:F7 e tx ta r gone=((e,0),(S8 e tx).2):=if_neg hk0;rw[e1];exact hm
def zB(o a b:Bool):Int:=if(o&&a)=true then(if b=true then 0 else 4) else 1
def c0K:Con:=.rel ⟨Eng×Bool×Bool,λx=>[.agg x.1.ts,.bool x.2.1,.bool x.2.2],λx=>Ji (zB (U3 x.1) x.2.1 x.2.2),λx=>tF x.1⟩
theorem a3w:GK 25 c0K:=gk func25<|by
 rintro⟨e,a,b⟩ h;refine R1 (gC v7 gN) func25 Y5 (α:=∃(x:D5.ι),(((F9 e x)/\True)/\tF x)/\br (!U3 x|| !a) (1=zB (U3 e) a b) (br (!b) (4=zB (U3 e) a b) (0=zB (U3 e) a b))) ⟨e,⟨Z8,h⟩,λhq=>?_,λhq=>⟨λB=>?_,λB=>?_⟩⟩
 ·unfold zB;rw[if_neg (by intro h2;rw[M1] at h2;rw[h2.1,h2.2] at hq;cases hq)]
 ·have h2:(U3 e&&a)=true:=by cases ho:U3 e<;>cases a<;>rw[ho] at hq<;>first|rfl|cases hq
  unfold zB;rw[if_pos h2,if_neg (by cases b<;>simp at B ⊢)]
 ·have h2:(U3 e&&a)=true:=by cases ho:U3 e<;>cases a<;>rw[ho] at hq<;>first|rfl|cases hq
  unfold zB;rw[if_pos h2,if_pos (by cases b<;>simp at B ⊢)]
def H8(e:Eng)(tx ta id:Int):Eng×Int:=if zB (U3 e) true (V8 ta 1 3&&V8 id 0 1000)=0 then((F7 e tx ta (bU id) true).1.1,(F7 e tx ta (bU id) true).2) else(b1R,zB (U3 e) true (V8 ta 1 3&&V8 id 0 1000))
theorem c1C{o a b:Bool}(h:(zB o a b !=0)=false):o=true/\a=true/\b=true:=by
 unfold zB at h;cases o<;>cases a<;>cases b<;>first|exact⟨rfl,rfl,rfl⟩|cases h
theorem c1M{o a b:Bool}(h:(zB o a b !=0)=true):¬zB o a b=0:=F6
theorem c2h{ta id:Int}(h:1<=ta/\ta<=3)(hi:0<=id/\id<=1000):(qR ta (bU id)).length<=30:=by
 unfold qR zP;simp only[J6];exact yQ rfl
theorem c2c{e:Eng}{tx ta id:Int}(h:zB (U3 e) true (V8 ta 1 3&&V8 id 0 1000)=0):H8 e tx ta id=((F7 e tx ta (bU id) true).1.1,(F7 e tx ta (bU id) true).2):=if_pos h
theorem c50{e:Eng}{ta id:Int}(h:(zB (U3 e) true (V8 ta 1 3&&V8 id 0 1000) !=0)=false)(d:O3 e):b0N e ta (bU id):=by
 obtain⟨o,_,B⟩:=c1C h;rw[M1] at B;have t:=yM B.1;have hi:=yM B.2;exact⟨o,d,⟨⟨L8 _,.inl rfl⟩,⟨L8 _,.inl rfl⟩,hi⟩,t,c2h t hi⟩
theorem c0C{t:Bz}(h:i5 t=true):t.length<=10:=by
 unfold i5 at h;rw[M1] at h;exact B3 h.2
theorem b7v{v:Val}(h:Q5 v=true):a1b v/\(zP v).length<=12/\(v.k≠2->(zP v).length<=5):=by
 unfold Q5 at h;unfold a1b zP;by_cases h0:v.k=0
 ·rw[if_pos h0,M1] at h;have ht:v.t=[]:=by simpa using h.2
  rw[if_pos h0,ht];exact⟨⟨L8 _,.inl h0⟩,U4,λ_=>U4⟩
 ·rw[if_neg h0] at h ⊢;by_cases h1:v.k=1
  ·rw[if_pos h1,M1] at h;have ht:v.t=[]:=by simpa using h.2
   have r:=yM h.1;rw[if_pos h1,ht];have d:(2::z7 (v.n+1000000000).toNat).length=5:=rfl;rw[d];exact⟨⟨L8 _,.inr (.inl ⟨h1,r⟩)⟩,U4,λ_=>U4⟩
  ·rw[if_neg h1,M1,M1] at h;rw[if_neg h1];have h2:v.k=2:=by simpa using h.1.1
   have l:=c0C h.2;refine⟨⟨Z9,.inr (.inr h2)⟩,?_,λN=>absurd h2 N⟩
   simp only[List.length_cons,J6,List.length_nil];omega
theorem a9I{r:Rw}(h:L4 r=true):RwK r/\∀ta:Int,(qR ta r).length<=30:=by
 unfold L4 at h;rw[M1,M1,M1,M1] at h;obtain⟨⟨⟨⟨g,d⟩,i⟩,e⟩,j⟩:=h;obtain⟨A,_,f⟩:=b7v d;obtain⟨B,b2,_⟩:=b7v e;have hi:=yM g;refine⟨⟨A,B,hi⟩,λta=>?_⟩
 have l:=f (by simpa using i)
 unfold qR;have C:(zP ⟨1,ta,[]⟩).length=5:=rfl;have c2:(zP ⟨1,r.id,[]⟩).length=5:=rfl;rw[J6,J6,J6];omega
def M6(e:Eng)(tx ta:Int)(r:Rw):Eng×Int:=if zB (U3 e) (L4 r) (V8 ta 1 3)=0 then((F7 e tx ta r false).1.1,(F7 e tx ta r false).2) else(b1R,zB (U3 e) (L4 r) (V8 ta 1 3))
theorem c2n{e:Eng}{tx ta:Int}{r:Rw}(h:zB (U3 e) (L4 r) (V8 ta 1 3)=0):M6 e tx ta r=((F7 e tx ta r false).1.1,(F7 e tx ta r false).2):=if_pos h
theorem c6j{e:Eng}{ta:Int}{r:Rw}(h:(zB (U3 e) (L4 r) (V8 ta 1 3) !=0)=false)(g:O3 e):b0N e ta r:=by
 obtain⟨o,R,t⟩:=c1C h;obtain⟨d,f⟩:=a9I R;exact⟨o,g,d,yM t,f ta⟩
structure Fw(m:Nat)(e f:Eng):Prop where
 ei:EI f
 ln:f.X.length=1
 id:(f.X.getD 0 dz).id=(e.X.getD 0 dz).id
 nx:f.N=e.N
 la:(e.X.getD 0 dz).Z<=(f.X.getD 0 dz).Z
 ow:∀a t:Int,ownR e.s.L a t=true->ownR f.s.L a t=true
 bk:∀to:Int,0<=to->to<=(e.X.getD 0 dz).Z->sZ f.s.L to 61 (f.X.getD 0 dz).Z (vw f.s)=sZ e.s.L to 61 (e.X.getD 0 dz).Z (vw e.s)
 lg:f.s.L.length<=e.s.L.length+m
theorem Fw.up{m n:Nat}{e f:Eng}(h:Fw m e f)(M:m<=n):Fw n e f:=⟨h.ei,h.ln,h.id,h.nx,h.la,h.ow,h.bk,Nat.le_trans h.lg Z9⟩
theorem Fw.tr{m n:Nat}{e f g:Eng}(a:Fw m e f)(b:Fw n f g):Fw (m+n) e g:=
 ⟨b.ei,b.ln,b.id.trans a.id,b.nx.trans a.nx,Int.le_trans a.la b.la,λx t h=>b.ow x t (a.ow x t h),λto i d=>(b.bk to i (Int.le_trans d a.la)).trans (a.bk to i d),by have:=a.lg;have:=b.lg;omega⟩
theorem a0p{e f:Eng}(h:EI f)(g:e.X.length=1)(d:f.X=e.X)(n:f.N=e.N)(l:f.s.L=e.s.L)(hv:vw f.s=vw e.s):Fw 0 e f:=
 ⟨h,by rw[d];exact g,by rw[d],n,by rw[d];exact Int.le_refl _,λa t h=>by rw[l];exact h,λto _ _=>by rw[d,l,hv],by rw[l];exact U9 _⟩
theorem c2N{e:Eng}(h:EI e)(I:e.X.length=1){g s:Int}{a:Bz}(o:0<=g/\g<=7)(u:0<=s/\s<=3)(C:(vw e.s g.toNat s.toNat).length<=30)(A:a.length<=30)(M:e.s.L.length+vN e+2<=60):Fw 1 e (o6 e 0 (Q4 g s (vw e.s g.toNat s.toNat) a)).1:=by
 have d:0<e.X.length:=Z9
 have E:=(b59 h d o u C A M).1;generalize U:vw e.s g.toNat s.toNat=b at*;have Q:D0 (U0 e.s (Q9 e 0 (Q4 g s b a))):=h.rcp d (by show(2:Int)≠6;decide) (by show(2:Int)<=2/\(2:Int)<=5;decide) (λ_=>rfl) (λe _=>absurd rfl e) ⟨Int.le_refl _,fE⟩ o u ⟨C,A⟩ (λe=>by cases e)
 have F:=h.app d Q;have n:=m3 e 0 (Q4 g s b a);have b0:0<=(U0 e.s (Q9 e 0 (Q4 g s b a))).g/\(U0 e.s (Q9 e 0 (Q4 g s b a))).g<8:=⟨o.1,by show g<8;omega⟩
 have B:0<=(U0 e.s (Q9 e 0 (Q4 g s b a))).s/\(U0 e.s (Q9 e 0 (Q4 g s b a))).s<4:=⟨u.1,by show s<4;omega⟩
 have b2:1<=(U0 e.s (Q9 e 0 (Q4 g s b a))).l/\(U0 e.s (Q9 e 0 (Q4 g s b a))).l<=(K7 e 0 (Q4 g s b a)).s.L.length:=⟨a9i,a9D⟩
 have V:vw (o6 e 0 (Q4 g s b a)).1.s=bS g.toNat s.toNat a (vw e.s):=b5v F b0 B b2 A;have Lg:(o6 e 0 (Q4 g s b a)).1.s.L=e.s.L++[U0 e.s (Q9 e 0 (Q4 g s b a))]:=(a3m F b0 B b2 A).2.2.1;have T:(o6 e 0 (Q4 g s b a)).1.X=e.X.set 0 ⟨(e.X.getD 0 dz).id,(e.s.L.length:Int)+1⟩:=rfl;have N:(o6 e 0 (Q4 g s b a)).1.N=e.N:=rfl;have L:=h.h.li.1;have J:=B2 (h.h.ow 0 d);generalize (o6 e 0 (Q4 g s b a)).1=f at*;have T0:f.X.getD 0 dz=⟨(e.X.getD 0 dz).id,(e.s.L.length:Int)+1⟩:=by rw[T,yB _ 0 d,if_pos rfl]
 have X:(U0 e.s (Q9 e 0 (Q4 g s b a))).k=2:=rfl;have r:(U0 e.s (Q9 e 0 (Q4 g s b a))).p=(e.X.getD 0 dz).Z:=rfl;have j:(U0 e.s (Q9 e 0 (Q4 g s b a))).g=g:=rfl;have i:(U0 e.s (Q9 e 0 (Q4 g s b a))).s=s:=rfl;have q:(U0 e.s (Q9 e 0 (Q4 g s b a))).b=b:=rfl;generalize U0 e.s (Q9 e 0 (Q4 g s b a))=x at*;have v:=E.h.li.1;refine⟨E,by rw[T,w6];exact I,by rw[T0],N,by rw[T0];dsimp only;omega,λa t h=>by rw[Lg];exact zW h,λto z O=>?_,by rw[Lg,J6,List.length_singleton];exact U9 _⟩
 rw[T0];dsimp only;have R:Z4 f.s.L ((e.s.L.length:Int)+1)=x:=by rw[Lg];exact q9 _ _
 rw[c3Y v z Z9 (by rw[Lg,J6,List.length_singleton];omega) (by rw[R];exact X),R,r,j,i,q,V,Lg,mC L z _ _ _ J.2,←U,c2I]
theorem b7M{e:Eng}(h:EI e)(d:e.X.length=1){g s:Int}{b a:Bz}{v:Nat}(hg:0<=g/\g<=7)(hs:0<=s/\s<=3)(q:b=vw e.s g.toNat s.toNat)(hb:b.length<=30)(ha:a.length<=30):Fw 1 e (eN e 0 g s b a v).1.1:=by
 subst q;by_cases hc:(e.s.L.length:Int)+1+vN e+1>60
 ·rw[a1I hc];exact(a0p h d rfl rfl rfl rfl).up (L8 _)
 ·rw[dL hc (b59 h Z9 hg hs hb ha Z9).2]
  exact c2N h d hg hs hb ha Z9
theorem a58{e:Eng}(h:GInv e.s)(tx ta id:Int):∀n,n<=8->vw (Q6 e tx ta id n).1=vw e.s
 |0,_=>rfl
 |n+1,hn=>by
  obtain⟨g,_,d,_⟩:=a8T h tx ta id n Z9
  obtain⟨_,f⟩:=qJ g (no:=n) Z9
  unfold Q6;rw[if_pos d,if_pos f];exact(b7i g Z9).trans (a58 h tx ta id n Z9)
def c32(e:Eng)(A:Plc):Prop:=0<=A.c->vw e.s A.c.toNat A.d.toNat=[]
theorem b3L{e:Eng}{tx ta id:Int}{no:Nat}{p:Pg}{A:Plc}(N:no<8)(hp:∀i,p.sl.getD i []=vw e.s no i)(h:c32 e A):∀n,c32 e (vE e tx ta id no p A n)
 |0=>h
 |n+1=>by
  have I:=b3L (tx:=tx) (ta:=ta) (id:=id) N hp h n;unfold vE;dsimp only;split
  ·rename_i h0;split
   ·intro _;dsimp only;rw[C8,C8,←hp n];exact h0
   ·exact I
  ·split
   ·exact I
   ·exact I
theorem c2z{e:Eng}(h:GInv e.s)(tx ta id:Int):∀n,n<=8->c32 e (Q6 e tx ta id n).2.1
 |0,_=>λC=>absurd C (by show ¬ (0:Int)<= -1;decide)
 |n+1,hn=>by
  obtain⟨g,_,d,_⟩:=a8T h tx ta id n Z9
  obtain⟨_,f⟩:=qJ g (no:=n) Z9
  have I:=c2z h tx ta id n Z9
  have hv:=a58 h tx ta id n Z9
  unfold Q6;rw[if_pos d,if_pos f];refine b3L Z9 (λi=>?_) I 4
  rw[←hv,eP g Z9]
  unfold vw;rw[if_pos Z9]
theorem c69{e:Eng}(h:EI e)(g:e.X.length=1)(ta row mo:Int):(M4 e.lk (qX e 0 ta row mo)).2≠14:=by
 have d:(zK e.lk (qX e 0 ta row mo)).length=0:=by
  cases q:zK e.lk (qX e 0 ta row mo) with
  |nil=>rfl
  |cons w W=>
   exfalso;have M:w ∈ M7 e.lk.H (qX e 0 ta row mo) e.lk.H.length:=by
    show w ∈ zK e.lk (qX e 0 ta row mo);rw[q];exact List.mem_cons_self
   obtain⟨i,hi,_,n⟩:=rX _ (U9 _) M;obtain⟨j,f,J⟩:=h.h.hd i hi;have:j=0:=Z9
   subst this;exact n J.symm
 unfold M4;rw[if_pos d];split
 ·intro C;cases C
 ·split
  ·intro C;cases C
  ·intro C;cases C
theorem c1Z{e:Eng}(h:EI e)(d:e.X.length=1)(ta row mo:Int):(E6 e 0 ta row mo).1=jA e 0 ta row mo:=by
 unfold E6;rw[if_neg (c69 h d ta row mo)]
theorem c1x{e:Eng}(h:EI e)(d:e.X.length=1){ta row mo:Int}(r:LokR ta row mo):Fw 0 e (jA e 0 ta row mo):=a0p (c6J h Z9 r) d rfl rfl rfl rfl
theorem c3A{e:Eng}(h:EI e)(i:e.X.length=1){tx ta:Int}{r:Rw}{gone:Bool}{v:Nat}(B:(qR ta r).length<=30):Fw 1 e (a6u e 0 ta r gone (Q6 e tx ta r.id 8) v).1.1:=by
 obtain⟨g1,d,u,g4⟩:=a8T h.g tx ta r.id 8 (U9 _);have hv:=a58 h.g tx ta r.id 8 (U9 _);have t:=c2z h.g tx ta r.id 8 (U9 _);generalize Q6 e tx ta r.id 8=f at*;have E:=c7g h g1 d;have F:Fw 0 e (K1 e f.1):=a0p E i rfl rfl d hv;unfold a6u;rw[if_pos u];split
 ·split
  ·exact F.up (L8 _)
  ·split
   ·exact F.up (L8 _)
   ·rename_i _ _ hc;have hC:=g4.2.resolve_left Z9
    have l:=t Z9
    exact F.tr (b7M E i ⟨hC.1,hC.2.1⟩ hC.2.2 (by show[]=vw f.1 _ _;rw[hv,l]) (L8 _) B)
 ·rename_i ha;have hA:=g4.1.resolve_left Z9
  obtain⟨o,j,q,n,_⟩:=c4t (e:=e) g1 hA;rw[if_pos n];have hv2:vw (yN e f.2.1 f.1).1=vw f.1:=b7i g1 Z9
  have E2:=c7g h o (j.trans d);have F2:Fw 0 e (K1 e (yN e f.2.1 f.1).1):=a0p E2 i rfl rfl (j.trans d) (hv2.trans hv);refine F2.tr (b7M E2 i ⟨hA.1,hA.2.1⟩ hA.2.2 ?_ q ?_)
  ·show _=vw (yN e f.2.1 f.1).1 _ _;rw[hv2];show((Y7 f.1 f.2.1.a.toNat).1.fr.getD (Y7 f.1 f.2.1.a.toNat).2.1 dz).pg.sl.getD f.2.1.b.toNat []=_;rw[eP g1 Z9]
   unfold vw;rw[if_pos Z9]
  ·split
   ·exact L8 _
   ·exact B
theorem b53{e:Eng}(h:EI e)(d:e.X.length=1){tx ta:Int}{r:Rw}{gone:Bool}(t:1<=ta/\ta<=3)(hi:0<=r.id/\r.id<=1000)(B:(qR ta r).length<=30):Fw 1 e (F7 e tx ta r gone).1.1:=by
 by_cases h0:(S8 e tx).2=0
 ·obtain⟨hu,k,e1,hk,_,ha⟩:=i3 h0;have:k=0:=by omega
  subst this;have R:LokR ta (-1) 2:=⟨t,U4,U4,U4⟩
  have g:LokR ta r.id 4:=⟨t,Z9,U4,.inr U4⟩
  have F1:=c1x h d R;have F2:=F1.tr (c1x F1.ei F1.ln g);by_cases hq:(wY e 0 ta 2 r.id 4).2=0
  ·rw[c4S h0 e1 hq,b7h hq];exact F2.tr (c3A F2.ei F2.ln B)
  ·rw[c5m (by rw[kZ h0 e1];exact hq),kZ h0 e1]
   unfold wY;split
   ·rename_i f;rw[a33 f];dsimp only;rw[c1Z F1.ei F1.ln];exact F2.up (L8 _)
   ·dsimp only;rw[c1Z h d];exact F1.up (L8 _)
 ·have e1:F7 e tx ta r gone=((e,0),(S8 e tx).2):=if_neg h0;rw[e1];exact(a0p h d rfl rfl rfl rfl).up (L8 _)
theorem a4y{e:Eng}(h:EI e)(d:e.X.length=1):S8 e (e.X.getD 0 dz).id=(0,0):=by
 have t:=h.h.at_ (k:=0) Z9
 unfold S8;rw[if_pos h.up,t,if_neg Z9]
 rfl
structure Beg(e f:Eng):Prop where
 ei:EI f
 ln:f.X.length=1
 id:(f.X.getD 0 dz).id=e.N
 nx:f.N=e.N+1
 lg:f.s.L.length=e.s.L.length+1
 v:∀S,sZ f.s.L 0 61 (f.X.getD 0 dz).Z S=S
 w:vw f.s=vw e.s
theorem c1G{e:Eng}(h:EI e)(d:e.X=[])(n:e.N<=60)(l:e.s.L.length+2<=60):Beg e (V5 e).1/\(V5 e).2=(e.N,0):=by
 have E:=c3p h;have i:¬ (e.N>60∨e.X.length=10):=by
  rw[d];rintro(C|C)
  ·omega
  ·cases C
 have j:vN e=0:=by
  unfold vN;rw[d];rfl
 have g:V5 e=(K7 (yY e) e.X.length uA,e.N,0):=by
  unfold V5;rw[if_pos h.up,if_neg i,if_pos Z9]
 rw[g] at E ⊢;have T:(K7 (yY e) e.X.length uA).X=[⟨e.N,(e.s.L.length:Int)+1⟩]:=by
  unfold K7 yY;dsimp only;rw[d];rfl
 have Lg:(K7 (yY e) e.X.length uA).s.L=e.s.L++[U0 e.s (Q9 (yY e) e.X.length uA)]:=rfl;have X:(U0 e.s (Q9 (yY e) e.X.length uA)).k=1:=rfl;have hp:(U0 e.s (Q9 (yY e) e.X.length uA)).p=0:=by
  unfold U0 Q9 yY;dsimp only;rw[d];rfl
 have N:(K7 (yY e) e.X.length uA).N=e.N+1:=rfl;have V:vw (K7 (yY e) e.X.length uA).s=vw e.s:=rfl;dsimp only at E ⊢;generalize U0 e.s (Q9 (yY e) e.X.length uA)=x at*;generalize K7 (yY e) e.X.length uA=f at*;have L:=E.h.li.1;refine⟨⟨E,by rw[T];rfl,by rw[T];rfl,N,by rw[Lg,J6,List.length_singleton],λS=>?_,V⟩,rfl⟩
 have r:Z4 f.s.L ((e.s.L.length:Int)+1)=x:=by rw[Lg];exact q9 _ _
 rw[T];show sZ f.s.L 0 61 ((e.s.L.length:Int)+1) S=S;rw[b8w L (Int.le_refl 0) Z9 (by rw[Lg,J6,List.length_singleton];omega) (by rw[r,X];decide) (by rw[r,X];decide),r,hp,c47 (Int.le_refl 0)]
structure Com(e f:Eng):Prop where
 ei:EI f
 tx:f.X=[]
 nx:f.N=e.N
 lg:f.s.L.length=e.s.L.length+1
theorem c5Z{e:Eng}(h:EI e)(i:e.X.length=1):Com e (U8 e (e.X.getD 0 dz).id).1/\(U8 e (e.X.getD 0 dz).id).2=0:=by
 have E:=c4L h (e.X.getD 0 dz).id;have d:0<e.X.length:=Z9
 have R:D0 (U0 e.s (Q9 e 0 a4N)):=h.rcp d U4 U4 (λ_=>rfl) (λ_ _=>Z8) ⟨Int.le_refl _,fE⟩ U4 U4 U4 (λ_=>rfl)
 have o:=h.app d R;have n:=m3 e 0 a4N;obtain⟨_,g,_⟩:=a5J (l:=((e.s.L.length+1:Nat):Int)) o (by rw[n];exact Int.le_refl _)
 have j:(vF e 0).2=true:=g;have f:U8 e (e.X.getD 0 dz).id=(lK (pQ e 0) 0,0):=by
  unfold U8;rw[a4y h i];show(if(vF e 0).2=true then(lK (pQ e 0) 0,(0:Int)) else(yD (pQ e 0),15))=_
  exact if_pos j
 rw[f] at E ⊢;refine⟨⟨E,?_,rfl,?_⟩,rfl⟩
 ·refine List.eq_nil_of_length_eq_zero ?_
  show((e.X.set 0 _).take 0++(e.X.set 0 _).drop (0+1)).length=0;rw[a2o,rL d];omega
 ·show(W7 (jN e 0).s (e.s.L.length+1:Nat)).1.L.length=_;rw[(vC _ _).2.2.1];exact n
structure Rol(e f:Eng)(to:Int):Prop where
 ei:EI f
 ln:f.X.length=1
 id:(f.X.getD 0 dz).id=(e.X.getD 0 dz).id
 v:vw f.s=sZ e.s.L to 61 (e.X.getD 0 dz).Z (vw e.s)
 b:sZ f.s.L 0 61 (f.X.getD 0 dz).Z (vw f.s)=sZ e.s.L 0 61 (e.X.getD 0 dz).Z (vw e.s)
theorem c6n{e:Eng}(h:EI e)(d:e.X.length=1){to:Int}(l:to<=(e.X.getD 0 dz).Z)(o:ownR e.s.L to (e.X.getD 0 dz).id=true):Rol e (V9 e (e.X.getD 0 dz).id to).1.1 to/\(V9 e (e.X.getD 0 dz).id to).2=0:=by
 have f:0<e.X.length:=Z9
 have g:=B2 o;have C:(V8 to 1 (e.X.getD 0 dz).Z&&(e.s.L.getD (to-1).toNat dz).t==(e.X.getD 0 dz).id)=true:=by
  rw[M1];exact⟨S2.2 ⟨g.1,l⟩,beq_iff_eq.2 (a4p o).1⟩
 rw[a9C (k:=0) (by rw[a4y h d]) (by rw[a4y h d];rfl) C]
 have u:=a1L h f (show 0<=to by omega)
 have w:=c1D h f (show 0<=to by omega)
 rw[mF u.al];exact⟨⟨u.ei,u.ln.trans d,w.i,w.v,w.b⟩,rfl⟩
structure Abt(e f:Eng):Prop where
 ei:EI f
 tx:f.X.length=0
 hd:f.lk.H.length=0
 v:vw f.s=sZ e.s.L 0 61 (e.X.getD 0 dz).Z (vw e.s)
theorem c1V{e:Eng}(h:EI e)(g:e.X.length=1):Abt e (qQ e (e.X.getD 0 dz).id).1.1/\(qQ e (e.X.getD 0 dz).id).2=0:=by
 rw[b7u (k:=0) (by rw[a4y h g]) (by rw[a4y h g];rfl)]
 have f:0<e.X.length:=Z9
 obtain⟨a,b,_,d⟩:=c2R h f;refine⟨⟨a,Z9,?_,c6y h f⟩,b⟩
 cases q:(I6 e 0).1.1.lk.H with
 |nil=>rfl
 |cons x X=>
  obtain⟨j,J,_⟩:=a.h.hd 0 (by rw[q];exact Nat.zero_lt_succ _)
  omega
theorem b6A{e:Eng}(h:EI e)(g:e.X.length=1){tx:Int}{r:Rw}(R:L4 r=true):Fw 1 e (M6 e tx 1 r).1:=by
 obtain⟨d,f⟩:=a9I R;rw[c2n (by rw[h.ok,R];rfl)]
 exact b53 h g ⟨U4,U4⟩ d.2.2 (f 1)
theorem c3F{e:Eng}(h:EI e)(d:e.X.length=1){tx id:Int}(hi:0<=id/\id<=1000):Fw 1 e (H8 e tx 1 id).1:=by
 rw[c2c (by rw[h.ok,S2.2 hi];rfl)]
 exact b53 h d ⟨U4,U4⟩ hi (c2h ⟨U4,U4⟩ hi)
structure Src where
 c:Bz
 at_:Nat
 sd:Int
def uP(s:Src):Option Ob:=some (.arr true 1000000 3 1 λ_=>[.bys s.c,Ji s.at_,Ji s.sd])
abbrev qO(a b:Src):Prop:=(1:Nat)=1/\Z7 1 (λ(_:Nat)=>[T.bys a.c,Ji (a.at_:Int),Ji a.sd]) λ(_:Nat)=>[T.bys b.c,Ji (b.at_:Int),Ji b.sd]
abbrev a3n(a b:Src):Prop:=(1:Nat)=1/\(1:Nat)=1/\a.c=b.c/\(a.at_:Int)=(b.at_:Int)/\a.sd=b.sd/\True
def O5(s:Src)(m:Nat):Prop:=s.at_<=m/\0<=s.sd/\s.sd<2147483648
def J7(e:Bz):Src:=⟨e,0,(e.length:Int).tmod 1000⟩
def aW(s:Src):Src:=if s.at_+1<=s.c.length then⟨s.c,s.at_+1,(s.sd*31+(s.c.getD s.at_ 0).toNat+7).tmod 2147483648⟩ else
 if 3000<s.at_+1 then⟨s.c,s.at_+1,s.sd⟩ else⟨s.c,s.at_+1,(s.sd*1103515245+12345).tmod 2147483648⟩
def fO(s:Src):Int:=if s.at_+1<=s.c.length then(s.c.getD s.at_ 0).toNat else
 if 3000<s.at_+1 then 0 else((aW s).sd.tdiv 65536).tmod 256
def S1(s:Src)(n:Int):Src:=if n<=1 then s else aW s
def y7(s:Src)(n:Int):Int:=if n<=1 then 0 else(fO s).tmod n
theorem a3V(c:Bz)(h:
let q:=(1000:Int);let p:=(c.length:Int).tmod;  Nz q/\((0=0/\0=0)/\True)/\(oo (c=c/\0=(↑(0:Nat):Int)/\p q=p q/\True))/\True):
  G8 prog 29 [.bys c] [] (.ref 0 0 0) [uP (J7 c)]:=
 r9 gN func29 Y5 [[.box 0]] h
theorem b3X{s:Src}{m:Nat}(h:O5 s m):0<=fO s/\fO s<256/\O5 (aW s) (m+1):=by
 obtain⟨g,f,d⟩:=h;have B:=(s.c.getD s.at_ 0).toNat_lt;unfold fO aW O5;split
 ·exact⟨Z9,Z9,W5,l9 Z9 U4⟩
 ·split
  ·exact⟨Z9,Z9,W5,f,d⟩
  ·have:=l9 (a:=s.sd*1103515245+12345) (n:=2147483648) Z9 U4
   dsimp only;have e:=l9 (a:=((s.sd*1103515245+12345).tmod 2147483648).tdiv 65536) (n:=256) (Int.tdiv_nonneg this.1 U4) U4
   exact⟨e.1,e.2,Z9,this⟩
theorem D7{s:Src}{m:Nat}{n:Int}(h:O5 s m)(N:1<=n):0<=y7 s n/\y7 s n<n/\O5 (S1 s n) (m+1):=by
 unfold y7 S1;have:=b3X h;split
 ·exact⟨Z9,Z9,by obtain⟨e,d⟩:=h;exact⟨Z9,d⟩⟩
 ·have:=l9 (a:=fO s) (n:=n) this.1 Z9
  exact⟨this.1,this.2,(b3X h).2.2⟩
def c2S:Con:=.reff ⟨Src,λ_=>[.ref 0 0 0],λs=>[uP s],λs=>Ji (fO s),λs=>[uP (aW s)],λs=>O5 s 1000000⟩
theorem b9n:GK 124 c2S:=gk func124<|by
 intro(s:Src) (h:O5 s 1000000);have B:=(s.c.getD s.at_ 0).toNat_lt;have e:((s.at_:Int)+1-1).toNat=s.at_:=Z9
 have W:IntKind.i64.wrap ((s.c.getD s.at_ 0).toNat:Int)=((s.c.getD s.at_ 0).toNat:Int):=by rw[IntKind.wrap_i64];omega
 obtain⟨g,f,i⟩:=h;refine r9 gN func124 Y5 [[.box 0]] (α:=let w:=(aW s).sd;let u:=(↑(aW s).at_:Int);let z:=(s.sd*1103515245+12345);let r:=(2147483648:Int);let y:=((z.tmod r).tdiv (65536:Int));let q:=(s.at_:Int);let p:=(↑(s.c.getD (q+1-1).toNat (0:UInt8)).toNat:Int);let v:=(s.sd*31+IntKind.i64.wrap p+7);Ri (q+1)/\bd (q+1<=(s.c.length:Int)) (Ri (s.sd*31)/\Ri (q+1-1)/\V3 (q+1-1) s.c.length/\Ri (s.sd*31+IntKind.i64.wrap p)/\Ri v/\Nz r/\Ri (q+1-1)/\V3 (q+1-1) s.c.length/\(IntKind.i64.wrap p=fO s/\True)/\(oo (s.c=(aW s).c/\q+1=u/\v.tmod r=w/\True))/\True) (bd (q+1>3000) ((0=fO s/\True)/\(oo (s.c=(aW s).c/\q+1=u/\s.sd=w/\True))/\True) (Ri (s.sd*1103515245)/\Ri z/\Nz r/\(Nz (65536:Int)/\Ri y)/\Nz (256:Int)/\(y.tmod (256:Int)=fO s/\True)/\(oo (s.c=(aW s).c/\q+1=u/\z.tmod r=w/\True))/\True))) ⟨Z1 Z9,λhc=>?_,λhc=>⟨λhd=>?_,λhd=>?_⟩⟩
 ·have hc:=B3 hc;have c1:s.at_+1<=s.c.length:=by omega
  rw[e,W];unfold fO aW;rw[if_pos c1,if_pos c1];exact⟨Z1 Z9,Z1 Z9,⟨Z9,Z9⟩,Z1 Z9,Z1 Z9,a0S,Z1 Z9,⟨Z9,Z9⟩,Z8⟩
 ·have hc:=k5 hc;have hd:=B3 hd;unfold fO aW;rw[if_neg Z9,if_pos Z9,if_neg Z9,if_pos Z9]
  exact P2
 ·have hc:=k5 hc;have hd:=k5 hd;have t:=l9 (a:=s.sd*1103515245+12345) (n:=2147483648) Z9 U4
  have d:((s.sd*1103515245+12345).tmod 2147483648).tdiv 65536=((s.sd*1103515245+12345).tmod 2147483648)/65536:=Int.tdiv_eq_ediv_of_nonneg t.1;unfold fO aW;rw[if_neg Z9,if_neg Z9,if_neg Z9,if_neg Z9]
  exact⟨Z1 Z9,Z1 Z9,a0S,⟨a0S,Z1 Z9⟩,a0S,Z8⟩
def c5w:Con:=.reff ⟨Src×Int,λx=>[.ref 0 0 0,Ji x.2],λx=>[uP x.1],λx=>Ji (y7 x.1 x.2),λx=>[uP (S1 x.1 x.2)],λx=>O5 x.1 1000000/\x.2<=256⟩
theorem a2G:GK 64 c5w:=gk func64<|by
 rintro⟨s,n⟩ ⟨h,N⟩;dsimp only at h N;unfold y7 S1;refine r9 (gC b9n gN) func64 Y5 [[.box 0]] (α:=let p:=((0=0/\0=0)/\True);bd (n<=1) ((0=y7 s n/\True)/\(a3n s (S1 s n))/\True) (bd (n<=256) (∃(x:Src),(p/\((qO s x)/\True)/\O5 x 1000000)/\Nz n/\((fO x).tmod n=y7 s n/\True)/\(a3n (aW x) (S1 s n))/\True) (∃(x:Src),(p/\((qO s x)/\True)/\O5 x 1000000)/\∃(X:Src),(p/\((qO (aW x) X)/\True)/\O5 X 1000000)/\∃(d:Src),let q:=(fO x*65536+fO X*256+fO d);(p/\((qO (aW X) d)/\True)/\O5 d 1000000)/\Ri (fO x*65536)/\Ri (fO X*256)/\Ri (fO x*65536+fO X*256)/\Ri q/\Nz n/\(q.tmod n=y7 s n/\True)/\(a3n (aW d) (S1 s n))/\True))) ⟨λC=>?_,λC=>⟨λhd=>⟨s,⟨P2,Z8,h⟩,?_⟩,λhd=>absurd (k5 hd) Z9⟩⟩
 ·unfold y7 S1;rw[if_pos (B3 C),if_pos (B3 C)];exact P2
 ·have C:=k5 C;unfold y7 S1;rw[if_neg C,if_neg C];exact⟨kJ,P2,P2⟩
def c48:Con:=.reff ⟨Src×List (Bz),λx=>[.ref 0 0 0,yC x.2],λx=>[uP x.1],λx=>.str (x.2.getD (y7 x.1 x.2.length).toNat []),λx=>[uP (S1 x.1 x.2.length)],λx=>O5 x.1 1000000/\1<=x.2.length/\x.2.length<=256⟩
theorem iJ:GK 66 c48:=gk func66<|by
 rintro⟨s,L⟩ ⟨h,e,d⟩;dsimp only at h e d;have N:=D7 h (n:=(L.length:Int)) Z9
 refine r9 (gC a2G gN) func66 Y5 [[.box 0]] (α:=let p:=(L.length:Int);br (p==0) (([]=L.getD (y7 s p).toNat []/\True)/\(a3n s (S1 s p))/\True) (∃(x:(Src×Int)),(((0=0/\0=0)/\p=x.2/\True)/\((qO s x.1)/\True)/\O5 x.1 1000000/\x.2<=256)/\V3 (y7 x.1 x.2) L.length/\(L.getD (y7 x.1 x.2).toNat []=L.getD (y7 s p).toNat []/\True)/\(a3n (S1 x.1 x.2) (S1 s p))/\True)) ⟨λC=>by have:=eq_of_beq C;omega,λ_=>⟨(s,(L.length:Int)),⟨P2,Z8,h,W5⟩,⟨N.1,N.2.1⟩,Z8⟩⟩
def j7(n:Nat):List (Bz):=List.replicate n []
def c6m(n:Nat):Dsk:=⟨j7 n,[],false,[]⟩
def hdB(ep:Int):Bz:=[P9 104,zC ep]++z7 (j3 [P9 104,zC ep])
def a7c:Sto:=⟨⟨(j7 69).set 0 (hdB 1),[],false,[]⟩,1,[],0,[],0⟩
def vts:List (Bz):=[[],[97],[97,98],[97,98,99],[98],[122,122]]
def nts:List (Bz):=[[97],[98],[110,97,109,101]]
def vaN(s:Src):List Int:=[y7 s 20-5,y7 (S1 s 20) 20,1000000000,-1000000000]
def T1(s:Src):Src×Val:=
 if y7 s 4=0 then(S1 s 4,⟨0,0,[]⟩) else
 if y7 s 4=1 then(S1 (S1 s 4) 6,⟨2,0,vts.getD (y7 (S1 s 4) 6).toNat []⟩) else
 (S1 (S1 (S1 (S1 s 4) 20) 20) 8,⟨1,(vaN (S1 s 4)).getD ((y7 (S1 (S1 (S1 s 4) 20) 20) 8).tdiv 2).toNat 0,[]⟩)
def b7Q:Con:=.reff ⟨Src,λ_=>[.ref 0 0 0],λs=>[uP s],λs=>.agg (T1 s).2.ts,λs=>[uP (T1 s).1],λs=>O5 s 100000⟩
theorem kX{a b:Int}(h:(a==b)=false):a≠b:=λe=>by rw[e] at h;simp at h
theorem O5.le{s:Src}{m n:Nat}(h:O5 s m)(l:m<=n):O5 s n:=⟨Nat.le_trans h.1 l,h.2⟩
theorem a8I(c:Bz):O5 (J7 c) 0:=by
 have:=l9 (a:=(c.length:Int)) (n:=1000) Z9 U4
 exact⟨U9 _,this.1,by show(c.length:Int).tmod 1000<_;omega⟩
theorem c26(i:Nat):(vts.getD i []).length<=3:=by
 match i with
 |0=>decide
 |1=>decide
 |2=>decide
 |3=>decide
 |4=>decide
 |5=>decide
 |n+6=>exact L8 _
theorem c4A(i:Nat):(nts.getD i []).length<=4:=by
 match i with
 |0=>decide
 |1=>decide
 |2=>decide
 |n+3=>exact L8 _
theorem b8W:Z7 6 (tk 1 [T.str [],T.str [(97:UInt8)],T.str [(97:UInt8),(98:UInt8)],T.str [(97:UInt8),(98:UInt8),(99:UInt8)],T.str [(98:UInt8)],T.str [(122:UInt8),(122:UInt8)]]) (Z6 vts)
 |0,_=>rfl
 |1,_=>rfl
 |2,_=>rfl
 |3,_=>rfl
 |4,_=>rfl
 |5,_=>rfl
 |n+6,h=>absurd h Z9
theorem a9L:Z7 3 (tk 1 [T.str [(97:UInt8)],T.str [(98:UInt8)],T.str [(110:UInt8),(97:UInt8),(109:UInt8),(101:UInt8)]]) (Z6 nts)
 |0,_=>rfl
 |1,_=>rfl
 |2,_=>rfl
 |n+3,h=>absurd h Z9
theorem c24{s:Src}(h:y7 s 4=0):T1 s=(S1 s 4,⟨0,0,[]⟩):=by unfold T1;rw[if_pos h]
theorem c3R{s:Src}(h:y7 s 4=1):T1 s=(S1 (S1 s 4) 6,⟨2,0,vts.getD (y7 (S1 s 4) 6).toNat []⟩):=by unfold T1;rw[if_neg Z9,if_pos h]
theorem c2J{s:Src}(d:y7 s 4≠0)(h:y7 s 4≠1):T1 s=(S1 (S1 (S1 (S1 s 4) 20) 20) 8,⟨1,(vaN (S1 s 4)).getD ((y7 (S1 (S1 (S1 s 4) 20) 20) 8).tdiv 2).toNat 0,[]⟩):=by unfold T1;rw[if_neg d,if_neg h]
theorem c6B{a:Int}(h:0<=a)(d:a<8):0<=a.tdiv 2/\a.tdiv 2<4:=by
 rw[Int.tdiv_eq_ediv_of_nonneg h];omega
theorem a9A{s:Src}{m:Nat}(h:O5 s m)(i:Nat): -1000000000<=(vaN s).getD i 0/\(vaN s).getD i 0<=1000000000:=by
 have N:=D7 h (n:=20) U4
 have d:=D7 N.2.2 (n:=20) U4
 unfold vaN
 match i with
 |0=>show _<=y7 s 20-5/\y7 s 20-5<=_;omega
 |1=>show _<=y7 (S1 s 20) 20/\y7 (S1 s 20) 20<=_;omega
 |2=>show(-1000000000:Int)<=1000000000/\(1000000000:Int)<=1000000000;decide
 |3=>show(-1000000000:Int)<= -1000000000/\(-1000000000:Int)<=1000000000;decide
 |n+4=>show(-1000000000:Int)<=0/\(0:Int)<=1000000000;decide
def a6Y(v:Val):Prop:=v.t.length<=4/\(v.k=0∨(v.k=1/\ -1000000000<=v.n/\v.n<=1000000000)∨v.k=2)
theorem eK{s:Src}{m:Nat}(h:O5 s m):O5 (T1 s).1 (m+4)/\a6Y (T1 s).2:=by
 have n1:=D7 h (n:=4) U4
 by_cases h0:y7 s 4=0
 ·rw[c24 h0];exact⟨n1.2.2.le Z9,L8 _,.inl rfl⟩
 ·by_cases h1:y7 s 4=1
  ·rw[c3R h1];exact⟨(D7 n1.2.2 (n:=6) U4).2.2.le Z9,Nat.le_trans (c26 _) U4,.inr (.inr rfl)⟩
  ·rw[c2J h0 h1];have n2:=D7 n1.2.2 (n:=20) U4
   have d:=D7 n2.2.2 (n:=20) U4
   have e:=D7 d.2.2 (n:=8) U4
   have N:=a9A n1.2.2 ((y7 (S1 (S1 (S1 s 4) 20) 20) 8).tdiv 2).toNat;exact⟨e.2.2.le Z9,L8 _,.inr (.inl ⟨rfl,N⟩)⟩
theorem b05:GK 65 b7Q:=gk func65<|by
 intro(s:Src) (h:O5 s 100000);have N:=D7 h (n:=4) U4
 have f:=D7 N.2.2 (n:=20) U4
 have g:=D7 f.2.2 (n:=20) U4
 have i:=D7 g.2.2 (n:=8) U4
 have j:(4:Int)<=256:=U4
 have e:(20:Int)<=256:=U4
 have l:(8:Int)<=256:=U4
 have nd:=c6B i.1 i.2.1;refine r9 (gC H7 (gC a2G (gC iJ gN))) func65 Y5 [[.box 0]] (α:=let w:=(98:UInt8);let y:=(97:UInt8);let v:=(T1 s).2.t;let u:=(T1 s).2.n;let z:=(T1 s).2.k;let q:=(0=0/\0=0);∃(x:(Src×Int)),let r:=(S1 x.1 x.2);((q/\4=x.2/\True)/\((qO s x.1)/\True)/\O5 x.1 1000000/\x.2<=256)/\br (y7 x.1 x.2==0) (((0=z/\0=u/\[]=v/\True)/\True)/\(a3n r (T1 s).1)/\True) (br (y7 x.1 x.2==1) (∃(X:(Src×List (Bz))),let j:=(X.2.length:Int);((q/\(6=X.2.length/\Z7 6 (tk 1 [T.str [],T.str [y],T.str [y,w],T.str [y,w,(99:UInt8)],T.str [w],T.str [(122:UInt8),(122:UInt8)]]) (Z6 X.2))/\True)/\((qO r X.1)/\True)/\O5 X.1 1000000/\1<=X.2.length/\X.2.length<=256)/\((2=z/\0=u/\X.2.getD (y7 X.1 j).toNat []=v/\True)/\True)/\(a3n (S1 X.1 j) (T1 s).1)/\True) (∃(X:(Src×Int)),((q/\20=X.2/\True)/\((qO r X.1)/\True)/\O5 X.1 1000000/\X.2<=256)/\Ri (y7 X.1 X.2-5)/\∃(x:(Src×Int)),((q/\20=x.2/\True)/\((qO (S1 X.1 X.2) x.1)/\True)/\O5 x.1 1000000/\x.2<=256)/\∃(d:(Src×Int)),let p:=((y7 d.1 d.2).tdiv (2:Int));((q/\8=d.2/\True)/\((qO (S1 x.1 x.2) d.1)/\True)/\O5 d.1 1000000/\d.2<=256)/\(Nz (2:Int)/\Ri p)/\V3 p 4/\((1=z/\[y7 X.1 X.2-5,y7 x.1 x.2,(1000000000:Int),(-1000000000:Int)].getD p.toNat 0=u/\[]=v/\True)/\True)/\(a3n (S1 d.1 d.2) (T1 s).1)/\True))) ⟨(s,4),⟨P2,Z8,h.le Z9,j⟩,λhv=>?_,λhv=>⟨λW=>?_,λW=>?_⟩⟩
 ·have hv:y7 s 4=0:=eq_of_beq hv;rw[c24 hv];exact Z8
 ·have W:y7 s 4=1:=eq_of_beq W;rw[c3R W];exact⟨(S1 s 4,vts),⟨⟨Z8,⟨rfl,b8W⟩,Z5⟩,Z8,N.2.2.le Z9,(by decide:1<=vts.length),(by decide:vts.length<=256)⟩,Z8⟩
 ·have hv:y7 s 4≠0:=kX hv;have W:y7 s 4≠1:=kX W;rw[c2J hv W];exact⟨(S1 s 4,20),⟨P2,Z8,N.2.2.le Z9,e⟩,Z1 W5,(S1 (S1 s 4) 20,20),⟨P2,Z8,f.2.2.le Z9,e⟩,(S1 (S1 (S1 s 4) 20) 20,8),⟨P2,Z8,g.2.2.le Z9,l⟩,⟨a0S,Z1 W5⟩,⟨nd.1,nd.2⟩,Z8⟩
def y5(s:Src)(v:Val):Src×Val:=if v.k=2 then(S1 s 9,⟨1,y7 s 9,[]⟩) else(s,v)
def xB(s:Src)(v:Val):Src×Val:=if v.k=1 then(S1 s 3,⟨2,0,nts.getD (y7 s 3).toNat []⟩) else(s,v)
def u6(s:Src):Src:=(T1 (T1 (S1 s 6)).1).1
def jG(s:Src):Src×Rw:=
 ((xB (y5 (u6 s) (T1 (S1 s 6)).2).1 (T1 (T1 (S1 s 6)).1).2).1,
  ⟨y7 s 6,(y5 (u6 s) (T1 (S1 s 6)).2).2,(xB (y5 (u6 s) (T1 (S1 s 6)).2).1 (T1 (T1 (S1 s 6)).1).2).2⟩)
def c3b:Con:=.reff ⟨Src,λ_=>[.ref 0 0 0],λs=>[uP s],λs=>.agg (jG s).2.ts,λs=>[uP (jG s).1],λs=>O5 s 50000⟩
theorem c43{s:Src}{m:Nat}{v:Val}(h:O5 s m)(hv:a6Y v):O5 (y5 s v).1 (m+1)/\a6Y (y5 s v).2:=by
 have N:=D7 h (n:=9) U4
 unfold y5;split
 ·exact⟨N.2.2,L8 _,.inr (.inl ⟨rfl,W5,W5⟩)⟩
 ·exact⟨h.le Z9,hv⟩
theorem c35{s:Src}{m:Nat}{v:Val}(h:O5 s m)(hv:a6Y v):O5 (xB s v).1 (m+1)/\a6Y (xB s v).2:=by
 have N:=D7 h (n:=3) U4
 unfold xB;split
 ·exact⟨N.2.2,c4A _,.inr (.inr rfl)⟩
 ·exact⟨h.le Z9,hv⟩
theorem b7j{s:Src}{m:Nat}(h:O5 s m):O5 (u6 s) (m+9):=(eK (eK (D7 h (n:=6) U4).2.2).1).1
theorem a6Y.key{v:Val}(h:a6Y v):a1b v/\(zP v).length<=6:=by
 obtain⟨e,d⟩:=h;refine⟨⟨Z9,d⟩,?_⟩
 unfold zP;split
 ·show 1<=6;decide
 ·split
  ·show(2::z7 _).length<=6;have:(z7 (v.n+1000000000).toNat).length=4:=rfl;rw[List.length_cons,this];decide
  ·simp only[List.length_cons,J6,List.length_nil];omega
theorem a7x{s:Src}{m:Nat}(h:O5 s m):O5 (jG s).1 (m+11)/\RwK (jG s).2/\∀ta:Int,(qR ta (jG s).2).length<=30:=by
 have N:=D7 h (n:=6) U4
 have v:=eK N.2.2;have V:=eK v.1;have W:=c43 (b7j h) v.2;have f:=c35 W.1 V.2;have d:=W.2.key;have e:=f.2.key;refine⟨f.1.le Z9,⟨d.1,e.1,N.1,by show y7 s 6<=1000;omega⟩,λta=>?_⟩
 unfold qR;have A:(zP ⟨1,ta,[]⟩).length=5:=rfl;have g:(zP ⟨1,(jG s).2.id,[]⟩).length=5:=rfl;have B:(zP (jG s).2.n).length<=6:=d.2;have b2:(zP (jG s).2.name).length<=6:=e.2;rw[J6,J6,J6];omega
theorem c6R{s:Src}{v:Val}(h:v.k=2):y5 s v=(S1 s 9,⟨1,y7 s 9,[]⟩):=if_pos h
theorem c51{s:Src}{v:Val}(h:v.k≠2):y5 s v=(s,v):=if_neg h
theorem c1u{s:Src}{v:Val}(h:v.k=1):xB s v=(S1 s 3,⟨2,0,nts.getD (y7 s 3).toNat []⟩):=if_pos h
theorem c1P{s:Src}{v:Val}(h:v.k≠1):xB s v=(s,v):=if_neg h
theorem c2O(s:Src):u6 s=(T1 (T1 (S1 s 6)).1).1:=rfl
theorem c0I:GK 30 c3b:=gk func30<|by
 intro(s:Src) (h:O5 s 50000);have N:=D7 h (n:=6) U4
 have v:=eK N.2.2;have V:=eK v.1;have hA:=V.1;have w1:=D7 hA (n:=9) U4
 have i:(6:Int)<=256:=U4
 have e9:(9:Int)<=256:=U4
 have g:((nts.length:Nat):Int)=3:=rfl;have A:u6 s=(T1 (T1 (S1 s 6)).1).1:=c2O s;refine r9 (gC H7 (gC a2G (gC b05 (gC iJ gN)))) func30 Y5 [[.box 0]] (α:=let a:=(T1 (S1 s (6:Int)));let y:=(0=0/\0=0);let r:=(tk 1 [T.str [(97:UInt8)],T.str [(98:UInt8)],T.str [(110:UInt8),(97:UInt8),(109:UInt8),(101:UInt8)]]);let q:=(y5 (u6 s) a.2);let p:=(xB q.1 (T1 a.1).2);let v:=(↑p.1.at_:Int);∃(x:(Src×Int)),((y/\6=x.2/\True)/\((qO s x.1)/\True)/\O5 x.1 1000000/\x.2<=256)/\∃(f:Src),let g:=(T1 f).2.k;((y/\True)/\((qO (S1 x.1 x.2) f)/\True)/\O5 f 100000)/\∃(d:Src),let w:=(T1 d).2.k;((y/\True)/\((qO (T1 f).1 d)/\True)/\O5 d 100000)/\((g==2)=true->∃(X:(Src×Int)),let j:=(S1 X.1 X.2);((y/\9=X.2/\True)/\((qO (T1 d).1 X.1)/\True)/\O5 X.1 1000000/\X.2<=256)/\((w==1)=true->∃(e:(Src×List (Bz))),let z:=e.2.length;let m:=(S1 e.1 (z:Int));((y/\(3=z/\Z7 3 r (Z6 e.2))/\True)/\((qO j e.1)/\True)/\O5 e.1 1000000/\1<=z/\z<=256)/\((y7 x.1 x.2=y7 s (6:Int)/\1=q.2.k/\y7 X.1 X.2=q.2.n/\[]=q.2.t/\2=p.2.k/\0=p.2.n/\e.2.getD (y7 e.1 (z:Int)).toNat []=p.2.t/\True)/\True)/\(1=1/\1=1/\m.c=p.1.c/\(↑m.at_:Int)=v/\m.sd=p.1.sd/\True)/\True)/\((w==1)=false->((y7 x.1 x.2=y7 s (6:Int)/\1=q.2.k/\y7 X.1 X.2=q.2.n/\[]=q.2.t/\w=p.2.k/\(T1 d).2.n=p.2.n/\(T1 d).2.t=p.2.t/\True)/\True)/\(1=1/\1=1/\j.c=p.1.c/\(↑j.at_:Int)=v/\j.sd=p.1.sd/\True)/\True))/\((g==2)=false->((w==1)=true->∃(X:(Src×List (Bz))),let b:=(X.2.length:Int);let u:=(S1 X.1 b);((y/\(3=X.2.length/\Z7 3 r (Z6 X.2))/\True)/\((qO (T1 d).1 X.1)/\True)/\O5 X.1 1000000/\1<=X.2.length/\X.2.length<=256)/\((y7 x.1 x.2=y7 s (6:Int)/\g=q.2.k/\(T1 f).2.n=q.2.n/\(T1 f).2.t=q.2.t/\2=p.2.k/\0=p.2.n/\X.2.getD (y7 X.1 b).toNat []=p.2.t/\True)/\True)/\(1=1/\1=1/\u.c=p.1.c/\(↑u.at_:Int)=v/\u.sd=p.1.sd/\True)/\True)/\((w==1)=false->((y7 x.1 x.2=y7 s (6:Int)/\g=q.2.k/\(T1 f).2.n=q.2.n/\(T1 f).2.t=q.2.t/\w=p.2.k/\(T1 d).2.n=p.2.n/\(T1 d).2.t=p.2.t/\True)/\True)/\(1=1/\1=1/\(T1 d).1.c=p.1.c/\(↑(T1 d).1.at_:Int)=v/\(T1 d).1.sd=p.1.sd/\True)/\True))) ?_
 rw[A];refine⟨(s,6),⟨P2,Z8,h.le Z9,i⟩,S1 s 6,⟨Z8,Z8,N.2.2.le Z9⟩,(T1 (S1 s 6)).1,⟨Z8,Z8,v.1.le Z9⟩,λhv=>?_,λhv=>?_⟩
 ·have hv:(T1 (S1 s 6)).2.k=2:=eq_of_beq hv;rw[c6R hv];refine⟨((T1 (T1 (S1 s 6)).1).1,9),⟨P2,Z8,hA.le Z9,e9⟩,λhw=>?_,λhw=>?_⟩
  ·have hw:(T1 (T1 (S1 s 6)).1).2.k=1:=eq_of_beq hw;rw[c1u hw];refine⟨(S1 ((T1 (T1 (S1 s 6)).1).1) 9,nts),⟨⟨Z8,⟨rfl,a9L⟩,Z5⟩,Z8,w1.2.2.le Z9,(by decide:1<=nts.length),(by decide:nts.length<=256)⟩,?_⟩
   dsimp only;rw[g];exact Z8
  ·rw[c1P (kX hw)];exact Z8
 ·rw[c51 (kX hv)];refine⟨λhw=>?_,λhw=>?_⟩
  ·have hw:(T1 (T1 (S1 s 6)).1).2.k=1:=eq_of_beq hw;rw[c1u hw];refine⟨((T1 (T1 (S1 s 6)).1).1,nts),⟨⟨Z8,⟨rfl,a9L⟩,Z5⟩,Z8,hA.le Z9,(by decide:1<=nts.length),(by decide:nts.length<=256)⟩,?_⟩
   dsimp only;rw[g];exact Z8
  ·rw[c1P (kX hw)];exact Z8
def L0(L:List Rw)(i:Nat):List T:=(L.getD i dz).ts
def rwS(L:List Rw):T:=.sl 7 L.length (L0 L)
def yS(L:List Rw)(id:Int)(i:Nat):Bool:= !decide ((L.getD i dz).id<id)
def b2d(L:List Rw)(id:Int):Nat:=if S5 L.length (yS L id)<0 then L.length else(S5 L.length (yS L id)).toNat
def cE(L:List Rw)(r:Rw):List Rw:=L.take (b2d L r.id)++[r]++L.drop (b2d L r.id)
def sH(e:Int)(L:List Rw)(t:Bz):List Rw:=match qC t with
 |some x=>if x.1=e then cE L x.2 else L
 |none=>L
def X7(sl:List (Bz))(t:Int)(L:List Rw):Nat->List Rw
 |0=>L
 |i+1=>sH t (X7 sl t L i) (sl.getD i [])
def S0(s:Sto)(no:Nat):Pg:=if frAt s.fr no<0 then(V1 s.d no).1 else(s.fr.getD (frAt s.fr no).toNat dz).pg
def Y3(s:Sto)(t:Int):Nat->List Rw
 |0=>[]
 |no+1=>X7 (S0 s no).sl t (Y3 s t no) 4
def c2W(s:Sto):Prop:=H9 s.d/\s.d.E.length=69/\M3 s.fr.length/\∀no,no<8->(S0 s no).sl.length=4/\∀i,i<4->((S0 s no).sl.getD i []).length<=65536
def b1M:Con:=.rel ⟨Eng×Int,λx=>[.agg x.1.ts,Ji x.2],λx=>rwS (Y3 x.1.s x.2 8),λx=>c2W x.1.s⟩
def rwA(L:List Rw):Option Ob:=some (.arr true 0 7 L.length (L0 L))
def c1B(p:Pg):Option Ob:=some (.arr true 1000000 2 1 λ_=>p.ts)
def c53(r:Rw):Option Ob:=some (.arr true 1000000 7 1 λ_=>r.ts)
def O7(s:Sto)(no i:Nat):Rw:=((qC ((S0 s no).sl.getD i [])).getD dz).2
def b2j(e:Eng)(t:Int):Nat->Ann
 |0=>.one {no:Nat//no<=8} (λx=>⟨[(1,Ji t),(2,.ref 0 0 0),(5,.osl 1 0 (Y3 e.s t x.1).length),(6,Ji x.1)],[A5 e,rwA (Y3 e.s t x.1)]⟩) (λx=>8-x.1) a5O a5O (λx=>fun
  |1=>.one (Up 4) (λy=>⟨[(1,Ji t),(2,.ref 0 0 0),(5,.osl 1 0 (X7 (S0 e.s x.1).sl t (Y3 e.s t x.1) y.1).length),(6,Ji x.1),(7,.ref 2 0 0),(10,Ji y.1)],[A5 e,rwA (X7 (S0 e.s x.1).sl t (Y3 e.s t x.1) y.1),c1B (S0 e.s x.1)]⟩) (λy=>4-y.1) [.box 0,.arr 1,.box 2] [.box 0,.at_ 5,.box 2] (λy=>fun
   |2=>.one {j:Nat//j<=(X7 (S0 e.s x.1).sl t (Y3 e.s t x.1) y.1).length/\∀k,k<j->yS (X7 (S0 e.s x.1).sl t (Y3 e.s t x.1) y.1) (O7 e.s x.1 y.1).id k=false} (λz=>⟨[(1,Ji t),(2,.ref 0 0 0),(5,.osl 1 0 (X7 (S0 e.s x.1).sl t (Y3 e.s t x.1) y.1).length),(6,Ji x.1),(7,.ref 2 0 0),(10,Ji y.1),(12,.ref 3 0 0),(14,Ji z.1)],[A5 e,rwA (X7 (S0 e.s x.1).sl t (Y3 e.s t x.1) y.1),c1B (S0 e.s x.1),c53 (O7 e.s x.1 y.1)]⟩) (λz=>(X7 (S0 e.s x.1).sl t (Y3 e.s t x.1) y.1).length-z.1) [.box 0,.arr 1,.box 2,.box 3] [.box 0,.arr 1,.box 2,.box 3] (λ_=>Y5)
   |_=>.none)
  |_=>.none)
 |_=>.none
def c6i:Con:=.tmp
theorem a8E:GK 144 c6i:=gk func144<|trivial
theorem a8M{L:List Rw}{id:Int}{m:Nat}(M:m<=L.length)(hz:∀k,k<m->yS L id k=false)(d:m<L.length->yS L id m=true):b2d L id=m:=by
 unfold b2d;by_cases h:m<L.length
 ·have:=O8 h (d h) hz;rw[this,if_neg Z9,C8]
 ·have:S5 L.length (yS L id)= -1:=L5 λk hk=>hz k Z9
  rw[this,if_pos Z9]
  omega
theorem a5l(L:List Rw)(r:Rw){m:Nat}(M:m<=L.length):Z7 (0+m+1+(L.length-m)) (X6 (X6 (X6 (λk=>List.take 7 (List.drop (k*7) [])) 0 (L0 L)) (0+m) λk=>List.take 7 (List.drop (k*7) r.ts)) (0+m+1) (xO (L0 L) (0+m))) (L0 (L.take m++[r]++L.drop m)):=by
 intro i hi;rw[D8] at hi ⊢;have h:(L.take m).length=m:=by rw[List.length_take];omega
 by_cases h1:i<m
 ·rw[P4 Z9,P4 h1,P5 (L8 _),Nat.sub_zero]
  unfold L0;rw[Q8,Q8,List.append_assoc,tI Z9,List.getElem?_take_of_lt h1]
 ·by_cases h2:i=m
  ·subst h2;rw[P4 Z9,P5 (U9 _),j_i]
   unfold L0;rw[Q8,List.append_assoc,tD Z9,h,j_i]
   rfl
  ·rw[P5 Z9]
   have o:xO (L0 L) m (i- (m+1))=L0 L (i-1):=by
    unfold xO;split
    ·rw[show i- (0+1)=i-1 by omega]
    ·exact congrArg (L0 L) Z9
   rw[o];unfold L0;rw[Q8,Q8,List.append_assoc,tD Z9,h,tD E3,List.getElem?_drop,List.length_singleton,show m+(i-m-1)=i-1 by omega]
theorem b3f(e:Int)(L:List Rw)(t:Bz):(sH e L t).length<=L.length+1:=by
 unfold sH;split
 ·split
  ·unfold cE;simp;omega
  ·omega
 ·omega
theorem tX(sl:List (Bz))(t:Int)(L:List Rw):∀i,(X7 sl t L i).length<=L.length+i
 |0=>U9 _
 |i+1=>by
  have:=tX sl t L i;have:=b3f t (X7 sl t L i) (sl.getD i []);unfold X7;omega
theorem uH(s:Sto)(t:Int):∀no,(Y3 s t no).length<=4*no
 |0=>U9 _
 |no+1=>by
  have:=uH s t no;have:=tX (S0 s no).sl t (Y3 s t no) 4;unfold Y3;omega
theorem a7l:GK 82 b1M:=gk func82<|by
 rintro⟨e,f⟩ ⟨R,Q,A,v⟩;dsimp only at R Q A v;have U:e.s.fr.length<1000000000000:=A;refine R1 (gC fM (gC sR (gC a6D (gC a8E gN)))) func82 (b2j e f) (α:=(∃(x:{no:Nat//no<=8}),(f=f/\(0=0/\0=0)/\(0=0/\0=(Y3 e.s f x.1).length)/\0=(x.1:Int)/\True)/\(oo (F9 e e))/\(0=(Y3 e.s f x.1).length/\Z7 0 (tk 7 []) (L0 (Y3 e.s f x.1)))/\True)/\∀(x:{no:Nat//no<=8}),bd ((x.1:Int)<8) (∃(q:kS.ι),(((zA e.s.d q.1)/\(x.1:Int)=(q.2:Int)/\True)/\hM q)/\∃(l:uN.ι),(((yJ e.s l.1)/\(x.1:Int)=l.2/\True)/\M3 l.1.fr.length)/\bd (frAt l.1.fr l.2≥(0:Int)) (V3 (frAt l.1.fr l.2) e.s.fr.length/\(∃(X:Up 4),(f=f/\(0=0/\0=0)/\(0=0/\(Y3 e.s f x.1).length=(X7 (S0 e.s x.1).sl f (Y3 e.s f x.1) X.val).length)/\(x.1:Int)=(x.1:Int)/\(0=0/\0=0)/\0=(X.val:Int)/\True)/\(oo (F9 e e))/\(Z3 L0 (Y3 e.s f x.1) (X7 (S0 e.s x.1).sl f (Y3 e.s f x.1) X.val))/\(oo ((e.s.fr.getD (frAt l.1.fr l.2).toNat dz).pg.Q=(S0 e.s x.1).Q/\(Z3 Z6 (e.s.fr.getD (frAt l.1.fr l.2).toNat dz).pg.sl (S0 e.s x.1).sl)/\True))/\True)/\∀(X:Up 4),bd ((X.val:Int)<4) (V3 (X.val:Int) (S0 e.s x.1).sl.length/\∃(h:(Bz)),(((S0 e.s x.1).sl.getD (X.val:Int).toNat []=h/\True)/\nQ h)/\br (!(yH h).2.2||(yH h).1 !=f) (Ri ((X.val:Int)+1)/\∃(y:Up 4),((f=f/\(0=0/\0=0)/\(0=0/\(X7 (S0 e.s x.1).sl f (Y3 e.s f x.1) X.val).length=(X7 (S0 e.s x.1).sl f (Y3 e.s f x.1) y.1).length)/\(x.1:Int)=(x.1:Int)/\(0=0/\0=0)/\(X.val:Int)+1=(y.1:Int)/\True)/\(oo (F9 e e))/\(Z3 L0 (X7 (S0 e.s x.1).sl f (Y3 e.s f x.1) X.val) (X7 (S0 e.s x.1).sl f (Y3 e.s f x.1) y.1))/\(oo ((S0 e.s x.1).Q=(S0 e.s x.1).Q/\(Z3 Z6 (S0 e.s x.1).sl (S0 e.s x.1).sl)/\True))/\True)/\Lt (4-y.1) (4-X.val)) ((∃(g:{j:Nat//j<=(X7 (S0 e.s x.1).sl f (Y3 e.s f x.1) X.val).length/\∀(k:Nat),k<j->yS (X7 (S0 e.s x.1).sl f (Y3 e.s f x.1) X.val) (O7 e.s x.1 X.val).id k=false}),(f=f/\(0=0/\0=0)/\(0=0/\(X7 (S0 e.s x.1).sl f (Y3 e.s f x.1) X.val).length=(X7 (S0 e.s x.1).sl f (Y3 e.s f x.1) X.val).length)/\(x.1:Int)=(x.1:Int)/\(0=0/\0=0)/\(X.val:Int)=(X.val:Int)/\(0=0/\0=0)/\0=(g.val:Int)/\True)/\(oo (F9 e e))/\(Z3 L0 (X7 (S0 e.s x.1).sl f (Y3 e.s f x.1) X.val) (X7 (S0 e.s x.1).sl f (Y3 e.s f x.1) X.val))/\(oo ((S0 e.s x.1).Q=(S0 e.s x.1).Q/\(Z3 Z6 (S0 e.s x.1).sl (S0 e.s x.1).sl)/\True))/\(oo ((yH h).2.1.id=(O7 e.s x.1 X.val).id/\(yH h).2.1.n.k=(O7 e.s x.1 X.val).n.k/\(yH h).2.1.n.n=(O7 e.s x.1 X.val).n.n/\(yH h).2.1.n.t=(O7 e.s x.1 X.val).n.t/\(yH h).2.1.name.k=(O7 e.s x.1 X.val).name.k/\(yH h).2.1.name.n=(O7 e.s x.1 X.val).name.n/\(yH h).2.1.name.t=(O7 e.s x.1 X.val).name.t/\True))/\True)/\∀(g:{j:Nat//j<=(X7 (S0 e.s x.1).sl f (Y3 e.s f x.1) X.val).length/\∀(k:Nat),k<j->yS (X7 (S0 e.s x.1).sl f (Y3 e.s f x.1) X.val) (O7 e.s x.1 X.val).id k=false}),(decide ((g.val:Int)<(↑(X7 (S0 e.s x.1).sl f (Y3 e.s f x.1) X.val).length:Int))=true->V3 (g.val:Int) (X7 (S0 e.s x.1).sl f (Y3 e.s f x.1) X.val).length)/\(decide ((g.val:Int)<(↑(X7 (S0 e.s x.1).sl f (Y3 e.s f x.1) X.val).length:Int))=true->Lt (0+(g.val:Int).toNat) (X7 (S0 e.s x.1).sl f (Y3 e.s f x.1) X.val).length)/\br (decide ((g.val:Int)<(↑(X7 (S0 e.s x.1).sl f (Y3 e.s f x.1) X.val).length:Int))&&decide (((X7 (S0 e.s x.1).sl f (Y3 e.s f x.1) X.val).getD (0+(g.val:Int).toNat) dz).id<(O7 e.s x.1 X.val).id)) (Ri ((g.val:Int)+1)/\∃(y:{j:Nat//j<=(X7 (S0 e.s x.1).sl f (Y3 e.s f x.1) X.val).length/\∀(k:Nat),k<j->yS (X7 (S0 e.s x.1).sl f (Y3 e.s f x.1) X.val) (O7 e.s x.1 X.val).id k=false}),((f=f/\(0=0/\0=0)/\(0=0/\(X7 (S0 e.s x.1).sl f (Y3 e.s f x.1) X.val).length=(X7 (S0 e.s x.1).sl f (Y3 e.s f x.1) X.val).length)/\(x.1:Int)=(x.1:Int)/\(0=0/\0=0)/\(X.val:Int)=(X.val:Int)/\(0=0/\0=0)/\(g.val:Int)+1=(y.1:Int)/\True)/\(oo (F9 e e))/\(Z3 L0 (X7 (S0 e.s x.1).sl f (Y3 e.s f x.1) X.val) (X7 (S0 e.s x.1).sl f (Y3 e.s f x.1) X.val))/\(oo ((S0 e.s x.1).Q=(S0 e.s x.1).Q/\(Z3 Z6 (S0 e.s x.1).sl (S0 e.s x.1).sl)/\True))/\(oo ((O7 e.s x.1 X.val).id=(O7 e.s x.1 X.val).id/\(O7 e.s x.1 X.val).n.k=(O7 e.s x.1 X.val).n.k/\(O7 e.s x.1 X.val).n.n=(O7 e.s x.1 X.val).n.n/\(O7 e.s x.1 X.val).n.t=(O7 e.s x.1 X.val).n.t/\(O7 e.s x.1 X.val).name.k=(O7 e.s x.1 X.val).name.k/\(O7 e.s x.1 X.val).name.n=(O7 e.s x.1 X.val).name.n/\(O7 e.s x.1 X.val).name.t=(O7 e.s x.1 X.val).name.t/\True))/\True)/\Lt ((X7 (S0 e.s x.1).sl f (Y3 e.s f x.1) X.val).length-y.1) ((X7 (S0 e.s x.1).sl f (Y3 e.s f x.1) X.val).length-g.val)) (lY (g.val:Int) (X7 (S0 e.s x.1).sl f (Y3 e.s f x.1) X.val).length/\(Le (0+(g.val:Int).toNat) (X7 (S0 e.s x.1).sl f (Y3 e.s f x.1) X.val).length/\Le 0 0/\U2 0 (g.val:Int).toNat 72)/\(Le (0+(g.val:Int).toNat) (0+(g.val:Int).toNat)/\U2 (0+(g.val:Int).toNat) 1 72)/\lY (g.val:Int) (X7 (S0 e.s x.1).sl f (Y3 e.s f x.1) X.val).length/\(Le (0+(g.val:Int).toNat+((X7 (S0 e.s x.1).sl f (Y3 e.s f x.1) X.val).length- (g.val:Int).toNat)) (X7 (S0 e.s x.1).sl f (Y3 e.s f x.1) X.val).length/\Le (0+(g.val:Int).toNat+1) (0+(g.val:Int).toNat+1)/\U2 (0+(g.val:Int).toNat+1) ((X7 (S0 e.s x.1).sl f (Y3 e.s f x.1) X.val).length- (g.val:Int).toNat) 72)/\Ri ((X.val:Int)+1)/\∃(y:Up 4),((f=f/\(0=0/\0=0)/\(0=0/\0+(g.val:Int).toNat+1+((X7 (S0 e.s x.1).sl f (Y3 e.s f x.1) X.val).length- (g.val:Int).toNat)=(X7 (S0 e.s x.1).sl f (Y3 e.s f x.1) y.1).length)/\(x.1:Int)=(x.1:Int)/\(0=0/\0=0)/\(X.val:Int)+1=(y.1:Int)/\True)/\(oo (F9 e e))/\(0+(g.val:Int).toNat+1+((X7 (S0 e.s x.1).sl f (Y3 e.s f x.1) X.val).length- (g.val:Int).toNat)=(X7 (S0 e.s x.1).sl f (Y3 e.s f x.1) y.1).length/\Z7 (0+(g.val:Int).toNat+1+((X7 (S0 e.s x.1).sl f (Y3 e.s f x.1) X.val).length- (g.val:Int).toNat)) (X6 (X6 (X6 (tk 7 []) 0 (L0 (X7 (S0 e.s x.1).sl f (Y3 e.s f x.1) X.val))) (0+(g.val:Int).toNat) (tk 7 [Ji (O7 e.s x.1 X.val).id,Ji (O7 e.s x.1 X.val).n.k,Ji (O7 e.s x.1 X.val).n.n,T.str (O7 e.s x.1 X.val).n.t,Ji (O7 e.s x.1 X.val).name.k,Ji (O7 e.s x.1 X.val).name.n,T.str (O7 e.s x.1 X.val).name.t])) (0+(g.val:Int).toNat+1) (match(motive:=Nat->Nat->List T) 0+(g.val:Int).toNat with|0=>L0 (X7 (S0 e.s x.1).sl f (Y3 e.s f x.1) X.val)|off=>λ(i:Nat)=>[Ji ((X7 (S0 e.s x.1).sl f (Y3 e.s f x.1) X.val).getD (off+i) dz).id,Ji ((X7 (S0 e.s x.1).sl f (Y3 e.s f x.1) X.val).getD (off+i) dz).n.k,Ji ((X7 (S0 e.s x.1).sl f (Y3 e.s f x.1) X.val).getD (off+i) dz).n.n,T.str ((X7 (S0 e.s x.1).sl f (Y3 e.s f x.1) X.val).getD (off+i) dz).n.t,Ji ((X7 (S0 e.s x.1).sl f (Y3 e.s f x.1) X.val).getD (off+i) dz).name.k,Ji ((X7 (S0 e.s x.1).sl f (Y3 e.s f x.1) X.val).getD (off+i) dz).name.n,T.str ((X7 (S0 e.s x.1).sl f (Y3 e.s f x.1) X.val).getD (off+i) dz).name.t])) (L0 (X7 (S0 e.s x.1).sl f (Y3 e.s f x.1) y.1)))/\(oo ((S0 e.s x.1).Q=(S0 e.s x.1).Q/\(Z3 Z6 (S0 e.s x.1).sl (S0 e.s x.1).sl)/\True))/\True)/\Lt (4-y.1) (4-X.val)))) (Ri ((x.1:Int)+1)/\∃(y:{no:Nat//no<=8}),((f=f/\(0=0/\0=0)/\(0=0/\(X7 (S0 e.s x.1).sl f (Y3 e.s f x.1) X.val).length=(Y3 e.s f y.1).length)/\(x.1:Int)+1=(y.1:Int)/\True)/\(oo (F9 e e))/\(Z3 L0 (X7 (S0 e.s x.1).sl f (Y3 e.s f x.1) X.val) (Y3 e.s f y.1))/\True)/\Lt (8-y.1) (8-x.1))) ((∃(X:Up 4),(f=f/\(0=0/\0=0)/\(0=0/\(Y3 e.s f x.1).length=(X7 (S0 e.s x.1).sl f (Y3 e.s f x.1) X.val).length)/\(x.1:Int)=(x.1:Int)/\(0=0/\0=0)/\0=(X.val:Int)/\True)/\(oo (F9 e e))/\(Z3 L0 (Y3 e.s f x.1) (X7 (S0 e.s x.1).sl f (Y3 e.s f x.1) X.val))/\(oo ((V1 q.1 q.2).1.Q=(S0 e.s x.1).Q/\(Z3 Z6 (V1 q.1 q.2).1.sl (S0 e.s x.1).sl)/\True))/\True)/\∀(X:Up 4),bd ((X.val:Int)<4) (V3 (X.val:Int) (S0 e.s x.1).sl.length/\∃(h:(Bz)),(((S0 e.s x.1).sl.getD (X.val:Int).toNat []=h/\True)/\nQ h)/\br (!(yH h).2.2||(yH h).1 !=f) (Ri ((X.val:Int)+1)/\∃(y:Up 4),((f=f/\(0=0/\0=0)/\(0=0/\(X7 (S0 e.s x.1).sl f (Y3 e.s f x.1) X.val).length=(X7 (S0 e.s x.1).sl f (Y3 e.s f x.1) y.1).length)/\(x.1:Int)=(x.1:Int)/\(0=0/\0=0)/\(X.val:Int)+1=(y.1:Int)/\True)/\(oo (F9 e e))/\(Z3 L0 (X7 (S0 e.s x.1).sl f (Y3 e.s f x.1) X.val) (X7 (S0 e.s x.1).sl f (Y3 e.s f x.1) y.1))/\(oo ((S0 e.s x.1).Q=(S0 e.s x.1).Q/\(Z3 Z6 (S0 e.s x.1).sl (S0 e.s x.1).sl)/\True))/\True)/\Lt (4-y.1) (4-X.val)) ((∃(g:{j:Nat//j<=(X7 (S0 e.s x.1).sl f (Y3 e.s f x.1) X.val).length/\∀(k:Nat),k<j->yS (X7 (S0 e.s x.1).sl f (Y3 e.s f x.1) X.val) (O7 e.s x.1 X.val).id k=false}),(f=f/\(0=0/\0=0)/\(0=0/\(X7 (S0 e.s x.1).sl f (Y3 e.s f x.1) X.val).length=(X7 (S0 e.s x.1).sl f (Y3 e.s f x.1) X.val).length)/\(x.1:Int)=(x.1:Int)/\(0=0/\0=0)/\(X.val:Int)=(X.val:Int)/\(0=0/\0=0)/\0=(g.val:Int)/\True)/\(oo (F9 e e))/\(Z3 L0 (X7 (S0 e.s x.1).sl f (Y3 e.s f x.1) X.val) (X7 (S0 e.s x.1).sl f (Y3 e.s f x.1) X.val))/\(oo ((S0 e.s x.1).Q=(S0 e.s x.1).Q/\(Z3 Z6 (S0 e.s x.1).sl (S0 e.s x.1).sl)/\True))/\(oo ((yH h).2.1.id=(O7 e.s x.1 X.val).id/\(yH h).2.1.n.k=(O7 e.s x.1 X.val).n.k/\(yH h).2.1.n.n=(O7 e.s x.1 X.val).n.n/\(yH h).2.1.n.t=(O7 e.s x.1 X.val).n.t/\(yH h).2.1.name.k=(O7 e.s x.1 X.val).name.k/\(yH h).2.1.name.n=(O7 e.s x.1 X.val).name.n/\(yH h).2.1.name.t=(O7 e.s x.1 X.val).name.t/\True))/\True)/\∀(g:{j:Nat//j<=(X7 (S0 e.s x.1).sl f (Y3 e.s f x.1) X.val).length/\∀(k:Nat),k<j->yS (X7 (S0 e.s x.1).sl f (Y3 e.s f x.1) X.val) (O7 e.s x.1 X.val).id k=false}),(decide ((g.val:Int)<(↑(X7 (S0 e.s x.1).sl f (Y3 e.s f x.1) X.val).length:Int))=true->V3 (g.val:Int) (X7 (S0 e.s x.1).sl f (Y3 e.s f x.1) X.val).length)/\(decide ((g.val:Int)<(↑(X7 (S0 e.s x.1).sl f (Y3 e.s f x.1) X.val).length:Int))=true->Lt (0+(g.val:Int).toNat) (X7 (S0 e.s x.1).sl f (Y3 e.s f x.1) X.val).length)/\br (decide ((g.val:Int)<(↑(X7 (S0 e.s x.1).sl f (Y3 e.s f x.1) X.val).length:Int))&&decide (((X7 (S0 e.s x.1).sl f (Y3 e.s f x.1) X.val).getD (0+(g.val:Int).toNat) dz).id<(O7 e.s x.1 X.val).id)) (Ri ((g.val:Int)+1)/\∃(y:{j:Nat//j<=(X7 (S0 e.s x.1).sl f (Y3 e.s f x.1) X.val).length/\∀(k:Nat),k<j->yS (X7 (S0 e.s x.1).sl f (Y3 e.s f x.1) X.val) (O7 e.s x.1 X.val).id k=false}),((f=f/\(0=0/\0=0)/\(0=0/\(X7 (S0 e.s x.1).sl f (Y3 e.s f x.1) X.val).length=(X7 (S0 e.s x.1).sl f (Y3 e.s f x.1) X.val).length)/\(x.1:Int)=(x.1:Int)/\(0=0/\0=0)/\(X.val:Int)=(X.val:Int)/\(0=0/\0=0)/\(g.val:Int)+1=(y.1:Int)/\True)/\(oo (F9 e e))/\(Z3 L0 (X7 (S0 e.s x.1).sl f (Y3 e.s f x.1) X.val) (X7 (S0 e.s x.1).sl f (Y3 e.s f x.1) X.val))/\(oo ((S0 e.s x.1).Q=(S0 e.s x.1).Q/\(Z3 Z6 (S0 e.s x.1).sl (S0 e.s x.1).sl)/\True))/\(oo ((O7 e.s x.1 X.val).id=(O7 e.s x.1 X.val).id/\(O7 e.s x.1 X.val).n.k=(O7 e.s x.1 X.val).n.k/\(O7 e.s x.1 X.val).n.n=(O7 e.s x.1 X.val).n.n/\(O7 e.s x.1 X.val).n.t=(O7 e.s x.1 X.val).n.t/\(O7 e.s x.1 X.val).name.k=(O7 e.s x.1 X.val).name.k/\(O7 e.s x.1 X.val).name.n=(O7 e.s x.1 X.val).name.n/\(O7 e.s x.1 X.val).name.t=(O7 e.s x.1 X.val).name.t/\True))/\True)/\Lt ((X7 (S0 e.s x.1).sl f (Y3 e.s f x.1) X.val).length-y.1) ((X7 (S0 e.s x.1).sl f (Y3 e.s f x.1) X.val).length-g.val)) (lY (g.val:Int) (X7 (S0 e.s x.1).sl f (Y3 e.s f x.1) X.val).length/\(Le (0+(g.val:Int).toNat) (X7 (S0 e.s x.1).sl f (Y3 e.s f x.1) X.val).length/\Le 0 0/\U2 0 (g.val:Int).toNat 72)/\(Le (0+(g.val:Int).toNat) (0+(g.val:Int).toNat)/\U2 (0+(g.val:Int).toNat) 1 72)/\lY (g.val:Int) (X7 (S0 e.s x.1).sl f (Y3 e.s f x.1) X.val).length/\(Le (0+(g.val:Int).toNat+((X7 (S0 e.s x.1).sl f (Y3 e.s f x.1) X.val).length- (g.val:Int).toNat)) (X7 (S0 e.s x.1).sl f (Y3 e.s f x.1) X.val).length/\Le (0+(g.val:Int).toNat+1) (0+(g.val:Int).toNat+1)/\U2 (0+(g.val:Int).toNat+1) ((X7 (S0 e.s x.1).sl f (Y3 e.s f x.1) X.val).length- (g.val:Int).toNat) 72)/\Ri ((X.val:Int)+1)/\∃(y:Up 4),((f=f/\(0=0/\0=0)/\(0=0/\0+(g.val:Int).toNat+1+((X7 (S0 e.s x.1).sl f (Y3 e.s f x.1) X.val).length- (g.val:Int).toNat)=(X7 (S0 e.s x.1).sl f (Y3 e.s f x.1) y.1).length)/\(x.1:Int)=(x.1:Int)/\(0=0/\0=0)/\(X.val:Int)+1=(y.1:Int)/\True)/\(oo (F9 e e))/\(0+(g.val:Int).toNat+1+((X7 (S0 e.s x.1).sl f (Y3 e.s f x.1) X.val).length- (g.val:Int).toNat)=(X7 (S0 e.s x.1).sl f (Y3 e.s f x.1) y.1).length/\Z7 (0+(g.val:Int).toNat+1+((X7 (S0 e.s x.1).sl f (Y3 e.s f x.1) X.val).length- (g.val:Int).toNat)) (X6 (X6 (X6 (tk 7 []) 0 (L0 (X7 (S0 e.s x.1).sl f (Y3 e.s f x.1) X.val))) (0+(g.val:Int).toNat) (tk 7 [Ji (O7 e.s x.1 X.val).id,Ji (O7 e.s x.1 X.val).n.k,Ji (O7 e.s x.1 X.val).n.n,T.str (O7 e.s x.1 X.val).n.t,Ji (O7 e.s x.1 X.val).name.k,Ji (O7 e.s x.1 X.val).name.n,T.str (O7 e.s x.1 X.val).name.t])) (0+(g.val:Int).toNat+1) (match(motive:=Nat->Nat->List T) 0+(g.val:Int).toNat with|0=>L0 (X7 (S0 e.s x.1).sl f (Y3 e.s f x.1) X.val)|off=>λ(i:Nat)=>[Ji ((X7 (S0 e.s x.1).sl f (Y3 e.s f x.1) X.val).getD (off+i) dz).id,Ji ((X7 (S0 e.s x.1).sl f (Y3 e.s f x.1) X.val).getD (off+i) dz).n.k,Ji ((X7 (S0 e.s x.1).sl f (Y3 e.s f x.1) X.val).getD (off+i) dz).n.n,T.str ((X7 (S0 e.s x.1).sl f (Y3 e.s f x.1) X.val).getD (off+i) dz).n.t,Ji ((X7 (S0 e.s x.1).sl f (Y3 e.s f x.1) X.val).getD (off+i) dz).name.k,Ji ((X7 (S0 e.s x.1).sl f (Y3 e.s f x.1) X.val).getD (off+i) dz).name.n,T.str ((X7 (S0 e.s x.1).sl f (Y3 e.s f x.1) X.val).getD (off+i) dz).name.t])) (L0 (X7 (S0 e.s x.1).sl f (Y3 e.s f x.1) y.1)))/\(oo ((S0 e.s x.1).Q=(S0 e.s x.1).Q/\(Z3 Z6 (S0 e.s x.1).sl (S0 e.s x.1).sl)/\True))/\True)/\Lt (4-y.1) (4-X.val)))) (Ri ((x.1:Int)+1)/\∃(y:{no:Nat//no<=8}),((f=f/\(0=0/\0=0)/\(0=0/\(X7 (S0 e.s x.1).sl f (Y3 e.s f x.1) X.val).length=(Y3 e.s f y.1).length)/\(x.1:Int)+1=(y.1:Int)/\True)/\(oo (F9 e e))/\(Z3 L0 (X7 (S0 e.s x.1).sl f (Y3 e.s f x.1) X.val) (Y3 e.s f y.1))/\True)/\Lt (8-y.1) (8-x.1)))) (Le (0+(Y3 e.s f x.1).length) (Y3 e.s f x.1).length/\(Y3 e.s f x.1).length=(Y3 e.s f 8).length/\Z7 (Y3 e.s f x.1).length (L0 (Y3 e.s f x.1)) (L0 (Y3 e.s f 8)))) ⟨⟨⟨0,L8 _⟩,Z8,Z8,⟨rfl,qN _ _⟩,Z5⟩,λx=>?_⟩
 obtain⟨no,I⟩:=x;dsimp only at I ⊢;refine⟨λhx=>?_,λhx=>?_⟩
 ·have hno:no<8:=by have:=B3 hx;omega
  have F:=(v no hno).1;refine⟨(e.s.d,no),⟨⟨(eqD _),Z8⟩,R,W5⟩,(e.s,(no:Int)),⟨⟨(iT _),Z8⟩,A⟩,λhf=>?_,λhf=>?_⟩
  ·have hf:frAt e.s.fr (no:Int)≥0:=B3 hf;obtain⟨i,hi,_,_,hfi⟩:=tY (show ¬frAt e.s.fr (no:Int)<0 by omega)
   have hfi:frAt e.s.fr (no:Int)=(i:Int):=hfi;have ep:S0 e.s no=(e.s.fr.getD (frAt e.s.fr (no:Int)).toNat dz).pg:=by unfold S0;rw[if_neg Z9]
   refine⟨⟨hf,by rw[show frAt (e.s,(no:Int)).1.fr (e.s,(no:Int)).2=(i:Int) from hfi];omega⟩,⟨⟨0,L8 _⟩,Z8,Z8,Z8,⟨rfl,rfl,by rw[ep],⟨by rw[ep],by rw[ep];exact W2 _ _⟩,Z5⟩,Z5⟩,λy=>?_⟩
   obtain⟨i,hi⟩:=y;dsimp only at hi ⊢;refine⟨λhy=>?_,λhy=>?_⟩
   ·have hi4:i<4:=by have:=B3 hy;omega
    rw[C8];have hd:=(v no hno).2 i hi4;obtain⟨q1,q2⟩:=a5V ((S0 e.s no).sl.getD i []);have N:=tX (S0 e.s no).sl f (Y3 e.s f no) i;have C:=uH e.s f no;refine⟨X9 (by rw[F];exact hi4),(S0 e.s no).sl.getD i [],⟨Z8,by show _<=1000000000;omega⟩,λhq=>?_,λhq=>?_⟩
    ·have r:X7 (S0 e.s no).sl f (Y3 e.s f no) (i+1)=X7 (S0 e.s no).sl f (Y3 e.s f no) i:=by
      show sH f (X7 (S0 e.s no).sl f (Y3 e.s f no) i) ((S0 e.s no).sl.getD i [])=_;unfold sH;cases hr:qC ((S0 e.s no).sl.getD i []) with
      |none=>rfl
      |some x=>
       have:=q2 x hr;rw[this] at hq;simp only[Bool.not_true,Bool.false_or,bne_iff_ne,ne_eq] at hq;show(if x.1=f then _ else _)=_
       rw[if_neg hq]
     exact⟨Z1 Z9,⟨i+1,Z9⟩,⟨⟨rfl,Z8,⟨rfl,by rw[r]⟩,rfl,⟨rfl,rfl⟩,W5,Z5⟩,⟨rfl,rfl,tG _⟩,⟨by rw[r],by rw[r];exact W2 _ _⟩,Z8⟩,show 4- (i+1)<4-i by omega⟩
    ·simp only[zY,yL,bne_eq_false_iff_eq] at hq;obtain⟨g1,g2⟩:=hq;rw[q1] at g1;obtain⟨x,hr⟩:=Option.isSome_iff_exists.1 g1;have hx:=q2 x hr;have eI:O7 e.s no i=x.2:=by unfold O7;rw[hr];rfl
     have r:X7 (S0 e.s no).sl f (Y3 e.s f no) (i+1)=cE (X7 (S0 e.s no).sl f (Y3 e.s f no) i) (O7 e.s no i):=by
      show sH f (X7 (S0 e.s no).sl f (Y3 e.s f no) i) ((S0 e.s no).sl.getD i [])=_;unfold sH;rw[hr,eI];show(if x.1=f then _ else _)=_
      rw[if_pos (by rw[←g2,hx])]
     rw[hx,←eI];generalize O:X7 (S0 e.s no).sl f (Y3 e.s f no) i=LL at*;generalize O7 e.s no i=RI at*;refine⟨⟨⟨0,L8 _,λk hk=>Z9⟩,Z8⟩,λz=>?_⟩
     obtain⟨m,B,Z⟩:=z;dsimp only at B Z ⊢;rw[C8,D8];refine⟨λhc=>X9 (Y0 hc),λhc=>Y0 hc,λhc=>?_,λhc=>?_⟩
     ·simp only[M1,g7] at hc;refine⟨Z1 Z9,⟨m+1,Z9,λk hk=>?_⟩,⟨⟨rfl,Z8,Z8,rfl,Z8,rfl,Z8,W5,Z5⟩,Z8⟩,show LL.length- (m+1)<LL.length-m by omega⟩
      by_cases M:k=m
      ·rw[M];unfold yS;rw[pH hc.2];rfl
      ·exact Z k Z9
     ·have u:b2d LL RI.id=m:=by
       refine a8M B Z λJ=>?_
       unfold yS;have:(decide ((m:Int)<(LL.length:Int))&&decide ((LL.getD m dz).id<RI.id))=false:=hc;rw[pH Z9,Bool.true_and] at this
       rw[this];rfl
      have o:cE LL RI=LL.take m++[RI]++LL.drop m:=by unfold cE;rw[u]
      have L:(cE LL RI).length=m+1+(LL.length-m):=by rw[o];simp;omega
      have rows:=a5l LL RI B;rw[D8] at rows;refine⟨⟨Z9,Z9⟩,⟨C9,U9 _,O6⟩,⟨U9 _,O6⟩,⟨Z9,Z9⟩,⟨C9,U9 _,O6⟩,Z1 Z9,⟨i+1,Z9⟩,⟨⟨rfl,Z8,⟨rfl,by rw[r,L]⟩,rfl,⟨rfl,rfl⟩,W5,Z5⟩,⟨rfl,rfl,tG _⟩,⟨by rw[r,L],by rw[r,o];exact rows⟩,Z8⟩,show 4- (i+1)<4-i by omega⟩
   ·have hi4:i=4:=by have:=k5 hy;omega
    subst hi4;exact⟨Z1 Z9,⟨no+1,Z9⟩,⟨⟨rfl,Z8,Z8,W5,Z5⟩,Z8⟩,show 8- (no+1)<8-no by omega⟩
  ·have hf:¬frAt e.s.fr (no:Int)≥0:=k5 hf;have ep:S0 e.s no=(V1 e.s.d no).1:=by unfold S0;rw[if_pos Z9]
   refine⟨⟨⟨0,L8 _⟩,Z8,Z8,Z8,⟨rfl,rfl,by rw[ep],⟨by rw[ep],by rw[ep];exact W2 _ _⟩,Z5⟩,Z5⟩,λy=>?_⟩
   obtain⟨i,hi⟩:=y;dsimp only at hi ⊢;refine⟨λhy=>?_,λhy=>?_⟩
   ·have hi4:i<4:=by have:=B3 hy;omega
    rw[C8];have hd:=(v no hno).2 i hi4;obtain⟨q1,q2⟩:=a5V ((S0 e.s no).sl.getD i []);have N:=tX (S0 e.s no).sl f (Y3 e.s f no) i;have C:=uH e.s f no;refine⟨X9 (by rw[F];exact hi4),(S0 e.s no).sl.getD i [],⟨Z8,by show _<=1000000000;omega⟩,λhq=>?_,λhq=>?_⟩
    ·have r:X7 (S0 e.s no).sl f (Y3 e.s f no) (i+1)=X7 (S0 e.s no).sl f (Y3 e.s f no) i:=by
      show sH f (X7 (S0 e.s no).sl f (Y3 e.s f no) i) ((S0 e.s no).sl.getD i [])=_;unfold sH;cases hr:qC ((S0 e.s no).sl.getD i []) with
      |none=>rfl
      |some x=>
       have:=q2 x hr;rw[this] at hq;simp only[Bool.not_true,Bool.false_or,bne_iff_ne,ne_eq] at hq;show(if x.1=f then _ else _)=_
       rw[if_neg hq]
     exact⟨Z1 Z9,⟨i+1,Z9⟩,⟨⟨rfl,Z8,⟨rfl,by rw[r]⟩,rfl,⟨rfl,rfl⟩,W5,Z5⟩,⟨rfl,rfl,tG _⟩,⟨by rw[r],by rw[r];exact W2 _ _⟩,Z8⟩,show 4- (i+1)<4-i by omega⟩
    ·simp only[zY,yL,bne_eq_false_iff_eq] at hq;obtain⟨g1,g2⟩:=hq;rw[q1] at g1;obtain⟨x,hr⟩:=Option.isSome_iff_exists.1 g1;have hx:=q2 x hr;have eI:O7 e.s no i=x.2:=by unfold O7;rw[hr];rfl
     have r:X7 (S0 e.s no).sl f (Y3 e.s f no) (i+1)=cE (X7 (S0 e.s no).sl f (Y3 e.s f no) i) (O7 e.s no i):=by
      show sH f (X7 (S0 e.s no).sl f (Y3 e.s f no) i) ((S0 e.s no).sl.getD i [])=_;unfold sH;rw[hr,eI];show(if x.1=f then _ else _)=_
      rw[if_pos (by rw[←g2,hx])]
     rw[hx,←eI];generalize O:X7 (S0 e.s no).sl f (Y3 e.s f no) i=LL at*;generalize O7 e.s no i=RI at*;refine⟨⟨⟨0,L8 _,λk hk=>Z9⟩,Z8⟩,λz=>?_⟩
     obtain⟨m,B,Z⟩:=z;dsimp only at B Z ⊢;rw[C8,D8];refine⟨λhc=>X9 (Y0 hc),λhc=>Y0 hc,λhc=>?_,λhc=>?_⟩
     ·simp only[M1,g7] at hc;refine⟨Z1 Z9,⟨m+1,Z9,λk hk=>?_⟩,⟨⟨rfl,Z8,Z8,rfl,Z8,rfl,Z8,W5,Z5⟩,Z8⟩,show LL.length- (m+1)<LL.length-m by omega⟩
      by_cases M:k=m
      ·rw[M];unfold yS;rw[pH hc.2];rfl
      ·exact Z k Z9
     ·have u:b2d LL RI.id=m:=by
       refine a8M B Z λJ=>?_
       unfold yS;have:(decide ((m:Int)<(LL.length:Int))&&decide ((LL.getD m dz).id<RI.id))=false:=hc;rw[pH Z9,Bool.true_and] at this
       rw[this];rfl
      have o:cE LL RI=LL.take m++[RI]++LL.drop m:=by unfold cE;rw[u]
      have L:(cE LL RI).length=m+1+(LL.length-m):=by rw[o];simp;omega
      have rows:=a5l LL RI B;rw[D8] at rows;refine⟨⟨Z9,Z9⟩,⟨C9,U9 _,O6⟩,⟨U9 _,O6⟩,⟨Z9,Z9⟩,⟨C9,U9 _,O6⟩,Z1 Z9,⟨i+1,Z9⟩,⟨⟨rfl,Z8,⟨rfl,by rw[r,L]⟩,rfl,⟨rfl,rfl⟩,W5,Z5⟩,⟨rfl,rfl,tG _⟩,⟨by rw[r,L],by rw[r,o];exact rows⟩,Z8⟩,show 4- (i+1)<4-i by omega⟩
   ·have hi4:i=4:=by have:=k5 hy;omega
    subst hi4;exact⟨Z1 Z9,⟨no+1,Z9⟩,⟨⟨rfl,Z8,Z8,W5,Z5⟩,Z8⟩,show 8- (no+1)<8-no by omega⟩
 ·have h8:no=8:=by have:=k5 hx;omega
  subst h8;exact⟨C9,Z8⟩
theorem c6W(i:Nat):i5 (vts.getD i [])=true:=by
 match i with
 |0=>decide
 |1=>decide
 |2=>decide
 |3=>decide
 |4=>decide
 |5=>decide
 |n+6=>rfl
theorem c5L(i:Nat):i5 (nts.getD i [])=true:=by
 match i with
 |0=>decide
 |1=>decide
 |2=>decide
 |n+3=>rfl
theorem b37{s:Src}{m:Nat}(h:O5 s m):Q5 (T1 s).2=true:=by
 have n1:=D7 h (n:=4) U4
 by_cases h0:y7 s 4=0
 ·rw[c24 h0];rfl
 ·by_cases h1:y7 s 4=1
  ·rw[c3R h1];exact c6W _
  ·rw[c2J h0 h1];have nn:=a9A n1.2.2 ((y7 (S1 (S1 (S1 s 4) 20) 20) 8).tdiv 2).toNat;unfold Q5;dsimp only;rw[if_neg U4,if_pos rfl,S2.2 nn]
   rfl
theorem b8u{s:Src}{m:Nat}{v:Val}(h:O5 s m)(hv:Q5 v=true):Q5 (y5 s v).2=true/\(y5 s v).2.k≠2:=by
 have N:=D7 h (n:=9) U4
 unfold y5;split
 ·refine⟨?_,by show(1:Int)≠2;decide⟩
  unfold Q5;dsimp only;rw[if_neg U4,if_pos rfl,S2.2 ⟨Z9,Z9⟩]
  rfl
 ·rename_i d;exact⟨hv,d⟩
theorem b8H{s:Src}{v:Val}(hv:Q5 v=true):Q5 (xB s v).2=true/\(xB s v).2.k≠1:=by
 unfold xB;split
 ·exact⟨c5L _,by show(2:Int)≠1;decide⟩
 ·rename_i h;exact⟨hv,h⟩
theorem c0w{s:Src}{m:Nat}(h:O5 s m):L4 (jG s).2=true:=by
 have N:=D7 h (n:=6) U4
 have V:=b37 N.2.2;have v:=b37 (eK N.2.2).1;obtain⟨A,d⟩:=b8u (b7j h) V;obtain⟨B,b2⟩:=b8H (s:=(y5 (u6 s) (T1 (S1 s 6)).2).1) v;unfold L4 jG;dsimp only;rw[A,B,S2.2 ⟨Z9,Z9⟩]
 simp only[Bool.true_and,Bool.and_true,M1,bne_iff_ne,ne_eq];exact⟨d,b2⟩
theorem b70(s:Sto)(n:Nat):S0 s n=pgV s n:=by
 unfold S0 pgV;by_cases h:frAt s.fr n<0
 ·rw[if_pos h,if_neg Z9]
 ·rw[if_neg h,if_pos Z9]
theorem a0d{p q:List (Bz)}{ta:Int}{L:List Rw}:∀n,(∀i,i<n->p.getD i []=q.getD i [])->X7 p ta L n=X7 q ta L n
 |0,_=>rfl
 |n+1,h=>by
  unfold X7;rw[a0d n λi hi=>h i Z9,h n Z9]
theorem a0K{s t:Sto}{ta:Int}(h:vw s=vw t):∀n,n<=8->Y3 s ta n=Y3 t ta n
 |0,_=>rfl
 |n+1,hn=>by
  unfold Y3;rw[a0K h n Z9,b70,b70]
  refine a0d 4 λi _=>?_
  have:=congrFun (congrFun h n) i;unfold vw at this;rw[if_pos Z9,if_pos Z9] at this
  exact this
theorem c5I{s:Sto}(h:GInv s):c2W s:=by
 have g:=h.fr3;refine⟨h.dg.P h.ca,h.dg.n69,pX,λno o=>?_⟩
 rw[b70];obtain⟨⟨F,f,_,_⟩,_⟩:=qJ h o;obtain⟨_,_,⟨_,_,d,e⟩,_⟩:=F.fp _ f;rw[eP h o] at d e;exact⟨d,λi hi=>Nat.le_trans (e i Z9) U4⟩
end
end Go.Proofs.YtcobnbfhkpbokaaGreat
