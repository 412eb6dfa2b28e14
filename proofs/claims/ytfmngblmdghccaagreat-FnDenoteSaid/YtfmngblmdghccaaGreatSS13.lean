/- A part of the proof. -/
import Derived.Test.YtfmngblmdghccaaGreatSS8
import Derived.Orders
import Derived.Deep.LoopGhost
import Derived.Laws.Sem
import Derived.Deep.Slices
import Derived.OpenShut
import Derived.RowKit
import Derived.ChangeSame
namespace Go.SS
open Go.RowKit
section
variable {c:Ctx} {E:Env} {H:Heap} {w:World} {P:Program} {G:Gam}

theorem pure_ok(hG:GamOk P G)(h:Inv c E H w){f:FuncId}{args:List T}{vs:Array Value}{r:T}{p:Option Prop}(he:evPure G H f args=some (r,p))(hp:p.getD True)(ha:RdL E w args vs):
  Calls P f vs w fun e w'=>∃v E',e= .returned v/\Inv c E' H w'/\Step E w E' w'/\Rd E' w' r v:=by
 unfold evPure at he;split at he
 ·rename_i hcl;have hpf:=gam_ok hG he hp;have:=hpf {E with L:=fun _=>False,L2:=fun _ _=>False} w vs (fun _=>⟨fun h=>h,fun _ h=>h⟩) h.nlt ⟨ha.1,fun i t x hi hx=>Rd.closedD (E:=E) (E':={E with L:=fun _=>False,L2:=fun _ _=>False}) (fun _ h=>h) 6 (ha.2 i t x hi hx) (List.all_eq_true.1 hcl t (List.mem_of_getElem? hi))⟩
  refine this.mono fun e w' hh=> ?_
  obtain⟨v,rfl,hb,hr⟩:=hh;obtain⟨h1,h2⟩:=h.grow hb.os hb.tape hb.output hb.size hb.block hb.dr;exact⟨v,_,rfl,h1,h2,Rd.mono (E:=({E with L:=fun _=>False,L2:=fun _ _=>False}:Env).addN fun b=>w.heap.size<=b/\b<w'.heap.size) (E':=E.addN fun b=>w.heap.size<=b/\b<w'.heap.size) ⟨fun _ h=>h,fun _ h=>False.elim h,fun _ h=>False.elim h,fun _ h=>False.elim h,fun _ h=>False.elim h,fun _ _ h=>False.elim h,fun _ _ _ _ h=>False.elim h,fun _ _ _ _ h=>False.elim h⟩ (fun _ _=>rfl) hr⟩
 ·split at he
  ·rename_i bs hbs;split at he
   ·rename_i r' p' hg;split at he
    ·rename_i hpl;simp only[Option.some.injEq,Prod.mk.injEq] at he;obtain⟨rfl,rfl⟩:=he;obtain⟨hp1,hp2⟩:=andOO_ok hp;have hpf:=gam_ok hG hg hp2;obtain⟨b1,b2⟩:=mapO_ok hbs;have:=hpf (E.lent 0 H) w vs (fun _=>⟨fun h=>absurd h.2 (Nat.not_lt_zero _),fun _ h=>absurd h.2 (Nat.not_lt_zero _)⟩) (fun b hb=>by
      rcases hb with hb|⟨k,ob,_,hk,hb⟩
      ·exact h.nlt b hb
      ·exact h.heap.blt hk hb) ⟨by simp[b1,ha.1],fun i t x hi hx=>by
       simp only[List.getElem?_map,Option.map_eq_some_iff] at hi
       obtain⟨y,hy,rfl⟩:=hi;have hlt:i<args.length:=by rw[←b1];exact(List.getElem?_eq_some_iff.1 hy).1
       have hc:=List.getElem?_eq_getElem hlt
       exact borrow_ok h 6 (r:=y.1) (p:=y.2) (b2 i _ y hc hy) (sides_ok hp1 y (List.mem_of_getElem? hy)) (ha.2 i _ x hc hx)⟩
     refine this.mono fun e w' hh=> ?_
     obtain⟨v,rfl,hb,hr⟩:=hh;obtain⟨h1,h2⟩:=h.grow hb.os hb.tape hb.output hb.size hb.block hb.dr;exact⟨v,_,rfl,h1,h2,hr.plain 6 hpl⟩
    ·cases he
   ·cases he
  ·cases he

def After(c:Ctx)(E:Env)(w:World)(o:Oper)(a:Act)(y:T)(H':Heap)(K:Act->World->Prop):Prop:=
 ∀v w' E',Inv c E' H' w'->Step E w E' w'->Rd E' w' y v->K (a.put o.dst v) w'

theorem value_wp{o:Oper}{a:Act}{K:Act->World->Prop}{Q:Exit->Act->World->Prop}{v:Value}{w':World}(h:(execOp a.eval o).run P w= .ok (.value v) w')(hk:K (a.put o.dst v) w'):o.wp P a w K Q:=by
 unfold Oper.wp;rw[h];exact hk

theorem skip_wp{o:Oper}{a:Act}{K:Act->World->Prop}{Q:Exit->Act->World->Prop}{w':World}(h:(execOp a.eval o).run P w= .ok .skip w')(hk:K (a.put o.dst undef) w'):o.wp P a w K Q:=by
 unfold Oper.wp;rw[h];exact hk

theorem enter_wp{o:Oper}{a:Act}{K:Act->World->Prop}{Q:Exit->Act->World->Prop}{f:FuncId}{vs:Array Value}{w':World}(h:(execOp a.eval o).run P w= .ok (.enter f vs) w')
  (hk:Calls P f vs w' fun e w''=>∃v,e= .returned v/\K (a.put o.dst v) w''):o.wp P a w K Q:=by
 unfold Oper.wp;rw[h,Oper.upon_enter];refine hk.mono fun e w'' hh=> ?_
 obtain⟨v,rfl,hv⟩:=hh;exact hv

theorem fnOf_ok{a:Act}{s:Slots}{x:Operand}{f:FuncId}{cs:List T}(h:fnOf s x=some (f,cs))(hx:OpOk E w a s x):∃caps,a.eval x= .func (.func f) #[] caps/\RdL E w cs caps:=by
 unfold fnOf at h;split at h
 ·simp only[Option.some.injEq,Prod.mk.injEq] at h;obtain⟨rfl,rfl⟩:=h;exact⟨#[],rfl,rfl,fun i t x hi=>by simp at hi⟩
 ·unfold OpOk at hx;split at h
  ·rename_i g cs' he;simp only[Option.some.injEq,Prod.mk.injEq] at h;obtain⟨rfl,rfl⟩:=h;rw[he] at hx;generalize a.eval x=v at hx;cases hx with
   |fn _ _ vs hl ht=>exact⟨vs,rfl,hl,ht⟩
  ·rename_i g first caps he
   rw[he] at hx;split at h
   ·rename_i hf hc;simp only[Option.some.injEq,Prod.mk.injEq] at h;obtain⟨rfl,rfl⟩:=h;obtain rfl:first= #[]:=Array.ext' (by simpa using hf)
    obtain rfl:caps= #[]:=Array.ext' (by simpa using hc)
    exact⟨#[],rd_v hx,rfl,fun i t x hi=>by simp at hi⟩
   ·cases h
  ·cases h

def Callable(P:Program)(f:FuncId):Prop:=∃fn,P.funcs[f]? =some fn/\(fn.name== "runtime.NumGoroutine")=false/\fn.body.isNone=false

theorem call_run{a:Act}{o:Oper}{x:Operand}{args:Array Operand}{at_:Array TypeId}{f:FuncId}{caps:Array Value}(ho:o.op= .call {callee:=.value x,args:=args,argTypes:=at_})(hf:Callable P f)(hx:a.eval x= .func (.func f) #[] caps):
  (execOp a.eval o).run P w= .ok (.enter f (args.map a.eval++caps)) w:=by
 obtain⟨fn,h1,h2,h3⟩:=hf;simp only[execOp,ho,resolve,hx,Deferred.ofValue,Sem.run_bind,Sem.run_pure,Result.andThen_ok,invoke,callFunc,run_program,h1,h2,h3];simp

theorem meth_run{P:Program}{w:World}{t:TypeId}{v:Value}{name:String}{f:FuncId}(h:methB P t name f=true)(n:Nat):(method (n+1) t v name).run P w= .ok (f,v) w:=by
 unfold methB at h;split at h
 ·rename_i e m hu hm;rw[Bool.and_eq_true] at h;obtain⟨hp,hf⟩:=h;split at hf
  ·rename_i g hg;obtain rfl:=Nat.eq_of_beq_eq_true hf;cases hi:P.info? t with
   |none=>rw[hi] at hm;cases hm
   |some i=>
    rw[hi] at hm;replace hm:i.methods.find? (·.name==name)=some m:=hm;have hpl:m.path.toList=[]:=by simpa using hp
    unfold method;simp only[Sem.run_bind,typeInfo,run_program,hi,Result.andThen_ok,Sem.run_pure,hm,hpl,follow,hg,receiverAt,run_underlying hu,Place.get]
  ·cases hf
 ·cases h
theorem inv_run{P:Program}{w:World}{a:Act}{o:Oper}{x:Operand}{name:String}{args:Array Operand}{at_:Array TypeId}{f:FuncId}{t:TypeId}{v:Value}(ho:o.op= .call {callee:=.invoke x name,args:=args,argTypes:=at_})(hf:Callable P f)(hx:a.eval x= .iface t v)(hm:methB P t name f=true):
  (execOp a.eval o).run P w= .ok (.enter f (#[v]++args.map a.eval)) w:=by
 obtain⟨fn,h1,h2,h3⟩:=hf;have hr:=meth_run (w:=w) (v:=v) hm (P.types.size+99);have e:(#[Value.iface t v]++args.map a.eval).extract 1 (#[Value.iface t v]++args.map a.eval).size=args.map a.eval:=by
  apply Array.ext'
  simp;exact List.take_of_length_le (by simp)
 simp only[execOp,ho,resolve,hx,Sem.run_bind,Sem.run_pure,Result.andThen_ok,invoke];have e0:(#[Value.iface t v]++args.map a.eval)[0]? =some (.iface t v):=by rw[Array.getElem?_append_left (show 0<1 from Nat.zero_lt_one)];rfl
 rw[e0];simp only[e];unfold callMethod;simp only[Sem.run_bind,run_program,Result.andThen_ok];rw[show P.types.size+Made.depth=P.types.size+99+1 from rfl,hr]
 simp only[Result.andThen_ok,callFunc,run_program,Sem.run_bind,h1,h2,h3];simp

theorem rdL_append{as bs:List T}{us vs:Array Value}(h:RdL E w as us)(k:RdL E w bs vs):RdL E w (as++bs) (us++vs):=by
 refine⟨by simp[h.1,k.1],fun i t x hi hx=> ?_⟩
 rw[List.getElem?_append] at hi
 rw[Array.getElem?_append] at hx
 rw[←h.1] at hx;split at hi
 ·rename_i hlt;rw[if_pos hlt] at hx;exact h.2 i t x hi hx
 ·rename_i hlt;rw[if_neg hlt] at hx;exact k.2 _ t x hi hx

theorem rdL_ops{a:Act}{s:Slots}{args:Array Operand}(h:∀x ∈ args.toList,OpOk E w a s x):RdL E w (args.toList.map (opT s)) (args.map a.eval):=by
 refine⟨by simp,fun i t x hi hx=> ?_⟩
 simp only[List.getElem?_map,Array.getElem?_map,Option.map_eq_some_iff,Array.getElem?_toList] at hi hx
 obtain⟨p,hp,rfl⟩:=hi;obtain⟨q,hq,rfl⟩:=hx;rw[hp] at hq;simp only[Option.some.injEq] at hq;subst hq;exact h p (by simpa using Array.mem_of_getElem? hp)

theorem matV_ok:∀(d:Nat) {t t':T} {E:Env} {w:World} {v:Value},matV d t t'->Rd E w t v->Rd E w t' v:=by
 intro d;induction d with
 |zero=>intro t t' E w v h;exact h.elim
 |succ d ih=>
  have list:∀{as bs:List T},matV.matsV (matV d) as bs->as.length=bs.length/\∀(i:Nat) (a b:T),as[i]? =some a->bs[i]? =some b->matV d a b:=by
   intro as;induction as with
   |nil=>
    intro bs h;cases bs with
    |nil=>exact⟨rfl,fun i a b ha=>by simp at ha⟩
    |cons=>exact h.elim
   |cons a as iha=>
    intro bs h;cases bs with
    |nil=>exact h.elim
    |cons b bs=>
     obtain⟨h1,h2⟩:=iha h.2;refine⟨by simp[h1],fun i x y hx hy=> ?_⟩
     cases i with
     |zero=>simp at hx hy;subst hx;subst hy;exact h.1
     |succ i=>exact h2 i x y (by simpa using hx) (by simpa using hy)
  have listP:∀{as bs:List T},matV.matsP (matV d) as bs->∀(i:Nat) (b:T),bs[i]? =some b->∃a,as[i]? =some a/\matV d a b:=by
   intro as bs;induction bs generalizing as with
   |nil=>intro _ i b hb;simp at hb
   |cons b bs ihb=>
    intro h i c hc;cases as with
    |nil=>exact h.elim
    |cons a as=>
     cases i with
     |zero=>simp at hc;subst hc;exact⟨a,rfl,h.1⟩
     |succ i=>obtain⟨x,hx,hm⟩:=ihb h.2 i c (by simpa using hc);exact⟨x,by simpa using hx,hm⟩
  intro t t' E w v h hx;have rdl:∀{as bs:List T} {vs:Array Value},matV.matsV (matV d) as bs->as.length=vs.size->(∀(i:Nat) (t:T) (x:Value),as[i]? =some t->vs[i]? =some x->Rd E w t x)->
    bs.length=vs.size/\∀(i:Nat) (t:T) (x:Value),bs[i]? =some t->vs[i]? =some x->Rd E w t x:=by
   intro as bs vs hm hl ht;obtain⟨h1,h2⟩:=list hm;refine⟨by omega,fun i t x hi hx=> ?_⟩
   have hlt:i<as.length:=by rw[h1];exact(List.getElem?_eq_some_iff.1 hi).1
   exact ih (h2 i _ t (List.getElem?_eq_getElem hlt) hi) (ht i _ x (List.getElem?_eq_getElem hlt) hx)
  unfold matV at h;split at h
  ·exact .und _
  ·split at h
   ·rename_i hk;obtain rfl:=of_decide_eq_true hk;subst h;exact hx
   ·exact h.elim
  ·subst h;exact hx
  ·subst h;exact hx
  ·subst h;exact hx
  ·subst h;rw[rd_v hx];exact .slNil _ _
  ·subst h;rw[rd_v hx];exact .bysNil
  ·subst h;cases hx with|emp a=>cases a with|none=>exact .slNil _ _|some a=>exact .slEmp _ _ _
  ·subst h;cases hx with|emp a=>cases a with|none=>exact .bysNil|some a=>exact .bysEmp _
  ·exact hx
  ·subst h;exact hx
  ·split at h
   ·rename_i hb;obtain rfl:=Nat.eq_of_beq_eq_true hb;obtain⟨rfl,hr⟩:=h;cases hx with
    |slNil=>exact .slNil _ _
    |slEmp=>exact .slEmp _ _ _
    |sl _ _ _ b off cap u hN hc hl h1 hr' ht=>
     exact .sl _ _ _ b off cap u hN hc (fun i hi=>by rw[←hr i hi];exact hl i hi) (fun i t hi hm=>by rw[←hr i hi] at hm;exact h1 i t hi hm) (fun i j t hi hj=>by rw[←hr i hi] at hj;exact hr' i j t hi hj) (fun i j t hi hj=>by rw[←hr i hi] at hj;exact ht i j t hi hj)
   ·exact h.elim
  ·split at h
   ·rename_i hb;obtain rfl:=Nat.eq_of_beq_eq_true hb;obtain⟨rfl,rfl⟩:=h;exact hx
   ·exact h.elim
  ·split at h
   ·rename_i hb;obtain rfl:=Nat.eq_of_beq_eq_true hb;obtain⟨rfl,rfl⟩:=h;exact hx
   ·exact h.elim
  ·split at h
   ·rename_i hb;obtain rfl:=Nat.eq_of_beq_eq_true hb;exact hx
   ·exact h.elim
  ·split at h
   ·rename_i hb;obtain rfl:=Nat.eq_of_beq_eq_true hb;obtain⟨rfl,rfl⟩:=h;exact hx
   ·exact h.elim
  ·cases hx with
   |agg _ vs hl ht=>obtain⟨a1,a2⟩:=rdl h hl ht;exact .agg _ vs a1 a2
  ·cases hx with
   |tup _ vs hl ht=>obtain⟨a1,a2⟩:=rdl h hl ht;exact .tup _ vs a1 a2
  ·obtain⟨rfl,h⟩:=h;cases hx with
   |fn _ _ vs hl ht=>obtain⟨a1,a2⟩:=rdl h hl ht;exact .fn _ _ vs a1 a2
  ·rename_i as bs;split at h
   ·rename_i hcl;have h2:=listP h;cases hx with
    |bref _ b off u hN hc hr ht=>
     refine .bref _ b off u hN (fun t ht=>List.all_eq_true.1 hcl t ht) (fun j t hj=> ?_) (fun j t hj=> ?_)
     ·obtain⟨a,ha,_⟩:=h2 j t hj;exact hr j _ ha
     ·obtain⟨a,ha,hm⟩:=h2 j t hj;exact ih hm (ht j _ ha)
   ·exact h.elim
  ·exact h.elim

theorem gfind_mem:∀{G:Gam} {f:FuncId} {c:Con},gfind G f=some c->(f,c) ∈ G:=by
 intro G;induction G with
 |nil=>intro f c h;cases h
 |cons x G ih=>
  intro f c h;obtain⟨g,d⟩:=x;simp only[gfind] at h;split at h
  ·rename_i hb;obtain rfl:=Nat.eq_of_beq_eq_true hb;simp only[Option.some.injEq] at h;subst h;simp
  ·simp[ih h]

theorem anyEff_mem:∀{G:Gam} {f:FuncId} {c:Con},(f,c) ∈ G->c.isEff=true->anyEff G=true:=by
 intro G;induction G with
 |nil=>intro f c h;cases h
 |cons x G ih=>
  intro f c h hc;obtain⟨g,d⟩:=x;simp only[anyEff,Bool.or_eq_true];rcases List.mem_cons.1 h with h|h
  ·simp only[Prod.mk.injEq] at h;obtain⟨_,rfl⟩:=h;exact .inl hc
  ·exact .inr (ih h hc)

theorem grel_mem{G:Gam}{f:FuncId}{c:Con}(h:grel G f=some c):(f,c) ∈ G/\gfind G f=some c:=by
 unfold grel at h;split at h
 ·rename_i d hd;split at h
  ·simp only[Option.some.injEq] at h;subst h;exact⟨gfind_mem hd,hd⟩
  ·cases h
 ·cases h

theorem matA_ok{as bs:List T}{E:Env}{w:World}{vs:Array Value}(h:matA as bs)(ha:RdL E w as vs):RdL E w bs vs:=by
 have list:∀{as bs:List T},matV.matsV (matV 6) as bs->as.length=bs.length/\∀(i:Nat) (a b:T),as[i]? =some a->bs[i]? =some b->matV 6 a b:=by
  intro as;induction as with
  |nil=>
   intro bs h;cases bs with
   |nil=>exact⟨rfl,fun i a b ha=>by simp at ha⟩
   |cons=>exact h.elim
  |cons a as iha=>
   intro bs h;cases bs with
   |nil=>exact h.elim
   |cons b bs=>
    obtain⟨h1,h2⟩:=iha h.2;refine⟨by simp[h1],fun i x y hx hy=> ?_⟩
    cases i with
    |zero=>simp at hx hy;subst hx;subst hy;exact h.1
    |succ i=>exact h2 i x y (by simpa using hx) (by simpa using hy)
 obtain⟨e1,e2⟩:=list h;refine⟨by rw[←e1];exact ha.1,fun i t v hi hv=> ?_⟩
 have hlt:i<as.length:=by rw[e1];exact(List.getElem?_eq_some_iff.1 hi).1
 exact matV_ok 6 (e2 i _ t (List.getElem?_eq_getElem hlt) hi) (ha.2 i _ v (List.getElem?_eq_getElem hlt) hv)

theorem matsV_get{d:Nat}:∀{as bs:List T},matV.matsV (matV d) as bs->as.length=bs.length/\∀(i:Nat) (a b:T),as[i]? =some a->bs[i]? =some b->matV d a b:=by
 intro as;induction as with
 |nil=>
  intro bs h;cases bs with
  |nil=>exact⟨rfl,fun i a b ha=>by simp at ha⟩
  |cons=>exact h.elim
 |cons a as iha=>
  intro bs h;cases bs with
  |nil=>exact h.elim
  |cons b bs=>
   obtain⟨h1,h2⟩:=iha h.2;refine⟨by simp[h1],fun i x y hx hy=> ?_⟩
   cases i with
   |zero=>simp at hx hy;subst hx;subst hy;exact h.1
   |succ i=>exact h2 i x y (by simpa using hx) (by simpa using hy)

theorem famL_get:∀{as bs:List T},famL as bs->as.length=bs.length/\∀(i:Nat) (b:T),bs[i]? =some b->∃a,as[i]? =some a/\famC a b:=by
 intro as;induction as with
 |nil=>intro bs h;cases bs with
  |nil=>exact⟨rfl,fun i b hb=>by simp at hb⟩
  |cons=>exact h.elim
 |cons a as iha=>intro bs h;cases bs with
  |nil=>exact h.elim
  |cons b bs=>
   obtain⟨h1,h2⟩:=iha h.2;refine⟨by simp[h1],fun i y hy=> ?_⟩
   cases i with
   |zero=>simp at hy;subst hy;exact⟨a,rfl,h.1⟩
   |succ i=>obtain⟨x,hx,hf⟩:=h2 i y (by simpa using hy);exact⟨x,by simpa using hx,hf⟩

theorem famC_cases{a b:T}(h:famC a b):(a=b)∨∃ty sz n row ty' row',a= .own ty sz n row/\b= .own ty' sz n row'/\RowsEq n row row':=by
 unfold famC at h;split at h
 ·obtain⟨rfl,rfl,h⟩:=h;exact .inr ⟨_,_,_,_,_,_,rfl,rfl,h⟩
 ·exact .inl h

theorem matO_ok{E:Env}{w:World}{k:Nat}{o o':Ob}(h:matO (some o) (some o'))(ho:ObOk E w k o):ObOk E w k o'/\(∀b,Blk E k o' b↔Blk E k o b)/\∀v ty sz n row,o= .fam v ty sz n row->∃ty' row',o'= .fam v ty' sz n row':=by
 unfold matO at h;split at h
 ·rename_i cl ty sz n row cl' ty' sz' n' row' he he';simp only[Option.some.injEq] at he he';subst he;subst he';have hblk:∀{o:Ob} (b:Nat),o.isArr=true->(Blk E k o b↔(E.κ k≠0/\b=E.β k)):=fun b hi=>⟨fun hb=>hb.arr hi,fun hb=>.inl hb⟩
  refine⟨?_,fun b=>(hblk b rfl).trans (hblk b rfl).symm,fun _ _ _ _ _ hh=>by cases hh⟩
  obtain⟨e1,e2,e3,e4,e5,cs,tyc,e6,e7,e8⟩:=(show ArrOk E w k ⟨cl,ty,sz,n,row⟩ from ho)
  show ArrOk E w k ⟨cl',ty',sz',n',row'⟩;simp only at e1 e2 e3 e4 e5 e7 e8;split at h
  ·rename_i hb;obtain rfl:=Nat.eq_of_beq_eq_true hb;obtain⟨rfl,hr⟩:=h;exact⟨e1,e2,fun i hi=>by simp only;rw[←hr i hi];exact e3 i hi,fun i t hi ht=>e4 i t hi (by rw[hr i hi];exact ht),fun _ i t hi ht=>e5 rfl i t hi (by rw[hr i hi];exact ht),cs,tyc,e6,e7,fun i j t hi hj=>e8 i j t hi (by rw[hr i hi];exact hj)⟩
  ·rename_i hb;obtain rfl:=Nat.eq_of_beq_eq_true hb;split at h
   ·rename_i hone;obtain⟨rfl,rfl,hm⟩:=h;obtain⟨m1,m2⟩:=matsV_get hm;refine⟨e1,e2,fun i hi=> ?_,fun i t hi ht=> ?_,fun hc=>(by cases hc),cs,tyc,e6,e7,fun i j t hi hj=> ?_⟩
    ·obtain rfl:i=0:=by have:i<1:=hi;omega
     simp only;rw[←m1];exact e3 0 (by omega)
    ·obtain rfl:i=0:=by have:i<1:=hi;omega
     exact List.all_eq_true.1 hone t ht
    ·obtain rfl:i=0:=by have:i<1:=hi;omega
     have hlt:j<(row 0).length:=by rw[m1];exact(List.getElem?_eq_some_iff.1 hj).1
     obtain⟨u,hu,hr⟩:=e8 0 j _ (by omega) (List.getElem?_eq_getElem hlt)
     exact⟨u,hu,matV_ok 6 (m2 j _ t (List.getElem?_eq_getElem hlt) hj) hr⟩
   ·exact h.elim
  ·exact h.elim
 ·rename_i v ty sz n row v' ty' sz' n' row' he he';simp only[Option.some.injEq] at he he';subst he;subst he';split at h
  case h_2=>exact h.elim
  rename_i hb;obtain rfl:=Nat.eq_of_beq_eq_true hb;obtain⟨rfl,rfl,hr⟩:=h;have hF:FamOk E w k v ty sz n row:=ho;have back:∀(i j:Nat) (t:T),i<n->(row' i)[j]? =some t->∃t0,(row i)[j]? =some t0/\famC t0 t:=fun i j t hi hj=>(famL_get (hr i hi)).2 j t hj
  have ownb:∀(i j:Nat) (oty:TypeId) (osz on:Nat) (orow:Nat->List T),i<n->(row' i)[j]? =some (.own oty osz on orow)->∃(oty0:TypeId) (orow0:Nat->List T),(row i)[j]? =some (.own oty0 osz on orow0)/\RowsEq on orow0 orow:=by
   intro i j oty osz on orow hi hj;obtain⟨t0,h0,hc⟩:=back i j _ hi hj;rcases famC_cases hc with rfl|⟨ty1,sz1,n1,row1,ty2,row2,rfl,he,hrr⟩
   ·exact⟨_,_,h0,fun _ _=>rfl⟩
   ·cases he;exact⟨_,_,h0,hrr⟩
  refine⟨?_,fun b=>⟨fun hb=> ?_,fun hb=> ?_⟩,fun _ _ _ _ _ hh=>by cases hh;exact⟨_,_,rfl⟩⟩
  ·show FamOk E w k v ty' sz n row';obtain⟨e1,e2,e3,e4,e5,cs,tyc,e6,e7,e8⟩:=hF.arr;refine fam_build hF.l2 e1 e2 cs tyc e6 e7 (fun r hr'=>by rw[← (famL_get (hr r hr')).1];have:=e3 r hr';rwa [viewR_length] at this) (fun r q t hr' hq=> ?_) (fun i j i' j' oty osz on orow oty' osz' on' orow' hi hi' hj hj' hc hc' he=> ?_)
   ·obtain⟨t0,h0,hc⟩:=back r q t hr' hq;obtain⟨u,hu,hru⟩:=e8 r q (viewT k v r q t0) hr' (by simp only;rw[viewR_get,h0];rfl)
    rcases hF.cell hr' h0 with hco|⟨oty,osz,on,orow,rfl⟩
    ·rcases famC_cases hc with rfl|⟨_,_,_,_,_,_,rfl,_⟩
     ·rw[viewT_closed hco] at hru;exact⟨u,hu,.inl ⟨hco,hru⟩⟩
     ·simp[closedOne,closedT] at hco
    ·obtain⟨g1,g2⟩:=hF.own r q _ _ _ _ hr' h0;have:∃(ty2:TypeId) (row2:Nat->List T),t= .own ty2 osz on row2/\RowsEq on orow row2:=by
      rcases famC_cases hc with rfl|⟨_,_,_,_,_,_,he,rfl,hrr⟩
      ·exact⟨_,_,rfl,fun _ _=>rfl⟩
      ·cases he;exact⟨_,_,rfl,hrr⟩
     obtain⟨ty2,row2,rfl,hrr⟩:=this;refine⟨u,hu,.inr ⟨_,_,_,_,rfl,hru,?_,g2⟩⟩
     obtain⟨f1,f2,f3,f4,f5,cs2,tyc2,f6,f7,f8⟩:=g1;simp only at f3 f4 f5 f8;exact⟨f1,f2,fun i hi=>by simp only;rw[←hrr i hi];exact f3 i hi,fun i t hi ht=>f4 i t hi (by rw[hrr i hi];exact ht),fun _ i t hi ht=>f5 trivial i t hi (by rw[hrr i hi];exact ht),cs2,tyc2,f6,f7,fun i j t hi hj=>f8 i j t hi (by rw[hrr i hi];exact hj)⟩
   ·obtain⟨_,_,p1,_⟩:=ownb i j _ _ _ _ hi hj;obtain⟨_,_,p2,_⟩:=ownb i' j' _ _ _ _ hi' hj';exact hF.inj i j i' j' _ _ _ _ _ _ _ _ hi hi' p1 p2 hc hc' he
  ·rcases hb with hb|⟨v0,ty0,sz0,n0,row0,i0,j0,oty1,osz1,on1,orow1,hobe,hi0,hj0,hc0,rfl⟩
   ·exact .inl hb
   ·simp only[Ob.fam.injEq] at hobe;obtain⟨rfl,rfl,rfl,rfl,rfl⟩:=hobe;obtain⟨_,_,p1,_⟩:=ownb i0 j0 _ _ _ _ hi0 hj0;exact .inr ⟨_,_,_,_,_,_,_,_,_,_,_,rfl,hi0,p1,hc0,rfl⟩
  ·rcases hb with hb|⟨v0,ty0,sz0,n0,row0,i0,j0,oty1,osz1,on1,orow1,hobe,hi0,hj0,hc0,rfl⟩
   ·exact .inl hb
   ·simp only[Ob.fam.injEq] at hobe;obtain⟨rfl,rfl,rfl,rfl,rfl⟩:=hobe;have hl:=(famL_get (hr i0 hi0)).1;have hlt:j0<(row' i0).length:=by rw[←hl];exact(List.getElem?_eq_some_iff.1 hj0).1
    obtain⟨t0,h0,hc⟩:=back i0 j0 _ hi0 (List.getElem?_eq_getElem hlt)
    rw[hj0] at h0;simp only[Option.some.injEq] at h0;subst h0;have hg:=List.getElem?_eq_getElem hlt
    rcases famC_cases hc with he|⟨_,_,_,_,_,_,he,he2,_⟩
    ·rw[←he] at hg;exact .inr ⟨_,_,_,_,_,_,_,_,_,_,_,rfl,hi0,hg,hc0,rfl⟩
    ·rw[he2] at hg;exact .inr ⟨_,_,_,_,_,_,_,_,_,_,_,rfl,hi0,hg,hc0,rfl⟩
 ·rename_i ty l ty' l' he he';simp only[Option.some.injEq] at he he';subst he;subst he';subst h;refine⟨?_,fun b=> ?_,fun _ _ _ _ _ hh=>by cases hh⟩
  ·exact ho
  ·exact⟨fun hb=>.inl (hb.arr rfl),fun hb=>.inl (hb.arr rfl)⟩
 ·exact h.elim

theorem matH_ok:∀{H H':Heap},matH H H'->H.length=H'.length/\∀k,(getOb H k=none/\getOb H' k=none)∨∃o o',getOb H k=some o/\getOb H' k=some o'/\matO (some o) (some o'):=by
 intro H;induction H with
 |nil=>intro H' h;cases H' with
  |nil=>exact⟨rfl,fun k=>.inl ⟨rfl,rfl⟩⟩
  |cons=>exact h.elim
 |cons o H ih=>intro H' h;cases H' with
  |nil=>exact h.elim
  |cons o' H'=>
   obtain⟨h1,h2⟩:=ih h.2;refine⟨by simp[h1],fun k=> ?_⟩
   cases k with
   |zero=>
    have hm:=h.1;cases o with
    |none=>simp[matO] at hm
    |some o=>cases o' with
     |none=>simp[matO] at hm
     |some o'=>exact .inr ⟨o,o',rfl,rfl,hm⟩
   |succ k=>simpa[getOb] using h2 k

theorem eff_mat{P:Program}{f:FuncId}{args args':List T}{H1 H2 H':Heap}{res:T}(ha:matA args args')(hh:matH H1 H2)(h:EffFn P f args' H2 res H'):EffFn P f args H1 res H':=by
 intro E w vs hH hN hv;obtain⟨h1,h2⟩:=matH_ok hh;have hb:∀k o',getOb H2 k=some o'->∃o,getOb H1 k=some o/\ObOk E w k o'/\(∀b,Blk E k o' b↔Blk E k o b)/\∀v ty sz n row,o= .fam v ty sz n row->∃ty' row',o'= .fam v ty' sz n row':=fun k o' hk=>by
  rcases h2 k with⟨_,h3⟩|⟨o,o2,h3,h4,h5⟩
  ·rw[hk] at h3;cases h3
  ·rw[hk] at h4;simp only[Option.some.injEq] at h4;subst h4;exact⟨o,h3,matO_ok h5 (hH.live k o h3).2.1⟩
 have hH2:HeapOk E w H2:=by
  refine⟨fun k o' hk=> ?_,fun k k' o o' b hk hk' hx hx'=> ?_,fun k hk=>by rw[←h1];exact hH.lt k hk,hH.l2,fun k o' v hk hv=> ?_⟩
  ·obtain⟨o,g1,g2,g3,_⟩:=hb k o' hk;obtain⟨l1,_,l3⟩:=hH.live k o g1;exact⟨l1,g2,fun b hx=>l3 b ((g3 b).1 hx)⟩
  ·obtain⟨o1,g1,_,g3,_⟩:=hb k o hk;obtain⟨o2,g4,_,g6,_⟩:=hb k' o' hk';exact hH.inj k k' o1 o2 b g1 g4 ((g3 b).1 hx) ((g6 b).1 hx')
  ·obtain⟨o,g1,_,_,g4⟩:=hb k o' hk;obtain⟨v0,ty,sz,n,row,he,hle⟩:=hH.cur k o v g1 hv;obtain⟨ty',row',he'⟩:=g4 _ _ _ _ _ he;exact⟨v0,ty',sz,n,row',he',hle⟩
 have hX:XB E H2=XB E H1:=by
  funext b
  refine propext ⟨fun⟨k,o',hk,hx⟩=> ?_,fun⟨k,o,hk,hx⟩=> ?_⟩
  ·obtain⟨o,g1,_,g3,_⟩:=hb k o' hk;exact⟨k,o,g1,(g3 b).1 hx⟩
  ·rcases h2 k with⟨h3,_⟩|⟨o1,o2,h3,h4,h5⟩
   ·rw[hk] at h3;cases h3
   ·rw[hk] at h3;simp only[Option.some.injEq] at h3;subst h3;exact⟨k,o2,h4,((matO_ok h5 (hH.live k o hk).2.1).2.1 b).2 hx⟩
 have:=h E w vs hH2 hN (matA_ok ha hv);rw[hX] at this;exact this

structure Good(P:Program)(G G':Gam):Prop where
 ok:GamOk P G'
 call:∀x ∈ G',Callable P x.1
 stays:∀op,stays G' op=stays G op
 grow:∀op,growB G' op=growB G op
 ef:∀y,isEf G' y=isEf G y

theorem geff_none{G:Gam}{f:FuncId}{c:Con}(h:gfind G f=some c)(hr:c.isRel=true):geff G f=none/\gmk G f=none:=by
 induction G with
 |nil=>cases h
 |cons x G ih=>
  obtain⟨g,d⟩:=x;simp only[gfind] at h;simp only[geff,gmk];split at h
  ·simp only[Option.some.injEq] at h;subst h;cases d<;>first|exact⟨rfl,rfl⟩|(cases hr)
  ·exact ih h

theorem gsec_mem{f:FuncId}{c:Con}:∀{G:Gam},gsec G f=some c->(f,c) ∈ G
 | [],h=>by cases h
 |(g,d)::r,h=>by
  unfold gsec at h;split at h
  ·exact List.mem_cons_of_mem _ (gfind_mem h)
  ·exact List.mem_cons_of_mem _ (gsec_mem h)

theorem relP_ok(hG:GamOk P G)(hGc:∀x ∈ G,Callable P x.1){s:Slots}{op:Op}{k:Gam->Prop}(h:relP G s op k):∃G',Good P G G'/\k G':=by
 unfold relP at h;split at h
 ·exact⟨G,⟨hG,hGc,fun _=>rfl,fun _=>rfl,fun _=>rfl⟩,h⟩
 ·rename_i f r hr;have hgr:grel G f=some r:=by
   unfold relOp at hr;split at hr
   ·split at hr
    ·simp only[Option.map_eq_some_iff,Prod.mk.injEq] at hr;obtain⟨r',h1,rfl,rfl⟩:=hr;exact h1
    ·cases hr
   ·split at hr
    ·split at hr
     ·simp only[Option.map_eq_some_iff,Prod.mk.injEq] at hr;obtain⟨r',h1,rfl,rfl⟩:=hr;exact h1
     ·cases hr
    ·cases hr
   ·cases hr
  obtain⟨hm,hge⟩:=grel_mem hgr;have good:∀d:Con,ConOk P f d->d.isMk=r.isMk->d.isEf=r.isEf->(∀y,isEff ((f,d)::G) y=isEff G y)->tmpN ((f,d)::G)=tmpN G->Good P G ((f,d)::G):=by
   intro d hd he hef hie htb;have hts:∀op,tmpS ((f,d)::G) op=tmpS G op:=fun op=>by
    unfold tmpS;rw[htb]
   have him:∀y:Operand,isMk ((f,d)::G) y=isMk G y:=by
    intro y;cases y with
    |func g=>
     simp only[isMk,gfind];cases hb:Nat.beq g f with
     |true=>rw[Nat.eq_of_beq_eq_true hb,hge];exact he
     |false=>rfl
    |_=>rfl
   refine⟨fun y hy=> ?_,fun y hy=> ?_,fun op=> ?_,fun op=>by unfold growB;split<;>first|rfl|exact him _,fun y=> ?_⟩
   ·rcases List.mem_cons.1 hy with rfl|hy
    ·exact hd
    ·exact hG y hy
   ·rcases List.mem_cons.1 hy with rfl|hy
    ·exact hGc (f,r) hm
    ·exact hGc y hy
   ·unfold SS.stays;rw[hts];have:stays0 ((f,d)::G) op=stays0 G op:=by
     unfold stays0;split<;>first|rfl|rw[hie]
    rw[this]
   ·cases y with
    |func g=>
     simp only[isEf,gfind];cases hb:Nat.beq g f with
     |true=>rw[Nat.eq_of_beq_eq_true hb,hge];exact hef
     |false=>rfl
    |_=>rfl
  have hie:∀d:Con,d.isEff=r.isEff->∀y:Operand,isEff ((f,d)::G) y=isEff G y:=by
   intro d he y;cases y with
   |func g=>
    simp only[isEff,gfind];cases hb:Nat.beq g f with
    |true=>rw[Nat.eq_of_beq_eq_true hb,hge];exact he
    |false=>rfl
   |_=>
    simp only[isEff,anyEff];cases hd:d.isEff with
    |false=>rfl
    |true=>rw[anyEff_mem hm (he.symm.trans hd)];rfl
  split at h
  ·rename_i r;obtain⟨x,hx⟩:=h;refine⟨_,good (.pure fun as=>some (r.res x,some (matA as (r.args x)/\r.side x))) ?_ rfl rfl (hie _ rfl) rfl,hx⟩
   intro as res p he hp;simp only[Option.some.injEq,Prod.mk.injEq] at he;obtain⟨rfl,rfl⟩:=he;obtain⟨h1,h2⟩:=hp;have hpf:=hG _ hm x h2;intro E w vs hL hN ha;exact hpf E w vs hL hN (matA_ok h1 ha)
  ·rename_i r;have one:∀(r2:Rle),(f,Con.reff r2) ∈ G->(∃x:r2.ι,k (instE f r2 x G))->∃G',Good P G G'/\k G':=by
    intro r2 hm2 h;obtain⟨x,hx⟩:=h;refine⟨_,good (.eff fun as H=>widR r2 x as H) ?_ rfl rfl (hie _ rfl) rfl,hx⟩
    have base:EffOk P f fun as H=>some (r2.res x,r2.post x,some (matA as (r2.args x)/\matH H (r2.pre x)/\r2.side x)):=by
     intro as H res H' p he hp;simp only[Option.some.injEq,Prod.mk.injEq] at he;obtain⟨rfl,rfl,rfl⟩:=he;obtain⟨h1,h2,h3⟩:=hp;exact eff_mat h1 h2 (hG _ hm2 x h3)
    intro as H res H' p he hp;replace he:widR r2 x as H=some (res,H',p):=he;unfold widR at he;split at he
    ·exact base as H res H' p he hp
    ·exact wid_ok base as H res H' p he hp
   split at h
   ·rename_i r2 hr2;rcases h with h|h
    ·exact one r hm h
    ·exact one r2 (gsec_mem hr2) h
   ·exact one r hm h
  ·rename_i r;obtain⟨x,hx⟩:=h;refine⟨_,good (.mk fun as=>some (r.res x,r.post x,some (matA as (r.args x)/\r.side x))) ?_ rfl rfl (hie _ rfl) rfl,hx⟩
   intro as res H' p he hp;simp only[Option.some.injEq,Prod.mk.injEq] at he;obtain⟨rfl,rfl,rfl⟩:=he;obtain⟨h1,h3⟩:=hp;obtain⟨q1,q2,q3⟩:=hG _ hm x h3;exact⟨eff_mat (H2:=[]) h1 (show matH [] [] from trivial) q1,q2,q3⟩
  ·rename_i r;obtain⟨x,hx⟩:=h;refine⟨_,good (.fz fun as=>some (r.res x,some (matA as (r.args x)/\r.side x))) ?_ rfl rfl (hie _ rfl) rfl,hx⟩
   intro as res p he hp;simp only[Option.some.injEq,Prod.mk.injEq] at he;obtain⟨rfl,rfl⟩:=he;obtain⟨h1,h2⟩:=hp;have hpf:=hG _ hm x h2;intro E w vs hL hN ha;exact hpf E w vs hL hN (matA_ok h1 ha)
  ·exact⟨G,⟨hG,hGc,fun _=>rfl,fun _=>rfl,fun _=>rfl⟩,h⟩

theorem op0_ok(hG:GamOk P G)(hGc:∀x ∈ G,Callable P x.1)(h:Inv c E H w){a:Act}{s:Slots}{o:Oper}{y:T}{H':Heap}{side:Option Prop}(he:evOp0 P G s H o.op=some (y,H',side))(hs:side.getD True)
  (hop:∀x ∈ seen o.op,OpOk E w a s x)
  (hpk:∀c x y,o.op= .pick c x y->(∀b,opT s c= .bool b->b=true->OpOk E w a s x)/\(∀b,opT s c= .bool b->b=false->OpOk E w a s y))
  {K:Act->World->Prop} {Q:Exit->Act->World->Prop} (hk:After c E w o a y H' K):o.wp P a w K Q:=by
 unfold evOp0 at he;split at he
 ·rename_i t p hv;simp only[Option.some.injEq,Prod.mk.injEq] at he;obtain⟨rfl,rfl,rfl⟩:=he;obtain⟨v,hrun,hr⟩:=val_ok (P:=P) hv hs h.heap hop hpk;exact value_wp hrun (hk v w E h (Step.refl E w) hr)
 ·split at he
  ·rename_i r hm;simp only[Option.some.injEq] at he;subst he;obtain⟨w',E',hrun,hI,hst⟩:=mem_ok (P:=P) h hm hs hop;rcases hrun with⟨v,hrun,hr⟩|⟨hrun,rfl⟩
   ·exact value_wp hrun (hk v w' E' hI hst hr)
   ·exact skip_wp hrun (hk undef w' E' hI hst (.und _))
  ·split at he
   ·rename_i x args argTypes hoe;have hmem:∀{α:Type} (g:Con->Option α) (sel:Gam->FuncId->Option α),(∀f,sel [] f=none)->(∀h c r f,sel ((h,c)::r) f=match Nat.beq f h with|true=>g c|false=>sel r f)->∀(G:Gam) (f:FuncId) (r:α),sel G f=some r->∃x ∈ G,x.1=f:=by
     intro α g sel h1 h2 G;induction G with
     |nil=>intro f r h;rw[h1] at h;cases h
     |cons x G ih=>
      intro f r h;obtain⟨a,b⟩:=x;rw[h2] at h;split at h
      ·rename_i hb;exact⟨(a,b),by simp,(Nat.eq_of_beq_eq_true hb).symm⟩
      ·obtain⟨x,hx,he⟩:=ih f r h;exact⟨x,by simp[hx],he⟩
    have effCall:∀{g:FuncId} {as:List T},evEff G H g as=some (y,H',side)->Callable P g:=by
     intro g as he;unfold evEff at he;split at he
     ·rename_i c0 hc0;obtain⟨y,hy,rfl⟩:=hmem (fun c=>match c with| .eff c=>some c|_=>none) geff (fun _=>rfl) (fun _ _ _ _=>rfl) G g c0 hc0
      exact hGc y hy
     ·split at he
      ·rename_i c0 hc0;obtain⟨y,hy,rfl⟩:=hmem (fun c=>match c with| .mk c=>some c|_=>none) gmk (fun _=>rfl) (fun _ _ _ _=>rfl) G g c0 hc0
       exact hGc y hy
      ·split at he
       ·rename_i c0 hc0;obtain⟨y,hy,rfl⟩:=hmem (fun c=>match c with| .fz c=>some c|_=>none) gfz (fun _=>rfl) (fun _ _ _ _=>rfl) G g c0 hc0
        exact hGc y hy
       ·cases he
    have pureGo:∀{g:FuncId} {cs:List T},fnOf s x=some (g,cs)->((evPure G H g (args.toList.map (opT s)++cs)).map fun r=>(r.1,H,r.2))=some (y,H',side)->o.wp P a w K Q:=by
     intro g cs hfn he;cases hp:evPure G H g (args.toList.map (opT s)++cs) with
     |none=>rw[hp] at he;cases he
     |some r=>
      rw[hp] at he;simp only[Option.map_some,Option.some.injEq,Prod.mk.injEq] at he;obtain⟨rfl,rfl,rfl⟩:=he;rw[hoe] at hop;obtain⟨caps,hx,hcaps⟩:=fnOf_ok hfn (hop x (by simp[seen,Op.operands,Call.operands]))
      have hargs:=rdL_append (rdL_ops (args:=args) (fun x hx=>hop x (by simp only[seen,Op.operands,Call.operands,Array.toList_append,List.mem_append];exact .inr hx))) hcaps
      have hcallable:Callable P g:=by
       have:∃args r,gam G g args=some r:=by
        unfold evPure at hp;split at hp
        ·exact⟨_,_,hp⟩
        ·split at hp
         ·split at hp
          ·rename_i hg;exact⟨_,_,hg⟩
          ·cases hp
         ·cases hp
       obtain⟨as,rr,hg⟩:=this;obtain⟨y,hy,rfl⟩:=hmem (fun c=>match c with| .pure c=>c as|_=>none) (fun G f=>gam G f as) (fun _=>rfl) (fun _ _ _ _=>rfl) G g rr hg
       exact hGc y hy
      refine enter_wp (call_run (P:=P) (w:=w) hoe hcallable hx) ((pure_ok hG h hp hs hargs).mono fun e w' hh=> ?_)
      obtain⟨v,E',rfl,hI,hst,hr⟩:=hh;exact⟨v,rfl,hk v w' E' hI hst hr⟩
    split at he
    ·split at he
     ·rename_i g hie;have hcallable:=effCall he;rw[hoe] at hop;have hargs:=rdL_ops (args:=args) (fun x hx=>hop x (by simp only[seen,Op.operands,Call.operands,Array.toList_append,List.mem_append];exact .inr hx))
      have hrun:=call_run (P:=P) (w:=w) (caps:= #[]) hoe hcallable (a:=a) (x:=.func g) rfl;rw[Array.append_empty] at hrun;refine enter_wp hrun ((eff_ok hG h he hs hargs).mono fun e w' hh=> ?_)
      obtain⟨v,E',rfl,hI,hst,hr⟩:=hh;exact⟨v,rfl,hk v w' E' hI hst hr⟩
     ·split at he
      ·rename_i g cs hfn;split at he
       ·have hcallable:=effCall he;rw[hoe] at hop;obtain⟨caps,hx,hcaps⟩:=fnOf_ok hfn (hop _ (by simp[seen,Op.operands,Call.operands]))
        have hargs:=rdL_append (rdL_ops (args:=args) (fun x hx=>hop x (by simp only[seen,Op.operands,Call.operands,Array.toList_append,List.mem_append];exact .inr hx))) hcaps
        refine enter_wp (call_run (P:=P) (w:=w) hoe hcallable hx) ((eff_ok hG h he hs hargs).mono fun e w' hh=> ?_)
        obtain⟨v,E',rfl,hI,hst,hr⟩:=hh;exact⟨v,rfl,hk v w' E' hI hst hr⟩
       ·exact pureGo hfn he
      ·cases he
    ·split at he
     ·rename_i g cs hfn;exact pureGo hfn he
     ·cases he
   ·cases he

theorem eff_call(hGc:∀x ∈ G,Callable P x.1){g:FuncId}{as:List T}{r:T×Heap×Option Prop}(he:evEff G H g as=some r):Callable P g:=by
 have hmem:∀{α:Type} (g:Con->Option α) (sel:Gam->FuncId->Option α),(∀f,sel [] f=none)->(∀h c r f,sel ((h,c)::r) f=match Nat.beq f h with|true=>g c|false=>sel r f)->∀(G:Gam) (f:FuncId) (r:α),sel G f=some r->∃x ∈ G,x.1=f:=by
  intro α g sel h1 h2 G;induction G with
  |nil=>intro f r h;rw[h1] at h;cases h
  |cons x G ih=>
   intro f r h;obtain⟨a,b⟩:=x;rw[h2] at h;split at h
   ·rename_i hb;exact⟨(a,b),by simp,(Nat.eq_of_beq_eq_true hb).symm⟩
   ·obtain⟨x,hx,he⟩:=ih f r h;exact⟨x,by simp[hx],he⟩
 unfold evEff at he;split at he
 ·rename_i c0 hc0;obtain⟨y,hy,rfl⟩:=hmem (fun c=>match c with| .eff c=>some c|_=>none) geff (fun _=>rfl) (fun _ _ _ _=>rfl) G g c0 hc0
  exact hGc y hy
 ·split at he
  ·rename_i c0 hc0;obtain⟨y,hy,rfl⟩:=hmem (fun c=>match c with| .mk c=>some c|_=>none) gmk (fun _=>rfl) (fun _ _ _ _=>rfl) G g c0 hc0
   exact hGc y hy
  ·split at he
   ·rename_i c0 hc0;obtain⟨y,hy,rfl⟩:=hmem (fun c=>match c with| .fz c=>some c|_=>none) gfz (fun _=>rfl) (fun _ _ _ _=>rfl) G g c0 hc0
    exact hGc y hy
   ·cases he

theorem op_ok(hG:GamOk P G)(hGc:∀x ∈ G,Callable P x.1)(h:Inv c E H w){a:Act}{s:Slots}{o:Oper}{y:T}{H':Heap}{side:Option Prop}(he:evOp P G s H o.op=some (y,H',side))(hs:side.getD True)
  (hop:∀x ∈ seen o.op,OpOk E w a s x)
  (hpk:∀c x y,o.op= .pick c x y->(∀b,opT s c= .bool b->b=true->OpOk E w a s x)/\(∀b,opT s c= .bool b->b=false->OpOk E w a s y))
  {K:Act->World->Prop} {Q:Exit->Act->World->Prop} (hk:After c E w o a y H' K):o.wp P a w K Q:=by
 unfold evOp at he;split at he
 ·rename_i ht;split at he
  ·rename_i t p hv;simp only[Option.some.injEq,Prod.mk.injEq] at he;obtain⟨rfl,rfl,rfl⟩:=he;unfold tmpS at ht;split at ht
   ·rename_i ty n parts hoe;rw[hoe] at hv hop;obtain⟨r,w',E',hrun,h1,h2,h3⟩:=tmp_ok (P:=P) (a:=a) h (show evTmpL P s ty (n+1) parts=some (_,_) from hv) (fun p hp=>hop p.2 (by simp only[seen,Op.operands,List.mem_map];exact⟨p,hp,rfl⟩))
    refine value_wp (w':=w') (v:=r) ?_ (hk r w' E' h2 h3 h1)
    simp only[execOp,hoe,Sem.run_bind,hrun,Result.andThen_ok,Sem.run_pure]
   ·rename_i ty parts hoe;rw[hoe] at hv hop;obtain⟨r,w',E',hrun,h1,h2,h3⟩:=tmp0_ok (P:=P) (a:=a) h hv;refine value_wp (w':=w') (v:=r) ?_ (hk r w' E' h2 h3 h1)
    simp only[execOp,hoe,Sem.run_bind,hrun,Result.andThen_ok,Sem.run_pure]
   ·rename_i args argTypes hoe;rw[hoe] at hv hop;simp only[evTmp] at hv;split at hv
    case h_2=>cases hv
    rename_i d x t1 tx ha hat;obtain rfl:args= #[d,x]:=Array.ext' (by simpa using ha)
    obtain rfl:argTypes= #[t1,tx]:=Array.ext' (by simpa using hat)
    split at hv
    case h_2=>cases hv
    rename_i e hd hu;split at hv
    case h_2=>cases hv
    rename_i i z hi hz;split at hv
    case h_2=>cases hv
    rename_i q hl hq;split at hv
    case h_2=>cases hv
    rename_i hcl;simp only[Option.some.injEq,Prod.mk.injEq] at hv;obtain⟨rfl,rfl⟩:=hv;have hdo:=hop d (by simp[seen,Op.operands,Call.operands])
    unfold OpOk at hdo;rw[hd] at hdo;obtain⟨r,w',E',hrun,h1,h2,h3⟩:=tmpA_ok (P:=P) (ty:=o.type) h hu hi hz hl hq hcl hs hdo (hop x (by simp[seen,Op.operands,Call.operands]))
    refine value_wp (w':=w') (v:=r) ?_ (hk r w' E' h2 h3 h1)
    simp[execOp,hoe,resolve,invoke,builtin,hrun,Result.andThen]
   ·cases ht
  ·cases he
 ·exact op0_ok hG hGc h he hs hop hpk hk

theorem opI_ok(hG:GamOk P G)(hGc:∀x ∈ G,Callable P x.1)(h:Inv c E H w){a:Act}{s:Slots}{o:Oper}{y:T}{H':Heap}{side:Option Prop}(he:evOpI P G s H o.op=some (y,H',side))(hs:side.getD True)
  (hop:∀x ∈ seen o.op,OpOk E w a s x)
  (hpk:∀c x y,o.op= .pick c x y->(∀b,opT s c= .bool b->b=true->OpOk E w a s x)/\(∀b,opT s c= .bool b->b=false->OpOk E w a s y))
  {K:Act->World->Prop} {Q:Exit->Act->World->Prop} (hk:After c E w o a y H' K):o.wp P a w K Q:=by
 unfold evOpI at he;split at he
 ·rename_i f as hi;unfold invF at hi;split at hi
  ·rename_i x name args at_ hoe;split at hi
   ·rename_i t k ms hx;split at hi
    ·rename_i f' hf;split at hi
     ·rename_i hm;simp only[Option.some.injEq,Prod.mk.injEq] at hi;obtain⟨rfl,rfl⟩:=hi;rw[hoe] at hop;have hx':=hop x (by simp[seen,Op.operands,Call.operands])
      unfold OpOk at hx';rw[hx] at hx';generalize hv:a.eval x=v at hx';cases hx' with
      |ifp _ _ _ hL=>
       have hr:Rd E w (.ref k 0 0) (.pointer (some ⟨E.β k,0,none⟩)):=by
        have:=Rd.ref (E:=E) (w:=w) k 0 0 hL
        rwa [Nat.zero_mul] at this
       have h1:RdL E w [.ref k 0 0] #[.pointer (some ⟨E.β k,0,none⟩)]:=⟨rfl,fun i t x hi hx=>by
        match i,hi with
        |0,hi=>
         simp only[List.getElem?_cons_zero,Option.some.injEq] at hi
         subst hi;have hx:some (Value.pointer (some ⟨E.β k,0,none⟩))=some x:=hx;simp only[Option.some.injEq] at hx;subst hx;exact hr⟩
       have hargs:=rdL_append h1 (rdL_ops (args:=args) (fun x hx=>hop x (by simp only[seen,Op.operands,Call.operands,Array.toList_append,List.mem_append];exact .inr hx)))
       refine enter_wp (inv_run (P:=P) (w:=w) hoe (eff_call hGc he) hv hm) ((eff_ok hG h he hs hargs).mono fun e w' hh=> ?_)
       obtain⟨v,E',rfl,hI,hst,hr⟩:=hh;exact⟨v,rfl,hk v w' E' hI hst hr⟩
     ·cases hi
    ·cases hi
   ·cases hi
  ·cases hi
 ·exact op_ok hG hGc h he hs hop hpk hk

end
end Go.SS
/- A calculus of symbolic states: a region, in the order of the text. -/
namespace Go.SS
open Go.RowKit

def PathH(s:Slots)(p:Path):Prop:=∀q,q ∈ p->∃x,slk s q.1= .bool x/\x=q.2

structure SlotsOk(E:Env)(w:World)(s:Slots)(ps:Paths)(a:Act):Prop where
 on:∀i,PathH s (pathOf ps i)->Rd E w (slk s i) (a.tmps.getD i undef)
 off:∀i,¬PathH s (pathOf ps i)->a.tmps.getD i undef=undef

structure RealE(c:Ctx)(E:Env)(s:Slots)(ps:Paths)(H:Heap)(a:Act)(w:World):Prop where
 defers:a.defers=[]
 size:a.tmps.size=c.nt
 slots:SlotsOk E w s ps a
 inv:Inv c E H w

def Real(c:Ctx)(s:Slots)(H:Heap)(a:Act)(w:World):Prop:=∃E,RealE c E s [] H a w

theorem slk_put(s:Slots)(d:Nat)(t:T)(i:Nat):slk (putS s (some d) t) i=if i=d then t else slk s i:=by
 simp only[putS,slk];split
 ·rename_i h;rw[if_pos (Nat.eq_of_beq_eq_true h)]
 ·rename_i h;rw[if_neg (Nat.ne_of_beq_eq_false h)]

theorem pathOf_mem(ps:Paths)(i:Nat):pathOf ps i=[]∨(i,pathOf ps i) ∈ ps:=by
 induction ps with
 |nil=>exact .inl rfl
 |cons x ps ih=>
  obtain⟨j,p⟩:=x;simp only[pathOf];split
  ·rename_i h;obtain rfl:=Nat.eq_of_beq_eq_true h;exact .inr (by simp)
  ·rcases ih with ih|ih
   ·exact .inl ih
   ·exact .inr (by simp[ih])

theorem fresh_ok{ps:Paths}{d:Nat}(h:freshB ps d=true):pathOf ps d=[]/\∀i,∀q ∈ pathOf ps i,q.1≠d:=by
 unfold freshB at h;have h':=List.all_eq_true.1 h;constructor
 ·rcases pathOf_mem ps d with h1|h1
  ·exact h1
  ·have:=h' _ h1;simp at this
 ·intro i q hq;rcases pathOf_mem ps i with h1|h1
  ·rw[h1] at hq;cases hq
  ·have:=h' _ h1;simp only[Bool.and_eq_true] at this;have:=List.all_eq_true.1 this.2 q hq;intro e;rw[e] at this;simp at this

theorem pathH_put{s:Slots}{d:Nat}{t:T}{p:Path}(h:∀q ∈ p,q.1≠d):PathH (putS s (some d) t) p↔PathH s p:=by
 unfold PathH;constructor
 ·intro hp q hq;have:=hp q hq
  rwa [slk_put,if_neg (h q hq)] at this
 ·intro hp q hq;have:=hp q hq
  rwa [slk_put,if_neg (h q hq)]

theorem put_get(a:Act)(d:Nat)(v:Value)(i:Nat)(hd:d<a.tmps.size):(a.put (some d) v).tmps.getD i undef=if i=d then v else a.tmps.getD i undef:=by
 simp only[Act.put,Array.getD_eq_getD_getElem?,Array.getElem?_setIfInBounds]
 by_cases h:d=i
 ·subst h;simp[hd]
 ·rw[if_neg h,if_neg (fun e=>h e.symm)]

section
variable {c:Ctx} {E E':Env} {H H':Heap} {w w':World} {P:Program} {G:Gam} {s:Slots} {ps:Paths} {a:Act}

theorem SlotsOk.step(h:SlotsOk E w s ps a)(hs:Step E w E' w'):SlotsOk E' w' s ps a:=⟨fun i hi=>hs.rd (h.on i hi),h.off⟩

theorem SlotsOk.put(h:SlotsOk E w s ps a){d:Nat}(hf:freshB ps d=true)(hd:d<a.tmps.size){t:T}{v:Value}(hr:Rd E w t v):SlotsOk E w (putS s (some d) t) ps (a.put (some d) v):=by
 obtain⟨h1,h2⟩:=fresh_ok hf;refine⟨fun i hi=> ?_,fun i hi=> ?_⟩
 ·rw[put_get a d v i hd,slk_put];by_cases he:i=d
  ·rw[if_pos he,if_pos he];exact hr
  ·rw[if_neg he,if_neg he];exact h.on i ((pathH_put (h2 i)).1 hi)
 ·rw[put_get a d v i hd];by_cases he:i=d
  ·subst he;rw[h1] at hi;exact absurd (fun q hq=>by cases hq) hi
  ·rw[if_neg he];exact h.off i (fun hp=>hi ((pathH_put (h2 i)).2 hp))

theorem SlotsOk.putG(h:SlotsOk E w s ps a){d:Nat}(hf:freshB ps d=true)(hd:d<a.tmps.size){p:Path}(hp:∀q ∈ p,q.1≠d){t:T}{v:Value}(hr:PathH s p->Rd E w t v)(hu:¬PathH s p->v=undef):
  SlotsOk E w (putS s (some d) t) ((d,p)::ps) (a.put (some d) v):=by
 obtain⟨h1,h2⟩:=fresh_ok hf;have hpo:∀i,pathOf ((d,p)::ps) i=if i=d then p else pathOf ps i:=by
  intro i;simp only[pathOf];split
  ·rename_i hb;rw[if_pos (Nat.eq_of_beq_eq_true hb)]
  ·rename_i hb;rw[if_neg (Nat.ne_of_beq_eq_false hb)]
 refine⟨fun i hi=> ?_,fun i hi=> ?_⟩
 ·rw[hpo] at hi;rw[put_get a d v i hd,slk_put];by_cases he:i=d
  ·rw[if_pos he] at hi;rw[if_pos he,if_pos he];exact hr ((pathH_put hp).1 hi)
  ·rw[if_neg he] at hi;rw[if_neg he,if_neg he];exact h.on i ((pathH_put (h2 i)).1 hi)
 ·rw[hpo] at hi;rw[put_get a d v i hd];by_cases he:i=d
  ·rw[if_pos he] at hi;rw[if_pos he];exact hu (fun hp'=>hi ((pathH_put hp).2 hp'))
  ·rw[if_neg he] at hi;rw[if_neg he];exact h.off i (fun hp=>hi ((pathH_put (h2 i)).2 hp))

theorem pathEq_ok:∀{p q:Path},pathEq p q=true->p=q:=by
 intro p;induction p with
 |nil=>intro q h;cases q with|nil=>rfl|cons=>simp[pathEq] at h
 |cons x p ih=>
  intro q h;cases q with
  |nil=>simp[pathEq] at h
  |cons y q=>
   obtain⟨a,b⟩:=x;obtain⟨c,d⟩:=y;simp only[pathEq,Bool.and_eq_true] at h;obtain⟨⟨h1,h2⟩,h3⟩:=h;obtain rfl:=Nat.eq_of_beq_eq_true h1;obtain rfl:=eq_of_beq h2;rw[ih h3]

theorem suf_ok{p:Path}:∀{q:Path},sufB p q=true->PathH s q->PathH s p:=by
 intro q;induction q with
 |nil=>intro h hq;rw[pathEq_ok h];exact hq
 |cons x q ih=>
  intro h hq;simp only[sufB,Bool.or_eq_true] at h;rcases h with h|h
  ·rw[pathEq_ok h];exact hq
  ·exact ih h (fun y hy=>hq y (by simp[hy]))

theorem tmpOk_ok(h:SlotsOk E w s ps a){pth:Path}(hp:PathH s pth){x:Operand}(hx:tmpOk ps pth x=true):OpOk E w a s x:=
 opOk_of fun t ht=>by
  subst ht;exact h.on t (suf_ok hx hp)

theorem paths_ok(h:SlotsOk E w s ps a){pth:Path}(hp:PathH s pth){op:Op}(hop:pathsOk ps pth op=true):
  (∀x ∈ seen op,OpOk E w a s x)/\∀c x y,op= .pick c x y->(∀b,opT s c= .bool b->b=true->OpOk E w a s x)/\(∀b,opT s c= .bool b->b=false->OpOk E w a s y):=by
 by_cases hpk:∃c x y,op= .pick c x y
 ·obtain⟨c,x,y,rfl⟩:=hpk;cases c with
  |tmp t=>
   simp only[pathsOk,Bool.and_eq_true] at hop;obtain⟨⟨h1,h2⟩,h3⟩:=hop;refine⟨fun z hz=> ?_,fun c' x' y' he=> ?_⟩
   ·simp only[seen,List.mem_singleton] at hz;subst hz;exact tmpOk_ok h hp h1
   ·cases he;refine⟨fun b hb hbt=>tmpOk_ok h (fun q hq=> ?_) h2,fun b hb hbt=>tmpOk_ok h (fun q hq=> ?_) h3⟩
    ·rcases List.mem_cons.1 hq with rfl|hq
     ·exact⟨b,hb,hbt⟩
     ·exact hp q hq
    ·rcases List.mem_cons.1 hq with rfl|hq
     ·exact⟨b,hb,hbt⟩
     ·exact hp q hq
  |const=>simp[pathsOk] at hop
  |global=>simp[pathsOk] at hop
  |func=>simp[pathsOk] at hop
 ·have hs:seen op=op.operands.toList:=by
   cases op<;>first|rfl|exact absurd ⟨_,_,_,rfl⟩ hpk
  have hall:op.operands.toList.all (tmpOk ps pth)=true:=by
   cases op<;>first|exact hop|exact absurd ⟨_,_,_,rfl⟩ hpk
  refine⟨fun x hx=>tmpOk_ok h hp (List.all_eq_true.1 hall x (by rw[←hs];exact hx)),fun c x y he=>absurd ⟨c,x,y,he⟩ hpk⟩

theorem pathProp_ok:∀{p:Path} {q:Prop},pathProp s p q->PathH s p->q:=by
 intro p;induction p with
 |nil=>intro q h _;exact h
 |cons x p ih=>
  intro q h hp;obtain⟨t,b⟩:=x;simp only[pathProp] at h;split at h
  ·rename_i y hy;have:=ih h (fun z hz=>hp z (by simp[hz]))
   obtain⟨x',hx',he⟩:=hp (t,b) (by simp)
   rw[hy] at hx';cases hx';exact this he
  ·exact h.elim

theorem pathProp_of:∀{p:Path} {q:Prop},boolPath s p=true->(PathH s p->q)->pathProp s p q:=by
 intro p;induction p with
 |nil=>intro q _ h;exact h (fun z hz=>by cases hz)
 |cons x p ih=>
  intro q hb h;obtain⟨t,b⟩:=x;simp only[boolPath] at hb;simp only[pathProp];split at hb
  ·rename_i y hy;refine ih hb fun hp he=>h fun z hz=> ?_
   rcases List.mem_cons.1 hz with rfl|hz
   ·exact⟨y,hy,he⟩
   ·exact hp z hz
  ·cases hb

theorem pathProp_not{p:Path}(hb:boolPath s p=true)(h:¬PathH s p):pathProp s p False:=pathProp_of hb fun hp=>h hp

theorem andP_ok{p:Path}{side:Option Prop}{q:Prop}(h:andP s p side q):(PathH s p->side.getD True)/\q:=by
 cases side with
 |none=>exact⟨fun _=>trivial,h⟩
 |some r=>exact⟨fun hp=>pathProp_ok h.1 hp,h.2⟩

theorem slk_endS(s:Slots)(ps:Paths)(i:Nat):slk (endS s ps) i= .und∨(slk (endS s ps) i=slk s i/\pathOf ps i=[]):=by
 induction ps with
 |nil=>exact .inr ⟨rfl,rfl⟩
 |cons x ps ih=>
  obtain⟨d,p⟩:=x;simp only[endS,slk,pathOf];split
  ·exact .inl rfl
  ·exact ih

theorem SlotsOk.ends(h:SlotsOk E w s ps a):SlotsOk E w (endS s ps) [] a:=by
 refine⟨fun i _=> ?_,fun i hi=>absurd (fun q hq=>by cases hq) hi⟩
 rcases slk_endS s ps i with he|⟨he,hp⟩
 ·rw[he];exact .und _
 ·rw[he];exact h.on i (by rw[hp];exact fun q hq=>by cases hq)

theorem stays0_ok{op:Op}{y:T}{side:Option Prop}(he:evOp0 P G s H op=some (y,H',side))(hst:stays0 G op=true):H'=H:=by
 unfold evOp0 at he;split at he
 ·simp only[Option.some.injEq,Prod.mk.injEq] at he;exact he.2.1.symm
 ·split at he
  ·rename_i r hm;simp only[Option.some.injEq] at he;subst he;unfold evMem at hm;split at hm
   all_goals first|(simp[stays0] at hst;done)|skip
   ·split at hm
    ·split at hm
     ·simp only[Option.some.injEq,Prod.mk.injEq] at hm;exact hm.2.1.symm
     ·cases hm
    ·cases hm
   ·cases hm
  ·split at he
   ·rename_i x args at_;split at he
    ·rename_i hie;simp[stays0,hie] at hst
    ·split at he
     ·simp only[Option.map_eq_some_iff,Prod.mk.injEq] at he;obtain⟨r,_,_,he,_⟩:=he;exact he.symm
     ·cases he
   ·cases he

theorem stays_ok{op:Op}{y:T}{side:Option Prop}(he:evOp P G s H op=some (y,H',side))(hst:stays G op=true):H'=H:=by
 unfold evOp at he;unfold stays at hst;split at he
 ·split at he
  ·simp only[Option.some.injEq,Prod.mk.injEq] at he;exact he.2.1.symm
  ·cases he
 ·rename_i ht;rw[ht] at hst;exact stays0_ok he hst

theorem nilCmp_ok{E:Env}{w:World}{a:Act}{s:Slots}{o:Oper}{n:Nat}{neg:Bool}(h:nilCmp P s o.op=some (n,neg))(hop:∀x ∈ seen o.op,OpOk E w a s x):
  ∃b,NilB b n/\(execOp a.eval o).run P w= .ok (.value (.bool (cond neg (!b) b))) w:=by
 obtain⟨dst,op,ty,pos,after,guard⟩:=o;simp only at h hop;unfold nilCmp at h;split at h
 case h_2=>cases h
 rename_i bop t x y rt;have hx:=hop x (by simp[seen,Op.operands])
 have hy:=hop y (by simp[seen,Op.operands])
 unfold OpOk at hx hy;have fin:∀{e:TypeId} {ad:Option Addr} {m cap:Nat},P.underlying t=some (.slice e)->a.eval x= .slice ad m cap->a.eval y= .slice none 0 0->(ad=none->m=0)->m=n->(bop= .eql/\neg=false)∨(bop= .neq/\neg=true)->
   ∃b,NilB b n/\(execOp a.eval ⟨dst,.binOp bop t x y rt,ty,pos,after,guard⟩).run P w= .ok (.value (.bool (cond neg (!b) b))) w:=by
  intro e ad m cap hu h1 h2 h3 h4 h5;refine⟨ad.isNone,fun hb=>by rw[←h4];exact h3 (by simpa using hb),?_⟩
  rcases h5 with⟨rfl,rfl⟩|⟨rfl,rfl⟩
  ·simp only[execOp,h1,h2,eqGuard_at_slice,binOp];simp[run_equal_slice_nil w t e ad m cap hu]
  ·simp only[execOp,h1,h2,eqGuard_at_slice,binOp];simp[run_equal_slice_nil w t e ad m cap hu]
 have key:∀{x:T} {v:Value} {n:Nat},((∃sz row,x= .sl sz n row)∨∃k off,x= .osl k off n)->Rd E w x v->∃ad cap,v= .slice ad n cap/\(ad=none->n=0):=by
  intro x v n hx hr;rcases hx with⟨sz,row,rfl⟩|⟨k,off,rfl⟩
  ·cases hr with
   |slNil=>exact⟨none,0,rfl,fun _=>rfl⟩
   |slEmp _ _ a=>exact⟨some a,0,rfl,fun _=>rfl⟩
   |sl _ _ _ b off cap=>exact⟨_,cap,rfl,fun h=>by cases h⟩
  ·cases hr with
   |osl _ _ _ o ad hL hn ho ha=>
    refine⟨ad,_,rfl,fun h=> ?_⟩
    by_cases hκ:E.κ k=0
    ·omega
    ·rw[ha hκ] at h;cases h
 split at h
 ·rename_i e sz n' row hu hsx hsy;simp only[Option.some.injEq,Prod.mk.injEq] at h;obtain⟨rfl,rfl⟩:=h;rw[hsx] at hx;rw[hsy] at hy;obtain⟨ad,cap,h1,h2⟩:=key (.inl ⟨_,_,rfl⟩) hx;exact fin hu h1 (rd_v hy) h2 rfl (.inl ⟨rfl,rfl⟩)
 ·rename_i e sz n' row hu hsx hsy;simp only[Option.some.injEq,Prod.mk.injEq] at h;obtain⟨rfl,rfl⟩:=h;rw[hsx] at hx;rw[hsy] at hy;obtain⟨ad,cap,h1,h2⟩:=key (.inl ⟨_,_,rfl⟩) hx;exact fin hu h1 (rd_v hy) h2 rfl (.inr ⟨rfl,rfl⟩)
 ·rename_i e k off n' hu hsx hsy;simp only[Option.some.injEq,Prod.mk.injEq] at h;obtain⟨rfl,rfl⟩:=h;rw[hsx] at hx;rw[hsy] at hy;obtain⟨ad,cap,h1,h2⟩:=key (.inr ⟨_,_,rfl⟩) hx;exact fin hu h1 (rd_v hy) h2 rfl (.inl ⟨rfl,rfl⟩)
 ·rename_i e k off n' hu hsx hsy;simp only[Option.some.injEq,Prod.mk.injEq] at h;obtain⟨rfl,rfl⟩:=h;rw[hsx] at hx;rw[hsy] at hy;obtain⟨ad,cap,h1,h2⟩:=key (.inr ⟨_,_,rfl⟩) hx;exact fin hu h1 (rd_v hy) h2 rfl (.inr ⟨rfl,rfl⟩)
 ·cases h

theorem vcOps_ok(hG:GamOk P G)(hGc:∀x ∈ G,Callable P x.1){all:Array Oper}{Q:Exit->Act->World->Prop}{K:Slots->Heap->Prop}(hK:∀s' H' a' w',K s' H'->Real c s' H' a' w'->Q .normal a' w'):
  ∀(rest:List Oper) (s:Slots) (ps:Paths) (H:Heap) (E:Env) (a:Act) (w:World),vcOps P G c.nt all rest s ps H K->RealE c E s ps H a w->wpList P all Q rest a w:=by
 intro rest;induction rest with
 |nil=>
  intro s ps H E a w h hr;exact hK _ _ _ _ h ⟨E,hr.defers,hr.size,hr.slots.ends,hr.inv⟩
 |cons o rest ih=>
  intro s ps H E a w h hr;have hput:∀(d:Option Tmp) (v:Value),(a.put d v).defers=[]/\(a.put d v).tmps.size=c.nt:=by
   intro d v;cases d with
   |none=>exact⟨hr.defers,hr.size⟩
   |some d=>exact⟨hr.defers,by simp[Act.put,hr.size]⟩
  unfold vcOps at h;split at h
  ·rename_i hg;split at h
   ·exact h.elim
   ·rename_i hchk;simp only[Bool.and_eq_true] at hchk;obtain⟨⟨hpo,hfr⟩,hdst⟩:=hchk;split at h
    ·rename_i n neg hnc;have hnil:PathH s []:=fun q hq=>by cases hq
     obtain⟨hop,hpk⟩:=paths_ok hr.slots hnil hpo;obtain⟨b,hb,hrun⟩:=nilCmp_ok (P:=P) (E:=E) (w:=w) (a:=a) hnc hop;refine wpList_plain hg fun KK hKK=>value_wp hrun (hKK _ _ (ih _ _ _ E _ _ (h b hb) ⟨(hput _ _).1,(hput _ _).2,?_,hr.inv⟩))
     cases hd:o.dst with
     |none=>exact hr.slots
     |some d=>
      rw[hd] at hfr hdst;exact hr.slots.put hfr (by rw[hr.size];exact Nat.le_of_ble_eq_true hdst) (.bool _)
    obtain⟨G',hGG,h⟩:=relP_ok hG hGc h;split at h
    ·rename_i t H' side he;obtain⟨hs,hrest⟩:=andP_ok h;have hnil:PathH s []:=fun q hq=>by cases hq
     obtain⟨hop,hpk⟩:=paths_ok hr.slots hnil hpo;refine wpList_plain hg fun KK hKK=> ?_
     refine opI_ok hGG.ok hGG.call hr.inv he (hs hnil) hop hpk fun v w' E' hI hst hrd=> ?_
     refine hKK _ _ (ih _ _ _ E' _ _ hrest ⟨(hput _ _).1,(hput _ _).2,?_,hI⟩)
     cases hd:o.dst with
     |none=>exact hr.slots.step hst
     |some d=>
      rw[hd] at hfr hdst;exact(hr.slots.step hst).put hfr (by rw[hr.size];exact Nat.le_of_ble_eq_true hdst) hrd
    ·exact h.elim
  ·rename_i j want hg;split at h
   ·rename_i g hgd;split at h
    ·rename_i x hx;split at h
     ·exact h.elim
     ·rename_i hchk;simp only[Bool.and_eq_true] at hchk;obtain⟨⟨⟨hpo,hfr⟩,hdst⟩,hgk⟩:=hchk;obtain⟨d,hd⟩:∃d,o.dst=some d:=by
       cases hd:o.dst with
       |none=>rw[hd] at hgk;simp[guardOk] at hgk
       |some d=>exact⟨d,rfl⟩
      have hfr':=hfr;have hdst':=hdst;have hgk':=hgk;rw[hd] at hfr' hdst' hgk';have hdlt:d<a.tmps.size:=by rw[hr.size];exact Nat.le_of_ble_eq_true hdst'
      have hpath:∀q ∈ ((g,want)::pathOf ps g),q.1≠d:=by
       intro q hq;simp only[guardOk,Bool.and_eq_true] at hgk';rcases List.mem_cons.1 hq with rfl|hq
       ·intro e;have:=hgk'.1;simp only at e;rw[e] at this;simp at this
       ·intro e;have:=List.all_eq_true.1 hgk'.2 q hq;rw[e] at this;simp at this
      have hy:yielded all a.tmps j=match a.tmps[g]? with|some (.bool b)=>some b|_=>none:=by
       unfold yielded;rw[hgd];rfl
      have core:(PathH s ((g,want)::pathOf ps g)->o.wp P a w (wpList P all Q rest) Q)->(¬PathH s ((g,want)::pathOf ps g)->wpList P all Q rest (a.put o.dst undef) w)->wpList P all Q (o::rest) a w:=by
       intro hT skip;unfold wpList;by_cases hpg:PathH s (pathOf ps g)
       ·have hv:=hr.slots.on g hpg;rw[hx] at hv;have hv':=rd_bool hv;have hgv:a.tmps[g]? =some (.bool x):=by
         rw[Array.getD_eq_getD_getElem?] at hv';cases hq:a.tmps[g]? with
         |none=>rw[hq] at hv';simp[undef] at hv'
         |some y=>rw[hq] at hv';simp at hv';rw[hv']
        have hyl:yielded all a.tmps j=some x:=by rw[hy,hgv]
        by_cases hxw:x=want
        ·have hw:Region.wanted o (yielded all a.tmps)=true:=by simp[Region.wanted,hg,hyl,hxw]
         rw[if_pos hw];refine .inl (hT fun q hq=> ?_)
         rcases List.mem_cons.1 hq with rfl|hq
         ·exact⟨x,hx,hxw⟩
         ·exact hpg q hq
        ·have hw:¬Region.wanted o (yielded all a.tmps)=true:=by simp[Region.wanted,hg,hyl,hxw]
         rw[if_neg hw];exact skip fun hp=>by
          obtain⟨x',hx',he'⟩:=hp (g,want) (by simp)
          rw[hx] at hx';cases hx';exact hxw he'
       ·have hv':=hr.slots.off g hpg;have hyl:yielded all a.tmps j=none:=by
         rw[hy];rw[Array.getD_eq_getD_getElem?] at hv';cases hq:a.tmps[g]? with
         |none=>rfl
         |some y=>rw[hq] at hv';simp at hv';rw[hv'];rfl
        have hw:¬Region.wanted o (yielded all a.tmps)=true:=by simp[Region.wanted,hg,hyl]
        rw[if_neg hw];exact skip fun hp=>hpg fun q hq=>hp q (by simp[hq])
      have skip:∀{t:T},vcOps P G c.nt all rest (putS s o.dst t) (putP ps o.dst ((g,want)::pathOf ps g)) H K->¬PathH s ((g,want)::pathOf ps g)->wpList P all Q rest (a.put o.dst undef) w:=by
       intro t hrest hnp;refine ih _ _ _ E _ _ hrest ⟨(hput _ _).1,(hput _ _).2,?_,hr.inv⟩
       rw[hd];exact hr.slots.putG hfr' hdlt hpath (fun hp=>absurd hp hnp) (fun _=>rfl)
      split at h
      ·rename_i hst;obtain⟨G',hGG,h⟩:=relP_ok hG hGc h;split at h
       ·rename_i t H' side he;obtain rfl:=stays_ok he (by rw[hGG.stays];exact hst)
        obtain⟨hs,hrest⟩:=andP_ok h;refine core (fun hpp=> ?_) (skip hrest)
        obtain⟨hop,hpk⟩:=paths_ok hr.slots hpp hpo;refine op_ok hGG.ok hGG.call hr.inv he (hs hpp) hop hpk fun v w' E' hI hst hrd=> ?_
        refine ih _ _ _ E' _ _ hrest ⟨(hput _ _).1,(hput _ _).2,?_,hI⟩
        rw[hd];exact(hr.slots.step hst).putG hfr' hdlt hpath (fun _=>hrd) (fun hn=>absurd hpp hn)
       ·exact h.elim
      ·split at h
       ·exact h.elim
       ·rename_i hbp;obtain⟨G',hGG,h⟩:=relP_ok hG hGc h;split at h
        ·rename_i t H' side he;obtain⟨hs,hrest⟩:=andP_ok h;refine core (fun hpp=> ?_) (fun hnp=>skip (hrest.2 (pathProp_not hbp hnp)) hnp)
         obtain⟨hop,hpk⟩:=paths_ok hr.slots hpp hpo;refine op_ok hGG.ok hGG.call hr.inv he (hs hpp) hop hpk fun v w' E' hI hst hrd=> ?_
         refine ih _ _ _ E' _ _ (pathProp_ok hrest.1 hpp) ⟨(hput _ _).1,(hput _ _).2,?_,hI⟩
         rw[hd];exact(hr.slots.step hst).putG hfr' hdlt hpath (fun _=>hrd) (fun hn=>absurd hpp hn)
        ·exact h.elim
    ·exact h.elim
   ·exact h.elim

end
end Go.SS
/- A calculus of symbolic states: a region, in whatever order. -/
namespace Go.SS
open Go.RowKit

def HExt(H H':Heap):Prop:=∀k ob,getOb H k=some ob->getOb H' k=some ob

theorem HExt.refl(H:Heap):HExt H H:=fun _ _ h=>h
theorem HExt.trans{A B C:Heap}(h:HExt A B)(k:HExt B C):HExt A C:=fun i ob hi=>k i ob (h i ob hi)

section
variable {P:Program} {G:Gam} {H H':Heap} {s:Slots}

theorem HExt.getA(h:HExt H H'){k:Nat}{A:Arr}(hk:getA H k=some A):SS.getA H' k=some A:=by
 obtain⟨ob,hob,⟨rfl,hi⟩|⟨v,ty,sz,n,row,rfl,rfl⟩⟩:=getA_ok hk
 ·exact getOb_getA (h k ob hob) hi
 ·unfold SS.getA;rw[h k _ hob]

theorem HExt.getOwn(h:HExt H H'){k v i j:Nat}{A:Own}(hk:getOwn H k v i j=some A):SS.getOwn H' k v i j=some A:=by
 obtain⟨ty,sz,row,hob,_,_⟩:=getOwn_ok hk;unfold SS.getOwn at hk ⊢;rw[h k _ hob];rw[hob] at hk;exact hk

theorem evLook_ext(h:HExt H H'){t:TypeId}{x y:T}{r:T×Option Prop}(he:evLook P H t x y=some r):evLook P H' t x y=some r:=by
 unfold evLook at he ⊢;split at he
 ·split at he
  ·rename_i hk;simp only[h _ _ hk];exact he
  ·cases he
 ·split at he
  ·rename_i hk;simp only[h _ _ hk];exact he
  ·cases he
 ·cases he

theorem evLoad_ext(h:HExt H H'){t:TypeId}{x:T}{r:T×Option Prop}(he:evLoad P H t x=some r):evLoad P H' t x=some r:=by
 unfold evLoad at he ⊢;split at he
 ·exact he
 ·split at he
  ·rename_i hk;rw[h.getA hk];exact he
  ·cases he
 ·split at he
  ·rename_i hk;rw[h.getOwn hk];exact he
  ·cases he
 ·cases he

theorem evIndexAddr_ext(h:HExt H H'){t:TypeId}{x i:T}{r:T×Option Prop}(he:evIndexAddr P H t x i=some r):evIndexAddr P H' t x i=some r:=by
 unfold evIndexAddr at he ⊢;split at he
 ·split at he
  case h_3 hu=>
   split at he
   ·rename_i hk;simp only[h.getA hk];exact he
   ·cases he
  case h_4 hu=>
   split at he
   ·rename_i hk;simp only[h.getOwn hk];exact he
   ·cases he
  all_goals first|(cases he;done)|(exact he)
 ·cases he

theorem evConv_ext(h:HExt H H'){a b:TypeId}{x:T}{r:T×Option Prop}(he:evConv P H a b x=some r):evConv P H' a b x=some r:=by
 unfold evConv at he ⊢;split at he
 case h_4 hu1 hu2=>
  split at he
  ·rename_i hu3 hk;simp only[hu3,h _ _ hk];exact he
  ·cases he
 all_goals first|(cases he;done)|(exact he)

theorem evSlice_ext(h:HExt H H'){t:TypeId}{x:T}{lo hi:Option T}{r:T×Option Prop}(he:evSlice P H t x lo hi=some r):evSlice P H' t x lo hi=some r:=by
 unfold evSlice at he ⊢;split at he
 ·split at he
  case h_4 hu=>
   split at he
   ·rename_i hk;simp only[h.getA hk];exact he
   ·cases he
  all_goals first|(cases he;done)|(exact he)
 ·cases he

theorem evVal_ext(h:HExt H H'){op:Op}{r:T×Option Prop}(he:evVal P s H op=some r):evVal P s H' op=some r:=by
 unfold evVal at he ⊢;split at he
 case h_4=>exact evLoad_ext h he
 case h_8=>exact evConv_ext h he
 case h_11=>exact evIndexAddr_ext h he
 case h_15=>exact evSlice_ext h he
 case h_18=>exact evLook_ext h he
 all_goals first|exact he|(cases he;done)

theorem mapO_ext{α β:Type}{f g:α->Option β}(h:∀a b,f a=some b->g a=some b):∀{l:List α} {q:List β},mapO f l=some q->mapO g l=some q:=by
 intro l;induction l with
 |nil=>intro q hq;exact hq
 |cons x l ih=>
  intro q hq;simp only[mapO] at hq ⊢;split at hq
  ·rename_i hb hr;rw[h _ _ hb,ih hr];exact hq
  ·cases hq

theorem borrow_ext{b0:Nat}(h:HExt H H'):∀(d:Nat) {t:T} {r:T×Option Prop},borrow b0 H d t=some r->borrow b0 H' d t=some r:=by
 intro d;induction d with
 |zero=>intro t r he;simp[borrow] at he
 |succ d ih=>
  intro t r he;unfold borrow at he ⊢;split at he
  ·split at he
   ·exact he
   split at he
   ·rename_i A hk;simp only[h.getA hk];split at he
    ·rename_i hA;split at he
     ·rename_i hm;rw[mapO_ext (fun a b hb=>ih hb) hm]
      exact he
     ·cases he
    ·cases he
   ·cases he
  ·split at he
   ·exact he
   split at he
   ·rename_i hk;simp only[h _ _ hk];exact he
   ·rename_i hk;simp only[h _ _ hk];exact he
   ·rename_i hk;simp only[h _ _ hk];exact he
   ·rename_i hk;simp only[h _ _ hk];split at he
    ·split at he
     ·rename_i h0 h1;rw[mapO_ext (fun a b hb=>ih hb) h0,mapO_ext (fun a b hb=>ih hb) h1]
      exact he
     ·cases he
    ·cases he
   ·cases he
  ·simp only[Option.map_eq_some_iff] at he ⊢;obtain⟨a,ha,rfl⟩:=he;exact⟨a,mapO_ext (fun a b hb=>ih hb) ha,rfl⟩
  ·simp only[Option.map_eq_some_iff] at he ⊢;obtain⟨a,ha,rfl⟩:=he;exact⟨a,mapO_ext (fun a b hb=>ih hb) ha,rfl⟩
  ·simp only[Option.map_eq_some_iff] at he ⊢;obtain⟨a,ha,rfl⟩:=he;exact⟨a,mapO_ext (fun a b hb=>ih hb) ha,rfl⟩
  ·cases he
  ·cases he
  ·split at he
   ·exact he
   split at he
   ·rename_i hk;simp only[h.getOwn hk];exact he
   ·cases he
  ·exact he
  ·cases he
  ·exact he

theorem evPure_ext(h:HExt H H'){f:FuncId}{args:List T}{r:T×Option Prop}(he:evPure G H f args=some r):evPure G H' f args=some r:=by
 unfold evPure at he ⊢;split at he
 ·exact he
 ·split at he
  ·rename_i hb;rw[mapO_ext (fun a b hb=>borrow_ext h 6 hb) hb]
   exact he
  ·cases he

theorem evOp0_ext(h:HExt H H'){op:Op}{y:T}{H1:Heap}{side:Option Prop}(hst:stays0 G op=true)(he:evOp0 P G s H op=some (y,H1,side)):evOp0 P G s H' op=some (y,H',side):=by
 unfold evOp0 at he;split at he
 ·rename_i hv;simp only[Option.some.injEq,Prod.mk.injEq] at he;obtain⟨rfl,rfl,rfl⟩:=he;unfold evOp0;rw[evVal_ext h hv]
 ·rename_i hv;split at he
  ·rename_i r hm;simp only[Option.some.injEq] at he;subst he;unfold evMem at hm;split at hm
   case h_6 src dst x=>
    split at hm
    ·rename_i e l hs hd hx;split at hm
     ·rename_i hb;simp only[Option.some.injEq,Prod.mk.injEq] at hm;obtain⟨rfl,rfl,rfl⟩:=hm;have h1:evVal P s H' (.convert src dst x)=none:=by simp only[evVal,evConv,hs,hd,hx]
      unfold evOp0;rw[h1];simp only[evMem,hs,hd,hx,hb]
     ·cases hm
    ·cases hm
   all_goals first|(simp[stays0] at hst;done)|(cases hm;done)
  ·rename_i hm;split at he
   ·rename_i f args argTypes;split at he
    ·rename_i hie;simp[stays0,hie] at hst
    ·rename_i hie;split at he
     ·rename_i g cs hfn;simp only[Option.map_eq_some_iff,Prod.mk.injEq] at he;obtain⟨r,hr,rfl,rfl,rfl⟩:=he;unfold evOp0;simp only[evVal,evMem,hie,hfn,evPure_ext h hr,Option.map_some]
     ·cases he
   ·cases he

theorem evOp0_pure{op:Op}{y:T}{H1:Heap}{side:Option Prop}(hp:pureB op=true)(he:evOp0 P G s H op=some (y,H1,side)):evOp0 P G s H' op=some (y,H',side):=by
 have hv:evVal P s H' op=evVal P s H op:=by
  unfold pureB at hp;split at hp<;>first|(cases hp;done)|rfl
 have hm:evMem P s H op=none:=by
  unfold pureB at hp;split at hp<;>first|(cases hp;done)|rfl
 have hc:∀c,op≠ .call c:=by
  rintro c rfl;simp[pureB] at hp
 unfold evOp0 at he ⊢;rw[hv];split at he
 ·simp only[Option.some.injEq,Prod.mk.injEq] at he ⊢;exact⟨he.1,trivial,he.2.2⟩
 ·rw[hm] at he;simp only at he;split at he
  ·exact absurd rfl (hc _)
  ·cases he

theorem hext_append(H:Heap)(x:Option Ob):HExt H (H++[x]):=by
 intro k ob hk;rw[getOb_append,if_pos (getOb_lt hk)];exact hk

theorem geff_mk{G:Gam}{f:FuncId}{c:List T->Option (T×Heap×Option Prop)}(h:gfind G f=some (.mk c)):geff G f=none:=by
 induction G with
 |nil=>cases h
 |cons x G ih=>
  obtain⟨g,d⟩:=x;simp only[gfind] at h;simp only[geff];split at h
  ·simp only[Option.some.injEq] at h;subst h;rfl
  ·exact ih h

theorem gfz_none{G:Gam}{f:FuncId}{c:Con}(h:gfind G f=some c)(hc:c.isMk=true):gfz G f=none:=by
 induction G with
 |nil=>cases h
 |cons x G ih=>
  obtain⟨g,d⟩:=x;simp only[gfind] at h;simp only[gfz];split at h
  ·simp only[Option.some.injEq] at h;subst h;cases d<;>first|rfl|(cases hc)
  ·exact ih h

theorem evMk_ext{c:List T->Option (T×Heap×Option Prop)}{args:List T}{y:T}{side:Option Prop}(he:evMk c H args=some (y,H',side)):HExt H H':=by
 unfold evMk at he;split at he
 ·split at he
  ·split at he
   ·simp only[Option.some.injEq,Prod.mk.injEq] at he;obtain⟨_,rfl,_⟩:=he;intro k ob hk;unfold getOb at hk ⊢;have hlt:=getOb_lt hk
    rwa [List.getElem?_append_left hlt]
   ·cases he
  ·cases he
 ·cases he

theorem grow0_ext{op:Op}{y:T}{side:Option Prop}(hg:growB G op=true)(he:evOp0 P G s H op=some (y,H',side)):HExt H H':=by
 unfold evOp0 at he;split at he
 ·simp only[Option.some.injEq,Prod.mk.injEq] at he;obtain⟨_,rfl,_⟩:=he;exact HExt.refl H
 ·split at he
  ·rename_i r hm;simp only[Option.some.injEq] at he;subst he;have box:∀{t:TypeId} {cs:List T} {y:T} {H':Heap} {side:Option Prop},evBox P H t cs=some (y,H',side)->HExt H H':=by
    intro t cs y H' side hb;unfold evBox at hb;split at hb
    ·simp only[Option.some.injEq,Prod.mk.injEq] at hb;obtain⟨_,rfl,_⟩:=hb;exact hext_append H _
    ·cases hb
   unfold evMem at hm;split at hm
   ·split at hm
    ·exact box hm
    ·cases hm
   ·split at hm
    ·exact box hm
    ·cases hm
   ·simp[growB] at hg
   ·unfold evMake at hm;split at hm
    ·split at hm
     ·split at hm
      ·simp only[Option.some.injEq,Prod.mk.injEq] at hm;obtain⟨_,rfl,_⟩:=hm;exact hext_append H _
      ·cases hm
     ·cases hm
    ·cases hm
   ·unfold evBuildSlice at hm;split at hm
    ·split at hm
     ·split at hm
      ·split at hm
       ·split at hm
        ·simp only[Option.map_eq_some_iff,Prod.mk.injEq] at hm;obtain⟨_,_,_,rfl,_⟩:=hm;exact hext_append H _
        ·split at hm
         ·simp only[Option.some.injEq,Prod.mk.injEq] at hm;obtain⟨_,rfl,_⟩:=hm;exact hext_append H _
         ·cases hm
       ·cases hm
      ·cases hm
     ·cases hm
    ·cases hm
   case h_8=>
    simp only[Option.map_eq_some_iff,Prod.mk.injEq] at hm;obtain⟨r',hr,rfl,rfl,_⟩:=hm;unfold evMakeMap at hr;split at hr
    ·simp only[Option.some.injEq] at hr;subst hr;exact hext_append H _
    ·simp only[Option.some.injEq] at hr;subst hr;exact hext_append H _
    ·split at hr
     ·simp only[Option.some.injEq] at hr;subst hr;exact hext_append H _
     ·cases hr
   case h_10=>
    unfold evSlice0 at hm;split at hm
    ·split at hm
     ·split at hm
      ·simp only[Option.some.injEq,Prod.mk.injEq] at hm;obtain⟨_,rfl,_⟩:=hm;exact hext_append H _
      ·cases hm
     ·cases hm
    ·cases hm
   all_goals first|(cases hm;done)|(simp[growB] at hg)
  ·split at he
   ·rename_i x args argTypes;simp only[growB] at hg;unfold isMk at hg;split at hg
    ·rename_i f;split at hg
     ·rename_i cn hcn;have h1:isEff G (.func f)=true:=by
       simp only[isEff,hcn];cases cn<;>first|rfl|(cases hg)
      have h2:geff G f=none:=by
       cases cn<;>first|(cases hg;done)|skip
       ·exact geff_mk hcn
       ·exact(geff_none hcn rfl).1
      rw[h1] at he;simp only at he;unfold evEff at he;rw[h2] at he;simp only at he;split at he
      ·exact evMk_ext he
      ·rw[gfz_none hcn (by cases cn<;>first|rfl|(cases hg))] at he
       cases he
     ·cases hg
    ·cases hg
   ·cases he

def ExtOn(R:List Nat)(H H':Heap):Prop:=∀k,k ∈ R->∀ob,getOb H k=some ob->getOb H' k=some ob

theorem evOp0_dep{op:Op}{y:T}{H1:Heap}{side:Option Prop}{R:List Nat}(hr:readB s op=some R)(hst:stays0 G op=true)(hx:ExtOn R H H')(he:evOp0 P G s H op=some (y,H1,side)):evOp0 P G s H' op=some (y,H',side):=by
 have val:∀{r:T×Option Prop},evVal P s H op=some r->evVal P s H' op=some r->evOp0 P G s H' op=some (y,H',side):=by
  intro r h1 h2;unfold evOp0 at he ⊢;rw[h1] at he;rw[h2];simp only[Option.some.injEq,Prod.mk.injEq] at he ⊢;exact⟨he.1,trivial,he.2.2⟩
 unfold readB at hr;split at hr
 ·rename_i t a;split at hr
  ·rename_i k i j ha;simp only[Option.some.injEq] at hr;subst hr;have hv:∀r,evVal P s H (.load t a)=some r->evVal P s H' (.load t a)=some r:=by
    intro r h;simp only[evVal,ha,evLoad,getA] at h ⊢;cases hob:getOb H k with
    |none=>rw[hob] at h;simp at h
    |some ob=>
     rw[hx k (by simp) ob hob]
     rw[hob] at h;exact h
   cases hv0:evVal P s H (.load t a) with
   |none=>
    unfold evOp0 at he;rw[hv0] at he;simp[evMem] at he
   |some r=>exact val hv0 (hv r hv0)
  ·rename_i cs ha;cases hv0:evVal P s H (.load t a) with
   |none=>
    unfold evOp0 at he;rw[hv0] at he;simp[evMem] at he
   |some r=>
    refine val hv0 ?_
    simp only[evVal,ha,evLoad] at hv0 ⊢;exact hv0
  ·cases hr
 ·rename_i t x ix;have hv:∀r,evVal P s H (.indexAddr t x ix)=some r->evVal P s H' (.indexAddr t x ix)=some r:=by
   intro r h;simp only[evVal] at h ⊢;unfold evIndexAddr at h ⊢;split at hr
   ·rename_i ha;rw[ha] at h ⊢;generalize opT s ix=q at h ⊢;generalize P.underlying t=u at h ⊢;cases q<;>first|exact h|skip
    cases u with
    |none=>exact h
    |some d=>cases d<;>exact h
   ·rename_i ha;rw[ha] at h ⊢;generalize opT s ix=q at h ⊢;generalize P.underlying t=u at h ⊢;cases q<;>first|exact h|skip
    cases u with
    |none=>exact h
    |some d=>cases d<;>exact h
   ·rename_i k off n ha;simp only[Option.some.injEq] at hr;subst hr;rw[ha] at h ⊢;generalize opT s ix=q at h ⊢;generalize P.underlying t=u at h ⊢;cases q<;>first|exact h|skip
    cases u with
    |none=>exact h
    |some d=>
     cases d<;>first|exact h|skip
     simp only[getA] at h ⊢;cases hob:getOb H k with
     |none=>rw[hob] at h;simp at h
     |some ob=>
      rw[hx k (by simp) ob hob]
      rw[hob] at h;exact h
   ·cases hr
  cases hv0:evVal P s H (.indexAddr t x ix) with
  |none=>
   unfold evOp0 at he;rw[hv0] at he;simp[evMem] at he
  |some r=>exact val hv0 (hv r hv0)
 ·rename_i src dst x;have same:evVal P s H' (.convert src dst x)=evVal P s H (.convert src dst x):=by
   simp only[evVal];split at hr
   ·rename_i ha;unfold evConv;rw[ha];cases P.underlying src with
    |none=>rfl
    |some d=>cases P.underlying dst with
     |none=>cases d<;>rfl
     |some d'=>cases d<;>cases d'<;>rfl
   ·rename_i ha;unfold evConv;rw[ha];cases P.underlying src with
    |none=>rfl
    |some d=>cases P.underlying dst with
     |none=>cases d<;>rfl
     |some d'=>cases d<;>cases d'<;>rfl
   ·rename_i ha;unfold evConv;rw[ha];cases P.underlying src with
    |none=>rfl
    |some d=>cases P.underlying dst with
     |none=>cases d<;>rfl
     |some d'=>cases d<;>cases d'<;>rfl
   ·cases hr
  cases hv0:evVal P s H (.convert src dst x) with
  |none=>
   unfold evOp0 at he ⊢;rw[same,hv0];rw[hv0] at he;simp only at he ⊢;have hmm:∀r,evMem P s H (.convert src dst x)=some r->evMem P s H' (.convert src dst x)=some (r.1,H',r.2.2):=by
    intro r hm;unfold evMem at hm ⊢;simp only at hm ⊢;generalize P.underlying src=a at hm ⊢;generalize P.underlying dst=b at hm ⊢;generalize opT s x=c at hm ⊢;split at hm
    ·split at hm
     ·rename_i hb;simp only[hb,Option.some.injEq] at hm ⊢;subst hm;rfl
     ·cases hm
    ·cases hm
   cases hm:evMem P s H (.convert src dst x) with
   |none=>
    rw[hm] at he;simp at he
   |some r=>
    rw[hm] at he;simp only[Option.some.injEq] at he;subst he;rw[hmm _ hm]
  |some r=>exact val hv0 (same.trans hv0)
 ·rename_i t x lo hi;have hv:∀r,evVal P s H (.slice t x lo hi none)=some r->evVal P s H' (.slice t x lo hi none)=some r:=by
   intro r h;simp only[evVal] at h ⊢;unfold evSlice at h ⊢;generalize intOfT (lo.map (opT s))=q1 at h ⊢;generalize intOfT (hi.map (opT s))=q2 at h ⊢;generalize P.underlying t=u at h ⊢;split at hr
   ·rename_i ha;rw[ha] at h ⊢;cases q1<;>cases q2<;>first|exact h|skip
    cases u with
    |none=>exact h
    |some d=>cases d<;>exact h
   ·rename_i ha;rw[ha] at h ⊢;cases q1<;>cases q2<;>first|exact h|skip
    cases u with
    |none=>exact h
    |some d=>cases d<;>exact h
   ·rename_i ha;rw[ha] at h ⊢;cases q1<;>cases q2<;>first|exact h|skip
    cases u with
    |none=>exact h
    |some d=>cases d<;>exact h
   ·rename_i k off n ha;simp only[Option.some.injEq] at hr;subst hr;rw[ha] at h ⊢;cases q1<;>cases q2<;>first|exact h|skip
    cases u with
    |none=>exact h
    |some d=>
     cases d<;>first|exact h|skip
     simp only[getA] at h ⊢;cases hob:getOb H k with
     |none=>rw[hob] at h;simp at h
     |some ob=>
      rw[hx k (by simp) ob hob]
      rw[hob] at h;exact h
   ·cases hr
  cases hv0:evVal P s H (.slice t x lo hi none) with
  |none=>
   unfold evOp0 at he;rw[hv0] at he;simp[evMem] at he
  |some r=>exact val hv0 (hv r hv0)
 ·simp[stays0] at hst
 ·rename_i args argTypes;have same:evVal P s H' (.call {callee:=.builtin .len,args,argTypes})=evVal P s H (.call {callee:=.builtin .len,args,argTypes}):=rfl;cases hv0:evVal P s H (.call {callee:=.builtin .len,args,argTypes}) with
  |none=>
   unfold evOp0 at he;rw[hv0] at he;simp[evMem] at he
  |some r=>exact val hv0 (same.trans hv0)
 ·simp[stays0] at hst
 ·rename_i x args argTypes;split at hr
  ·rename_i f cs hf;split at hr
   ·rename_i hcl;have he2:isEff G x=false:=by simpa[stays0] using hst
    unfold evOp0 at he ⊢;simp only[evVal,evMem,he2,hf] at he ⊢;unfold evPure at he ⊢;rw[hcl] at he ⊢;simp only[Option.map_eq_some_iff,Prod.mk.injEq] at he ⊢;obtain⟨r,h1,h2,h3,h4⟩:=he;exact⟨r,h1,h2,trivial,h4⟩
   ·cases hr
  ·cases hr
 ·cases hr

theorem getOb_set_ne{H:Heap}{j k:Nat}{x:Option Ob}(h:j≠k):getOb (H.set j x) k=getOb H k:=by
 unfold getOb;rw[List.getElem?_set_ne h]
theorem setObs_keep:∀{ks:List Nat} {os:List (Option Ob)} {H:Heap} {k:Nat},k ∉ ks->getOb (setObs H ks os) k=getOb H k
 | [],os,H,k,_=>by cases os<;>rfl
 |j::ks,[],H,k,_=>rfl
 |j::ks,o::os,H,k,h=>by
  simp only[List.mem_cons,not_or] at h;show getOb (setObs (H.set j o) ks os) k=_;rw[setObs_keep h.2,getOb_set_ne (Ne.symm h.1)]
theorem dropObs_keep:∀{ks:List Nat} {H:Heap} {k:Nat},k ∉ ks->getOb (dropObs H ks) k=getOb H k
 | [],H,k,_=>rfl
 |j::ks,H,k,h=>by
  simp only[List.mem_cons,not_or] at h;show getOb (dropObs (H.set j none) ks) k=_;rw[dropObs_keep h.2,getOb_set_ne (Ne.symm h.1)]
theorem appK(A B:Heap)(k:Nat){ob:Ob}(h:getOb A k=some ob):getOb (A++B) k=some ob:=by
 have hlt:=getOb_lt h;unfold getOb at h ⊢
 rwa [List.getElem?_append_left hlt]
theorem write0_keep{op:Op}{y:T}{side:Option Prop}{W:List Nat}(hw:writeB H s op=some W)(he:evOp0 P G s H op=some (y,H',side)):∀k,k ∉ W->∀ob,getOb H k=some ob->getOb H' k=some ob:=by
 intro k hk ob hob;have app:∀(A:Heap) (x:Option Ob),getOb A k=some ob->getOb (A++[x]) k=some ob:=fun A x h=>hext_append A x k ob h
 unfold writeB at hw;split at hw
 ·rename_i args argTypes;unfold evOp0 at he;simp only[evVal] at he;split at he
  ·rename_i r hm;simp only[Option.some.injEq] at he;subst he;simp only[evMem] at hm;split at hm
   ·rename_i d x t tx h1 h2;rw[h1] at hw;simp only at hw;unfold evAppend at hm;split at hm
    ·split at hm
     ·rename_i i z hi hz;split at hm
      ·rename_i hd;split at hm
       ·simp only[Option.map_eq_some_iff,Prod.mk.injEq] at hm;obtain⟨q,_,_,rfl,_⟩:=hm;exact app _ _ hob
       ·split at hm
        ·split at hm
         ·simp only[Option.some.injEq,Prod.mk.injEq] at hm;obtain⟨_,rfl,_⟩:=hm;exact app _ _ hob
         ·cases hm
        ·simp only[Option.map_eq_some_iff,Prod.mk.injEq] at hm;obtain⟨q,_,_,rfl,_⟩:=hm;exact app _ _ hob
      ·split at hm
       ·cases hm
       ·simp only[Option.map_eq_some_iff,Prod.mk.injEq] at hm;obtain⟨q,_,_,rfl,_⟩:=hm;exact app _ _ hob
      ·rename_i k0 n hb1 hb2 hd;rw[hd] at hw;simp only at hw;split at hw
       ·cases hw
       rename_i hnf;simp only[Option.some.injEq] at hw;subst hw;have hne:k0≠k:=fun h=>hk (by simp[h])
       have hob':∀x,getOb (H.set k0 x) k=some ob:=fun x=>by rw[getOb_set_ne hne];exact hob
       split at hm
       ·split at hm
        ·simp only[Option.map_eq_some_iff,Prod.mk.injEq] at hm;obtain⟨q,_,_,rfl,_⟩:=hm;exact app _ _ (hob' _)
        ·cases hm
       ·split at hm
        ·simp only[Option.map_eq_some_iff,Prod.mk.injEq] at hm;obtain⟨q,_,_,rfl,_⟩:=hm;exact app _ _ (hob' _)
        ·cases hm
       ·rename_i hf;exact absurd hf (hnf _ _ _ _ _)
       ·cases hm
      ·cases hm
     ·cases hm
    ·cases hm
   ·cases hm
  ·cases he
 ·rename_i t a x;unfold evOp0 at he;simp only[evVal] at he;split at he
  ·rename_i r hm;simp only[Option.some.injEq] at he;subst he;simp only[evMem,Option.map_eq_some_iff] at hm;obtain⟨q,hq,hq2⟩:=hm;simp only[Prod.mk.injEq] at hq2;obtain⟨_,rfl,_⟩:=hq2;split at hw
   ·rename_i k0 i j ha;have hne:k0≠k:=fun h=>by
     subst h;split at hw
     ·split at hw
      ·simp only[Option.some.injEq] at hw;subst hw;simp at hk
      ·cases hw
     ·simp only[Option.some.injEq] at hw;subst hw;simp at hk
    rw[ha] at hq;simp only[evStore] at hq;split at hq
    ·split at hq
     ·simp only[Option.some.injEq] at hq;subst hq;simp only;rw[getOb_set_ne hne];exact hob
     ·cases hq
    ·split at hq
     ·simp only[Option.some.injEq] at hq;subst hq;simp only;rw[getOb_set_ne hne];exact hob
     ·cases hq
    ·rename_i hf _ _ _;rw[hf] at hw;simp only at hw;split at hq
     ·split at hq
      ·simp only[Option.some.injEq] at hq;subst hq;simp only;rw[getOb_set_ne hne];exact hob
      ·rename_i hcl;rw[hcl] at hw;cases hw
     ·cases hq
    ·cases hq
   ·rename_i k0 v i j z a1 b1 ha;simp only[Option.some.injEq] at hw;subst hw;have hne:k0≠k:=fun h=>hk (by simp[h])
    rw[ha] at hq;simp only[evStore] at hq;split at hq
    ·split at hq
     ·simp only[Option.some.injEq] at hq;subst hq;simp only;rw[getOb_set_ne hne];exact hob
     ·cases hq
    ·cases hq
   ·cases hw
  ·cases he
 ·rename_i x args argTypes;have e1:evVal P s H (.call {callee:=.value x,args:=args,argTypes:=argTypes})=none:=rfl;have e2:evMem P s H (.call {callee:=.value x,args:=args,argTypes:=argTypes})=none:=rfl;unfold evOp0 at he;simp only[e1,e2] at he;have key:∀f cs,fnOf s x=some (f,cs)->evEff G H f (args.toList.map (opT s)++cs)=some (y,H',side)->getOb H' k=some ob:=fun f cs hf hv=>by
   rw[hf] at hw;simp only at hw;generalize args.toList.map (opT s)++cs=as at hw hv;split at hw
   ·cases hw
   rename_i hnp;simp only[Option.some.injEq] at hw;subst hw;unfold evEff at hv;split at hv
   ·split at hv
    ·exact absurd rfl (hnp _ _ _ _ _ _)
    ·unfold evEffAt at hv;split at hv
     ·split at hv
      ·split at hv
       ·simp only[Option.some.injEq,Prod.mk.injEq] at hv;obtain⟨_,rfl,_⟩:=hv;exact appK _ _ _ (by rw[setObs_keep hk];exact hob)
       ·cases hv
      ·cases hv
     ·cases hv
   ·split at hv
    ·exact evMk_ext hv k ob hob
    ·split at hv
     ·unfold evFz at hv;split at hv
      ·split at hv
       ·simp only[Option.some.injEq,Prod.mk.injEq] at hv;obtain⟨_,rfl,_⟩:=hv;rw[dropObs_keep hk];exact hob
       ·cases hv
      ·cases hv
     ·cases hv
  have pure:∀as f,(evPure G H f as).map (fun r=>(r.1,H,r.2))=some (y,H',side)->getOb H' k=some ob:=fun as f hv=>by
   rw[Option.map_eq_some_iff] at hv;obtain⟨q,_,hq⟩:=hv;simp only[Prod.mk.injEq] at hq;obtain⟨_,rfl,_⟩:=hq;exact hob
  split at he
  ·split at he
   ·rename_i f _;exact key f [] rfl (by rw[List.append_nil];exact he)
   ·split at he
    ·rename_i f cs hf;split at he
     ·exact key f cs hf he
     ·exact pure _ _ he
    ·cases he
  ·split at he
   ·exact pure _ _ he
   ·cases he
 ·cases hw

theorem evTmp_turn{op:Op}{y:T}{H1:Heap}{side:Option Prop}(ht:tmpS G op=true)(he:evOp P G s H op=some (y,H1,side)):H1=H/\evOp P G s H' op=some (y,H',side):=by
 unfold evOp at he ⊢;rw[ht] at he ⊢;simp only at he ⊢;split at he
 ·rename_i t p hv;simp only[Option.some.injEq,Prod.mk.injEq] at he;obtain⟨rfl,rfl,rfl⟩:=he;exact⟨rfl,rfl⟩
 ·cases he

theorem evOp_0{op:Op}(ht:tmpS G op=false):evOp P G s H op=evOp0 P G s H op:=by unfold evOp;rw[ht]
theorem stays_0{op:Op}(ht:tmpS G op=false):stays G op=stays0 G op:=by unfold stays;rw[ht]

theorem evOp_ext(h:HExt H H'){op:Op}{y:T}{H1:Heap}{side:Option Prop}(hst:stays G op=true)(he:evOp P G s H op=some (y,H1,side)):evOp P G s H' op=some (y,H',side):=by
 cases ht:tmpS G op with
 |true=>exact(evTmp_turn ht he).2
 |false=>rw[evOp_0 ht] at he ⊢;rw[stays_0 ht] at hst;exact evOp0_ext h hst he

theorem evOp_pure{op:Op}{y:T}{H1:Heap}{side:Option Prop}(hp:pureB op=true)(he:evOp P G s H op=some (y,H1,side)):evOp P G s H' op=some (y,H',side):=by
 cases ht:tmpS G op with
 |true=>exact(evTmp_turn ht he).2
 |false=>rw[evOp_0 ht] at he ⊢;exact evOp0_pure hp he

theorem grow_ext{op:Op}{y:T}{side:Option Prop}(hg:growB G op=true)(he:evOp P G s H op=some (y,H',side)):HExt H H':=by
 cases ht:tmpS G op with
 |true=>rw[(evTmp_turn (H':=H) ht he).1];exact fun k ob hk=>hk
 |false=>rw[evOp_0 ht] at he;exact grow0_ext hg he

theorem evMk_same{c:List T->Option (T×Heap×Option Prop)}{args:List T}{y:T}{side:Option Prop}(he:evMk c H args=some (y,H',side)):
  ∃os,H'=H++os/\∀H2:Heap,H2.length=H.length->HExt H H2->evMk c H2 args=some (y,H2++os,side):=by
 unfold evMk at he;split at he
 ·rename_i bs hbs;split at he
  ·rename_i r H0 p hc;split at he
   ·rename_i r' os hr hos;simp only[Option.some.injEq,Prod.mk.injEq] at he;obtain⟨rfl,rfl,rfl⟩:=he;refine⟨os,rfl,fun H2 hl hx=> ?_⟩
    unfold evMk;rw[mapO_ext (fun a b hb=>borrow_ext hx 6 hb) hbs]
    simp only[hc,hl,hr,hos]
   ·cases he
  ·cases he
 ·cases he

theorem bsl_same{op:Op}{y:T}{side:Option Prop}(hf:isBSl op=true)(he:evOp P G s H op=some (y,H',side)):
  ∃os,H'=H++os/\∀H2:Heap,H2.length=H.length->HExt H H2->evOp P G s H2 op=some (y,H2++os,side):=by
 unfold isBSl at hf;split at hf
 case h_2=>cases hf
 rename_i t len parts;cases ht:tmpS G (.buildSlice t len parts) with
 |true=>
  unfold evOp at he ⊢;rw[ht] at he ⊢;simp only[] at he ⊢;cases hz:evTmp P s (.buildSlice t len parts) with
  |none=>rw[hz] at he;cases he
  |some z=>
   rw[hz] at he;simp only[Option.some.injEq,Prod.mk.injEq] at he;obtain⟨h2,h3,h4⟩:=he;exact⟨[],by rw[List.append_nil];exact h3.symm,fun H2 _ _=>by simp only[Option.some.injEq,Prod.mk.injEq,List.append_nil];exact⟨h2,trivial,h4⟩⟩
 |false=>
  rw[evOp_0 ht] at he;have e1:∀H,evVal P s H (.buildSlice t len parts)=none:=fun H=>rfl
  have key:∀H2,evOp0 P G s H2 (.buildSlice t len parts)=evBuildSlice P s H2 t len parts:=fun H2=>by
   unfold evOp0;simp only[e1];show(match evBuildSlice P s H2 t len parts with|some r=>some r|none=>_)=_
   cases evBuildSlice P s H2 t len parts<;>rfl
  rw[key] at he
  suffices hh:∃os,H'=H++os/\∀H2:Heap,H2.length=H.length->evBuildSlice P s H2 t len parts=some (y,H2++os,side) by
   obtain⟨os,h1,h2⟩:=hh;exact⟨os,h1,fun H2 hl _=>by rw[evOp_0 ht,key];exact h2 H2 hl⟩
  unfold evBuildSlice at he ⊢;split at he
  case h_2=>cases he
  split at he
  case h_2=>cases he
  split at he
  case h_2=>cases he
  split at he
  case h_2=>cases he
  split at he
  ·simp only[Option.map_eq_some_iff,Prod.mk.injEq] at he;obtain⟨ns,h1,rfl,rfl,rfl⟩:=he;refine⟨_,rfl,fun H2 hl=> ?_⟩
   simp only[*,Option.map_some]
  ·split at he
   case h_2=>cases he
   simp only[Option.some.injEq,Prod.mk.injEq] at he;obtain⟨rfl,rfl,rfl⟩:=he;refine⟨_,rfl,fun H2 hl=> ?_⟩
   simp only[*]

theorem mk_same{op:Op}{y:T}{side:Option Prop}(hf:floatB G op=true)(he:evOp P G s H op=some (y,H',side)):
  ∃os,H'=H++os/\∀H2:Heap,H2.length=H.length->HExt H H2->evOp P G s H2 op=some (y,H2++os,side):=by
 unfold floatB at hf;rw[Bool.or_eq_true] at hf;rcases hf with hf|hf
 ·exact bsl_same hf he
 simp only[Bool.and_eq_true] at hf;obtain⟨hv,hg⟩:=hf;unfold isCallV at hv;split at hv
 case h_2=>cases hv
 rename_i x args at_;have ht:tmpS G (.call {callee:=.value x,args:=args,argTypes:=at_})=false:=rfl;rw[evOp_0 ht] at he
 suffices hh:∃os,H'=H++os/\∀H2:Heap,H2.length=H.length->HExt H H2->evOp0 P G s H2 (.call {callee:=.value x,args:=args,argTypes:=at_})=some (y,H2++os,side) by
  obtain⟨os,h1,h2⟩:=hh;exact⟨os,h1,fun H2 hl hx=>by rw[evOp_0 ht];exact h2 H2 hl hx⟩
 have e1:∀H,evVal P s H (.call {callee:=.value x,args:=args,argTypes:=at_})=none:=fun H=>rfl
 have e2:∀H,evMem P s H (.call {callee:=.value x,args:=args,argTypes:=at_})=none:=fun H=>rfl
 unfold evOp0 at he ⊢;simp only[e1,e2] at he ⊢;simp only[growB] at hg;unfold isMk at hg;split at hg
 ·rename_i f;split at hg
  ·rename_i cn hcn;have h1:isEff G (.func f)=true:=by
    simp only[isEff,hcn];cases cn<;>first|rfl|(cases hg)
   have h2:geff G f=none:=by
    cases cn<;>first|(cases hg;done)|skip
    ·exact geff_mk hcn
    ·exact(geff_none hcn rfl).1
   simp only[h1] at he ⊢;unfold evEff at he ⊢;rw[h2] at he;simp only[h2] at he ⊢;split at he
   ·rename_i c hc;obtain⟨os,e3,e4⟩:=evMk_same he;exact⟨os,e3,fun H2 hl hx=>e4 H2 hl hx⟩
   ·rw[gfz_none hcn (by cases cn<;>first|rfl|(cases hg))] at he
    cases he
  ·cases hg
 ·cases hg

theorem mapO_mem{α β:Type}{f:α->Option β}:∀{l:List α} {q:List β},mapO f l=some q->∀a ∈ l,∃b,f a=some b
 | [],_,_,a,ha=>by cases ha
 |x::l,q,h,a,ha=>by
  simp only[mapO] at h;split at h
  ·rename_i hb hr;rcases List.mem_cons.1 ha with rfl|ha
   ·exact⟨_,hb⟩
   ·exact mapO_mem hr a ha
  ·cases h

theorem reach_seen{k:Nat}:∀(d:Nat) (r seen:List Nat),k ∈ seen->k ∈ reach H d r seen
 |0,_,_,h=>h
 |_+1,[],_,h=>h
 |d+1,x::r,seen,h=>by
  unfold reach;split
  ·exact reach_seen d r seen h
  ·exact reach_seen d _ _ (List.mem_append_left _ h)

theorem reach_ext(hx:HExt H H'):∀(d:Nat) (r seen:List Nat),(∀k ∈ reach H d r seen,∃ob,getOb H k=some ob)->reach H' d r seen=reach H d r seen
 |0,_,_,_=>rfl
 |_+1,[],_,_=>rfl
 |d+1,x::r,seen,h=>by
  unfold reach at h ⊢;cases hm:memN x seen with
  |true=>
   rw[hm] at h;exact reach_ext hx d r seen h
  |false=>
   rw[hm] at h;simp only at h ⊢;obtain⟨ob,hob⟩:=h x (reach_seen d _ _ (List.mem_append_right _ (List.mem_singleton.2 rfl)));rw[hx x ob hob,hob];rw[hob] at h;exact reach_ext hx d _ _ h

theorem eff_at{c:List T->Heap->Option (T×Heap×Option Prop)}{args:List T}{y:T}{side:Option Prop}{r:List Nat}(he:evEffAt c H (reach H 64 r []) args=some (y,H',side)):
  ∃ks os os2,H'=setObs H ks os++os2/\(∀k ∈ ks,∃ob,getOb H k=some ob)/\∀H2:Heap,H2.length=H.length->HExt H H2->evEffAt c H2 (reach H2 64 r []) args=some (y,setObs H2 ks os++os2,side):=by
 unfold evEffAt at he;split at he
 ·rename_i as obs hnd has hobs;split at he
  ·rename_i r0 H0 p hc;split at he
   ·rename_i r' os hle hr hos;simp only[Option.some.injEq,Prod.mk.injEq] at he;obtain⟨rfl,rfl,rfl⟩:=he;have hk:∀k ∈ reach H 64 r [],∃ob,getOb H k=some ob:=fun k hk=>by
     obtain⟨b,hb⟩:=mapO_mem hobs k hk;cases ho:getOb H k with
     |none=>rw[ho] at hb;cases hb
     |some ob=>exact⟨ob,rfl⟩
    refine⟨_,_,_,rfl,hk,fun H2 hl hx=> ?_⟩
    rw[reach_ext hx 64 r [] hk];unfold evEffAt;have h2:=mapO_ext (g:=fun k=>(getOb H2 k).bind (obF fun k=>idxOf k (reach H 64 r []) 0)) (fun a b hb=>by
     cases ho:getOb H a with
     |none=>rw[ho] at hb;cases hb
     |some ob=>rw[hx a ob ho];rw[ho] at hb;exact hb) hobs
    simp only[hnd,has,h2,hc,hl,hle,hr,hos]
   ·cases he
  ·cases he
 ·cases he

theorem ef_find{G:Gam}{f:FuncId}{c:Con}(h:gfind G f=some c)(hc:c.isEf=true):(∃d,geff G f=some d)∨(geff G f=none/\gmk G f=none/\gfz G f=none):=by
 induction G with
 |nil=>cases h
 |cons x G ih=>
  obtain⟨g,d⟩:=x;simp only[gfind] at h;simp only[geff,gmk,gfz];split at h
  ·simp only[Option.some.injEq] at h;subst h;cases d<;>first|exact .inl ⟨_,rfl⟩|exact .inr ⟨rfl,rfl,rfl⟩|(cases hc)
  ·exact ih h

theorem evEff_at{c:List T->Heap->Option (T×Heap×Option Prop)}{f:FuncId}(hc:geff G f=some c){l:List T}(hnp:∀k v i j n r,l≠ .posl k v i j n::r):evEff G H f l=evEffAt c H (reach H 64 (idsT l) []) l:=by
 unfold evEff;rw[hc];cases l with
 |nil=>rfl
 |cons t r=>cases t<;>first|rfl|exact absurd rfl (hnp _ _ _ _ _ _)

theorem eff_same{op:Op}{y:T}{side:Option Prop}{W:List Nat}(hf:effB G op=true)(hw:writeB H s op=some W)(he:evOp P G s H op=some (y,H',side)):
  ∃ks os os2,H'=setObs H ks os++os2/\(∀k ∈ ks,∃ob,getOb H k=some ob)/\∀H2:Heap,H2.length=H.length->HExt H H2->evOp P G s H2 op=some (y,setObs H2 ks os++os2,side):=by
 unfold effB at hf;split at hf
 case h_2=>cases hf
 rename_i x args at_;have ht:tmpS G (.call {callee:=.value x,args:=args,argTypes:=at_})=false:=rfl;unfold isEf at hf;split at hf
 case h_2=>cases hf
 rename_i f;have e1:∀H,evVal P s H (.call {callee:=.value (.func f),args:=args,argTypes:=at_})=none:=fun H=>rfl
 have e2:∀H,evMem P s H (.call {callee:=.value (.func f),args:=args,argTypes:=at_})=none:=fun H=>rfl
 cases hcn:gfind G f with
 |none=>rw[hcn] at hf;cases hf
 |some cn=>
  rw[hcn] at hf;have hie:isEff G (.func f)=true:=by
   simp only[isEff,hcn];cases cn<;>first|rfl|(cases hf)
  have key:∀H,evOp P G s H (.call {callee:=.value (.func f),args:=args,argTypes:=at_})=evEff G H f (args.toList.map (opT s)):=fun H=>by
   rw[evOp_0 ht];unfold evOp0;simp only[e1,e2,hie]
  rw[key] at he;have hnp:∀k v i j n r,args.toList.map (opT s)≠ .posl k v i j n::r:=fun k v i j n r hp=>by
   unfold writeB at hw;simp only[fnOf,List.append_nil] at hw;rw[hp] at hw;cases hw
  rcases ef_find hcn (by simpa using hf) with⟨c,hc⟩|⟨h1,h2,h3⟩
  ·rw[evEff_at hc hnp] at he;obtain⟨ks,os,os2,a1,a2,a3⟩:=eff_at he;exact⟨ks,os,os2,a1,a2,fun H2 hl hx=>by rw[key,evEff_at hc hnp];exact a3 H2 hl hx⟩
  ·unfold evEff at he;rw[h1,h2,h3] at he;cases he

theorem evAl_ok{op:Op}{r:Nat}{y:T}{side:Option Prop}(he:evAl P s H op r=some (y,H',side)):getOb H r=none/\r<H.length/\∃ob,H'=H.set r (some ob):=by
 unfold evAl at he;split at he
 ·split at he
  ·split at he
   ·rename_i h3 h4;simp only[Option.some.injEq,Prod.mk.injEq] at he;exact⟨h3,Nat.le_of_ble_eq_true h4,_,he.2.1.symm⟩
   ·cases he
  ·cases he
 ·split at he
  ·split at he
   ·split at he
    ·split at he
     ·split at he
      ·rename_i h3 h4;simp only[Option.some.injEq,Prod.mk.injEq] at he;exact⟨h3,Nat.le_of_ble_eq_true h4,_,he.2.1.symm⟩
      ·cases he
     ·cases he
    ·cases he
   ·cases he
  ·cases he
 ·cases he

theorem evAl_ext{op:Op}{r:Nat}{y:T}{side:Option Prop}(he:evAl P s H op r=some (y,H',side)):HExt H H':=by
 obtain⟨h3,h4,_,rfl⟩:=evAl_ok he;intro k ob hk;rw[getOb_set h4];split
 ·rename_i e;rw[e,h3] at hk;cases hk
 ·exact hk

theorem evOp_dep{op:Op}{y:T}{H1:Heap}{side:Option Prop}{R:List Nat}(hr:readB s op=some R)(hst:stays G op=true)(hx:ExtOn R H H')(he:evOp P G s H op=some (y,H1,side)):evOp P G s H' op=some (y,H',side):=by
 cases ht:tmpS G op with
 |true=>exact(evTmp_turn ht he).2
 |false=>rw[evOp_0 ht] at he ⊢;rw[stays_0 ht] at hst;exact evOp0_dep hr hst hx he

theorem write_keep{op:Op}{y:T}{side:Option Prop}{W:List Nat}(hw:writeB H s op=some W)(he:evOp P G s H op=some (y,H',side)):∀k,k ∉ W->∀ob,getOb H k=some ob->getOb H' k=some ob:=by
 cases ht:tmpS G op with
 |true=>rw[(evTmp_turn (H':=H) ht he).1];exact fun k _ ob hk=>hk
 |false=>rw[evOp_0 ht] at he;exact write0_keep hw he

end
end Go.SS
/- A calculus of symbolic states: a region, in whatever order: the run in the text's order, said operation by operation. -/
namespace Go.SS
open Go.RowKit

structure St where
 s:Slots
 ps:Paths
 hist:List (Nat×Heap)

structure StepOk(P:Program)(G:Gam)(nt:Nat)(all:Array Oper)(b:Nat)(H0:Heap)(i:Nat)(o:Oper)(st st':St)(y:T)(p:Path)(m:Nat):Prop where
 fresh:freshO st.ps o.dst=true
 dst:dstOk nt o.dst=true
 s:st'.s=putS st.s o.dst y
 paths:pathsOk st.ps p o.op=true
 plain:o.guard=none->p=[]/\st'.ps=st.ps
 guarded:∀j want,o.guard=some (j,want)->∃g x,(all[j]?).bind (·.dst)=some g/\slk st.s g= .bool x/\j<i/\p=(g,want)::pathOf st.ps g/\st'.ps=putP st.ps o.dst p/\stays G o.op=true/\guardOk st.ps g o.dst=true
 reader:stays G o.op=true->st'.hist=st.hist/\∃G' H' side,Good P G G'/\evOp P G' st.s (hAt (flB G) all H0 m st.hist) o.op=some (y,H',side)/\(PathH st.s p->side.getD True)
 writer:stays G o.op=false->isAlB (flB G) o=false->∃G' H' side,Good P G G'/\evOp P G' st.s (hCur H0 st.hist) o.op=some (y,H',side)/\st'.hist=(i,H')::st.hist/\side.getD True
 al:isAlB (flB G) o=true->∃H' side,evAl P st.s (hCur H0 st.hist) o.op (plA (flB G) b all i)=some (y,H',side)/\st'.hist=(i,H')::st.hist/\side.getD True

section
variable {P:Program} {G:Gam} {nt:Nat} {all:Array Oper} {b:Nat} {H0:Heap} {K:Slots->Heap->Prop}

theorem mask_ok{tab:List Nat}{j:Nat}:∀{es:List Edge},Nat.testBit (maskOf tab es) j=true->∃e ∈ es,Region.binds .any e=true/\(e.on=j∨Nat.testBit (tab.getD e.on 0) j=true):=by
 intro es;induction es with
 |nil=>intro h;simp[maskOf] at h
 |cons e es ih=>
  intro h;simp only[maskOf] at h;split at h
  ·rename_i hb;have h':Nat.testBit ((1<<<e.on|||tab.getD e.on 0)|||maskOf tab es) j=true:=h;rw[Nat.testBit_or,Nat.testBit_or,Bool.or_eq_true,Bool.or_eq_true] at h';rcases h' with(h1|h1)|h1
   ·refine⟨e,by simp,hb,.inl ?_⟩
    rw[Nat.one_shiftLeft,Nat.testBit_two_pow] at h1
    simpa using h1
   ·exact⟨e,by simp,hb,.inr h1⟩
   ·obtain⟨e',he,h2⟩:=ih h1;exact⟨e',by simp[he],h2⟩
  ·obtain⟨e',he,h2⟩:=ih h;exact⟨e',by simp[he],h2⟩

theorem al_stays{o:Oper}(h:isAlB (flB G) o=true):stays G o.op=false/\o.guard=none:=by
 unfold isAlB at h;split at h
 ·cases h
 rename_i hg;refine⟨?_,hg⟩
 split at h
 ·rename_i t ho;rw[ho];rfl
 ·rename_i args at_ ho;rw[ho];have h8:Nat.ble 8 (tmpN G)=true:=by
   have h9:tmpN G=8:=(Nat.eq_of_beq_eq_true h).symm;rw[h9];rfl
  have ht:tmpS G (.call {callee:=.builtin .append,args:=args,argTypes:=at_})=false:=by
   show appS (tmpN G) args.toList=false;unfold appS;rw[h8]
  unfold stays;rw[ht];rfl
 ·cases h

theorem trace(hG:GamOk P G)(hGc:∀x ∈ G,Callable P x.1):∀(rest:List Oper) (i:Nat) (earlier:List (Nat×Oper×RW)) (tab:List Nat) (f0:Nat->RW) (s:Slots) (ps:Paths) (hist:List (Nat×Heap)),rest=all.toList.drop i->i<=all.size->tab.length=i->
  (∀k o,k<i->all[k]? =some o->(k,o,f0 k) ∈ earlier)->vcAny P G nt all b H0 rest i earlier tab s ps hist K->
  ∃(S:Nat->St) (y:Nat->T) (p:Nat->Path) (m:Nat->Nat) (f:Nat->RW),S i=⟨s,ps,hist⟩/\(∀k,k<i->m k=tab.getD k 0/\f k=f0 k)/\
   (∀k o,i<=k->all[k]? =some o->StepOk P G nt all b H0 k o (S k) (S (k+1)) (y k) (p k) (m k)/\edgesOk k o=true/\(f k=rwOf (hCur H0 (S k).hist) (S k).s o.op/\∀k' o',k'<k->all[k']? =some o'->pairOk G all (m k) k' o' (f k') o (f k)=true)/\
    (∀j,Nat.testBit (m k) j=true->∃e ∈ o.after.toList,Region.binds .any e=true/\e.on<k/\(e.on=j∨Nat.testBit (m e.on) j=true)))/\
   K (endS (S all.size).s (S all.size).ps) (hCur H0 (S all.size).hist):=by
 intro rest;induction rest with
 |nil=>
  intro i earlier tab f0 s ps hist hrest hi htab hear h;have hsz:i=all.size:=by
   have:=congrArg List.length hrest;simp at this;omega
  subst hsz;refine⟨fun _=>⟨s,ps,hist⟩,fun _=>.und,fun _=>[],fun k=>tab.getD k 0,f0,rfl,fun k _=>⟨rfl,rfl⟩,fun k o hk ho=> ?_,h⟩
  have:=(Array.getElem?_eq_some_iff.1 ho).1
  omega
 |cons o rest ih=>
  intro i earlier tab f0 s ps hist hrest hi htab hear h;have hlt:i<all.size:=by
   have:=congrArg List.length hrest;simp at this;omega
  have hdrop:all.toList.drop i=all[i]::all.toList.drop (i+1):=by
   rw[List.drop_eq_getElem_cons (by simpa using hlt)]
   simp
  rw[hdrop] at hrest;obtain⟨ho,hrest'⟩:=List.cons.inj hrest;have hoi:all[i]? =some o:=by rw[Array.getElem?_eq_getElem hlt,ho]
  unfold vcAny at h;split at h
  ·exact h.elim
  rename_i hst;simp only[Bool.and_eq_true] at hst;obtain⟨hedge,hpair⟩:=hst;have hpair':∀k' o',k'<i->all[k']? =some o'->pairOk G all (maskOf tab o.after.toList) k' o' (f0 k') o (rwOf (hCur H0 hist) s o.op)=true:=fun k' o' hk ho'=>List.all_eq_true.1 hpair _ (hear k' o' hk ho')
  have go:∀(st':St) (y:T) (p:Path),StepOk P G nt all b H0 i o ⟨s,ps,hist⟩ st' y p (maskOf tab o.after.toList)->
    vcAny P G nt all b H0 rest (i+1) ((i,o,rwOf (hCur H0 hist) s o.op)::earlier) (tab++[maskOf tab o.after.toList]) st'.s st'.ps st'.hist K->∃(S:Nat->St) (y:Nat->T) (p:Nat->Path) (m:Nat->Nat) (f:Nat->RW),S i=⟨s,ps,hist⟩/\(∀k,k<i->m k=tab.getD k 0/\f k=f0 k)/\
   (∀k o,i<=k->all[k]? =some o->StepOk P G nt all b H0 k o (S k) (S (k+1)) (y k) (p k) (m k)/\edgesOk k o=true/\(f k=rwOf (hCur H0 (S k).hist) (S k).s o.op/\∀k' o',k'<k->all[k']? =some o'->pairOk G all (m k) k' o' (f k') o (f k)=true)/\
    (∀j,Nat.testBit (m k) j=true->∃e ∈ o.after.toList,Region.binds .any e=true/\e.on<k/\(e.on=j∨Nat.testBit (m e.on) j=true)))/\
   K (endS (S all.size).s (S all.size).ps) (hCur H0 (S all.size).hist):=by
   intro st' y p hstep hvc;obtain⟨S,y',p',m,f,hS,hmf,hall,hK⟩:=ih (i+1) _ _ (fun k=>if k=i then rwOf (hCur H0 hist) s o.op else f0 k) _ _ _ hrest' hlt (by simp[htab]) (fun k o' hk ho'=>by
    by_cases hki:k=i
    ·subst hki;rw[hoi] at ho';simp only[Option.some.injEq] at ho';subst ho';simp
    ·rw[if_neg hki];exact List.mem_cons_of_mem _ (hear k o' (by omega) ho')) hvc
   have hm:∀k,k<i+1->m k=(tab++[maskOf tab o.after.toList]).getD k 0:=fun k hk=>(hmf k hk).1
   have hfi:f i=rwOf (hCur H0 hist) s o.op:=by rw[(hmf i (by omega)).2,if_pos rfl]
   have hfk:∀k,k<i->f k=f0 k:=fun k hk=>by rw[(hmf k (by omega)).2,if_neg (by omega)]
   have hmi:m i=maskOf tab o.after.toList:=by
    rw[hm i (by omega)]
    simp[List.getD_eq_getElem?_getD,←htab]
   have hmk:∀k,k<i->m k=tab.getD k 0:=fun k hk=>by
    rw[hm k (by omega)]
    simp only[List.getD_eq_getElem?_getD]
    rw[List.getElem?_append_left (by omega)]
   refine⟨fun k=>if k<=i then⟨s,ps,hist⟩ else S k,fun k=>if k<=i then y else y' k,fun k=>if k<=i then p else p' k,m,f,by simp,fun k hk=>⟨hmk k hk,hfk k hk⟩,fun k o' hk ho'=> ?_,?_⟩
   ·by_cases hki:k=i
    ·subst hki;rw[hoi] at ho';simp only[Option.some.injEq] at ho';subst ho';have e1:(if k<=k then(⟨s,ps,hist⟩:St) else S k)=⟨s,ps,hist⟩:=if_pos (Nat.le_refl _)
     have e2:(if k+1<=k then(⟨s,ps,hist⟩:St) else S (k+1))=st':=by rw[if_neg (by omega),hS]
     have e3:(if k<=k then y else y' k)=y:=if_pos (Nat.le_refl _)
     have e4:(if k<=k then p else p' k)=p:=if_pos (Nat.le_refl _)
     simp only[e1,e2,e3,e4,hmi];refine⟨hstep,hedge,⟨hfi,fun k' o' hk' ho'=>by rw[hfi,hfk k' hk'];exact hpair' k' o' hk' ho'⟩,fun j hj=> ?_⟩
     obtain⟨e,he,hb,hor⟩:=mask_ok hj;have hle:e.on<k:=by
      have:=List.all_eq_true.1 hedge e he;simp only[hb,Bool.not_true,Bool.false_or] at this;exact Nat.le_of_ble_eq_true this
     refine⟨e,he,hb,hle,?_⟩
     rcases hor with h1|h1
     ·exact .inl h1
     ·exact .inr (by rw[hmk _ hle];exact h1)
    ·have h1:=hall k o' (by omega) ho'
     have e1:(if k<=i then(⟨s,ps,hist⟩:St) else S k)=S k:=if_neg (by omega)
     have e2:(if k+1<=i then(⟨s,ps,hist⟩:St) else S (k+1))=S (k+1):=if_neg (by omega)
     have e3:(if k<=i then y else y' k)=y' k:=if_neg (by omega)
     have e4:(if k<=i then p else p' k)=p' k:=if_neg (by omega)
     simp only[e1,e2,e3,e4];exact h1
   ·have e1:(if all.size<=i then(⟨s,ps,hist⟩:St) else S all.size)=S all.size:=if_neg (by omega)
    simp only[e1];exact hK
  have hnil:∀(s:Slots),PathH s []:=fun s q hq=>by cases hq
  split at h
  ·rename_i hg;split at h
   ·exact h.elim
   rename_i hchk;simp only[Bool.and_eq_true] at hchk;obtain⟨⟨hpo,hfr⟩,hdst⟩:=hchk;split at h
   ·rename_i hal;have hsty:=(al_stays hal).1;split at h
    ·rename_i y H' side he;obtain⟨hs,h⟩:=andP_ok h;exact go ⟨putS s o.dst y,ps,(i,H')::hist⟩ y [] ⟨hfr,hdst,rfl,hpo,fun _=>⟨rfl,rfl⟩,fun j want hgj=>by(rw[hg] at hgj;cases hgj),fun hn=>by(rw[hsty] at hn;cases hn),fun _ hn=>by(rw[hal] at hn;cases hn),fun _=>⟨H',side,he,rfl,hs (hnil _)⟩⟩ h
    ·exact h.elim
   ·rename_i hal;split at h
    ·rename_i hsty;obtain⟨G',hGG,h⟩:=relP_ok hG hGc h;split at h
     ·rename_i t H' side he;obtain⟨hs,hrest⟩:=andP_ok h;exact go ⟨putS s o.dst t,ps,hist⟩ t [] ⟨hfr,hdst,rfl,hpo,fun _=>⟨rfl,rfl⟩,fun j want hgj=>by(rw[hg] at hgj;cases hgj),fun _=>⟨rfl,G',H',side,hGG,he,fun _=>hs (hnil _)⟩,fun hn=>by(rw[hsty] at hn;cases hn),fun ht'=>by(rw[hal] at ht';cases ht')⟩ hrest
     ·exact h.elim
    ·rename_i hsty;obtain⟨G',hGG,h⟩:=relP_ok hG hGc h;split at h
     ·rename_i t H' side he;obtain⟨hs,hrest⟩:=andP_ok h;exact go ⟨putS s o.dst t,ps,(i,H')::hist⟩ t [] ⟨hfr,hdst,rfl,hpo,fun _=>⟨rfl,rfl⟩,fun j want hgj=>by(rw[hg] at hgj;cases hgj),fun hn=>by(rw[hsty] at hn;cases hn),fun _ _=>⟨G',H',side,hGG,he,rfl,hs (hnil _)⟩,fun ht'=>by(rw[hal] at ht';cases ht')⟩ hrest
     ·exact h.elim
  ·rename_i j want hg;split at h
   ·rename_i g hgd;split at h
    ·rename_i x hx;split at h
     ·exact h.elim
     rename_i hchk;simp only[Bool.and_eq_true] at hchk;obtain⟨⟨⟨⟨⟨hji,hpo⟩,hfr⟩,hdst⟩,hsty⟩,hgk⟩:=hchk;obtain⟨G',hGG,h⟩:=relP_ok hG hGc h;split at h
     ·rename_i t H' side he;obtain⟨hs,hrest⟩:=andP_ok h;exact go ⟨putS s o.dst t,putP ps o.dst ((g,want)::pathOf ps g),hist⟩ t ((g,want)::pathOf ps g) ⟨hfr,hdst,rfl,hpo,fun hn=>by(rw[hg] at hn;cases hn),
       fun j' want' hgj=>by
        rw[hg] at hgj;simp only[Option.some.injEq,Prod.mk.injEq] at hgj;obtain⟨rfl,rfl⟩:=hgj;exact⟨g,x,hgd,hx,Nat.le_of_ble_eq_true hji,rfl,rfl,hsty,hgk⟩,
       fun _=>⟨rfl,G',H',side,hGG,he,hs⟩,fun hn=>by(rw[hsty] at hn;cases hn),fun ht'=>by(rw[(al_stays ht').2] at hg;cases hg)⟩ hrest
     ·exact h.elim
    ·exact h.elim
   ·exact h.elim

end
end Go.SS
/- A calculus of symbolic states: a region, in whatever order. -/
namespace Go.SS
open Go.RowKit

structure Trace(P:Program)(G:Gam)(nt:Nat)(all:Array Oper)(b:Nat)(H0:Heap)(s0:Slots)(S:Nat->St)(y:Nat->T)(p:Nat->Path)(m:Nat->Nat):Prop where
 start:S 0=⟨s0,[],[]⟩
 step:∀k o,all[k]? =some o->StepOk P G nt all b H0 k o (S k) (S (k+1)) (y k) (p k) (m k)
 edge:∀k o,all[k]? =some o->∀e ∈ o.after.toList,Region.binds .any e=true->e.on<k
 pair:∀k o k' o',all[k]? =some o->all[k']? =some o'->k'<k->pairOk G all (m k) k' o' (rwOf (hCur H0 (S k').hist) (S k').s o'.op) o (rwOf (hCur H0 (S k).hist) (S k).s o.op)=true
 mask:∀k o j,all[k]? =some o->Nat.testBit (m k) j=true->∃e ∈ o.after.toList,Region.binds .any e=true/\e.on<k/\(e.on=j∨Nat.testBit (m e.on) j=true)

def PathV(all:Array Oper)(y:Nat->T)(q:Path):Prop:=∀z ∈ q,∃i o x,all[i]? =some o/\o.dst=some z.1/\y i= .bool x/\x=z.2

section
variable {P:Program} {G:Gam} {nt:Nat} {all:Array Oper} {b:Nat} {H0:Heap} {s0:Slots} {S:Nat->St} {y:Nat->T} {p:Nat->Path} {m:Nat->Nat}

theorem Trace.distinct(t:Trace P G nt all b H0 s0 S y p m){i j d:Nat}{o o':Oper}(hi:all[i]? =some o)(hj:all[j]? =some o')(hd:o.dst=some d)(hd':o'.dst=some d):i=j:=by
 rcases Nat.lt_trichotomy i j with h|h|h
 ·have:=t.pair j o' i o hj hi h;simp[pairOk,sameDst,hd,hd'] at this
 ·exact h
 ·have:=t.pair i o j o' hi hj h;simp[pairOk,sameDst,hd,hd'] at this

theorem Trace.slot_none(t:Trace P G nt all b H0 s0 S y p m)(u:Nat):∀k,k<=all.size->(∀j o,j<k->all[j]? =some o->o.dst≠some u)->slk (S k).s u=slk s0 u/\pathOf (S k).ps u=[]:=by
 intro k;induction k with
 |zero=>intro _ _;rw[t.start];exact⟨rfl,rfl⟩
 |succ k ih=>
  intro hk hno;obtain⟨h1,h2⟩:=ih (by omega) (fun j o hj=>hno j o (by omega))
  have ho:=Array.getElem?_eq_getElem (xs:=all) (i:=k) (by omega)
  have hst:=t.step k _ ho;have hne:=hno k _ (by omega) ho
  constructor
  ·rw[hst.s];cases hd:all[k].dst with
   |none=>exact h1
   |some d=>rw[slk_put,if_neg (by rintro rfl;exact hne hd)];exact h1
  ·cases hg:all[k].guard with
   |none=>rw[(hst.plain hg).2];exact h2
   |some gw=>
    obtain⟨g,x,_,_,_,_,hps,_,_⟩:=hst.guarded gw.1 gw.2 hg;rw[hps];cases hd:all[k].dst with
    |none=>exact h2
    |some d=>
     simp only[putP,pathOf];split
     ·rename_i hb;exact absurd (hd.trans (by rw[Nat.eq_of_beq_eq_true hb])) hne
     ·exact h2

theorem Trace.slot_some(t:Trace P G nt all b H0 s0 S y p m){u j:Nat}{o:Oper}(hj:all[j]? =some o)(hd:o.dst=some u):∀k,j<k->k<=all.size->slk (S k).s u=y j/\pathOf (S k).ps u=p j:=by
 intro k;induction k with
 |zero=>intro h;omega
 |succ k ih=>
  intro hjk hk;have ho:=Array.getElem?_eq_getElem (xs:=all) (i:=k) (by omega)
  have hst:=t.step k _ ho;by_cases hjk':j=k
  ·subst hjk';have hst:=t.step j o hj;clear ho;constructor
   ·rw[hst.s,hd,slk_put,if_pos rfl]
   ·have hfr:=hst.fresh;rw[hd] at hfr;obtain⟨hf1,_⟩:=fresh_ok hfr;cases hg:o.guard with
    |none=>rw[(hst.plain hg).2,(hst.plain hg).1];exact hf1
    |some gw=>
     obtain⟨g,x,_,_,_,_,hps,_,_⟩:=hst.guarded gw.1 gw.2 hg;rw[hps,hd];simp[putP,pathOf]
  ·obtain⟨h1,h2⟩:=ih (by omega) (by omega)
   have hne:all[k].dst≠some u:=fun he=>hjk' (t.distinct hj ho hd he)
   constructor
   ·rw[hst.s];cases hd:all[k].dst with
    |none=>exact h1
    |some d=>rw[slk_put,if_neg (by rintro rfl;exact hne hd)];exact h1
   ·cases hg:all[k].guard with
    |none=>rw[(hst.plain hg).2];exact h2
    |some gw=>
     obtain⟨g,x,_,_,_,_,hps,_,_⟩:=hst.guarded gw.1 gw.2 hg;rw[hps];cases hd:all[k].dst with
     |none=>exact h2
     |some d=>
      simp only[putP,pathOf];split
      ·rename_i hb;exact absurd (hd.trans (by rw[Nat.eq_of_beq_eq_true hb])) hne
      ·exact h2

theorem writer_dec(all:Array Oper)(u k:Nat):(∃j o,j<k/\all[j]? =some o/\o.dst=some u)∨(∀j o,j<k->all[j]? =some o->o.dst≠some u):=by
 by_cases h:∃j o,j<k/\all[j]? =some o/\o.dst=some u
 ·exact .inl h
 ·exact .inr fun j o hj ho hd=>h ⟨j,o,hj,ho,hd⟩

theorem Trace.path_lt(t:Trace P G nt all b H0 s0 S y p m):∀j o,all[j]? =some o->∀q ∈ p j,∃i o',i<j/\all[i]? =some o'/\o'.dst=some q.1:=by
 intro j;induction j using Nat.strongRecOn with
 |_ j ih=>
  intro o hj q hq;have hst:=t.step j o hj;cases hg:o.guard with
  |none=>rw[(hst.plain hg).1] at hq;cases hq
  |some gw=>
   obtain⟨g,x,hgd,_,hlt,hp,_,_,_⟩:=hst.guarded gw.1 gw.2 hg;rw[hp] at hq;have hog:∃og,all[gw.1]? =some og/\og.dst=some g:=by
    cases ho:all[gw.1]? with
    |none=>rw[ho] at hgd;cases hgd
    |some og=>rw[ho] at hgd;exact⟨og,rfl,hgd⟩
   obtain⟨og,hog,hdg⟩:=hog;rcases List.mem_cons.1 hq with rfl|hq
   ·exact⟨gw.1,og,hlt,hog,hdg⟩
   ·have hjs:j<=all.size:=Nat.le_of_lt (Array.getElem?_eq_some_iff.1 hj).1
    rw[(t.slot_some hog hdg j hlt hjs).2] at hq;obtain⟨i,o',hi,ho',hd'⟩:=ih gw.1 hlt og hog q hq;exact⟨i,o',by omega,ho',hd'⟩

theorem Trace.pathV(t:Trace P G nt all b H0 s0 S y p m){k:Nat}(hk:k<=all.size){q:Path}(hq:∀z ∈ q,∃i o',i<k/\all[i]? =some o'/\o'.dst=some z.1):PathH (S k).s q↔PathV all y q:=by
 constructor
 ·intro h z hz;obtain⟨i,o',hi,ho',hd'⟩:=hq z hz;obtain⟨x,hx,he⟩:=h z hz;rw[(t.slot_some ho' hd' k hi hk).1] at hx;exact⟨i,o',x,ho',hd',hx,he⟩
 ·intro h z hz;obtain⟨i,o',hi,ho',hd'⟩:=hq z hz;obtain⟨i',o2,x,ho2,hd2,hx,he⟩:=h z hz;obtain rfl:=t.distinct ho' ho2 hd' hd2;exact⟨x,by rw[(t.slot_some ho' hd' k hi hk).1];exact hx,he⟩

def Cl(all:Array Oper)(D:Nat->Prop):Prop:=∀j o,D j->all[j]? =some o->∀e ∈ o.after.toList,Region.binds .any e=true->D e.on

theorem Trace.mask_done(t:Trace P G nt all b H0 s0 S y p m){D:Nat->Prop}(hD:Cl all D):∀k o,all[k]? =some o->(∀e ∈ o.after.toList,Region.binds .any e=true->D e.on)->∀j,Nat.testBit (m k) j=true->D j:=by
 intro k;induction k using Nat.strongRecOn with
 |_ k ih=>
  intro o hk hpre j hj;obtain⟨e,he,hb,hlt,hor⟩:=t.mask k o j hk hj;have hDe:=hpre e he hb;rcases hor with rfl|hor
  ·exact hDe
  ·have hlt':e.on<all.size:=Nat.lt_trans hlt (Array.getElem?_eq_some_iff.1 hk).1
   have ho:=Array.getElem?_eq_getElem hlt'
   exact ih e.on hlt _ ho (hD e.on _ hDe ho) j hor

def HH(H0:Heap)(S:Nat->St)(k:Nat):Heap:=hCur H0 (S k).hist

def isM(G:Gam)(all:Array Oper)(k:Nat):Prop:=∃o,all[k]? =some o/\stays G o.op=false

theorem Trace.hist_same(t:Trace P G nt all b H0 s0 S y p m){a:Nat}:∀b,a<=b->b<=all.size->(∀x,a<=x->x<b->¬isM G all x)->(S b).hist=(S a).hist:=by
 intro b;induction b with
 |zero=>intro h _ _;rw[Nat.le_zero.1 h]
 |succ b ih=>
  intro h hb hno;by_cases he:a=b+1
  ·rw[he]
  ·have ho:=Array.getElem?_eq_getElem (xs:=all) (i:=b) (by omega)
   have hst:=t.step b _ ho;have hsty:stays G all[b].op=true:=by
    cases hs:stays G all[b].op with
    |true=>rfl
    |false=>exact absurd ⟨_,ho,hs⟩ (hno b (by omega) (by omega))
   rw[(hst.reader hsty).1];exact ih (by omega) (by omega) (fun x h1 h2=>hno x h1 (by omega))

theorem Trace.hist_ext(t:Trace P G nt all b H0 s0 S y p m){a:Nat}:∀b,a<=b->b<=all.size->(∀x o,a<=x->x<b->all[x]? =some o->stays G o.op=false->growB G o.op=true∨isAlB (flB G) o=true)->HExt (HH H0 S a) (HH H0 S b):=by
 intro b;induction b with
 |zero=>intro h _ _;rw[Nat.le_zero.1 h];exact HExt.refl _
 |succ b ih=>
  intro h hb hno;by_cases he:a=b+1
  ·rw[he];exact HExt.refl _
  ·have ho:=Array.getElem?_eq_getElem (xs:=all) (i:=b) (by omega)
   have hst:=t.step b _ ho;refine(ih (by omega) (by omega) (fun x o h1 h2=>hno x o h1 (by omega))).trans ?_
   cases hs:stays G all[b].op with
   |true=>
    have:=(hst.reader hs).1;simp only[HH,this];exact HExt.refl _
   |false=>
    cases hal:isAlB (flB G) all[b] with
    |true=>
     obtain⟨H',side,he',hh,_⟩:=hst.al hal;simp only[HH,hh,hCur];exact evAl_ext he'
    |false=>
     obtain⟨G',H',side,hGG,hev,hh,_⟩:=hst.writer hs hal;have hg:=(hno b _ (by omega) (by omega) ho hs).resolve_right (by rw[hal];simp)
     simp only[HH,hh,hCur];exact grow_ext ((hGG.grow _).trans hg) hev

theorem Trace.hist_extOn(t:Trace P G nt all b H0 s0 S y p m){R:List Nat}{a:Nat}:∀b,a<=b->b<=all.size->(∀x o,a<=x->x<b->all[x]? =some o->stays G o.op=false->(growB G o.op=true∨isAlB (flB G) o=true)∨disjB (some R) (writeB (HH H0 S x) (S x).s o.op)=true)->ExtOn R (HH H0 S a) (HH H0 S b):=by
 intro b;induction b with
 |zero=>intro h _ _;rw[Nat.le_zero.1 h];exact fun _ _ _ h=>h
 |succ b ih=>
  intro h hb hno;by_cases he:a=b+1
  ·rw[he];exact fun _ _ _ h=>h
  ·have ho:=Array.getElem?_eq_getElem (xs:=all) (i:=b) (by omega)
   have hst:=t.step b _ ho;have h0:=ih (by omega) (by omega) (fun x o h1 h2=>hno x o h1 (by omega))
   have h1:ExtOn R (HH H0 S b) (HH H0 S (b+1)):=by
    cases hs:stays G all[b].op with
    |true=>
     have:=(hst.reader hs).1;simp only[HH,this];exact fun _ _ _ h=>h
    |false=>
     cases hal:isAlB (flB G) all[b] with
     |true=>
      obtain⟨H',side,he',hh,_⟩:=hst.al hal;simp only[HH,hh,hCur];exact fun k _ ob hk=>evAl_ext he' k ob hk
     |false=>
      obtain⟨G',H',side,hGG,hev,hh,_⟩:=hst.writer hs hal;have hg:=hno b _ (by omega) (by omega) ho hs
      simp only[HH,hh,hCur];rcases hg with hg|hg
      ·exact fun k _ ob hk=>grow_ext ((hGG.grow _).trans (hg.resolve_right (by rw[hal];simp))) hev k ob hk
      ·unfold disjB at hg;split at hg
       ·rename_i r w hr hw;simp only[Option.some.injEq] at hr;subst hr;refine fun k hk ob hob=>write_keep hw hev k (fun hkw=> ?_) ob hob
        have:=List.all_eq_true.1 (List.all_eq_true.1 hg k hk) k hkw;simp at this
       ·cases hg
   exact fun k hk ob hob=>h1 k hk ob (h0 k hk ob hob)

theorem alAt_iff{fl:Bool}{k:Nat}{o:Oper}(h:all[k]? =some o):alAt fl all k=isAlB fl o:=by unfold alAt;rw[h]

theorem Trace.hist_at(t:Trace P G nt all b H0 s0 S y p m)(mm:Nat):∀i,i<=all.size->∃q,q<=i/\hAt (flB G) all H0 mm (S i).hist=HH H0 S q/\(∀x,q<=x->x<i->isM G all x->Nat.testBit mm x=false∨alAt (flB G) all x=true)/\(q=0∨∃x,q=x+1/\isM G all x/\alAt (flB G) all x=false/\Nat.testBit mm x=true):=by
 intro i;induction i with
 |zero=>intro _;exact⟨0,Nat.le_refl _,by simp[HH,t.start,hAt,hCur],fun x _ h=>by omega,.inl rfl⟩
 |succ i ih=>
  intro hi;obtain⟨q,hq,he,hno,hor⟩:=ih (by omega)
  have ho:=Array.getElem?_eq_getElem (xs:=all) (i:=i) (by omega)
  have hst:=t.step i _ ho;cases hs:stays G all[i].op with
  |true=>
   refine⟨q,by omega,by rw[(hst.reader hs).1];exact he,fun x h1 h2 hx=> ?_,hor⟩
   by_cases hxi:x=i
   ·subst hxi;obtain⟨o,ho',hs'⟩:=hx;rw[ho] at ho';simp only[Option.some.injEq] at ho';subst ho';rw[hs] at hs';cases hs'
   ·exact hno x h1 (by omega) hx
  |false=>
   obtain⟨H',hh⟩:∃H',(S (i+1)).hist=(i,H')::(S i).hist:=by
    cases hal:isAlB (flB G) all[i] with
    |true=>obtain⟨H',_,_,hh,_⟩:=hst.al hal;exact⟨H',hh⟩
    |false=>obtain⟨_,H',_,_,_,hh,_⟩:=hst.writer hs hal;exact⟨H',hh⟩
   cases hb:Nat.testBit mm i&& !alAt (flB G) all i with
   |true=>
    simp only[Bool.and_eq_true,Bool.not_eq_true'] at hb;exact⟨i+1,Nat.le_refl _,by simp only[hh,hAt,hb.1,hb.2,HH,hCur];rfl,fun x h1 h2=>by omega,.inr ⟨i,rfl,⟨_,ho,hs⟩,hb.2,hb.1⟩⟩
   |false=>
    refine⟨q,by omega,by simp only[hh,hAt,hb];exact he,fun x h1 h2 hx=> ?_,hor⟩
    by_cases hxi:x=i
    ·subst hxi;simp only[Bool.and_eq_false_iff,Bool.not_eq_false'] at hb;exact hb
    ·exact hno x h1 (by omega) hx

end

section
variable {c:Ctx} {P:Program} {E:Env} {H:Heap} {w w':World}

theorem put_at(h:Inv c E H w)(ho:w'.os=w.os)(ht:w'.tape=w.tape)(hp:w'.output=w.output)(hsz:w.heap.size<=w'.heap.size)(hw:∀b,b<w.heap.size->w'.heap[b]? =w.heap[b]?){r:Nat}(hr:r<H.length)(hL:¬E.L r)
  (ob:Ob) (b κ:Nat) (hia:ob.isArr=true) (hb:κ≠0->w.heap.size<=b) (hok:Stp E w (E.push r b κ ob.toArr.sz) w'->ArrOk (E.push r b κ ob.toArr.sz) w' r ob.toArr) (hd:w.drawn<=w'.drawn:=by first|assumption|exact Nat.le_refl _|exact Nat.le_succ _):
  Inv c (E.push r b κ ob.toArr.sz) (H.set r (some ob)) w'/\Stp E w (E.push r b κ ob.toArr.sz) w'/\∀k,(E.push r b κ ob.toArr.sz).L k->E.L k∨k=r:=by
 have hst:Stp E w (E.push r b κ ob.toArr.sz) w':=⟨Env.push_le hL,fun b hb=>hw b (h.nlt b hb)⟩
 have hbk:(E.push r b κ ob.toArr.sz).β r=b:=if_pos rfl;have hκk:(E.push r b κ ob.toArr.sz).κ r=κ:=if_pos rfl;refine⟨h.to ho ht hp hsz hst r (fun _=>False) (fun _ h=>h) (fun i o hi hne=> ?_) (fun o hi=> ?_) (fun b hb _=>hw b hb) (fun i hi=> ?_) (fun i v hv=>.inl (h.heap.l2 i v hv)) (fun o i v hi hv=> ?_),hst,fun k hk=>hk⟩
 ·rw[getOb_set hr,if_neg hne] at hi;exact⟨hi,fun h=>h⟩
 ·rw[getOb_set hr,if_pos rfl] at hi;simp only[Option.some.injEq] at hi;subst hi;refine⟨.inr rfl,ArrOk.ob (hok hst) hia,fun x hx=> ?_⟩
  obtain⟨h1,rfl⟩:=hx.arr hia;rw[hbk];rw[hκk] at h1;exact .inl (hb h1)
 ·rw[List.length_set];rcases hi with hi|rfl
  ·exact h.heap.lt i hi
  ·exact hr
 ·rw[getOb_set hr] at hi;split at hi
  ·rename_i he;subst he;exact absurd (h.heap.l2 _ v hv) hL
  ·exact h.heap.cur i o v hi hv

theorem ap_at(h:Inv c E H w){t tx ty e:TypeId}{x:T}{dv xv:Value}{i:TypeInfo}{z:List T}{q:Sr}{r:Nat}(hr:r<H.length)(hL:¬E.L r)(hu:P.underlying t=some (.slice e))(hi:P.info? e=some i)(hz:zeroCells P e=some z)(hl:Nat.beq z.length i.size=true)
  (hq:srcT [] (P.underlying tx) i.size x=some q) (hcl:q.cl=true) (hs:andS q.side (AppB 0 q.n i.bytes)) (hd:Rd E w .emp dv) (hx:Rd E w x xv):
  ∃v w' E',(Builtin.append_ #[t,tx] ty #[dv,xv]).run P w= .ok v w'/\Inv c E' (H.set r (some (.arr true e i.size q.n q.row))) w'/\Stp E w E' w'/\Rd E' w' (.osl r 0 q.n) v/\∀k,E'.L k->E.L k∨k=r:=by
 obtain⟨zv,hzv,hzl⟩:=zeroCells_val hi hz;have hzs:zv.cells.size=i.size:=by rw[hzl];exact Nat.eq_of_beq_eq_true hl
 obtain⟨a0,rfl⟩:∃a0,dv= .slice a0 0 0:=by cases hd with|emp a=>exact⟨a,rfl⟩
 obtain⟨hls,hab⟩:=andS_ok hs;obtain⟨news,hsrc,hlen,hone,hcl',hnews⟩:=srcT_ok (P:=P) h.heap (srcT_nil hq) hls hx;obtain⟨rv,w',hrun,ha⟩:=append_core (P:=P) (ty:=ty) hu hi hzv hzs hsrc 0 hab (.slice a0 0 0) (fun _=>none) none (.inl ⟨a0,rfl,rfl,rfl⟩)
 rcases ha with ha|⟨hm,rfl,a1,rfl⟩
 ·obtain⟨ho,ht,hp,hdr,hsize,hoth,b,cap,cs,tyb,rfl,hcap,hblk,hcs,hbg,_,hnew⟩:=ha;have hold:∀b,b<w.heap.size->w'.heap[b]? =w.heap[b]? :=fun b hb=>hoth b hb (by simp)
  have hge:w.heap.size<=b:=by
   rcases hbg with h1|h1
   ·exact h1.1
   ·cases h1
  rw[Nat.zero_add] at hcap;obtain⟨g1,g2,g3⟩:=put_at h ho ht hp hsize hold hr hL (.arr true e i.size q.n q.row) b cap rfl (fun _=>hge) (fun hst=>by
   have hbk:(E.push r b cap i.size).β r=b:=if_pos rfl;have hκk:(E.push r b cap i.size).κ r=cap:=if_pos rfl;have hzk:(E.push r b cap i.size).z r=(i.size,[]):=if_pos rfl;refine⟨by rw[show(Ob.arr true e i.size q.n q.row).toArr.sz=i.size from rfl,hzk],?_,fun k hk=>hlen k hk,fun k t hk ht=>hone k t hk ht,fun _ k t hk ht=>hcl' hcl k t hk ht,cs,tyb,fun _=> ?_,?_,fun k j t hk hj=> ?_⟩
   ·show q.n<=(E.push r b cap i.size).κ r;rw[hκk];exact hcap
   ·show w'.heap[(E.push r b cap i.size).β r]? =_;rw[hbk];exact hblk
   ·show Siz cs ((E.push r b cap i.size).κ r*i.size) ((E.push r b cap i.size).z r).2;rw[hκk,hzk];exact siz0 hcs
   ·obtain⟨u,hu',hr'⟩:=hnews k j t hk hj;refine⟨u,?_,hst.rd hr'⟩
    have hk:k<q.n:=hk;have hj':j<i.size:=by rw[←hlen k hk];exact(List.getElem?_eq_some_iff.1 hj).1
    have hlt:k*i.size+j<q.n*i.size:=by
     have:(k+1)*i.size<=q.n*i.size:=Nat.mul_le_mul_right _ hk;rw[Nat.add_mul] at this;omega
    have:=hnew _ hlt;rw[Nat.zero_mul,Nat.zero_add] at this;show cs[k*i.size+j]? =some u;rw[this,hu'])
  refine⟨_,w',_,hrun,g1,g2,?_,g3⟩
  have hbk:(E.push r b cap i.size).β r=b:=if_pos rfl;have hκk:(E.push r b cap i.size).κ r=cap:=if_pos rfl;have hrd:=Rd.osl (E:=E.push r b cap i.size) (w:=w') r 0 q.n 0 (some ⟨b,0,none⟩) (.inr rfl) (by rw[hκk];omega) (fun _=>by simp) (fun _=>by rw[hbk])
  rw[hκk,Nat.sub_zero] at hrd;rw[Nat.zero_add];exact hrd
 ·have hn:q.n=0:=by omega
  obtain⟨g1,g2,g3⟩:=put_at h rfl rfl rfl (Nat.le_refl _) (fun _ _=>rfl) hr hL (.arr true e i.size q.n q.row) 0 0 rfl (fun h=>absurd rfl h) (fun hst=>by
   have hκk:(E.push r 0 0 i.size).κ r=0:=if_pos rfl;have hzk:(E.push r 0 0 i.size).z r=(i.size,[]):=if_pos rfl;refine⟨by rw[show(Ob.arr true e i.size q.n q.row).toArr.sz=i.size from rfl,hzk],?_,fun k hk=>hlen k hk,fun k t hk ht=>hone k t hk ht,fun _ k t hk ht=>hcl' hcl k t hk ht, #[],0,fun hk=>absurd hκk hk,?_,fun k j t hk=> ?_⟩
   ·show q.n<=(E.push r 0 0 i.size).κ r;omega
   ·show Siz #[] ((E.push r 0 0 i.size).κ r*i.size) ((E.push r 0 0 i.size).z r).2;rw[hκk,hzk];exact siz0 (by simp)
   ·have hk:k<q.n:=hk;omega)
  refine⟨_,_,_,hrun,g1,g2,?_,g3⟩
  have hκk:(E.push r 0 0 i.size).κ r=0:=if_pos rfl;have hrd:=Rd.osl (E:=E.push r 0 0 i.size) (w:=w') r 0 0 0 a1 (.inr rfl) (Nat.zero_le _) (fun _=>by simp) (fun h=>absurd hκk h)
  rw[hκk] at hrd;rw[hn];exact hrd

theorem al_run(h:Inv c E H w){o:Oper}{s:Slots}{H0 H1:Heap}{a:Act}{r:Nat}{y:T}{side:Option Prop}(he:evAl P s H0 o.op r=some (y,H1,side))(hs:side.getD True)(hr:r<H.length)(hL:¬E.L r)(hop:∀x ∈ seen o.op,OpOk E w a s x):
  ∃v w' E' ob,H1=H0.set r (some ob)/\(execOp a.eval o).run P w= .ok (.value v) w'/\Inv c E' (H.set r (some ob)) w'/\Stp E w E' w'/\Rd E' w' y v/\∀k,E'.L k->E.L k∨k=r:=by
 unfold evAl at he;split at he
 ·rename_i t ho;split at he
  ·rename_i z hz;split at he
   ·rename_i h1 hone h3 h4;simp only[Option.some.injEq,Prod.mk.injEq] at he;obtain⟨rfl,rfl,rfl⟩:=he;obtain⟨v,hv,hrl2,_⟩:=zero_ok (E:=E) (w:=w) hz;obtain⟨E',g1,g2,g3,g4⟩:=al_at (t:=t) h hr hL hone hrl2;refine⟨_,_,E',_,rfl,?_,g1,g2,g3,g4⟩
    simp only[execOp,ho,Instr.alloc,newVar,newRow,Sem.run_bind,hv,run_newObj,Result.andThen_ok,Sem.run_pure];rfl
   ·cases he
  ·cases he
 ·rename_i args at_ ho;rw[ho] at hop;split at he
  case h_2=>cases he
  rename_i d x t tx ha hat;obtain rfl:args= #[d,x]:=Array.ext' (by simpa using ha)
  obtain rfl:at_= #[t,tx]:=Array.ext' (by simpa using hat)
  split at he
  case h_2=>cases he
  rename_i e hd hu;split at he
  case h_2=>cases he
  rename_i i z hi hz;split at he
  case h_2=>cases he
  rename_i q hl hq;split at he
  case h_2=>cases he
  rename_i hcl h3 h4;simp only[Option.some.injEq,Prod.mk.injEq] at he;obtain⟨rfl,rfl,rfl⟩:=he;have hdo:=hop d (by simp[seen,Op.operands,Call.operands])
  unfold OpOk at hdo;rw[hd] at hdo;obtain⟨rv,w',E',hrun,g1,g2,g3,g4⟩:=ap_at (P:=P) (ty:=o.type) h hr hL hu hi hz hl hq hcl hs hdo (hop x (by simp[seen,Op.operands,Call.operands]))
  refine⟨rv,w',E',_,rfl,?_,g1,g2,g3,g4⟩
  simp[execOp,ho,resolve,invoke,builtin,hrun,Result.andThen]
 ·cases he

end
end Go.SS
/- A calculus of symbolic states: a region, in whatever order: the step and the whole. -/
namespace Go.SS
open Go.RowKit

theorem paths_ok'{E:Env}{w:World}{s:Slots}{ps:Paths}{a:Act}{pth:Path}{op:Op}(h:∀u,Operand.tmp u ∈ op.operands.toList->PathH s (pathOf ps u)->Rd E w (slk s u) (a.tmps.getD u undef))(hp:PathH s pth)(hop:pathsOk ps pth op=true):
  (∀x ∈ seen op,OpOk E w a s x)/\∀c x y,op= .pick c x y->(∀b,opT s c= .bool b->b=true->OpOk E w a s x)/\(∀b,opT s c= .bool b->b=false->OpOk E w a s y):=by
 have tmp:∀{q:Path} {x:Operand},x ∈ op.operands.toList->PathH s q->tmpOk ps q x=true->OpOk E w a s x:=by
  intro q x hx hq ht;refine opOk_of fun u hu=> ?_
  subst hu;exact h u hx (suf_ok ht hq)
 by_cases hpk:∃c x y,op= .pick c x y
 ·obtain⟨c,x,y,rfl⟩:=hpk;cases c with
  |tmp t=>
   simp only[pathsOk,Bool.and_eq_true] at hop;obtain⟨⟨h1,h2⟩,h3⟩:=hop;refine⟨fun z hz=> ?_,fun c' x' y' he=> ?_⟩
   ·simp only[seen,List.mem_singleton] at hz;subst hz;exact tmp (by simp[Op.operands]) hp h1
   ·cases he;refine⟨fun b hb hbt=>tmp (by simp[Op.operands]) (fun q hq=> ?_) h2,fun b hb hbt=>tmp (by simp[Op.operands]) (fun q hq=> ?_) h3⟩
    ·rcases List.mem_cons.1 hq with rfl|hq
     ·exact⟨b,hb,hbt⟩
     ·exact hp q hq
    ·rcases List.mem_cons.1 hq with rfl|hq
     ·exact⟨b,hb,hbt⟩
     ·exact hp q hq
  |const=>simp[pathsOk] at hop
  |global=>simp[pathsOk] at hop
  |func=>simp[pathsOk] at hop
 ·have hs:seen op=op.operands.toList:=by
   cases op<;>first|rfl|exact absurd ⟨_,_,_,rfl⟩ hpk
  have hall:op.operands.toList.all (tmpOk ps pth)=true:=by
   cases op<;>first|exact hop|exact absurd ⟨_,_,_,rfl⟩ hpk
  exact⟨fun x hx=>tmp (by rw[←hs];exact hx) hp (List.all_eq_true.1 hall x (by rw[←hs];exact hx)),fun c x y he=>absurd ⟨c,x,y,he⟩ hpk⟩

theorem mem_tmpsOf{u:Nat}:∀{l:List Operand},Operand.tmp u ∈ l->u ∈ tmpsOf l:=by
 intro l;induction l with
 |nil=>intro h;cases h
 |cons x l ih=>
  intro h;cases x with
  |tmp t=>
   simp only[tmpsOf];rcases List.mem_cons.1 h with h|h
   ·cases h;simp
   ·exact List.mem_cons_of_mem _ (ih h)
  |_=>
   simp only[tmpsOf];rcases List.mem_cons.1 h with h|h
   ·cases h
   ·exact ih h

theorem usesB_ok{u:Nat}{l:List Nat}(h:u ∈ l):usesB (some u) l=true:=by
 simp only[usesB,List.any_eq_true];exact⟨u,h,by simp⟩

def SlotD(all:Array Oper)(s0:Slots)(y:Nat->T)(p:Nat->Path)(D:Nat->Prop)(E:Env)(w:World)(a:Act)(u:Nat):Prop:=
 (∀j o,all[j]? =some o->o.dst=some u->D j->(PathV all y (p j)->Rd E w (y j) (a.tmps.getD u undef))/\(¬PathV all y (p j)->a.tmps.getD u undef=undef))/\
  ((∀j o,all[j]? =some o->o.dst=some u->¬D j)->Rd E w (slk s0 u) (a.tmps.getD u undef))

def HRel(G:Gam)(all:Array Oper)(b:Nat)(H0:Heap)(S:Nat->St)(D:Nat->Prop)(e:Nat)(H:Heap):Prop:=
 H.length=(HH H0 S e).length/\(∀x,e<=x->alAt (flB G) all x=true->D x->getOb H (plA (flB G) b all x)=getOb (HH H0 S (x+1)) (plA (flB G) b all x))/\
  ∀k,(∀x,e<=x->alAt (flB G) all x=true->D x->k≠plA (flB G) b all x)->getOb H k=getOb (HH H0 S e) k

def NR(G:Gam)(all:Array Oper)(b:Nat)(H0:Heap)(S:Nat->St)(e:Nat):Prop:=
 ∀x,e<=x->alAt (flB G) all x=true->getOb (HH H0 S e) (plA (flB G) b all x)=none

def RD(c:Ctx)(G:Gam)(all:Array Oper)(b:Nat)(H0:Heap)(s0:Slots)(S:Nat->St)(y:Nat->T)(p:Nat->Path)(D:Nat->Prop)(a:Act)(w:World):Prop:=
 a.defers=[]/\a.tmps.size=c.nt/\∃E e H,e<=all.size/\(∀x,isM G all x->x<e->D x)/\(∀x,isM G all x->D x->e<=x->alAt (flB G) all x=true)/\HRel G all b H0 S D e H/\NR G all b H0 S e/\Inv c E H w/\
  (∀x,alAt (flB G) all x=true->¬D x->¬E.L (plA (flB G) b all x))/\(∀x,alAt (flB G) all x=true->∃j,E.L j/\plA (flB G) b all x<j)/\∀u,SlotD all s0 y p D E w a u

theorem heap_ext{A B:Heap}(hl:A.length=B.length)(h:∀k,getOb A k=getOb B k):A=B:=by
 refine List.ext_getElem hl fun k h1 h2=> ?_
 have:=h k;unfold getOb at this;rw[List.getElem?_eq_getElem h1,List.getElem?_eq_getElem h2] at this
 exact this

theorem cntA_app(fl:Bool)(l r:List Oper):cntA fl (l++r)=cntA fl l+cntA fl r:=by
 induction l with
 |nil=>simp[cntA]
 |cons o l ih=>
  simp only[List.cons_append,cntA,ih];split<;>omega

theorem alAt_some{fl:Bool}{all:Array Oper}{x:Nat}(h:alAt fl all x=true):∃o,all[x]? =some o/\isAlB fl o=true:=by
 unfold alAt at h;split at h
 ·rename_i o ho;exact⟨o,ho,h⟩
 ·cases h

theorem cntA_lt{fl:Bool}{all:Array Oper}{x n:Nat}(h:alAt fl all x=true)(hn:x<n):cntA fl (all.toList.take x)<cntA fl (all.toList.take n):=by
 obtain⟨o,ho,ht⟩:=alAt_some h;obtain⟨hlt,hox⟩:=Array.getElem?_eq_some_iff.1 ho
 have h1:all.toList.take n=all.toList.take x++(all.toList.take n).drop x:=by
  have:=(List.take_append_drop x (all.toList.take n)).symm;rw[List.take_take,Nat.min_eq_left (by omega)] at this
  exact this
 have h2:(all.toList.take n).drop x=o::(all.toList.take n).drop (x+1):=by
  have hl:x<(all.toList.take n).length:=by simp;omega
  rw[List.drop_eq_getElem_cons hl];simp[hox]
 rw[h1,cntA_app,h2];simp only[cntA,ht];omega

theorem plA_ne{fl:Bool}{all:Array Oper}{b x z:Nat}(h:alAt fl all x=true)(k:alAt fl all z=true)(hne:x≠z):plA fl b all x≠plA fl b all z:=by
 unfold plA;rcases Nat.lt_or_gt_of_ne hne with hl|hl
 ·have:=cntA_lt h hl;omega
 ·have:=cntA_lt k hl;omega

section
variable {c:Ctx} {P:Program} {G:Gam} {all:Array Oper} {b:Nat} {H0:Heap} {s0:Slots} {S:Nat->St} {y:Nat->T} {p:Nat->Path} {m:Nat->Nat} {D:Nat->Prop}

theorem slotD_put{E E':Env}{w w':World}{a:Act}{i:Nat}{o:Oper}(t:Trace P G c.nt all b H0 s0 S y p m)(hi:all[i]? =some o)(hsz:a.tmps.size=c.nt)(hst:Stp E w E' w'){v:Value}
  (hv:(PathV all y (p i)->Rd E' w' (y i) v)/\(¬PathV all y (p i)->v=undef)) (h:∀u,SlotD all s0 y p D E w a u) (u:Nat):SlotD all s0 y p (fun k=>D k∨k=i) E' w' (a.put o.dst v) u:=by
 have keep:(o.dst≠some u)->(a.put o.dst v).tmps.getD u undef=a.tmps.getD u undef:=by
  intro hne;cases hd:o.dst with
  |none=>rfl
  |some d=>
   have hdst:=(t.step i o hi).dst;rw[hd] at hdst;rw[put_get a d v u (by rw[hsz];exact Nat.le_of_ble_eq_true hdst),if_neg (by rintro rfl;exact hne hd)]
 have new:o.dst=some u->(a.put o.dst v).tmps.getD u undef=v:=by
  intro hd;have hdst:=(t.step i o hi).dst;rw[hd] at hdst ⊢;rw[put_get a u v u (by rw[hsz];exact Nat.le_of_ble_eq_true hdst),if_pos rfl]
 refine⟨fun j oj hj hd hDj=> ?_,fun hno=> ?_⟩
 ·by_cases hji:j=i
  ·subst hji;rw[hj] at hi;simp only[Option.some.injEq] at hi;subst hi;rw[new hd];exact hv
  ·have hne:o.dst≠some u:=fun he=>hji (t.distinct hj hi hd he)
   rw[keep hne];obtain⟨h1,h2⟩:=(h u).1 j oj hj hd (hDj.resolve_right hji);exact⟨fun hp=>hst.rd (h1 hp),h2⟩
 ·have hne:o.dst≠some u:=fun he=>hno i o hi he (.inr rfl)
  rw[keep hne];exact hst.rd ((h u).2 fun j oj hj hd hDj=>hno j oj hj hd (.inl hDj))

theorem al_isM{x:Nat}(h:alAt (flB G) all x=true):isM G all x:=by
 obtain⟨o,ho,ht⟩:=alAt_some h;exact⟨o,ho,(al_stays ht).1⟩

theorem hrel_next(t:Trace P G c.nt all b H0 s0 S y p m){e:Nat}{H:Heap}(he:e<all.size)(hd:isM G all e->D e/\alAt (flB G) all e=true)(h:HRel G all b H0 S D e H):HRel G all b H0 S D (e+1) H:=by
 obtain⟨h1,h2,h3⟩:=h;by_cases hm:isM G all e
 ·obtain⟨hDe,hal⟩:=hd hm;obtain⟨o,ho,ht0⟩:=alAt_some hal;obtain⟨H',_,hev,hh,_⟩:=(t.step e o ho).al ht0;obtain⟨_,hr,_,e1⟩:=evAl_ok hev;have e2:HH H0 S (e+1)=H':=by simp only[HH,hh,hCur]
  have e3:hCur H0 (S e).hist=HH H0 S e:=rfl;rw[e3] at e1 hr;refine⟨by rw[e2,e1,List.length_set];exact h1,fun x hx=>h2 x (by omega),fun k hk=> ?_⟩
  by_cases hkr:k=plA (flB G) b all e
  ·rw[hkr];exact h2 e (Nat.le_refl e) hal hDe
  ·rw[e2,e1,getOb_set hr,if_neg hkr];refine h3 k fun x hx ha hDx=> ?_
   by_cases hxe:x=e
   ·rw[hxe];exact hkr
   ·exact hk x (by omega) ha hDx
 ·have hs:=t.hist_same (a:=e) (e+1) (by omega) he (fun x q1 q2 hx=>hm (by rwa [show e=x by omega]))
  have e2:HH H0 S (e+1)=HH H0 S e:=by simp only[HH,hs]
  refine⟨by rw[e2];exact h1,fun x hx=>h2 x (by omega),fun k hk=> ?_⟩
  rw[e2];refine h3 k fun x hx ha hDx=> ?_
  by_cases hxe:x=e
  ·exact absurd (hxe▸al_isM ha) hm
  ·exact hk x (by omega) ha hDx

theorem hrel_to(t:Trace P G c.nt all b H0 s0 S y p m){e:Nat}{H:Heap}:∀{q:Nat},e<=q->q<=all.size->(∀x,e<=x->x<q->isM G all x->D x/\alAt (flB G) all x=true)->HRel G all b H0 S D e H->HRel G all b H0 S D q H:=by
 intro q;induction q with
 |zero=>intro h _ _ hr;rw[Nat.le_zero.1 h] at hr;exact hr
 |succ q ih=>
  intro h hq hd hr;by_cases he:e=q+1
  ·rw[←he];exact hr
  ·exact hrel_next t (by omega) (hd q (by omega) (by omega)) (ih (by omega) (by omega) (fun x h1 h2=>hd x h1 (by omega)) hr)

theorem nr_next(t:Trace P G c.nt all b H0 s0 S y p m){e:Nat}(he:e<all.size)(hd:isM G all e->alAt (flB G) all e=true)(h:NR G all b H0 S e):NR G all b H0 S (e+1):=by
 intro x hx ha;have h0:=h x (by omega) ha
 by_cases hm:isM G all e
 ·have hal:=hd hm;obtain⟨o,ho,ht0⟩:=alAt_some hal;obtain⟨H',_,hev,hh,_⟩:=(t.step e o ho).al ht0;obtain⟨_,hr,_,e1⟩:=evAl_ok hev;have e2:HH H0 S (e+1)=H':=by simp only[HH,hh,hCur]
  have e3:hCur H0 (S e).hist=HH H0 S e:=rfl;rw[e3] at e1 hr;rw[e2,e1,getOb_set hr,if_neg (plA_ne ha hal (by omega))]
  exact h0
 ·have hs:=t.hist_same (a:=e) (e+1) (by omega) he (fun x q1 q2 hx=>hm (by rwa [show e=x by omega]))
  have e2:HH H0 S (e+1)=HH H0 S e:=by simp only[HH,hs]
  rw[e2];exact h0

theorem nr_to(t:Trace P G c.nt all b H0 s0 S y p m){e:Nat}:∀{q:Nat},e<=q->q<=all.size->(∀x,e<=x->x<q->isM G all x->alAt (flB G) all x=true)->NR G all b H0 S e->NR G all b H0 S q:=by
 intro q;induction q with
 |zero=>intro h _ _ hr;rw[Nat.le_zero.1 h] at hr;exact hr
 |succ q ih=>
  intro h hq hd hr;by_cases he:e=q+1
  ·rw[←he];exact hr
  ·exact nr_next t (by omega) (hd q (by omega) (by omega)) (ih (by omega) (by omega) (fun x h1 h2=>hd x h1 (by omega)) hr)

theorem hrel_ext{e:Nat}{H:Heap}(hn:NR G all b H0 S e)(h:HRel G all b H0 S D e H):HExt (HH H0 S e) H:=by
 intro k ob hk;by_cases hx:∃x,e<=x/\alAt (flB G) all x=true/\D x/\k=plA (flB G) b all x
 ·obtain⟨x,hex,ha,hDx,rfl⟩:=hx;rw[hn x hex ha] at hk;cases hk
 ·rw[h.2.2 k fun x h1 h2 h3 he=>hx ⟨x,h1,h2,h3,he⟩]
  exact hk

theorem setObs_len:∀{ks:List Nat} {os:List (Option Ob)} {A:Heap},(setObs A ks os).length=A.length
 | [],os,A=>by cases os<;>rfl
 |j::ks,[],A=>rfl
 |j::ks,o::os,A=>by
  show(setObs (A.set j o) ks os).length=_;rw[setObs_len,List.length_set]
theorem setObs_eq{k:Nat}:∀{ks:List Nat} {os:List (Option Ob)} {A B:Heap},A.length=B.length->getOb A k=getOb B k->getOb (setObs A ks os) k=getOb (setObs B ks os) k
 | [],os,A,B,_,h=>by cases os<;>exact h
 |j::ks,[],A,B,_,h=>h
 |j::ks,o::os,A,B,hl,h=>by
  show getOb (setObs (A.set j o) ks os) k=getOb (setObs (B.set j o) ks os) k;refine setObs_eq (by rw[List.length_set,List.length_set,hl]) ?_
  by_cases hj:j<A.length
  ·rw[getOb_set hj,getOb_set (hl▸hj),h]
  ·rw[List.set_eq_of_length_le (by omega),List.set_eq_of_length_le (by omega),h]

theorem op_step(t:Trace P G c.nt all b H0 s0 S y p m)(hG:GamOk P G)(hGc:∀x ∈ G,Callable P x.1)(hcl:Cl all D){i:Nat}{o:Oper}(hi:all[i]? =some o)(hni:¬D i)
  (hpre:∀e ∈ o.after.toList,Region.binds .any e=true->D e.on) {a:Act} {w:World} (hr:RD c G all b H0 s0 S y p D a w) {K:Act->World->Prop} {Q:Exit->Act->World->Prop}
  (hK:∀a' w',RD c G all b H0 s0 S y p (fun k=>D k∨k=i) a' w'->K a' w'):wpOp P all Q i K a w:=by
 obtain⟨hdef,hsz,E,e,H,hen,hA,hB,hR,hNR,hI,hres,hsen,hsl⟩:=hr;have hst:=t.step i o hi;have hilt:i<all.size:=(Array.getElem?_eq_some_iff.1 hi).1
 have hput:∀(v:Value),(a.put o.dst v).defers=[]/\(a.put o.dst v).tmps.size=c.nt:=by
  intro v;cases o.dst with
  |none=>exact⟨hdef,hsz⟩
  |some d=>exact⟨hdef,by simp[Act.put,hsz]⟩
 have hmask:=t.mask_done hcl i o hi hpre;have hlater:∀j oj,all[j]? =some oj->i<j->Nat.testBit (m j) i=true->¬D j:=fun j oj hj hij hb hDj=>
  hni (t.mask_done hcl j oj hj (fun e he hb'=>hcl j oj hDj hj e he hb') i hb)
 have hused:∀u,u ∈ usesOf all o->(PathH (S i).s (pathOf (S i).ps u)->Rd E w (slk (S i).s u) (a.tmps.getD u undef))/\(¬PathH (S i).s (pathOf (S i).ps u)->a.tmps.getD u undef=undef):=by
  intro u hu;rcases writer_dec all u i with⟨j,oj,hji,hj,hd⟩|hno
  ·have hpr:=t.pair i o j oj hi hj hji;have hb:Nat.testBit (m i) j=true:=by
    unfold pairOk at hpr;rw[hd,usesB_ok hu] at hpr
    simpa using And.right (by simpa using hpr)
   obtain⟨e1,e2⟩:=t.slot_some hj hd i hji (Nat.le_of_lt hilt);rw[e1,e2];have hpl:∀z ∈ p j,∃k o',k<i/\all[k]? =some o'/\o'.dst=some z.1:=fun z hz=>by
    obtain⟨k,o',hk,ho',hd'⟩:=t.path_lt j oj hj z hz;exact⟨k,o',by omega,ho',hd'⟩
   rw[t.pathV (Nat.le_of_lt hilt) hpl];exact(hsl u).1 j oj hj hd (hmask j hb)
  ·obtain⟨e1,e2⟩:=t.slot_none u i (Nat.le_of_lt hilt) hno;rw[e1,e2];refine⟨fun _=>(hsl u).2 fun j oj hj hd hDj=> ?_,fun hn=>absurd (fun q hq=>by cases hq) hn⟩
   rcases Nat.lt_trichotomy j i with h|h|h
   ·exact hno j oj h hj hd
   ·subst h;exact hni hDj
   ·have hpr:=t.pair j oj i o hj hi h;have hb:Nat.testBit (m j) i=true:=by
     unfold pairOk at hpr;rw[hd,usesB_ok hu] at hpr
     simpa using And.right (by simpa using hpr)
    exact hlater j oj hj h hb hDj
 have huse:∀u,Operand.tmp u ∈ o.op.operands.toList->u ∈ usesOf all o:=by
  intro u hu;unfold usesOf;split
  ·exact mem_tmpsOf hu
  ·split
   ·exact List.mem_cons_of_mem _ (mem_tmpsOf hu)
   ·exact mem_tmpsOf hu
 have hxt:HExt (HH H0 S e) H:=hrel_ext hNR hR;have hreader:stays G o.op=true->∃G' H' side,Good P G G'/\evOp P G' (S i).s H o.op=some (y i,H',side)/\H'=H/\(PathH (S i).s (p i)->side.getD True):=by
  intro hs;obtain⟨_,G',H',side,hGG,hev,hside⟩:=hst.reader hs;by_cases hpu:pureB o.op=true
  ·exact⟨G',_,side,hGG,evOp_pure hpu hev,rfl,hside⟩
  have hpu:pureB o.op=false:=Bool.eq_false_iff.2 hpu;obtain⟨q,hq,he,hno,hor⟩:=t.hist_at (m i) i (Nat.le_of_lt hilt);rw[he] at hev;have hdone:∀x,x<q->isM G all x->D x:=by
   intro x hx hxm;obtain⟨ox,hox,hsx⟩:=hxm;rcases hor with rfl|⟨x0,rfl,⟨o0,ho0,hs0⟩,hal0,hb0⟩
   ·omega
   ·have hD0:=hmask x0 hb0;by_cases hxx:x=x0
    ·subst hxx;exact hD0
    ·have hpr:=t.pair x0 o0 x ox ho0 hox (by omega)
     have hb:Nat.testBit (m x0) x=true:=by
      unfold pairOk at hpr;rw[alAt_iff ho0] at hal0;rw[hsx,hs0,hal0] at hpr
      simpa using And.right (by simpa using hpr)
     exact t.mask_done hcl x0 o0 ho0 (fun e he hb'=>hcl x0 o0 hD0 ho0 e he hb') x hb
  have hkey:∀x ox,q<=x->x<e->all[x]? =some ox->stays G ox.op=false->(growB G ox.op=true∨isAlB (flB G) ox=true)∨disjB (readB (S i).s o.op) (writeB (HH H0 S x) (S x).s ox.op)=true:=by
   intro x ox h1 h2 hox hsx;have hDx:=hA x ⟨ox,hox,hsx⟩ h2;rcases Nat.lt_trichotomy x i with h|h|h
   ·rcases hno x h1 h ⟨ox,hox,hsx⟩ with hb|hal
    ·have hpr:=t.pair i o x ox hi hox h;unfold pairOk rwOf at hpr;rw[hb,hsx,hs,hpu] at hpr;simp only[Bool.false_or,Bool.or_false,Bool.and_eq_true,Bool.or_eq_true] at hpr;exact hpr.2.2.imp .inl id
    ·rw[alAt_iff hox] at hal;exact .inl (.inr hal)
   ·subst h;exact absurd hDx hni
   ·have hpr:=t.pair x ox i o hox hi h;unfold pairOk rwOf at hpr;cases hb:Nat.testBit (m x) i with
    |true=>exact absurd hDx (hlater x ox hox h hb)
    |false=>
     rw[hb,hsx,hs,hpu] at hpr;simp only[Bool.false_or,Bool.or_false,Bool.and_eq_true,Bool.or_eq_true] at hpr;exact hpr.2.2.imp .inl id
  have hback:e<=q->HExt (HH H0 S q) H:=fun heq=>
   hrel_ext (nr_to t heq (by omega) (fun x h1 h2 hx=>hB x hx (hdone x h2 hx) h1) hNR) (hrel_to t heq (by omega) (fun x h1 h2 hx=>⟨hdone x h2 hx,hB x hx (hdone x h2 hx) h1⟩) hR)
  cases hrd:readB (S i).s o.op with
  |none=>
   have hext:HExt (HH H0 S q) H:=by
    rcases Nat.le_total q e with hqe|hqe
    ·refine(t.hist_ext e hqe hen fun x ox h1 h2 hox hsx=> ?_).trans hxt
     rcases hkey x ox h1 h2 hox hsx with h|h
     ·exact h
     ·rw[hrd] at h;cases h
    ·exact hback hqe
   exact⟨G',_,side,hGG,evOp_ext hext (by rw[hGG.stays];exact hs) hev,rfl,hside⟩
  |some R=>
   have hext:ExtOn R (HH H0 S q) H:=by
    rcases Nat.le_total q e with hqe|hqe
    ·have h0:ExtOn R (HH H0 S q) (HH H0 S e):=t.hist_extOn e hqe hen fun x ox h1 h2 hox hsx=>by
      have:=hkey x ox h1 h2 hox hsx;rw[hrd] at this;exact this
     exact fun k hk ob hob=>hxt k ob (h0 k hk ob hob)
    ·exact fun k _ ob hob=>hback hqe k ob hob
   exact⟨G',_,side,hGG,evOp_dep hrd (by rw[hGG.stays];exact hs) hext hev,rfl,hside⟩
 have hMi:stays G o.op=false->isM G all i:=fun hs=>⟨o,hi,hs⟩
 have hei:stays G o.op=false->e<=i:=fun hs=>by
  rcases Nat.lt_or_ge i e with h|h
  ·exact absurd (hA i (hMi hs) h) hni
  ·exact h
 have hwriter:stays G o.op=false->isAlB (flB G) o=false->∃G' side H',Good P G G'/\evOp P G' (S i).s H o.op=some (y i,H',side)/\side.getD True/\(∀x,isM G all x->x<i+1->D x∨x=i)/\(∀x,isM G all x->(D x∨x=i)->i+1<=x->alAt (flB G) all x=true)/\HRel G all b H0 S (fun k=>D k∨k=i) (i+1) H'/\(∀x,i+1<=x->alAt (flB G) all x=true->D x->getOb (HH H0 S (i+1)) (plA (flB G) b all x)=none):=by
  intro hs hna;obtain⟨G',H',side,hGG,hev,hh,hside⟩:=hst.writer hs hna;have hnb:=hna;have hbef:∀x,isM G all x->x<i->D x:=by
   intro x hx hxi;obtain⟨ox,hox,hsx⟩:=hx;have hpr:=t.pair i o x ox hi hox hxi;have hb:Nat.testBit (m i) x=true:=by
    unfold pairOk at hpr;rw[hsx,hs,hnb] at hpr
    simpa using And.right (by simpa using hpr)
   exact hmask x hb
  have hei:=hei hs;have hRi:HRel G all b H0 S D i H:=hrel_to t hei (Nat.le_of_lt hilt) (fun x h1 h2 hx=>⟨hbef x hx h2,hB x hx (hbef x hx h2) h1⟩) hR
  have hNi:NR G all b H0 S i:=nr_to t hei (Nat.le_of_lt hilt) (fun x h1 h2 hx=>hB x hx (hbef x hx h2) h1) hNR
  have hBi:∀x,isM G all x->D x->i<=x->alAt (flB G) all x=true:=fun x hx hd hix=>hB x hx hd (by omega)
  have h1:hCur H0 (S i).hist=HH H0 S i:=rfl;have h2:HH H0 S (i+1)=H':=by simp only[HH,hh,hCur]
  rw[h1] at hev;have hA':∀x,isM G all x->x<i+1->D x∨x=i:=fun x hx hlt=>by
   by_cases hxi:x=i
   ·exact .inr hxi
   ·exact .inl (hbef x hx (by omega))
  have hB':∀x,isM G all x->(D x∨x=i)->i+1<=x->alAt (flB G) all x=true:=fun x hx hor hix=>hBi x hx (hor.resolve_right (by omega)) (by omega)
  by_cases hlate:∃x,i<x/\alAt (flB G) all x=true/\D x
  ·obtain⟨x,hix,hax,hDx⟩:=hlate;obtain⟨ox,hox,htx⟩:=alAt_some hax;have hfl:floatB G o.op=true∨(effB G o.op=true/\(writeB (HH H0 S i) (S i).s o.op).isSome=true):=by
    have hpr:=t.pair x ox i o hox hi hix;have hb:Nat.testBit (m x) i=false:=by
     cases hb:Nat.testBit (m x) i with
     |false=>rfl
     |true=>exact absurd hDx (hlater x ox hox hix hb)
    unfold pairOk at hpr;rw[hb,hs,(al_stays htx).1,hnb] at hpr;simp only[Bool.false_or,Bool.and_eq_true,Bool.or_eq_true] at hpr;exact hpr.2.2.2
   have hsame:∃ks os os2,H'=setObs (HH H0 S i) ks os++os2/\(∀k ∈ ks,∃ob,getOb (HH H0 S i) k=some ob)/\∀H2:Heap,H2.length=(HH H0 S i).length->HExt (HH H0 S i) H2->evOp P G' (S i).s H2 o.op=some (y i,setObs H2 ks os++os2,side):=by
    rcases hfl with hfl|⟨hf,hw⟩
    ·have hfl':floatB G' o.op=true:=by unfold floatB at hfl ⊢;rw[hGG.grow];exact hfl
     obtain⟨os,e1,e2⟩:=mk_same hfl' hev;exact⟨[],[],os,e1,fun k hk=>absurd hk List.not_mem_nil,e2⟩
    ·have hf':effB G' o.op=true:=by
      unfold effB at hf ⊢;split at hf
      ·rw[hGG.ef];exact hf
      ·cases hf
     obtain⟨W,hW⟩:=Option.isSome_iff_exists.1 hw;exact eff_same hf' hW hev
   obtain⟨ks,os,os2,e1,e0,e2⟩:=hsame;rw[e1] at h2;have hnk:∀x',i+1<=x'->alAt (flB G) all x'=true->plA (flB G) b all x' ∉ ks:=fun x' hx' ha' hk=>by
    obtain⟨ob,hob⟩:=e0 _ hk;rw[hNi x' (by omega) ha'] at hob
    cases hob
   obtain⟨r1,r2,r3⟩:=hRi;have hsome:∀x',i+1<=x'->alAt (flB G) all x'=true->D x'->∃ob,getOb H (plA (flB G) b all x')=some ob:=fun x' hx' ha' hD'=>by
    have:=r2 x' (by omega) ha' hD'
    obtain⟨o',ho',ht'⟩:=alAt_some ha';obtain⟨H2,_,hev2,hh2,_⟩:=(t.step x' o' ho').al ht';obtain⟨_,hr,_,e3⟩:=evAl_ok hev2;have e4:HH H0 S (x'+1)=H2:=by simp only[HH,hh2,hCur]
    rw[e4,e3,getOb_set hr,if_pos rfl] at this;exact⟨_,this⟩
   have hleft:∀(A:Heap) (k:Nat),k<A.length->getOb (setObs A ks os++os2) k=getOb (setObs A ks os) k:=fun A k hk=>by
    unfold getOb;rw[List.getElem?_append_left (by rw[setObs_len];exact hk)]
   refine⟨G',side,setObs H ks os++os2,hGG,e2 H r1 (hrel_ext hNi ⟨r1,r2,r3⟩),hside,hA',hB',⟨by rw[h2,List.length_append,List.length_append,setObs_len,setObs_len,r1],fun x' hx' ha' hD'=> ?_,fun k hk=> ?_⟩,fun x' hx' ha' hD'=> ?_⟩
   ·have hDx':D x':=hD'.resolve_right (by omega)
    obtain⟨ob,hob⟩:=hsome x' hx' ha' hDx';rw[hleft H _ (getOb_lt hob),setObs_keep (hnk x' hx' ha')];exact r2 x' (by omega) ha' hDx'
   ·have:=r3 k fun x' hx' ha' hDx'=>by
     by_cases hxi:x'=i
     ·exact absurd (hxi▸hDx') hni
     ·exact hk x' (by omega) ha' (.inl hDx')
    rw[h2];by_cases hkl:k<H.length
    ·rw[hleft H k hkl,hleft (HH H0 S i) k (by rw[←r1];exact hkl)]
     exact setObs_eq r1 this
    ·unfold getOb;rw[List.getElem?_append_right (by rw[setObs_len];omega),List.getElem?_append_right (by rw[setObs_len,←r1];omega),setObs_len,setObs_len,r1]
   ·obtain⟨ob,hob⟩:=hsome x' hx' ha' hD';rw[h2,hleft (HH H0 S i) _ (by rw[←r1];exact getOb_lt hob),setObs_keep (hnk x' hx' ha')]
    exact hNi x' (by omega) ha'
  ·have hH:H=HH H0 S i:=heap_ext hRi.1 fun k=>hRi.2.2 k fun x hx ha hDx=>by
    by_cases hxi:x=i
    ·exact absurd (hxi▸hDx) hni
    ·exact absurd ⟨x,by omega,ha,hDx⟩ hlate
   refine⟨G',side,H',hGG,by rw[hH];exact hev,hside,hA',hB',⟨by rw[h2],fun x hx ha hD=> ?_,fun k _=>by rw[h2]⟩,fun x hx ha hD=>absurd ⟨x,by omega,ha,hD⟩ hlate⟩
   exact absurd ⟨x,by omega,ha,hD.resolve_right (by omega)⟩ hlate
 have hPV:PathH (S i).s (p i)↔PathV all y (p i):=t.pathV (Nat.le_of_lt hilt) fun z hz=>t.path_lt i o hi z hz
 have run:PathV all y (p i)->o.wp P a w K Q:=by
  intro hpv;have hph:=hPV.2 hpv;obtain⟨hop,hpk⟩:=paths_ok' (E:=E) (w:=w) (a:=a) (fun u hu=>(hused u (huse u hu)).1) hph hst.paths
  have hnx:∀{x:Nat},stays G o.op=true->isM G all x->x≠i:=fun{x} hs hx=>by
   rintro rfl;obtain⟨ox,hox,hsx⟩:=hx;rw[hi] at hox;simp only[Option.some.injEq] at hox;subst hox;rw[hs] at hsx;cases hsx
  have hL':∀{E':Env} {w':World},Step E w E' w'->∀x,alAt (flB G) all x=true->¬D x->¬E'.L (plA (flB G) b all x):=fun{E' w'} hs' x ha hnd hL=>by
   obtain⟨j,hj,hlt⟩:=hsen x ha;rcases hs'.nl _ hL with h1|h1
   ·exact hres x ha hnd h1
   ·have:=h1 j hj;omega
  have hS':∀{E':Env} {w':World},Stp E w E' w'->∀x,alAt (flB G) all x=true->∃j,E'.L j/\plA (flB G) b all x<j:=fun hs' x ha=>by
   obtain⟨j,hj,hlt⟩:=hsen x ha;exact⟨j,hs'.le.L j hj,hlt⟩
  cases hs:stays G o.op with
  |true=>
   obtain⟨G',H',side,hGG,hev,rfl,hside⟩:=hreader hs;refine op_ok hGG.ok hGG.call hI hev (hside hph) hop hpk fun v w' E' hI' hst' hrd=>hK _ _ ⟨(hput v).1,(hput v).2,E',e,_,hen,fun x hx hlt=>.inl (hA x hx hlt),fun x hx hd=>hB x hx (hd.resolve_right (hnx hs hx)),⟨hR.1,fun x hx ha hd=>hR.2.1 x hx ha (hd.resolve_right (hnx hs (al_isM ha))),fun k hk=>hR.2.2 k fun x hx ha hd=>hk x hx ha (.inl hd)⟩,hNR,hI',fun x ha hnd=>hL' hst' x ha fun hd=>hnd (.inl hd),hS' hst'.stp,slotD_put t hi hsz hst'.stp ⟨fun _=>hrd,fun hn=>absurd hpv hn⟩ hsl⟩
  |false=>
   cases hal:isAlB (flB G) o with
   |false=>
    obtain⟨G',side,H',hGG,hev,hside,hA',hB',hR',hlt'⟩:=hwriter hs hal;refine op_ok hGG.ok hGG.call hI hev hside hop hpk fun v w' E' hI' hst' hrd=> ?_
    have hN':NR G all b H0 S (i+1):=fun x hx ha=>by
     by_cases hD:D x
     ·exact hlt' x hx ha hD
     ·have hnL:=hL' hst' x ha (fun hd=>hD hd)
      have hxi:x≠i:=by omega
      rw[←hR'.2.2 (plA (flB G) b all x) fun x' hx' ha' hD' he=>by
       have hDx':D x':=hD'.resolve_right (by omega)
       exact plA_ne ha ha' (fun h=>hD (h▸hDx')) he]
      cases hk:getOb H' (plA (flB G) b all x) with
      |none=>rfl
      |some ob=>exact absurd (hI'.heap.live _ ob hk).1 hnL
    exact hK _ _ ⟨(hput v).1,(hput v).2,E',i+1,H',hilt,hA',hB',hR',hN',hI',fun x ha hnd=>hL' hst' x ha fun hd=>hnd (.inl hd),hS' hst'.stp,slotD_put t hi hsz hst'.stp ⟨fun _=>hrd,fun hn=>absurd hpv hn⟩ hsl⟩
   |true=>
    obtain⟨H1,side,hev,hh,hsd⟩:=hst.al hal;obtain⟨_,hrl,_⟩:=evAl_ok hev;have hai:alAt (flB G) all i=true:=by rw[alAt_iff hi];exact hal
    obtain⟨j,hj,hjl⟩:=hsen i hai;have hrH:plA (flB G) b all i<H.length:=by have:=hI.heap.lt j hj;omega
    have hei:=hei hs;have e2:HH H0 S (i+1)=H1:=by simp only[HH,hh,hCur]
    obtain⟨v,w',E',ob,e1,hrun,g1,g2,g3,g4⟩:=al_run hI hev hsd hrH (hres i hai hni) hop;refine value_wp (w':=w') (v:=v) hrun (hK _ _ ⟨(hput _).1,(hput _).2,E',e,_,hen,fun x hx hlt=>.inl (hA x hx hlt),fun x hx hd hex=> ?_,⟨by rw[List.length_set];exact hR.1,fun x hx ha hd=> ?_,fun k hk=> ?_⟩,hNR,g1,fun x ha hnd hL=> ?_,hS' g2,slotD_put t hi hsz g2 ⟨fun _=>g3,fun hn=>absurd hpv hn⟩ hsl⟩)
    ·rcases hd with hd|rfl
     ·exact hB x hx hd hex
     ·exact hai
    ·by_cases hxi:x=i
     ·subst hxi;rw[getOb_set hrH,if_pos rfl,e2,e1,getOb_set hrl,if_pos rfl]
     ·rw[getOb_set hrH,if_neg (plA_ne ha hai hxi)];exact hR.2.1 x hx ha (hd.resolve_right hxi)
    ·have hkr:=hk i hei hai (.inr rfl);rw[getOb_set hrH,if_neg hkr];exact hR.2.2 k fun x hx ha hd=>hk x hx ha (.inl hd)
    ·rcases g4 _ hL with h1|h1
     ·exact hres x ha (fun hd=>hnd (.inl hd)) h1
     ·exact plA_ne ha hai (fun hxi=>hnd (.inr hxi)) h1
 have skip:¬PathV all y (p i)->stays G o.op=true->K (a.put o.dst undef) w:=by
  intro hn hs;have hnx:∀{x:Nat},isM G all x->x≠i:=fun{x} hx=>by
   rintro rfl;obtain⟨ox,hox,hsx⟩:=hx;rw[hi] at hox;simp only[Option.some.injEq] at hox;subst hox;rw[hs] at hsx;cases hsx
  exact hK _ _ ⟨(hput _).1,(hput _).2,E,e,H,hen,fun x hx hlt=>.inl (hA x hx hlt),fun x hx hd=>hB x hx (hd.resolve_right (hnx hx)),⟨hR.1,fun x hx ha hd=>hR.2.1 x hx ha (hd.resolve_right (hnx (al_isM ha))),fun k hk=>hR.2.2 k fun x hx ha hd=>hk x hx ha (.inl hd)⟩,hNR,hI,fun x ha hnd=>hres x ha fun hd=>hnd (.inl hd),hsen,slotD_put t hi hsz (Step.refl E w).stp ⟨fun hp=>absurd hp hn,fun _=>rfl⟩ hsl⟩
 unfold wpOp;simp only[hi];cases hg:o.guard with
 |none=>
  have hw:Region.wanted o (yielded all a.tmps)=true:=by simp[Region.wanted,hg]
  rw[if_pos hw];refine .inl (run ?_)
  rw[(hst.plain hg).1];exact fun z hz=>by cases hz
 |some gw=>
  obtain⟨j,want⟩:=gw;obtain⟨g,x,hgd,hx,hji,hp,_,hs,_⟩:=hst.guarded j want hg;have hgu:g ∈ usesOf all o:=by
   unfold usesOf;rw[hg];simp only[hgd];exact List.mem_cons_self
  have hy:yielded all a.tmps j=match a.tmps[g]? with|some (.bool b)=>some b|_=>none:=by
   unfold yielded;rw[hgd];rfl
  by_cases hpg:PathH (S i).s (pathOf (S i).ps g)
  ·have hv:=(hused g hgu).1 hpg;rw[hx] at hv;have hv':=rd_bool hv;have hgv:a.tmps[g]? =some (.bool x):=by
    rw[Array.getD_eq_getD_getElem?] at hv';cases hq:a.tmps[g]? with
    |none=>rw[hq] at hv';simp[undef] at hv'
    |some z=>rw[hq] at hv';simp at hv';rw[hv']
   have hyl:yielded all a.tmps j=some x:=by rw[hy,hgv]
   by_cases hxw:x=want
   ·have hw:Region.wanted o (yielded all a.tmps)=true:=by simp[Region.wanted,hg,hyl,hxw]
    rw[if_pos hw];refine .inl (run (hPV.1 ?_))
    rw[hp];intro q hq;rcases List.mem_cons.1 hq with rfl|hq
    ·exact⟨x,hx,hxw⟩
    ·exact hpg q hq
   ·have hw:¬Region.wanted o (yielded all a.tmps)=true:=by simp[Region.wanted,hg,hyl,hxw]
    rw[if_neg hw];refine skip (fun hpv=> ?_) hs
    have hph:=hPV.2 hpv;rw[hp] at hph;obtain⟨x',hx',he'⟩:=hph (g,want) (by simp)
    rw[hx] at hx';cases hx';exact hxw he'
  ·have hv':=(hused g hgu).2 hpg;have hyl:yielded all a.tmps j=none:=by
    rw[hy];rw[Array.getD_eq_getD_getElem?] at hv';cases hq:a.tmps[g]? with
    |none=>rfl
    |some z=>rw[hq] at hv';simp at hv';rw[hv'];rfl
   have hw:¬Region.wanted o (yielded all a.tmps)=true:=by simp[Region.wanted,hg,hyl]
   rw[if_neg hw];refine skip (fun hpv=>hpg ?_) hs
   have hph:=hPV.2 hpv;rw[hp] at hph;exact fun q hq=>hph q (by simp[hq])

end
end Go.SS
/- A calculus of symbolic states: a region, in whatever order: the whole. -/
namespace Go.SS
open Go.RowKit

def undone(n:Nat)(listed:Array Bool):List Nat:=(List.range n).filter fun k=> !listed.getD k false

theorem undone_lt{n i:Nat}{listed:Array Bool}(hi:i<n)(hs:listed.size=n)(h:listed.getD i false=false):(undone n (listed.setIfInBounds i true)).length<(undone n listed).length:=by
 have hsub:∀k,(!(listed.setIfInBounds i true).getD k false)=true->(!listed.getD k false)=true:=by
  intro k hk;by_cases hki:i=k
  ·subst hki;simp[h]
  ·rwa [getD_set_ne false hki] at hk
 have key:∀l:List Nat,(l.filter fun k=> !(listed.setIfInBounds i true).getD k false).length<=(l.filter fun k=> !listed.getD k false).length/\(i ∈ l->(l.filter fun k=> !(listed.setIfInBounds i true).getD k false).length<(l.filter fun k=> !listed.getD k false).length):=by
  intro l;induction l with
  |nil=>exact⟨Nat.le_refl _,fun h=>by cases h⟩
  |cons x l ih=>
   obtain⟨h1,h2⟩:=ih;simp only[List.filter_cons];by_cases hxi:x=i
   ·subst hxi;have e1:(!(listed.setIfInBounds x true).getD x false)=false:=by simp[hs,hi]
    rw[e1,h];simp only[Bool.false_eq_true,if_false,Bool.not_false,if_true,List.length_cons];exact⟨by omega,fun _=>by omega⟩
   ·rw[getD_set_ne false (Ne.symm hxi)];split
    ·simp only[List.length_cons];exact⟨by omega,fun hm=>by have:=h2 ((List.mem_cons.1 hm).resolve_left (Ne.symm hxi));omega⟩
    ·exact⟨h1,fun hm=>h2 ((List.mem_cons.1 hm).resolve_left (Ne.symm hxi))⟩
 exact(key _).2 (List.mem_range.2 hi)

section
variable {c:Ctx} {P:Program} {G:Gam} {all:Array Oper} {b:Nat} {H0:Heap} {s0:Slots} {S:Nat->St} {y:Nat->T} {p:Nat->Path} {m:Nat->Nat}

theorem RD.congr{D D':Nat->Prop}(h:∀k,k<all.size->(D k↔D' k)){a:Act}{w:World}(hr:RD c G all b H0 s0 S y p D a w):RD c G all b H0 s0 S y p D' a w:=by
 obtain⟨h1,h2,E,e,H,h3,hA,hB,hR,hN,h5,hL,hS,h6⟩:=hr;have lt:∀{j:Nat} {o:Oper},all[j]? =some o->j<all.size:=fun hj=>(Array.getElem?_eq_some_iff.1 hj).1
 have ltm:∀{x:Nat},isM G all x->x<all.size:=fun hx=>by obtain⟨o,ho,_⟩:=hx;exact lt ho
 have lta:∀{x:Nat},alAt (flB G) all x=true->x<all.size:=fun hx=>by obtain⟨o,ho,_⟩:=alAt_some hx;exact lt ho
 exact⟨h1,h2,E,e,H,h3,fun x hx hlt=>(h x (ltm hx)).1 (hA x hx hlt),fun x hx hd=>hB x hx ((h x (ltm hx)).2 hd),
  ⟨hR.1,fun x hx ha hd=>hR.2.1 x hx ha ((h x (lta ha)).2 hd),fun k hk=>hR.2.2 k fun x hx ha hd=>hk x hx ha ((h x (lta ha)).1 hd)⟩,hN,h5,fun x ha hnd=>hL x ha fun hd=>hnd ((h x (lta ha)).1 hd),hS,
  fun u=>⟨fun j o hj hd hDj=>(h6 u).1 j o hj hd ((h j (lt hj)).2 hDj),fun hno=>(h6 u).2 fun j o hj hd hDj=>hno j o hj hd ((h j (lt hj)).1 hDj)⟩⟩

theorem any_ok(t:Trace P G c.nt all b H0 s0 S y p m)(hG:GamOk P G)(hGc:∀x ∈ G,Callable P x.1){Q:Exit->Act->World->Prop}(hQ:∀a' w',RD c G all b H0 s0 S y p (fun _=>True) a' w'->Q .normal a' w'):
  ∀(fuel:Nat) (listed:Array Bool) (a:Act) (w:World),listed.size=all.size->(undone all.size listed).length<=fuel->Cl all (fun k=>listed.getD k false=true)->RD c G all b H0 s0 S y p (fun k=>listed.getD k false=true) a w->
   wpAny P .any all Q fuel listed a w:=by
 have fin:∀(listed:Array Bool) (a:Act) (w:World),listed.size=all.size->Cl all (fun k=>listed.getD k false=true)->RD c G all b H0 s0 S y p (fun k=>listed.getD k false=true) a w->Region.ready .any all listed=[]->Q .normal a w:=by
  intro listed a w hs hcl hr hnil;refine hQ a w (hr.congr fun k hk=>⟨fun _=>trivial,fun _=> ?_⟩)
  induction k using Nat.strongRecOn with
  |_ k ih=>
   cases hb:listed.getD k false with
   |true=>rfl
   |false=>
    have ho:=Array.getElem?_eq_getElem hk
    have hmem:k ∈ Region.ready .any all listed:=by
     refine mem_ready.2 ⟨?_,_,ho,fun e he hbd=> ?_⟩
     ·have hlt:k<listed.size:=by omega
      simp only[Array.getD_eq_getD_getElem?,Array.getElem?_eq_getElem hlt,Option.getD_some] at hb ⊢
      exact hb
     ·have hlt:=t.edge k _ ho e (by simpa using he) hbd
      exact ih e.on hlt (by omega)
    rw[hnil] at hmem;cases hmem
 intro fuel;induction fuel with
 |zero=>
  intro listed a w hs hu hcl hr;have hnil:Region.ready .any all listed=[]:=by
   cases hl:Region.ready .any all listed with
   |nil=>rfl
   |cons x xs=>
    have hx:x ∈ Region.ready .any all listed:=by rw[hl];simp
    obtain⟨h0,o,ho,_⟩:=mem_ready.1 hx;have hlt:x<all.size:=(Array.getElem?_eq_some_iff.1 ho).1
    have hmem:x ∈ undone all.size listed:=by
     unfold undone;rw[List.mem_filter,List.mem_range];refine⟨hlt,?_⟩
     have hlt':x<listed.size:=by omega
     simp only[Array.getD_eq_getD_getElem?,Array.getElem?_eq_getElem hlt',Option.getD_some] at h0 ⊢
     simp[h0]
    have:=List.length_pos_of_mem hmem;omega
  exact⟨hnil,fin listed a w hs hcl hr hnil⟩
 |succ fuel ih=>
  intro listed a w hs hu hcl hr;refine⟨fin listed a w hs hcl hr,fun i hi=> ?_⟩
  obtain⟨h0,o,ho,hpre⟩:=mem_ready.1 hi;have hlt:i<all.size:=(Array.getElem?_eq_some_iff.1 ho).1
  have hni:listed.getD i false=false:=by
   have hlt':i<listed.size:=by omega
   simp only[Array.getD_eq_getD_getElem?,Array.getElem?_eq_getElem hlt',Option.getD_some] at h0 ⊢
   exact h0
  refine op_step t hG hGc hcl ho (by rw[hni];simp) (fun e he hb=>hpre e (by simpa using he) hb) hr fun a' w' hr'=> ?_
  have hset:∀k,(listed.setIfInBounds i true).getD k false=true↔(listed.getD k false=true∨k=i):=by
   intro k;by_cases hki:i=k
   ·subst hki;simp[hs,hlt]
   ·rw[getD_set_ne false hki];exact⟨.inl,fun h=>h.resolve_right (Ne.symm hki)⟩
  refine ih _ a' w' (by simp[hs]) (by have:=undone_lt hlt hs hni;omega) (fun j oj hDj hj e he hb=> ?_) (hr'.congr fun k _=>(hset k).symm)
  refine(hset e.on).2 ?_
  rcases(hset j).1 hDj with h|rfl
  ·exact .inl (hcl j oj h hj e he hb)
  ·rw[ho] at hj;simp only[Option.some.injEq] at hj;subst hj;exact .inl (hpre e (by simpa using he) hb)

theorem draw_inv{E:Env}{H:Heap}{w:World}(h:Inv c E H w):Inv c E H {w with drawn:=w.drawn+1}:=by
 have hs:Step E w E {w with drawn:=w.drawn+1}:=⟨Env.le.refl E,fun _ _=>rfl,fun _ h=>.inl h⟩
 exact⟨⟨fun k ob hk=>⟨(h.heap.live k ob hk).1,(h.heap.live k ob hk).2.1.mono (h.heap.live k ob hk).1 hs (fun _ _=>rfl),(h.heap.live k ob hk).2.2⟩,h.heap.inj,h.heap.lt,h.heap.l2,h.heap.cur⟩,h.nlt,h.nnew,h.bnew,⟨h.fr.os,h.fr.tape,h.fr.output,h.fr.size,h.fr.block,Nat.le_succ_of_le h.fr.dr⟩,h.keep.step hs⟩

theorem pad_inv{E:Env}{H:Heap}{w:World}(h:Inv c E H w)(n:Nat):Inv c E (H++List.replicate n none) w:=by
 have hg:∀k ob,getOb (H++List.replicate n none) k=some ob->getOb H k=some ob:=fun k ob hk=>by
  unfold getOb at hk ⊢;by_cases hlt:k<H.length
  ·rwa [List.getElem?_append_left hlt] at hk
  ·rw[List.getElem?_append_right (by omega),List.getElem?_replicate] at hk
   split at hk<;>simp at hk
 exact⟨⟨fun k ob hk=>h.heap.live k ob (hg k ob hk),fun k k' o o' x hk hk'=>h.heap.inj k k' o o' x (hg k o hk) (hg k' o' hk'),fun k hk=>by have:=h.heap.lt k hk;simp;omega,h.heap.l2,fun k ob v hk=>h.heap.cur k ob v (hg k ob hk)⟩,h.nlt,h.nnew,fun k ob x hk=>h.bnew k ob x (hg k ob hk),h.fr,h.keep⟩

theorem cntA_zero{all:Array Oper}{x:Nat}(h:cntA (flB G) all.toList=0):alAt (flB G) all x=false:=by
 cases ha:alAt (flB G) all x with
 |false=>rfl
 |true=>
  obtain⟨o,ho,_⟩:=alAt_some ha;have:=cntA_lt ha (Array.getElem?_eq_some_iff.1 ho).1
  rw[show all.size=all.toList.length by simp,List.take_length] at this
  omega

theorem padA_ok{all:Array Oper}{E:Env}{H:Heap}{w:World}(h:Inv c E H w):
  ∃E1,Inv c E1 (padA H (cntA (flB G) all.toList)) w/\Stp E w E1 w/\(∀x,alAt (flB G) all x=true->¬E1.L (plA (flB G) H.length all x))/\∀x,alAt (flB G) all x=true->∃j,E1.L j/\plA (flB G) H.length all x<j:=by
 cases hn:cntA (flB G) all.toList with
 |zero=>exact⟨E,h,(Step.refl E w).stp,fun x ha=>by(rw[cntA_zero hn] at ha;cases ha),fun x ha=>by(rw[cntA_zero hn] at ha;cases ha)⟩
 |succ n=>
  obtain⟨g1,g2⟩:=pushEmp (pad_inv h (n+1)) 0 1;have hlen:(H++List.replicate (n+1) (none:Option Ob)).length=H.length+(n+1):=by simp
  have hpl:∀x,alAt (flB G) all x=true->plA (flB G) H.length all x<H.length+(n+1):=fun x ha=>by
   obtain⟨o,ho,_⟩:=alAt_some ha;have:=cntA_lt ha (Array.getElem?_eq_some_iff.1 ho).1
   rw[show all.size=all.toList.length by simp,List.take_length,hn] at this
   unfold plA;omega
  refine⟨_,g1,g2.stp,fun x ha hL=> ?_,fun x ha=>⟨H.length+(n+1),.inr hlen.symm,hpl x ha⟩⟩
  have:=hpl x ha;rcases hL with hL|hL
  ·have:=h.heap.lt _ hL;unfold plA at this;omega
  ·rw[hlen] at hL;omega

theorem vcAny_any(hG:GamOk P G)(hGc:∀x ∈ G,Callable P x.1){K:Slots->Heap->Prop}{Q:Exit->Act->World->Prop}{s:Slots}{H:Heap}(hK:∀s' H' a' w',K s' H'->Real c s' H' a' w'->Q .normal a' w')
  {E:Env} {a:Act} {w:World} (h:vcAny P G c.nt all H.length (padA H (cntA (flB G) all.toList)) all.toList 0 [] [] s [] [] K) (hr:RealE c E s [] H a w):wpAny P .any all Q all.size (Array.replicate all.size false) a {w with drawn:=w.drawn+1}:=by
 obtain⟨S,y,p,m,f,hS,_,hstep,hk⟩:=trace hG hGc all.toList 0 [] [] (fun _=>(none,none)) s [] [] rfl (Nat.zero_le _) rfl (fun k o hk=>by omega) h
 have t:Trace P G c.nt all H.length (padA H (cntA (flB G) all.toList)) s S y p m:={
  start:=hS
  step:=fun k o ho=>(hstep k o (Nat.zero_le _) ho).1
  edge:=fun k o ho e he hb=>by
   have:=List.all_eq_true.1 (hstep k o (Nat.zero_le _) ho).2.1 e he;simp only[hb,Bool.not_true,Bool.false_or] at this;exact Nat.le_of_ble_eq_true this
  pair:=fun k o k' o' ho ho' hlt=>by
   have h1:=(hstep k o (Nat.zero_le _) ho).2.2.1;have h2:=(hstep k' o' (Nat.zero_le _) ho').2.2.1;have:=h1.2 k' o' hlt ho';rw[h1.1,h2.1] at this;exact this
  mask:=fun k o j ho hb=>(hstep k o (Nat.zero_le _) ho).2.2.2 j hb}
 have hr':=hr.inv;refine any_ok t hG hGc (fun a' w' hrd=> ?_) all.size _ a _ (by simp) (Nat.le_trans (List.length_filter_le _ _) (by simp)) (fun j o hD=> ?_) ?_
 ·obtain⟨h1,h2,E',e,Hx,he,hA,hB,hR,_,hI,_,_,hsl⟩:=hrd;have hR':=hrel_to t he (Nat.le_refl _) (fun x q1 q2 hx=>⟨trivial,hB x hx trivial q1⟩) hR
  have hH:Hx=HH (padA H (cntA (flB G) all.toList)) S all.size:=heap_ext hR'.1 fun k=>hR'.2.2 k fun x hx ha _=>by
   obtain⟨o,ho,_⟩:=alAt_some ha;have:=(Array.getElem?_eq_some_iff.1 ho).1
   omega
  refine hK _ _ a' w' hk ⟨E',h1,h2,⟨fun u _=> ?_,fun u hu=>absurd (fun q hq=>by cases hq) hu⟩,by rw[hH] at hI;exact hI⟩
  rcases slk_endS (S all.size).s (S all.size).ps u with he'|⟨he',hp⟩
  ·rw[he'];exact .und _
  ·rw[he'];rcases writer_dec all u all.size with⟨j,o,hj,ho,hd⟩|hno
   ·obtain⟨e1,e2⟩:=t.slot_some ho hd all.size hj (Nat.le_refl _);rw[e1];rw[e2] at hp;exact((hsl u).1 j o ho hd trivial).1 (by rw[hp];exact fun z hz=>by cases hz)
   ·rw[(t.slot_none u all.size (Nat.le_refl _) hno).1];exact(hsl u).2 fun j o ho hd _=>hno j o (Array.getElem?_eq_some_iff.1 ho).1 ho hd
 ·simp only[Array.getD_eq_getD_getElem?,Array.getElem?_replicate] at hD
  split at hD<;>simp at hD
 ·have hnd:∀k,¬ (Array.replicate all.size false).getD k false=true:=by
   intro k hD;simp only[Array.getD_eq_getD_getElem?,Array.getElem?_replicate] at hD
   split at hD<;>simp at hD
  obtain⟨E1,g1,g2,g3,g4⟩:=padA_ok (G:=G) (all:=all) hr.inv;have hH0:HH (padA H (cntA (flB G) all.toList)) S 0=padA H (cntA (flB G) all.toList):=by simp[HH,hS,hCur]
  refine⟨hr.defers,hr.size,E1,0,padA H (cntA (flB G) all.toList),Nat.zero_le _,fun x _ hlt=>by omega,fun x _ hD=>absurd hD (hnd x),⟨by rw[hH0],fun x _ _ hD=>absurd hD (hnd x),fun k _=>by rw[hH0]⟩,fun x _ ha=> ?_,draw_inv g1,fun x ha _=>g3 x ha,g4,fun u=>⟨fun j o _ _ hD=>absurd hD (hnd j),fun _=> ?_⟩⟩
  ·rw[hH0];cases hk:getOb (padA H (cntA (flB G) all.toList)) (plA (flB G) H.length all x) with
   |none=>rfl
   |some ob=>exact absurd (g1.heap.live _ ob hk).1 (g3 x ha)
  ·exact Rd.mono (w:=w) (w':={w with drawn:=w.drawn+1}) g2.le (fun _ _=>rfl) (hr.slots.on u (fun q hq=>by cases hq))

end
end Go.SS
/- A calculus of symbolic states: a region in whatever order, whose last operations are done in their order. -/
namespace Go.SS
open Go.RowKit

def RunL(ops:Array Oper):Array Bool->List Nat->Prop
 |listed,[]=>Region.ready .any ops listed=[]
 |listed,k::L=>k ∈ Region.ready .any ops listed/\RunL ops (listed.setIfInBounds k true) L

theorem undone_nil{ops:Array Oper}{listed:Array Bool}(hs:listed.size=ops.size)(hu:(undone ops.size listed).length<=0):Region.ready .any ops listed=[]:=by
 cases hl:Region.ready .any ops listed with
 |nil=>rfl
 |cons x xs=>
  have hx:x ∈ Region.ready .any ops listed:=by rw[hl];simp
  obtain⟨h0,o,ho,_⟩:=mem_ready.1 hx;have hlt:x<ops.size:=(Array.getElem?_eq_some_iff.1 ho).1
  have hmem:x ∈ undone ops.size listed:=by
   unfold undone;rw[List.mem_filter,List.mem_range];refine⟨hlt,?_⟩
   have hlt':x<listed.size:=by omega
   simp only[Array.getD_eq_getD_getElem?,Array.getElem?_eq_getElem hlt',Option.getD_some] at h0 ⊢
   simp[h0]
  have:=List.length_pos_of_mem hmem;omega

theorem ready_no{ops:Array Oper}{listed:Array Bool}{i:Nat}(hs:listed.size=ops.size)(hi:i ∈ Region.ready .any ops listed):i<ops.size/\listed.getD i false=false:=by
 obtain⟨h0,o,ho,_⟩:=mem_ready.1 hi;have hlt:i<ops.size:=(Array.getElem?_eq_some_iff.1 ho).1
 refine⟨hlt,?_⟩
 have hlt':i<listed.size:=by omega
 simp only[Array.getD_eq_getD_getElem?,Array.getElem?_eq_getElem hlt',Option.getD_some] at h0 ⊢
 exact h0

theorem lin_run{ops:Array Oper}:∀(fuel t:Nat) (listed:Array Bool),listed.size=ops.size->(undone ops.size listed).length<=fuel->RunL ops listed (Region.linearise.go .any ops fuel t listed []):=by
 intro fuel;induction fuel with
 |zero=>intro t listed hs hu;exact undone_nil hs hu
 |succ fuel ih=>
  intro t listed hs hu;simp only[Region.linearise.go];change RunL ops listed (match(Region.ready .any ops listed)[t % (Region.ready .any ops listed).length]? with
   |some i=>Region.linearise.go .any ops fuel (t/(Region.ready .any ops listed).length) (listed.setIfInBounds i true) [i]
   |none=>[].reverse)
  cases hi:(Region.ready .any ops listed)[t % (Region.ready .any ops listed).length]? with
  |none=>
   show Region.ready .any ops listed=[];cases hr:Region.ready .any ops listed with
   |nil=>rfl
   |cons x xs=>
    rw[hr] at hi;have hlt:t % (x::xs).length<(x::xs).length:=Nat.mod_lt _ (by simp)
    simp at hi;simp at hlt;omega
  |some i=>
   have hm:=List.mem_of_getElem? hi;obtain⟨hlt,hni⟩:=ready_no hs hm;simp only[];rw[linearise_go_acc,List.reverse_singleton,List.singleton_append];exact⟨hm,ih _ _ (by simp[hs]) (by have:=undone_lt hlt hs hni;omega)⟩

theorem any_run{P:Program}{ops:Array Oper}{Q:Exit->Act->World->Prop}:∀(L:List Nat) (fuel:Nat) (listed:Array Bool) (a:Act) (w:World),wpAny P .any ops Q fuel listed a w->RunL ops listed L->wpOps P ops Q L a w:=by
 intro L;induction L with
 |nil=>
  intro fuel listed a w h hr;cases fuel with
  |zero=>exact h.2
  |succ fuel=>exact h.1 hr
 |cons k L ih=>
  intro fuel listed a w h hr;cases fuel with
  |zero=>
   have:=hr.1;rw[h.1] at this;cases this
  |succ fuel=>
   rw[wpOps_cons];exact wpOp_mono (fun a w h'=>ih fuel _ a w h' hr.2) (h.2 k hr.1)


structure Full(ops:Array Oper)(k:Nat):Prop where
 edge:∀(i:Nat) (o:Oper),ops[i]? =some o->∀e ∈ o.after.toList,Region.binds .any e=true->e.on<i
 gd:∀(i:Nat) (o:Oper) (j:Nat) (b:Bool),ops[i]? =some o->o.guard=some (j,b)->j<i
 full:∀(i:Nat) (o:Oper),k<=i->ops[i]? =some o->∀D:Nat->Prop,Cl ops D->(∀e ∈ o.after.toList,Region.binds .any e=true->D e.on)->∀j,j<i->D j

theorem blt_tt{a b:Nat}(h:Nat.blt a b=true):a<b:=Nat.le_of_ble_eq_true h

theorem full_go{ops:Array Oper}{k:Nat}:∀(rest:List Oper) (tab:List Nat),(∀j,ops[tab.length+j]? =rest[j]?)->(∀D:Nat->Prop,Cl ops D->∀q,q<tab.length->D q->∀j,Nat.testBit (tab.getD q 0) j=true->D j)->fullB k rest tab=true->
  (∀i o,tab.length<=i->ops[i]? =some o->(∀e ∈ o.after.toList,Region.binds .any e=true->e.on<i)/\(∀j b,o.guard=some (j,b)->j<i)/\(k<=i->∀D:Nat->Prop,Cl ops D->(∀e ∈ o.after.toList,Region.binds .any e=true->D e.on)->∀j,j<i->D j)):=by
 intro rest;induction rest with
 |nil=>
  intro tab hr ht hb i o hi ho;have:=hr (i-tab.length);rw[show tab.length+(i-tab.length)=i by omega,ho] at this
  cases this
 |cons o rest ih=>
  intro tab hr ht hb;unfold fullB at hb;simp only[Bool.and_eq_true,Bool.or_eq_true] at hb;obtain⟨⟨⟨b1,b2⟩,b3⟩,b4⟩:=hb;have h0:ops[tab.length]? =some o:=by have:=hr 0;simpa using this
  have hedge:∀e ∈ o.after.toList,Region.binds .any e=true->e.on<tab.length:=fun e he hb=>by
   have:=List.all_eq_true.1 b1 e he;simp only[hb,Bool.not_true,Bool.false_or] at this;exact blt_tt this
  have hmask:∀D:Nat->Prop,Cl ops D->(∀e ∈ o.after.toList,Region.binds .any e=true->D e.on)->∀j,Nat.testBit (maskOf tab o.after.toList) j=true->D j:=fun D hD hpre j hj=>by
   obtain⟨e,he,hb,hor⟩:=mask_ok hj;rcases hor with rfl|hor
   ·exact hpre e he hb
   ·exact ht D hD e.on (hedge e he hb) (hpre e he hb) j hor
  intro i o' hi ho';by_cases hit:i=tab.length
  ·subst hit;rw[h0] at ho';cases ho';refine⟨hedge,fun j b hg=> ?_,fun hk D hD hpre j hj=> ?_⟩
   ·unfold gdB at b2;rw[hg] at b2;exact blt_tt b2
   ·rcases b3 with b3|b3
    ·have:=blt_tt b3;omega
    ·refine hmask D hD hpre j ?_
     rw[Nat.eq_of_beq_eq_true b3,Nat.testBit_two_pow_sub_one];exact decide_eq_true hj
  ·refine ih (tab++[maskOf tab o.after.toList]) (fun j=> ?_) (fun D hD q hq hDq j hj=> ?_) b4 i o' (by simp;omega) ho'
   ·have:=hr (j+1);rw[List.length_append,List.length_singleton,show tab.length+1+j=tab.length+(j+1) by omega,this]
    rfl
   ·rw[List.length_append,List.length_singleton] at hq;by_cases hqt:q=tab.length
    ·subst hqt;rw[List.getD_eq_getElem?_getD,List.getElem?_concat_length] at hj
     exact hmask D hD (fun e he hb=>hD _ _ hDq h0 e he hb) j hj
    ·rw[List.getD_eq_getElem?_getD,List.getElem?_append_left (by omega),←List.getD_eq_getElem?_getD] at hj
     exact ht D hD q (by omega) hDq j hj

theorem full_ok{ops:Array Oper}{k:Nat}(h:fullB k ops.toList []=true):Full ops k:=by
 have:=full_go (ops:=ops) (k:=k) ops.toList [] (fun j=>by simp) (fun D hD q hq=>absurd hq (Nat.not_lt_zero _)) h
 exact⟨fun i o ho=>(this i o (Nat.zero_le _) ho).1,fun i o j b ho hg=>(this i o (Nat.zero_le _) ho).2.1 j b hg,fun i o hk ho=>(this i o (Nat.zero_le _) ho).2.2 hk⟩

section
variable {P:Program} {ops:Array Oper} {k:Nat}

theorem set_self{listed:Array Bool}{k:Nat}(h:k<listed.size):(listed.setIfInBounds k true).getD k false=true:=by
 simp[h]

theorem full_tail(hF:Full ops k):∀(L:List Nat) (i:Nat) (listed:Array Bool),listed.size=ops.size->k<=i->i<=ops.size->(∀j,listed.getD j false=true↔j<i)->RunL ops listed L->L=List.range' i (ops.size-i):=by
 intro L;induction L with
 |nil=>
  intro i listed hs hk hi hl hr;by_cases he:i=ops.size
  ·subst he;simp
  ·exfalso;have ho:=Array.getElem?_eq_getElem (xs:=ops) (i:=i) (by omega)
   have hm:i ∈ Region.ready .any ops listed:=mem_ready.2 ⟨by
    have h1:listed.getD i false=false:=by
     cases hb:listed.getD i false with
     |false=>rfl
     |true=>have:=(hl i).1 hb;omega
    have hlt:i<listed.size:=by omega
    simp only[Array.getD_eq_getD_getElem?,Array.getElem?_eq_getElem hlt,Option.getD_some] at h1 ⊢
    exact h1,_,ho,fun e he hb=>(hl _).2 (hF.edge i _ ho e (by simpa using he) hb)⟩
   rw[show Region.ready .any ops listed=[] from hr] at hm
   cases hm
 |cons x L ih=>
  intro i listed hs hk hi hl hr;obtain⟨hx,hr⟩:=hr;obtain⟨hlt,hni⟩:=ready_no hs hx;obtain⟨_,o,ho,hall⟩:=mem_ready.1 hx;have hix:i<=x:=by
   rcases Nat.lt_or_ge x i with h|h
   ·rw[(hl x).2 h] at hni;cases hni
   ·exact h
  have hxi:x=i:=by
   rcases Nat.lt_or_ge i x with h|h
   ·exfalso;have hD:=hF.full x o (by omega) ho (fun j=>listed.getD j false=true) (fun j oj hj hoj e he hb=>(hl _).2 (by have:=(hl j).1 hj;have:=hF.edge j oj hoj e he hb;omega)) (fun e he hb=>hall e (by simpa using he) hb) i h
    have:=(hl i).1 hD;omega
   ·omega
  subst hxi;have hn:ops.size-x=(ops.size- (x+1))+1:=by omega
  rw[hn,List.range'_succ];congr 1
  refine ih (x+1) _ (by simp[hs]) (by omega) (by omega) (fun j=> ?_) hr
  by_cases hj:x=j
  ·subst hj;constructor
   ·intro _;omega
   ·intro _;exact set_self (by omega)
  ·rw[getD_set_ne false hj,hl];omega

theorem first_undone(hF:Full ops k)(hk:k<=ops.size){l1:Array Bool}(h1:l1.size=ops.size)(hc:Cl ops (fun j=>l1.getD j false=true))(hall:¬ ∀j,j<k->l1.getD j false=true):∃x,x<k/\x ∈ Region.ready .any ops l1:=by
 have key:∀n,n<=k->(∀j,j<n->l1.getD j false=true)∨∃x,x<k/\x ∈ Region.ready .any ops l1:=by
  intro n;induction n with
  |zero=>intro _;exact .inl fun j hj=>absurd hj (Nat.not_lt_zero _)
  |succ n ih=>
   intro hn;rcases ih (by omega) with h|h
   ·cases hb:l1.getD n false with
    |true=>
     refine .inl fun j hj=> ?_
     by_cases hjn:j=n
     ·rw[hjn];exact hb
     ·exact h j (by omega)
    |false=>
     have ho:=Array.getElem?_eq_getElem (xs:=ops) (i:=n) (by omega)
     refine .inr ⟨n,by omega,mem_ready.2 ⟨?_,_,ho,fun e he hbd=>h _ (hF.edge n _ ho e (by simpa using he) hbd)⟩⟩
     have hlt:n<l1.size:=by omega
     simp only[Array.getD_eq_getD_getElem?,Array.getElem?_eq_getElem hlt,Option.getD_some] at hb ⊢
     exact hb
   ·exact .inr h
 rcases key k (Nat.le_refl _) with h|h
 ·exact absurd h hall
 ·exact h

theorem full_split(hF:Full ops k)(hk:k<=ops.size){A:Array Oper}(hA:A=(ops.toList.take k).toArray):∀(L:List Nat) (l1 l2:Array Bool),l1.size=ops.size->l2.size=k->(∀j,j<k->l2.getD j false=l1.getD j false)->(∀j,k<=j->l1.getD j false=false)->Cl ops (fun j=>l1.getD j false=true)->RunL ops l1 L->
  ∃L1,L=L1++List.range' k (ops.size-k)/\RunL A l2 L1:=by
 have hAg:∀j,j<k->A[j]? =ops[j]? :=fun j hj=>by
  rw[hA,List.getElem?_toArray,List.getElem?_take,if_pos hj,Array.getElem?_toList]
 have hAs:A.size=k:=by rw[hA];simp;omega
 intro L;induction L with
 |nil=>
  intro l1 l2 h1 h2 he hn hc hr;by_cases hall:∀j,j<k->l1.getD j false=true
  ·have hd:∀j,l1.getD j false=true↔j<k:=fun j=>⟨fun h=>(Nat.lt_or_ge j k).elim id fun h'=>absurd ((hn j h').symm.trans h) (by simp),hall j⟩
   refine⟨[],full_tail hF [] k l1 h1 (Nat.le_refl _) hk hd hr,undone_nil (by rw[h2,hAs]) ?_⟩
   unfold undone;rw[Nat.le_zero,List.length_eq_zero_iff,List.filter_eq_nil_iff];intro j hj;rw[List.mem_range,hAs] at hj;rw[he j hj,hall j hj];simp
  ·exfalso;obtain⟨x,hx,hm⟩:=first_undone hF hk h1 hc hall;rw[show Region.ready .any ops l1=[] from hr] at hm
   cases hm
 |cons x L ih=>
  intro l1 l2 h1 h2 he hn hc hr;by_cases hall:∀j,j<k->l1.getD j false=true
  ·have hd:∀j,l1.getD j false=true↔j<k:=fun j=>⟨fun h=>(Nat.lt_or_ge j k).elim id fun h'=>absurd ((hn j h').symm.trans h) (by simp),hall j⟩
   refine⟨[],full_tail hF (x::L) k l1 h1 (Nat.le_refl _) hk hd hr,undone_nil (by rw[h2,hAs]) ?_⟩
   unfold undone;rw[Nat.le_zero,List.length_eq_zero_iff,List.filter_eq_nil_iff];intro j hj;rw[List.mem_range,hAs] at hj;rw[he j hj,hall j hj];simp
  ·obtain⟨hx,hr⟩:=hr;obtain⟨hlt,hni⟩:=ready_no h1 hx;obtain⟨h0,o,ho,hpre⟩:=mem_ready.1 hx;have hxk:x<k:=by
    rcases Nat.lt_or_ge x k with h|h
    ·exact h
    ·exfalso;exact hall fun j hj=>hF.full x o h ho _ hc (fun e he hb=>hpre e (by simpa using he) hb) j (by omega)
   have hset:∀j,(l1.setIfInBounds x true).getD j false=true↔(l1.getD j false=true∨j=x):=by
    intro j;by_cases hj:x=j
    ·subst hj;simp[h1,hlt]
    ·rw[getD_set_ne false hj];exact⟨.inl,fun h=>h.resolve_right (Ne.symm hj)⟩
   obtain⟨L1,hL,hR⟩:=ih (l1.setIfInBounds x true) (l2.setIfInBounds x true) (by simp[h1]) (by simp[h2]) (fun j hj=>by
    by_cases hjx:x=j
    ·subst hjx;rw[set_self (by omega),set_self (by omega)]
    ·rw[getD_set_ne false hjx,getD_set_ne false hjx];exact he j hj) (fun j hj=>by rw[getD_set_ne false (by omega)];exact hn j hj) (fun j oj hj hoj e hem hb=>by
    refine(hset _).2 ?_
    rcases(hset j).1 hj with h|rfl
    ·exact .inl (hc j oj h hoj e hem hb)
    ·rw[ho] at hoj;cases hoj;exact .inl (hpre e (by simpa using hem) hb)) hr
   refine⟨x::L1,by rw[hL];rfl,mem_ready.2 ⟨?_,o,by rw[hAg x hxk];exact ho,fun e hem hb=> ?_⟩,hR⟩
   ·have h3:l2.getD x false=false:=by rw[he x hxk];exact hni
    have hlt2:x<l2.size:=by omega
    simp only[Array.getD_eq_getD_getElem?,Array.getElem?_eq_getElem hlt2,Option.getD_some] at h3 ⊢
    exact h3
   ·have:=hF.edge x o ho e (by simpa using hem) hb
    rw[he _ (by omega)]
    exact hpre e hem hb

theorem split_ops(hF:Full ops k){A:Array Oper}(hA:∀j,j<k->A[j]? =ops[j]?)(hA2:A.size=k){Q Q':Exit->Act->World->Prop}{L2:List Nat}(hn:∀a w,Q' .normal a w->wpOps P ops Q L2 a w)(hq:∀e a w,e≠ .normal->Q' e a w->Q e a w):∀(L1:List Nat) (l:Array Bool),l.size=A.size->RunL A l L1->∀(a:Act) (w:World),wpOps P A Q' L1 a w->wpOps P ops Q (L1++L2) a w:=by
 intro L1;induction L1 with
 |nil=>intro l hs _ a w h;exact hn a w h
 |cons x L1 ih=>
  intro l hs hr a w h;obtain⟨hx,hr⟩:=hr;obtain⟨hlt,_⟩:=ready_no hs hx;have hxk:x<k:=by omega
  rw[wpOps_cons] at h;rw[List.cons_append,wpOps_cons];have h:=wpOp_mono (fun a w h'=>ih _ (by simp[hs]) hr a w h') h
  unfold wpOp at h ⊢;rw[hA x hxk] at h;cases ho:ops[x]? with
  |none=>rw[ho] at h;exact h
  |some o=>
   rw[ho] at h;simp only[] at h ⊢;have hy:Region.wanted o (yielded A a.tmps)=Region.wanted o (yielded ops a.tmps):=by
    unfold Region.wanted;cases hg:o.guard with
    |none=>rfl
    |some g=>
     obtain⟨j,b⟩:=g;have:=hF.gd x o j b ho hg;simp only[];unfold yielded;rw[hA j (by omega)]
   rw[hy] at h;have hlo:LetsOut Q'->LetsOut Q:=fun⟨a,w,h⟩=>⟨a,w,hq _ a w (by intro h;cases h) h⟩
   split
   ·rename_i hw;rw[if_pos hw] at h;rcases h with h|⟨h1,h2⟩
    ·refine .inl ?_
     unfold Oper.wp at h ⊢;generalize (execOp a.eval o).run P w=r at h ⊢;cases r with
     |ok n w'=>
      cases n<;>simp only[Oper.upon] at h ⊢ <;>
       first
        |exact h
        |exact Calls.mono h (fun e w'' he=>by cases e<;>first|exact he|exact hq _ _ _ (by intro h;cases h) he|exact hlo he)
     |halt x w'=>cases x<;>simp only[Oper.upon] at h ⊢ <;>first|exact h|exact hq _ _ _ (by intro h;cases h) h
    ·exact .inr ⟨h1,hlo h2⟩
   ·rename_i hw;rw[if_neg hw] at h;exact h

end

section
variable {c:Ctx} {E:Env} {H:Heap} {w:World} {P:Program}

theorem off_grow{t tx ty e:TypeId}{i:TypeInfo}{z:Value}(ht:P.underlying t=some (.slice e))(hi:P.info? e=some i)(hz:i.zero=some z)(hzs:z.cells.size=i.size)
  {x:Value} {m:Nat} {news:List Value} (hs:Go.Src P i.size tx x m news w) {n:Nat} (hb:AppB n m i.bytes) (base:Option Addr) (cap:Nat) (olds:List Value) (hol:olds.length=n*i.size) (hold:(Builtin.firstCells i.size n (.slice base n cap)).run P w.drew= .ok olds.toArray w.drew) (hcap:cap<n+m):
  ∃r w',(Builtin.append_ #[t,tx] ty #[.slice base n cap,x]).run P w= .ok r w'/\Appended w i.size n m (fun j=>olds[j]?) news none r w':=by
 obtain⟨hb1,hb2⟩:=hb;have hr:=run_append_grow_src (P:=P) w t tx ty e i z ht hi hz base n cap olds hold x m news hs hcap (by omega) (growslice_fits hcap hb1)
 have hge:=grownCap_ge w (n+m) cap e;refine⟨_,_,hr,rfl,rfl,rfl,Nat.le_succ _,by simp,fun b hb _=>heap_alloc_old w.drew _ hb,_,_,_,_,rfl,hge,heap_alloc_new w.drew _,?_,.inl ⟨Nat.le_refl _,fun _ ha=>heap_alloc_old w.drew _ ha⟩,fun j hj=> ?_,fun j hj=> ?_⟩
 ·refine Nat.le_of_eq (Eq.symm ?_)
  simp only[Array.size_append,List.size_toArray,List.length_append,size_zeroCells,hzs,hol,hs.newsLen,←Nat.add_mul];congr 1
  omega
 ·rw[Array.getElem?_append_left (by simp[hol];omega)]
  rw[List.getElem?_toArray,List.getElem?_append_left (by omega)]
 ·have hnl:=hs.newsLen;rw[Array.getElem?_append_left (by simp[hol,hnl];omega)]
  rw[List.getElem?_toArray,List.getElem?_append_right (by omega),hol]
  congr 1
  omega

theorem append_off(h:Inv c E H w){t tx ty e:TypeId}{i:TypeInfo}{z:Value}(ht:P.underlying t=some (.slice e))(hi:P.info? e=some i)(hz:i.zero=some z)(hzs:z.cells.size=i.size)(hs0:0<i.size)
  {k off n N:Nat} {cl:Bool} {tyb:TypeId} {row:Nat->List T} (hk:getOb H k=some (.arr cl tyb i.size N row)) {x:T} {S:Sr} (hsb:srcT H (P.underlying tx) i.size x=some S) (hls:S.side.getD True) (hle:off+n<=N) (hpos:0<S.n) (hab:AppB (off+n) S.n i.bytes) {dv xv:Value}
  (hd:Rd E w (.osl k off n) dv) (hx:Rd E w x xv):∃(b:Bool) (r:Value) (w':World) (E':Env),(Builtin.append_ #[t,tx] ty #[dv,xv]).run P w= .ok r w'/\Rd E' w' (.osl H.length (cond b 0 off) (n+S.n)) r/\
   Inv c E' (H.set k none++[some (.arr (cl&&S.cl) e i.size (cond b (n+S.n) (off+n+S.n)) (cond b (appRow (fun i=>row (off+i)) n S.row) (appRow row (off+n) S.row)))]) w'/\Step E w E' w':=by
 obtain⟨news,hsrc,hsl,hsone,hscl,hnews⟩:=srcT_ok (P:=P) h.heap hsb hls hx;have hA:ArrOk E w k ⟨cl,tyb,i.size,N,row⟩:=(h.heap.live _ _ hk).2.1;obtain⟨hz',hn,hl,hone,hcl,cs,tyc,hblk,hcs,hc⟩:=hA;simp only at hz' hn hl hone hcl hcs hc;have hab2:AppB n S.n i.bytes:=by
  obtain⟨a1,a2⟩:=hab;refine⟨Nat.le_trans (Nat.mul_le_mul_right _ (by omega)) a1,by omega⟩
 cases hd with
 |osl _ _ _ o a hL hn' ho ha=>
  have copy:∀(olds:List Value),olds.length=n*i.size->(Builtin.firstCells i.size n (.slice a n (E.κ k-off))).run P w.drew= .ok olds.toArray w.drew->E.κ k-off<n+S.n->(∀r j t,r<n->(row (off+r))[j]? =some t->∃u,olds[r*i.size+j]? =some u/\Rd E w t u)->
    ∃(b:Bool) (r:Value) (w':World) (E':Env),(Builtin.append_ #[t,tx] ty #[.slice a n (E.κ k-off),xv]).run P w= .ok r w'/\Rd E' w' (.osl H.length (cond b 0 off) (n+S.n)) r/\
   Inv c E' (H.set k none++[some (.arr (cl&&S.cl) e i.size (cond b (n+S.n) (off+n+S.n)) (cond b (appRow (fun i=>row (off+i)) n S.row) (appRow row (off+n) S.row)))]) w'/\Step E w E' w':=by
   intro olds hol hold hcap hro;obtain⟨r,w',hrun,ha'⟩:=off_grow (P:=P) (ty:=ty) ht hi hz hzs hsrc hab2 a _ olds hol hold hcap;have:=h.appended (.inl ha') (H.set k none) (fun i=>i=k) (by simp) (drop_get hk) (fun b hb=>by cases hb) (.arr (cl&&S.cl) e i.size (n+S.n) (appRow (fun i=>row (off+i)) n S.row)) rfl rfl
     (fun r hr=>by
      simp only[Ob.toArr];by_cases h:r<n
      ·rw[appRow_lt h];exact hl _ (by omega)
      ·rw[appRow_ge h];exact hsl _ (by omega))
     (fun r t hr ht=>by
      simp only[Ob.toArr] at ht;by_cases h:r<n
      ·rw[appRow_lt h] at ht;exact hone _ t (by omega) ht
      ·rw[appRow_ge h] at ht;exact hsone _ t (by omega) ht)
     (fun hcc r t hr ht=>by
      simp only[Ob.toArr,Bool.and_eq_true] at ht hcc;by_cases h:r<n
      ·rw[appRow_lt h] at ht;exact hcl hcc.1 _ t (by omega) ht
      ·rw[appRow_ge h] at ht;exact hscl hcc.2 _ t (by omega) ht)
     (fun r j t hr hj=>by
      simp only[Ob.toArr] at hj;rw[appRow_lt hr] at hj;exact hro r j t hr hj)
     (fun r j t hr hj=>by
      simp only[Ob.toArr] at hj;rw[appRow_ge (by omega),show n+r-n=r by omega] at hj
      exact hnews r j t hr hj)
   obtain⟨E',hr,hI,hst⟩:=this;exact⟨true,r,w',E',hrun,hr,hI,hst⟩
  by_cases hκ:E.κ k=0
  ·obtain rfl:n=0:=by omega
   refine copy [] (by simp) ?_ (by omega) (fun r j t hr=>absurd hr (Nat.not_lt_zero _))
   cases a with
   |none=>exact run_firstCells_none w.drew i.size 0 0 _
   |some a=>exact run_firstCells_some w.drew i.size 0 a 0 _ [] (by simp) (fun j u h=>by simp at h)
  have hblk:=hblk hκ;have hcsz:=hcs.le;by_cases hroom:n+S.n<=E.κ k-off
  ·-- in place
   have hoff:off<E.κ k:=by omega
   have ho:=ho (.inl hoff);rw[hz'] at ho;have hcap:(off+n+S.n)*i.size<=cs.size:=Nat.le_trans (Nat.mul_le_mul_right _ (by omega)) hcsz
   have hfit:(off+n)*i.size+news.length<=cs.size:=by rw[hsrc.newsLen,←Nat.add_mul];exact hcap
   obtain⟨w',hst,hos,htp,hop,hdr,hsize,hoth,cs',hb',hcs',hout,hin⟩:=setCells_same P w (E.β k) ((off+n)*i.size) tyc cs news hblk hfit hsrc.one;rw[Nat.add_mul] at hst;have hrun:(Builtin.append_ #[t,tx] ty #[.slice a n (E.κ k-off),xv]).run P w= .ok (.slice (some ⟨E.β k,off*i.size,none⟩) (n+S.n) (E.κ k-off)) w':=by
    rw[ha hκ,ho];rcases hsrc.kind with⟨e',hk'⟩|hk'<;>simp[Builtin.append_,run_underlying ht,run_underlying hk',sizeOf,typeInfo,hi,hsrc.len,hroom,hsrc.cells,Addr.add_lit,hst]
   have ha':Appended w i.size (off+n) S.n (fun j=>cs[j]?) news (some (E.β k)) (.slice (some ⟨E.β k,0,none⟩) (off+n+S.n) (E.κ k)) w':=
    ⟨hos,htp,hop,hdr,by omega,fun b' _ hne=>hoth b' (fun e=>hne (by rw[e])),E.β k,E.κ k,cs',tyc,rfl,by omega,hb',by rw[hcs'];exact hcsz,.inr rfl,fun j hj=>hout j (.inl hj),fun j hj=>hin j (by rw[hsrc.newsLen];exact hj)⟩
   have:=h.appended (.inl ha') (H.set k none) (fun i=>i=k) (by simp) (drop_get hk) (fun b hb=>⟨k,_,rfl,hk,.inl ⟨hκ,(Option.some.inj hb).symm⟩⟩) (.arr (cl&&S.cl) e i.size (off+n+S.n) (appRow row (off+n) S.row)) rfl rfl
     (fun r hr=>by
      simp only[Ob.toArr];by_cases h:r<off+n
      ·rw[appRow_lt h];exact hl _ (by omega)
      ·rw[appRow_ge h];exact hsl _ (by omega))
     (fun r t hr ht=>by
      simp only[Ob.toArr] at ht;by_cases h:r<off+n
      ·rw[appRow_lt h] at ht;exact hone _ t (by omega) ht
      ·rw[appRow_ge h] at ht;exact hsone _ t (by omega) ht)
     (fun hcc r t hr ht=>by
      simp only[Ob.toArr,Bool.and_eq_true] at ht hcc;by_cases h:r<off+n
      ·rw[appRow_lt h] at ht;exact hcl hcc.1 _ t (by omega) ht
      ·rw[appRow_ge h] at ht;exact hscl hcc.2 _ t (by omega) ht)
     (fun r j t hr hj=>by
      simp only[Ob.toArr] at hj;rw[appRow_lt hr] at hj;exact hc r j t (by omega) hj)
     (fun r j t hr hj=>by
      simp only[Ob.toArr] at hj;rw[appRow_ge (by omega),show off+n+r- (off+n)=r by omega] at hj
      exact hnews r j t hr hj)
   obtain⟨E',hr,hI,hst'⟩:=this;refine⟨false,_,w',E',hrun,?_,hI,hst'⟩
   have hob:getOb (H.set k none++[some (.arr (cl&&S.cl) e i.size (off+n+S.n) (appRow row (off+n) S.row))]) H.length=some (.arr (cl&&S.cl) e i.size (off+n+S.n) (appRow row (off+n) S.row)):=by
    unfold getOb;rw[List.getElem?_append_right (by simp)]
    simp
   have hA':ArrOk E' w' H.length ⟨cl&&S.cl,e,i.size,off+n+S.n,appRow row (off+n) S.row⟩:=(hI.heap.live _ _ hob).2.1;have hz2:=hA'.1;simp only at hz2;generalize hv:(Value.slice (some ⟨E.β k,0,none⟩) (off+n+S.n) (E.κ k))=rv at hr;cases hr with
   |osl _ _ _ o2 a2 hL2 hn2 ho2 ha2=>
    simp only[Value.slice.injEq] at hv;obtain⟨v1,_,v3⟩:=hv;have hκ2:E'.κ H.length=E.κ k:=by omega
    have e1:=ha2 (by omega)
    rw[←v1] at e1;simp only[Option.some.injEq,Addr.mk.injEq] at e1;rw[←hκ2];refine .osl H.length off (n+S.n) (off*i.size) _ hL2 (by omega) (fun _=>by rw[hz2]) (fun _=>by rw[e1.1])
  ·by_cases hn0:n=0
   ·subst hn0;refine copy [] (by simp) ?_ (by omega) (fun r j t hr=>absurd hr (Nat.not_lt_zero _))
    cases a with
    |none=>exact run_firstCells_none w.drew i.size 0 0 _
    |some a=>exact run_firstCells_some w.drew i.size 0 a 0 _ [] (by simp) (fun j u h=>by simp at h)
   ·have hoff:off<E.κ k:=by omega
    have ho:=ho (.inl hoff);rw[hz'] at ho;have hfit:off*i.size+n*i.size<=cs.size:=by rw[←Nat.add_mul];exact Nat.le_trans (Nat.mul_le_mul_right _ (by omega)) hcsz
    have hget:∀j,((cs.toList.drop (off*i.size)).take (n*i.size))[j]? =if j<n*i.size then cs[off*i.size+j]? else none:=fun j=>by
     rw[List.getElem?_take]
     split
     ·rw[List.getElem?_drop,Array.getElem?_toList]
     ·rfl
    refine copy ((cs.toList.drop (off*i.size)).take (n*i.size)) (by simp;omega) ?_ (by omega) (fun r j t hr hj=> ?_)
    ·rw[ha hκ,ho];refine run_firstCells_some w.drew i.size n ⟨E.β k,off*i.size,none⟩ n _ _ (by simp;omega) (fun j u hj=> ?_)
     rw[Addr.add_lit];show w.cell? _=_;rw[cell_of_heap hblk];rw[hget] at hj;split at hj
     ·exact hj
     ·cases hj
    ·obtain⟨u,hu,hr'⟩:=hc (off+r) j t (by omega) hj
     have hjl:j<i.size:=by
      have:=(List.getElem?_eq_some_iff.1 hj).1
      rw[hl (off+r) (by omega)] at this
      exact this
     refine⟨u,?_,hr'⟩
     rw[hget,if_pos (by
      have:(r+1)*i.size<=n*i.size:=Nat.mul_le_mul_right _ hr;rw[Nat.add_mul] at this;omega),show off*i.size+(r*i.size+j)=(off+r)*i.size+j by rw[Nat.add_mul];omega]
     exact hu

theorem appO_ok(h:Inv c E H w){s:Slots}{o:Oper}{a:Act}{K:Act->World->Prop}{Q:Exit->Act->World->Prop}(hop:∀x ∈ seen o.op,OpOk E w a s x)(hv:∀b,∃t H' side,evAppO P s H o b=some (t,H',side)/\side.getD True)
  (hK:∀b t H' side v w' E',evAppO P s H o b=some (t,H',side)->Inv c E' H' w'->Step E w E' w'->Rd E' w' t v->K (a.put o.dst v) w'):o.wp P a w K Q:=by
 obtain⟨t0,H0,side0,he0,hs0⟩:=hv true;have hev:=he0;unfold evAppO at he0;split at he0
 case h_2=>cases he0
 rename_i args at_ hg ho;split at he0
 case h_2=>cases he0
 rename_i d x t tx ha hat;obtain rfl:args= #[d,x]:=Array.ext' (by simpa using ha)
 obtain rfl:at_= #[t,tx]:=Array.ext' (by simpa using hat)
 split at he0
 case h_2=>cases he0
 rename_i k off n e hd hu;split at he0
 case h_2=>cases he0
 rename_i i z cl tyb sz N row hi hz hk;split at he0
 case h_2=>cases he0
 rename_i hb;simp only[Bool.and_eq_true] at hb;obtain⟨⟨b1,b2⟩,b3⟩:=hb;obtain rfl:=Nat.eq_of_beq_eq_true b3;cases hsb:srcT H (P.underlying tx) i.size (opT s x) with
 |none=>rw[hsb] at he0;cases he0
 |some S=>
  have hall:∀b,evAppO P s H o b=some (.osl H.length (cond b 0 off) (n+S.n),H.set k none++[some (.arr (cl&&S.cl) e i.size (cond b (n+S.n) (off+n+S.n)) (cond b (appRow (fun i=>row (off+i)) n S.row) (appRow row (off+n) S.row)))],some (andS S.side (Le (off+n) N/\Lt 0 S.n/\AppB (off+n) S.n i.bytes))):=fun b=>by
   unfold evAppO;rw[hg,ho];simp only[hd,hu,hi,hz,hk,b1,b2,b3,Bool.and_self,hsb,Option.map_some]
  rw[hall] at hev;simp only[Option.some.injEq,Prod.mk.injEq] at hev;obtain⟨_,_,rfl⟩:=hev;obtain⟨hls,hle,hpos,hab⟩:=andS_ok hs0;obtain⟨zv,hzv,hzl⟩:=zeroCells_val hi hz;have hdo:=hop d (by rw[ho];simp[seen,Op.operands,Call.operands])
  unfold OpOk at hdo;rw[hd] at hdo;have hn0:i.size≠0:=fun h0=>by
   rw[h0] at b2;cases b2
  obtain⟨b,r,w',E',hrun,g1,g2,g3⟩:=append_off (P:=P) (ty:=o.type) h hu hi hzv (by rw[hzl];exact Nat.eq_of_beq_eq_true b1) (by omega) hk hsb hls hle hpos hab hdo (hop x (by rw[ho];simp[seen,Op.operands,Call.operands]))
  refine value_wp (w':=w') (v:=r) ?_ (hK b _ _ _ r w' E' (hall b) g2 g3 g1)
  simp[execOp,ho,resolve,invoke,builtin,hrun,Result.andThen]

end

theorem vcTail_ok{c:Ctx}{P:Program}{G:Gam}{all:Array Oper}(hG:GamOk P G)(hGc:∀x ∈ G,Callable P x.1){K:Slots->Heap->Prop}{Q:Exit->Act->World->Prop}{s:Slots}{H:Heap}(hK:∀s' H' a' w',K s' H'->Real c s' H' a' w'->Q .normal a' w')
  {rest:List Oper} {E:Env} {a:Act} {w:World} (h:vcTail P G c.nt all s H K rest) (hr:RealE c E s [] H a w):wpList P all Q rest a w:=by
 cases rest with
 |nil=>exact h.elim
 |cons o rest=>
  unfold vcTail at h;dsimp only at h;have hchk:(pathsOk [] [] o.op&&dstOk c.nt o.dst)=true:=by
   cases hb:(pathsOk [] [] o.op&&dstOk c.nt o.dst) with
   |true=>rfl
   |false=>rw[hb] at h;exact h.elim
  rw[hchk] at h;rw[Bool.and_eq_true] at hchk;obtain⟨hpo,hdst⟩:=hchk;have hnil:PathH s []:=fun q hq=>by cases hq
  obtain⟨hop,_⟩:=paths_ok hr.slots hnil hpo;have hv:∀b,∃t H' side,evAppO P s H o b=some (t,H',side)/\side.getD True/\vcOps P G c.nt all rest (putS s o.dst t) [] H' K:=fun b=>by
   have:=h b;split at this
   ·rename_i t H' side he;obtain⟨hs,hrest⟩:=andP_ok this;exact⟨t,H',side,he,hs hnil,hrest⟩
   ·exact this.elim
  have hg:o.guard=none:=by
   obtain⟨t,H',side,he,_⟩:=hv true;unfold evAppO at he;split at he
   ·rename_i hg _;exact hg
   ·cases he
  refine wpList_plain hg fun KK hKK=>appO_ok hr.inv hop (fun b=>by obtain⟨t,H',side,he,hs,_⟩:=hv b;exact⟨t,H',side,he,hs⟩) fun b t H' side v w' E' he hI hst hrd=> ?_
  obtain⟨t2,H2,side2,he2,_,hrest⟩:=hv b;rw[he] at he2;simp only[Option.some.injEq,Prod.mk.injEq] at he2;obtain⟨rfl,rfl,_⟩:=he2;refine hKK _ _ (vcOps_ok hG hGc hK rest _ [] _ E' _ _ hrest ⟨?_,?_,?_,hI⟩)
  ·cases o.dst with
   |none=>exact hr.defers
   |some d=>exact hr.defers
  ·cases o.dst with
   |none=>exact hr.size
   |some d=>simp[Act.put,hr.size]
  ·cases hd:o.dst with
   |none=>exact hr.slots.step hst
   |some d=>
    rw[hd] at hdst;exact(hr.slots.step hst).put (by rfl) (by rw[hr.size];exact Nat.le_of_ble_eq_true hdst) hrd

theorem lastApp_lt:∀{l:List Oper} {i:Nat} {r:Option Nat} {k:Nat},lastApp l i r=some k->(∀q,r=some q->q<i+l.length)->k<i+l.length
 | [],i,r,k,h,hr=>hr k h
 |o::l,i,r,k,h,hr=>by
  unfold lastApp at h;have:=lastApp_lt h (fun q hq=>by
   split at hq
   ·cases hq;omega
   ·have:=hr q hq;rw[List.length_cons] at this;omega)
  rw[List.length_cons];omega

theorem mem_noTmp{x:FuncId×Con}:∀{G:Gam},x ∈ noTmp G->x ∈ G
 | [],h=>h
 |(_,c)::r,h=>by
  cases c<;>first
   |exact List.mem_cons_of_mem _ (mem_noTmp h)
   |(rcases List.mem_cons.1 h with rfl|h
     ·exact List.mem_cons_self
     ·exact List.mem_cons_of_mem _ (mem_noTmp h))

theorem mem_oneTmp{x:FuncId×Con}:∀{G:Gam},x ∈ oneTmp G->x ∈ G
 | [],h=>h
 |(_,c)::r,h=>by
  cases c<;>
   (rcases List.mem_cons.1 h with rfl|h
    ·exact List.mem_cons_self
    ·first
     |exact List.mem_cons_of_mem _ (mem_oneTmp h)
     |exact List.mem_cons_of_mem _ (mem_noTmp h))

theorem vcDraw_ok{c:Ctx}{P:Program}{G:Gam}{all:Array Oper}(hm:P.follows .mixedOrders=true)(hG:GamOk P G)(hGc:∀x ∈ G,Callable P x.1){id:Nat}{K:Slots->Heap->Prop}{Q:Exit->Act->World->Prop}{s:Slots}{H:Heap}(hK:∀s' H' a' w',K s' H'->Real c s' H' a' w'->Q .normal a' w')
  {E:Env} {a:Act} {w:World} (h:vcDraw P G c.nt all s H K) (hr:RealE c E s [] H a w):(Code.region id all true).wp P Q a w:=by
 have one:vcDr P G c.nt all s H K->(Code.region id all true).wp P Q a w:=fun h=>wp_region_any hm (vcAny_any hG hGc hK h hr)
 unfold vcDraw at h;split at h
 ·exact one h
 ·split at h
  ·exact one h
  ·rename_i k hl;split at h
   ·exact one h
   ·rename_i hb;have hF:=full_ok hb;have hk:k<=all.size:=by
     have:=lastApp_lt hl (fun q hq=>by cases hq)
     simp at this;omega
    have hsz:(all.toList.take k).toArray.size=k:=by simp;omega
    have h1:=vcAny_any (Q:=fun e a w=>match e with| .normal=>wpList P all Q (all.toList.drop k) a w|e=>Q e a w) (G:=oneTmp G) (fun x hx=>hG x (mem_oneTmp hx)) (fun x hx=>hGc x (mem_oneTmp hx)) (fun s' H' a' w' hk' hr'=>by
     obtain⟨E',hE'⟩:=hr';exact vcTail_ok hG hGc hK hk' hE') h hr
    refine wp_region_draw fun t=> ?_
    simp only[Region.schedule,hm,Bool.true_or,if_true];have hrun:=lin_run (ops:=all) all.size t (Array.replicate all.size false) (by simp) (Nat.le_trans (List.length_filter_le _ _) (by simp))
    have hnd:∀(n j:Nat),(Array.replicate n false).getD j false=false:=fun n j=>by
     simp only[Array.getD_eq_getD_getElem?,Array.getElem?_replicate]
     split<;>rfl
    obtain⟨L1,hL,hR⟩:=full_split hF hk rfl _ _ (Array.replicate k false) (by simp) (by simp) (fun j _=>by rw[hnd,hnd]) (fun j _=>hnd _ _) (fun j o hD=>by have hD:(Array.replicate all.size false).getD j false=true:=hD;rw[hnd] at hD;cases hD) hrun
    show wpOps P all Q (Region.linearise.go .any all all.size t (Array.replicate all.size false) []) a _;rw[hL];rw[hsz] at h1;refine split_ops hF (fun j hj=>by rw[List.getElem?_toArray,List.getElem?_take,if_pos hj,Array.getElem?_toList]) hsz (fun a w hh=> ?_) (fun e a w hne hh=> ?_) L1 _ (by rw[hsz];simp) hR a _ (any_run L1 _ _ a _ h1 hR)
    ·have e1:=wpOps_eq_wpList (P:=P) (ops:=all) (Q:=Q) (all.toList.drop k) k (fun j=>by rw[List.getElem?_drop,Array.getElem?_toList])
     rw[List.length_drop,Array.length_toList] at e1;rw[e1];exact hh
    ·cases e<;>first|exact absurd rfl hne|exact hh

end Go.SS
/- A calculus of symbolic states: code, loops, functions. -/
namespace Go.SS
open Go.RowKit

def Sub(m:Nat)(σ σ':Sy):Prop:=∀c a w,c.m=m->Real c σ.s σ.H a w->Real c σ'.s σ'.H a w

section
variable {c:Ctx} {P:Program} {G:Gam}

theorem vc_ok(hm:P.follows .mixedOrders=true)(hG:GamOk P G)(hGc:∀x ∈ G,Callable P x.1):∀(code:Code) (Q:Exit->Sy->Prop) (σ:Sy) (a:Act) (w:World),vc P G c.nt (Sub c.m) code Q σ->Real c σ.s σ.H a w->
  code.wp P (fun e a' w'=>∃σ',Q e σ'/\Real c σ'.s σ'.H a' w') a w:=by
 intro code;induction code with
 |skip=>intro Q σ a w h hr;exact wp_skip ⟨σ,h,hr⟩
 |region id ops draw=>
  intro Q σ a w h hr;simp only[vc] at h;split at h
  ·obtain⟨E,hE⟩:=hr;exact wp_region_list (vcOps_ok hG hGc (fun s' H' a' w' hk hr'=>⟨⟨s',H'⟩,hk,hr'⟩) _ _ _ _ E a w h hE)
  ·obtain⟨E,hE⟩:=hr;exact vcDraw_ok hm hG hGc (fun s' H' a' w' hk hr'=>⟨⟨s',H'⟩,hk,hr'⟩) h hE
 |seq x y ihx ihy=>
  intro Q σ a w h hr;simp only[vc] at h;refine wp_seq (Code.wp_mono (fun e a' w' hh=> ?_) (ihx _ _ _ _ h hr))
  obtain⟨σ',hq,hr'⟩:=hh;cases e with
  |normal=>exact ihy _ _ _ _ hq hr'
  |_=>exact⟨σ',hq,hr'⟩
 |cond cd x y ihx ihy=>
  intro Q σ a w h hr;simp only[vc] at h;split at h
  ·rename_i b hb;obtain⟨E,hE⟩:=hr;have hop:OpOk E w a σ.s cd:=opOk_of fun t ht=>hE.slots.on t (fun q hq=>by cases hq)
   unfold OpOk at hop;rw[hb] at hop;refine wp_cond (t:=b) (rd_bool hop) ?_
   cases b with
   |true=>exact ihx _ _ _ _ (h.1 rfl) ⟨E,hE⟩
   |false=>exact ihy _ _ _ _ (h.2 rfl) ⟨E,hE⟩
  ·exact h.elim
 |block id body ih=>
  intro Q σ a w h hr;simp only[vc] at h;refine wp_block (Code.wp_mono (fun e a' w' hh=> ?_) (ih _ _ _ _ h hr))
  obtain⟨σ',hq,hr'⟩:=hh;cases e with
  |exit i=>
   simp only at hq;simp only[Exit.inBlock];split at hq
   ·rename_i hb;rw[if_pos (Nat.eq_of_beq_eq_true hb)];exact⟨σ',hq,hr'⟩
   ·rename_i hb;rw[if_neg (Nat.ne_of_beq_eq_false hb)];exact⟨σ',hq,hr'⟩
  |_=>exact⟨σ',hq,hr'⟩
 |loop body ih=>
  intro Q σ a w h hr;simp only[vc,LoopVC] at h;obtain⟨ι,I,μ,⟨x0,h0⟩,hround⟩:=h;refine wp_loop_ghost (fun n a w=>∃x,μ x=n/\Real c (I x).s (I x).H a w) (μ x0) ⟨x0,rfl,h0 c a w rfl hr⟩ fun n a w hI=> ?_
  obtain⟨x,hx,hrx⟩:=hI;refine Code.wp_mono (fun e a' w' hh=> ?_) (ih _ _ _ _ (hround x) hrx)
  obtain⟨σ',hq,hr'⟩:=hh;cases e with
  |normal=>
   obtain⟨y,hy,hlt⟩:=hq;exact⟨μ y,by omega,y,rfl,hy c a' w' rfl hr'⟩
  |_=>exact⟨σ',hq,hr'⟩
 |exit id=>intro Q σ a w h hr;exact wp_exit ⟨σ,h,hr⟩
 |ret=>intro Q σ a w h hr;exact wp_ret ⟨σ,h,hr⟩
 |_=>intro Q σ a w h hr;simp[vc] at h

end
end Go.SS
/- A calculus of symbolic states: a function that only reads, from its code. -/
namespace Go.SS
open Go.RowKit

def RLe(r res:T):Prop:=∀E w v,Rd E w r v->Rd E w res v

theorem RLe.refl(r:T):RLe r r:=fun _ _ _ h=>h

section
variable {c:Ctx} {E:Env} {H:Heap} {w:World} {P:Program} {G:Gam}

theorem slk_initS:∀(args:List T) (n i:Nat),slk (initS n args) i=if n<=i then args.getD (i-n) .und else .und:=by
 intro args;induction args with
 |nil=>intro n i;simp[initS,slk]
 |cons x args ih=>
  intro n i;simp only[initS,slk];split
  ·rename_i h;obtain rfl:=Nat.eq_of_beq_eq_true h;simp
  ·rename_i h;have hne:=Nat.ne_of_beq_eq_false h;rw[ih];by_cases h1:n<=i
   ·rw[if_pos h1,if_pos (by omega),show i-n=(i- (n+1))+1 by omega]
    rfl
   ·rw[if_neg h1,if_neg (by omega)]

theorem loadVar_of_ok(h:HeapOk E w H){t:TypeId}{x y:T}{v:Value}{side:Option Prop}(he:evLoad P H t x=some (y,side))(hs:side.getD True)(hx:Rd E w x v):
  ∃r,(do loadVar t (←asAddr v):Sem Value).run P w= .ok r w/\Rd E w y r:=by
 obtain⟨r,hr,hy⟩:=load_ok h he hs hx;refine⟨r,?_,hy⟩
 unfold evLoad at he;split at he
 ·cases hx with
  |bref _ b off u hN hb1 hr' ht=>
   simp only[Instr.loadAt,Instr.sureAddr,asAddr,Sem.run_bind,Sem.run_pure,Result.andThen_ok] at hr ⊢;exact hr
 ·cases hx with
  |ref _ _ _ hL=>
   simp only[Instr.loadAt,Instr.sureAddr,asAddr,Sem.run_bind,Sem.run_pure,Result.andThen_ok] at hr ⊢;exact hr
 ·cases hx with
  |pref _ _ _ _ _ _ _ hL=>
   simp only[Instr.loadAt,Instr.sureAddr,asAddr,Sem.run_bind,Sem.run_pure,Result.andThen_ok] at hr ⊢;exact hr
 ·cases he

def resSem(tmps:Array Value):ResultVar->Sem Value
 | .tmp t=>pure (tmps.getD t undef)
 | .cell a t=>do loadVar t (←asAddr (tmps.getD a undef))

theorem resOne_ok(h:HeapOk E w H){s:Slots}{tmps:Array Value}(hsl:∀i,Rd E w (slk s i) (tmps.getD i undef)){rv:ResultVar}{y:T}{side:Option Prop}(he:resOne P s H rv=some (y,side))(hs:side.getD True):
  ∃r,(resSem tmps rv).run P w= .ok r w/\Rd E w y r:=by
 cases rv with
 |tmp t=>
  simp only[resOne,Option.some.injEq,Prod.mk.injEq] at he;obtain⟨rfl,rfl⟩:=he;exact⟨_,rfl,hsl t⟩
 |cell a t=>exact loadVar_of_ok h he hs (hsl a)

theorem resList_ok(h:HeapOk E w H){s:Slots}{tmps:Array Value}(hsl:∀i,Rd E w (slk s i) (tmps.getD i undef)):
  ∀{rs:List ResultVar} {ys:List (T×Option Prop)},mapO (resOne P s H) rs=some ys->(∀x ∈ ys,x.2.getD True)->
   ∃vs:List Value,(rs.mapM (resSem tmps)).run P w= .ok vs w/\vs.length=ys.length/\∀(i:Nat) (y:T×Option Prop) (x:Value),ys[i]? =some y->vs[i]? =some x->Rd E w y.1 x:=by
 intro rs;induction rs with
 |nil=>
  intro ys hm _;simp only[mapO,Option.some.injEq] at hm;subst hm;exact⟨[],rfl,rfl,fun i y x hy=>by simp at hy⟩
 |cons rv rs ih=>
  intro ys hm hs;simp only[mapO] at hm;split at hm
  ·rename_i y ys' hy hys;simp only[Option.some.injEq] at hm;subst hm;obtain⟨r,hr,hrd⟩:=resOne_ok h hsl (y:=y.1) (side:=y.2) hy (hs y (by simp))
   obtain⟨vs,hvs,hl,ht⟩:=ih hys (fun x hx=>hs x (by simp[hx]))
   refine⟨r::vs,?_,by simp[hl],fun i y' x hy' hx=> ?_⟩
   ·simp only[List.mapM_cons,Sem.run_bind,hr,hvs,Result.andThen_ok,Sem.run_pure]
   ·cases i with
    |zero=>simp at hy' hx;subst hy';subst hx;exact hrd
    |succ i=>exact ht i y' x (by simpa using hy') (by simpa using hx)
  ·cases hm

theorem resT_ok(h:HeapOk E w H){s:Slots}{tmps:Array Value}(hsl:∀i,Rd E w (slk s i) (tmps.getD i undef)){fn:Func}{y:T}{side:Option Prop}(he:resT P s H fn.results.toList=some (y,side))(hs:side.getD True):
  ∃r,(results fn tmps).run P w= .ok r w/\Rd E w y r:=by
 unfold resT at he;have hres:results fn tmps=(do
   let vs ←fn.results.mapM (resSem tmps)
   pure (if h:vs.size=1 then vs[0] else .tuple vs)):=by
  unfold results;congr 1
 rw[hres,Array.mapM_eq_mapM_toList];split at he
 ·rename_i x hm;simp only[Option.some.injEq] at he;subst he;obtain⟨vs,hr,hl,ht⟩:=resList_ok (P:=P) h hsl hm (fun x hx=>by simp at hx;subst hx;exact hs)
  match vs,hl with
  | [r],_=>
   refine⟨r,?_,ht 0 _ r rfl rfl⟩
   simp only[map_eq_pure_bind,Sem.run_bind,hr,Result.andThen_ok,Sem.run_pure];rfl
 ·rename_i xs hne hm;simp only[Option.some.injEq,Prod.mk.injEq] at he;obtain⟨rfl,rfl⟩:=he;obtain⟨vs,hr,hl,ht⟩:=resList_ok (P:=P) h hsl hm (sides_ok hs);refine⟨.tuple vs.toArray,?_,?_⟩
  ·simp only[map_eq_pure_bind,Sem.run_bind,hr,Result.andThen_ok,Sem.run_pure];have:¬vs.toArray.size=1:=by
    simp only[List.size_toArray,hl];intro h1
    match xs,h1 with
    | [x],_=>exact hne x rfl
   rw[dif_neg this]
  ·refine .tup _ _ (by simp[hl]) fun i t x hi hx=> ?_
   simp only[List.getElem?_map,Option.map_eq_some_iff,List.getElem?_toArray] at hi hx
   obtain⟨y,hy,rfl⟩:=hi;exact ht i y x hy hx
 ·cases he

theorem andO_ok{p:Option Prop}{q:Prop}(h:andO p q):p.getD True/\q:=by
 cases p with
 |none=>exact⟨trivial,h⟩
 |some p=>exact h

theorem start_real{vs:Array Value}{args:List T}{nt:Nat}(hL:∀k,¬E.L k/\∀v,¬E.L2 k v)(hN:∀b,E.N b->b<w.heap.size)(ha:RdL E w args vs)(hnt:args.length<=nt):
  RealE ⟨w,fun _=>False,E.N,nt,E,0⟩ E (initS 0 args) [] [] {tmps:=vs++Array.replicate (nt-vs.size) undef,defers:=[]} w:=by
 have hlen:args.length=vs.size:=ha.1;refine⟨rfl,by simp;omega,⟨fun i _=> ?_,fun i hi=>absurd (fun q hq=>by cases hq) hi⟩,⟨⟨fun k ob hk=>by simp[getOb] at hk,fun k k' ob ob' b hk=>by simp[getOb] at hk,fun k hk=>absurd hk (hL k).1,fun k v hv=>absurd hv ((hL k).2 v),fun k ob v hk=>by simp[getOb] at hk⟩,
  hN,fun b hb=>.inl hb,fun k ob b hk=>by simp[getOb] at hk,⟨rfl,rfl,rfl,Nat.le_refl _,fun _ _ _=>rfl,Nat.le_refl _⟩,⟨fun _ h=>h,fun _ h=>absurd h (Nat.not_lt_zero _),fun _ _=>rfl,fun _ _ h=>absurd h (Nat.not_lt_zero _)⟩⟩⟩
 rw[slk_initS,if_pos (Nat.zero_le _),Nat.sub_zero];simp only[List.getD_eq_getElem?_getD,Array.getD_eq_getD_getElem?,Array.getElem?_append]
 by_cases hi:i<vs.size
 ·rw[if_pos hi,List.getElem?_eq_getElem (by omega),Array.getElem?_eq_getElem hi]
  exact ha.2 i _ _ (List.getElem?_eq_getElem (by omega)) (Array.getElem?_eq_getElem hi)
 ·rw[List.getElem?_eq_none (by omega)]
  exact .und _

theorem fn_pure(hm:P.follows .mixedOrders=true)(hG:GamOk P G)(hGc:∀x ∈ G,Callable P x.1){f:FuncId}{fn:Func}{code:Code}{args:List T}{res:T}(hf:P.funcs[f]? =some fn)(hb:fn.body=some code)(hnt:args.length<=fn.ntmps)
  (h:vc P G fn.ntmps (Sub 0) code (retQ P fn.results.toList fun r=>RLe r res) ⟨initS 0 args,[]⟩):PureFn P f args res:=by
 intro E w vs hL hN ha;have hsz:vs.size=args.length:=ha.1.symm;refine calls_of_wp hf hb (Code.wp_mono (fun e a' w' hh=> ?_) (vc_ok (c:=⟨w,fun _=>False,E.N,fn.ntmps,E,0⟩) hm hG hGc code _ _ _ w h ⟨E,start_real hL hN ha hnt⟩))
 obtain⟨σ',hq,E',hr⟩:=hh;have main:retQ P fn.results.toList (fun r=>RLe r res) .ret σ'->a'.defers=[]/\∃v,(results fn a'.tmps).run P w'= .ok v w'/\
   ∃v',Ending.returned v= .returned v'/\Bl w w'/\Rd (E.addN fun b=>w.heap.size<=b/\b<w'.heap.size) w' res v':=by
  intro hq;refine⟨hr.defers,?_⟩
  simp only[retQ] at hq;split at hq
  ·rename_i r p hres;split at hq
   ·rename_i r' p' hbor;obtain⟨hp,hq⟩:=andO_ok hq;obtain⟨hp',hle⟩:=andO_ok hq;obtain⟨v,hrun,hrd⟩:=resT_ok (P:=P) hr.inv.heap (fun i=>hr.slots.on i (fun q hq=>by cases hq)) hres hp
    have hI:=hr.inv;refine⟨v,hrun,v,rfl,⟨⟨hI.fr.os,hI.fr.tape,hI.fr.output,hI.fr.size,fun b hb=>hI.fr.block b hb (fun h=>h)⟩,hI.fr.dr⟩,?_⟩
    refine hle _ _ _ (Rd.mono (E:=E'.lent 0 σ'.H) (w:=w') ⟨fun b hb=> ?_,fun _ h=>absurd h.2 (Nat.not_lt_zero _),fun _ h=>absurd h.2 (Nat.not_lt_zero _),fun _ h=>absurd h.2 (Nat.not_lt_zero _),fun _ h=>absurd h.2 (Nat.not_lt_zero _),fun _ _ h=>absurd h.2 (Nat.not_lt_zero _),fun _ _ _ _ h=>absurd h.2 (Nat.not_lt_zero _),fun _ _ _ _ h=>absurd h.2 (Nat.not_lt_zero _)⟩ (fun _ _=>rfl) (borrow_ok hI 6 hbor hp' hrd))
    rcases hb with hb|⟨k,ob,_,hk,hb⟩
    ·rcases hI.nnew b hb with h1|h1|h1
     ·exact .inl h1
     ·exact .inr ⟨h1,hI.nlt b hb⟩
     ·exact h1.elim
    ·rcases hI.bnew k ob b hk hb with h1|h1
     ·exact .inr ⟨h1,hI.heap.blt hk hb⟩
     ·exact h1.elim
   ·exact hq.elim
  ·exact hq.elim
 cases e with
 |normal=>exact main hq
 |ret=>exact main hq
 |_=>exact hq.elim

end
end Go.SS
/- A calculus of symbolic states: one state as another says it. -/
namespace Go.SS
open Go.RowKit

def TLe(ρ:Nat->Option Nat)(t t':T):Prop:=∃d t'',renT ρ d t'=some t''/\RLe t t''

inductive OLe(ρ:Nat->Option Nat):Ob->Ob->Prop
 |mp (bo:Bool) (get get':Int->Int) (h:∀n,get n=get' n):OLe ρ (.mp bo get) (.mp bo get')
 |mp2 (get get':Int->Int->Bool) (h:∀a b,get a b=get' a b):OLe ρ (.mp2 get) (.mp2 get')
 |bys (ty ty':TypeId) (l:List UInt8):OLe ρ (.bys ty l) (.bys ty' l)
 |fam (v:Nat) (ty ty':TypeId) (sz n:Nat) (row row':Nat->List T) (h:FamEq n row row'):OLe ρ (.fam v ty sz n row) (.fam v ty' sz n row')
 |same (ty ty':TypeId) (sz n:Nat) (row row':Nat->List T) (h:∀i,i<n->row i=row' i):OLe ρ (.arr true ty sz n row) (.arr true ty' sz n row')
 |ren (cl cl':Bool) (ty ty':TypeId) (sz n:Nat) (row row':Nat->List T) (hc:cl'=true->cl=true/\∀i,i<n->row i=row' i) (h:∀i,i<n->mapO (renT ρ 6) (row' i)=some (row i)):OLe ρ (.arr cl ty sz n row) (.arr cl' ty' sz n row')
 |box (cl cl':Bool) (ty ty':TypeId) (sz:Nat) (row row':Nat->List T) (h1:∀t ∈ row' 0,oneT t=true) (hc:cl'=true->∀t ∈ row' 0,closedT t=true) (hl:(row 0).length=(row' 0).length) (h:∀(j:Nat) (a b:T),(row 0)[j]? =some a->(row' 0)[j]? =some b->TLe ρ a b):OLe ρ (.arr cl ty sz 1 row) (.arr cl' ty' sz 1 row')

section
variable {c:Ctx} {E:Env} {H H':Heap} {w:World} {ρ:Nat->Option Nat} {len:Nat}

theorem inv_ren(hlt:∀k m,ρ k=some m->k<H'.length)(hinj:∀k k' m,(getOb H' k).isSome=true->(getOb H' k').isSome=true->ρ k=some m->ρ k'=some m->k=k')
  (hH:∀k ob',getOb H' k=some ob'->∃m ob,ρ k=some m/\getOb H m=some ob/\OLe ρ ob ob') (hid:∀k,k<c.m->ρ k=some k) (h:Inv c E H w):Inv c (E.ren ρ H'.length) H' w:=by
 have hblk:∀{k:Nat} {ob':Ob} {b:Nat},getOb H' k=some ob'->Blk (E.ren ρ H'.length) k ob' b->∃m ob,ρ k=some m/\getOb H m=some ob/\Blk E m ob b:=by
  intro k ob' b hk hb;obtain⟨m,ob,hm,hob,hle⟩:=hH k ob' hk;refine⟨m,ob,hm,hob,?_⟩
  rcases hb with⟨h1,rfl⟩|⟨v,ty,sz,n,row,i,j,oty,osz,on,orow,rfl,hi,hj,hc,rfl⟩
  ·simp only[Env.ren,hm,Option.getD_some] at h1 ⊢;exact .inl ⟨h1,rfl⟩
  ·cases hle with
   |fam v ty1 ty2 sz n row1 row2 hr=>
    have:=((matO_ok (E:=E) (w:=w) (k:=m) (o:=.fam v ty1 sz n row1) (o':=.fam v ty sz n row) (by simp only[matO,show Nat.beq sz sz=true from Nat.beq_refl sz];exact⟨trivial,trivial,hr⟩) (h.heap.live m _ hob).2.1).2.1 (E.b2 m v i j)).1
    simp only[Env.ren,hm,Option.getD_some] at hc ⊢;exact this (.inr ⟨v,ty,sz,n,row,i,j,oty,osz,on,orow,rfl,hi,hj,hc,rfl⟩)
 refine⟨⟨fun k ob' hk=> ?_,fun k k' o o' b hk hk' hb hb'=> ?_,fun k hk=>hk.1,fun k v hv=>(by obtain⟨g1,m,g2,g3⟩:=hv;exact⟨g1,m,g2,h.heap.l2 _ _ g3⟩),fun k ob' v hk hv=> ?_⟩,h.nlt,h.nnew,fun k ob' b hk hb=> ?_,h.fr,⟨h.keep.N,fun k hk hL=> ?_,h.keep.same,fun k v hk hv=> ?_⟩⟩
 ·obtain⟨m,ob,hm,hob,hle⟩:=hH k ob' hk;obtain⟨hL,hO,hN⟩:=h.heap.live m ob hob;have hNb:∀b,Blk (E.ren ρ H'.length) k ob' b->¬ (E.ren ρ H'.length).N b:=fun b hb hn=>by
   obtain⟨m2,ob2,_,g1,g2⟩:=hblk hk hb;exact(h.heap.live m2 ob2 g1).2.2 b g2 hn
  have hb:(E.ren ρ H'.length).β k=E.β m:=by simp[Env.ren,hm]
  have hκ:(E.ren ρ H'.length).κ k=E.κ m:=by simp[Env.ren,hm]
  have hzz:(E.ren ρ H'.length).z k=E.z m:=by simp[Env.ren,hm]
  refine⟨⟨hlt k m hm,m,hm,hL⟩,?_,hNb⟩
  cases hle with
  |mp bo get get' hg=>
   obtain rfl:get=get':=funext hg;obtain⟨h0,es,clock,h1,h2⟩:=hO;exact(⟨by rw[hκ];exact h0,es,clock,by rw[hb];exact h1,h2⟩:MapOk _ _ _ _ _)
  |mp2 get get' hg=>
   obtain rfl:get=get':=funext fun a=>funext (hg a)
   obtain⟨h0,es,clock,h1,h2⟩:=hO;exact(⟨by rw[hκ];exact h0,es,clock,by rw[hb];exact h1,h2⟩:MapOk2 _ _ _ _)
  |fam v ty1 ty2 sz n row1 row2 hr=>
   have hF:FamOk E w m v ty1 sz n row1:=hO;have hF2:FamOk E w m v ty2 sz n row2:=(matO_ok (E:=E) (w:=w) (k:=m) (o:=.fam v ty1 sz n row1) (o':=.fam v ty2 sz n row2) (by simp only[matO,show Nat.beq sz sz=true from Nat.beq_refl sz];exact⟨trivial,trivial,hr⟩) hO).1
   exact(FamOk.ren (E2:=E.ren ρ H'.length) (w':=w) hF2 (obQ_true _) (fun t x _ ht hx=>Rd.closed (E:=E) (E':=E.ren ρ H'.length) (fun _ h=>h) hx ht) hb hκ hzz ⟨hlt k m hm,m,hm,hF.l2⟩ (fun i j=>by simp[Env.ren,hm]) (fun i j=>by simp[Env.ren,hm]) (fun _ _=>rfl):FamOk _ _ _ _ _ _ _ _)
  |bys ty1 ty2 l=>
   obtain⟨hz,hn,hl,hone,hcl,cs,ty,hblk,hsz,hc⟩:=hO;show ArrOk _ _ _ _;unfold ArrOk;rw[hb,hκ,hzz];simp only[Ob.toArr] at*;refine⟨hz,hn,hl,hone,hcl,cs,ty,hblk,hsz,fun i j t hi hj=> ?_⟩
   obtain⟨u,hu,hr⟩:=hc i j t hi hj;exact⟨u,hu,Rd.closed (E:=E) (E':=E.ren ρ H'.length) (fun _ h=>h) hr (hcl trivial i t hi (List.mem_of_getElem? hj))⟩
  |same ty1 ty2 sz n row row' hrow=>
   obtain⟨hz,hn,hl,hone,hcl,cs,ty,hblk,hsz,hc⟩:=hO;show ArrOk _ _ _ _;unfold ArrOk;rw[hb,hκ,hzz];simp only[Ob.toArr] at*;refine⟨hz,hn,fun i hi=>by rw[←hrow i hi];exact hl i hi,fun i t hi ht=>hone i t hi (by rw[hrow i hi];exact ht),fun _ i t hi ht=>hcl trivial i t hi (by rw[hrow i hi];exact ht),cs,ty,hblk,hsz,fun i j t hi hj=> ?_⟩
   rw[←hrow i hi] at hj;obtain⟨u,hu,hr⟩:=hc i j t hi hj;exact⟨u,hu,Rd.closed (E:=E) (E':=E.ren ρ H'.length) (fun _ h=>h) hr (hcl trivial i t hi (List.mem_of_getElem? hj))⟩
  |ren cl1 cl2 ty1 ty2 sz n row row' hcc hrow=>
   obtain⟨hz,hn,hl,hone,hcl,cs,ty,hblk,hsz,hc⟩:=hO;show ArrOk _ _ _ _;unfold ArrOk;rw[hb,hκ,hzz];simp only[Ob.toArr] at*;have hlen:∀i,i<n->(row' i).length=(row i).length:=fun i hi=>(mapO_ok (hrow i hi)).1.symm
   have hget:∀(i j:Nat) (t:T),i<n->(row' i)[j]? =some t->∃t0:T,(row i)[j]? =some t0/\renT ρ 6 t=some t0:=by
    intro i j t hi hj;have hlt:j<(row i).length:=by rw[←hlen i hi];exact(List.getElem?_eq_some_iff.1 hj).1
    exact⟨_,List.getElem?_eq_getElem hlt,(mapO_ok (hrow i hi)).2 j t _ hj (List.getElem?_eq_getElem hlt)⟩
   refine⟨hz,hn,fun i hi=>by rw[hlen i hi];exact hl i hi,fun i t hi ht=> ?_,fun hc' i t hi ht=> ?_,cs,ty,hblk,hsz,fun i j t hi hj=> ?_⟩
   ·obtain⟨j,hj⟩:=List.getElem?_of_mem ht
    obtain⟨t0,h0,h1⟩:=hget i j t hi hj;exact renT_one h1 (hone i t0 hi (List.mem_of_getElem? h0))
   ·obtain⟨e1,e2⟩:=hcc hc';exact hcl e1 i t hi (by rw[e2 i hi];exact ht)
   ·obtain⟨t0,h0,h1⟩:=hget i j t hi hj;obtain⟨u,hu,hr⟩:=hc i j t0 hi h0;exact⟨u,hu,Rd.ren hlt 6 h1 hr⟩
  |box cl1 cl2 ty1 ty2 sz row row' h1 hcc hll htl=>
   obtain⟨hz,hn,hl,hone,hcl,cs,ty,hblk,hsz,hc⟩:=hO;show ArrOk _ _ _ _;unfold ArrOk;rw[hb,hκ,hzz];simp only[Ob.toArr] at*;have hget:∀(j:Nat) (t:T),(row' 0)[j]? =some t->∃t0:T,(row 0)[j]? =some t0/\TLe ρ t0 t:=by
    intro j t hj;have hlt:j<(row 0).length:=by rw[hll];exact(List.getElem?_eq_some_iff.1 hj).1
    exact⟨_,List.getElem?_eq_getElem hlt,htl j _ t (List.getElem?_eq_getElem hlt) hj⟩
   refine⟨hz,hn,fun i hi=> ?_,fun i t hi ht=> ?_,fun hc' i t hi ht=> ?_,cs,ty,hblk,hsz,fun i j t hi hj=> ?_⟩
   ·obtain rfl:i=0:=by omega
    rw[←hll];exact hl 0 hi
   ·obtain rfl:i=0:=by omega
    exact h1 t ht
   ·obtain rfl:i=0:=by omega
    exact hcc hc' t ht
   ·obtain rfl:i=0:=by omega
    obtain⟨t0,h0,d,t'',hr1,hle⟩:=hget j t hj;obtain⟨u,hu,hr⟩:=hc 0 j t0 hi h0;exact⟨u,hu,Rd.ren hlt d hr1 (hle _ _ _ hr)⟩
 ·obtain⟨m,ob,hm,hob,hx⟩:=hblk hk hb;obtain⟨m',ob',hm',hob',hx'⟩:=hblk hk' hb';have:m=m':=h.heap.inj m m' ob ob' b hob hob' hx hx';subst this;exact hinj k k' m (by rw[hk];rfl) (by rw[hk'];rfl) hm hm'
 ·obtain⟨m,ob,hm,hob,hle⟩:=hH k ob' hk;obtain⟨_,m2,hm2,hv⟩:=hv;rw[hm] at hm2;simp only[Option.some.injEq] at hm2;subst hm2;obtain⟨v0,ty,sz,n,row,rfl,hle2⟩:=h.heap.cur m ob v hob hv;cases hle with
  |fam _ _ ty2 _ _ _ row2 _=>exact⟨v0,ty2,sz,n,row2,rfl,hle2⟩
 ·obtain⟨m,ob,hm,hob,hx⟩:=hblk hk hb;exact h.bnew m ob b hob hx
 ·obtain⟨l1,l2,l3,l4⟩:=h.keep.L k hk hL;have hk':=hid k hk;refine⟨⟨hlt k k hk',k,hk',l1⟩,?_,?_,?_⟩<;>simp only[Env.ren,hk',Option.getD_some]<;>assumption
 ·obtain⟨l1,l2⟩:=h.keep.L2 k v hk hv;have hk':=hid k hk;refine⟨⟨hlt k k hk',k,hk',l1⟩,fun i j=> ?_⟩
  simp only[Env.ren,hk',Option.getD_some];exact l2 i j

theorem real_ren{s s':Slots}{a:Act}(hlt:∀k m,ρ k=some m->k<H'.length)(hinj:∀k k' m,(getOb H' k).isSome=true->(getOb H' k').isSome=true->ρ k=some m->ρ k'=some m->k=k')
  (hs:∀p ∈ s',TLe ρ (slk s p.1) p.2) (hH:∀k ob',getOb H' k=some ob'->∃m ob,ρ k=some m/\getOb H m=some ob/\OLe ρ ob ob') (hid:∀k,k<c.m->ρ k=some k) (h:Real c s H a w):Real c s' H' a w:=by
 obtain⟨E,hE⟩:=h;refine⟨E.ren ρ H'.length,hE.defers,hE.size,⟨fun i _=> ?_,fun i hi=>absurd (fun q hq=>by cases hq) hi⟩,inv_ren hlt hinj hH hid hE.inv⟩
 ·have hsl:slk s' i= .und∨(i,slk s' i) ∈ s':=by
   rename_i hpp;clear hs hpp;induction s' with
   |nil=>exact .inl rfl
   |cons x s' ih=>
    obtain⟨j,t⟩:=x;simp only[slk];split
    ·rename_i hb;obtain rfl:=Nat.eq_of_beq_eq_true hb;exact .inr (by simp)
    ·rcases ih with h|h
     ·exact .inl h
     ·exact .inr (by simp[h])
  rcases hsl with h|h
  ·rw[h];exact .und _
  ·obtain⟨d,t'',hr,hle⟩:=hs _ h;exact Rd.ren hlt d hr (hle _ _ _ (hE.slots.on i (fun q hq=>by cases hq)))
def rho:List (Option Nat)->Nat->Option Nat
 | [],_=>none
 |m::_,0=>m
 |_::r,k+1=>rho r k

def memO(m:Nat):List (Option Nat)->Bool
 | []=>false
 |none::r=>memO m r
 |some k::r=>Nat.beq m k||memO m r

def injB:List (Option Nat)->Bool
 | []=>true
 |none::r=>injB r
 |some m::r=> !memO m r&&injB r

def liveN:List (Option Nat)->Heap->List (Option Nat)
 |x::r,some _::H=>x::liveN r H
 |_::r,none::H=>none::liveN r H
 |_,_=>[]

theorem rho_lt:∀{l:List (Option Nat)} {k m:Nat},rho l k=some m->k<l.length:=by
 intro l;induction l with
 |nil=>intro k m h;simp[rho] at h
 |cons x l ih=>
  intro k m h;cases k with
  |zero=>simp
  |succ k=>simp only[rho] at h;have:=ih h;simp;omega

theorem memO_ok:∀{l:List (Option Nat)} {k m:Nat},rho l k=some m->memO m l=true:=by
 intro l;induction l with
 |nil=>intro k m h;simp[rho] at h
 |cons x l ih=>
  intro k m h;cases k with
  |zero=>simp only[rho] at h;subst h;simp[memO]
  |succ k=>simp only[rho] at h;have:=ih h;cases x<;>simp[memO,this]

theorem rho_inj:∀{l:List (Option Nat)},injB l=true->∀k k' m,rho l k=some m->rho l k'=some m->k=k':=by
 intro l;induction l with
 |nil=>intro _ k k' m h;simp[rho] at h
 |cons x l ih=>
  intro hb k k' m h h';have hl:injB l=true:=by
   cases x with
   |none=>exact hb
   |some m=>simp only[injB,Bool.and_eq_true] at hb;exact hb.2
  cases k with
  |zero=>
   cases k' with
   |zero=>rfl
   |succ k'=>
    simp only[rho] at h h';subst h;simp only[injB,Bool.and_eq_true] at hb;rw[memO_ok h'] at hb;simp at hb
  |succ k=>
   cases k' with
   |zero=>
    simp only[rho] at h h';subst h';simp only[injB,Bool.and_eq_true] at hb;rw[memO_ok h] at hb;simp at hb
   |succ k'=>
    simp only[rho] at h h';rw[ih hl k k' m h h']

theorem rho_liveN:∀{l:List (Option Nat)} {H:Heap} {k m:Nat},(getOb H k).isSome=true->rho l k=some m->rho (liveN l H) k=some m:=by
 intro l;induction l with
 |nil=>intro H k m _ h;simp[rho] at h
 |cons x l ih=>
  intro H k m ho h;cases H with
  |nil=>simp[getOb] at ho
  |cons o H=>
   cases k with
   |zero=>
    cases o with
    |none=>simp[getOb] at ho
    |some o=>exact h
   |succ k=>
    have ho':(getOb H k).isSome=true:=by simpa[getOb] using ho
    have h':rho l k=some m:=h;cases o<;>exact ih ho' h'

theorem rho_injL{l:List (Option Nat)}{H:Heap}(h:injB (liveN l H)=true)(k k' m:Nat)(ho:(getOb H k).isSome=true)(ho':(getOb H k').isSome=true)(e:rho l k=some m)(e':rho l k'=some m):k=k':=
 rho_inj h k k' m (rho_liveN ho e) (rho_liveN ho' e')

theorem Sub.refl(m:Nat)(σ:Sy):Sub m σ σ:=fun _ _ _ _ h=>h

theorem renT_mono:∀{d:Nat} {t t':T},renT ρ d t=some t'->renT ρ (d+1) t=some t':=by
 have list:∀{f g:T->Option T},(∀a b,f a=some b->g a=some b)->∀{l q:List T},mapO f l=some q->mapO g l=some q:=by
  intro f g h l;induction l with
  |nil=>intro q hq;exact hq
  |cons x l ih=>
   intro q hq;simp only[mapO] at hq ⊢;split at hq
   ·rename_i hb hr;rw[h _ _ hb,ih hr];exact hq
   ·cases hq
 intro d;induction d with
 |zero=>intro t t' h;simp[renT] at h
 |succ d ih=>
  intro t t' h;unfold renT at h ⊢;split at h
  ·exact h
  ·exact h
  ·exact h
  ·exact h
  ·exact h
  ·exact h
  ·simp only[Option.map_eq_some_iff] at h ⊢;obtain⟨a,ha,rfl⟩:=h;exact⟨a,list (fun a b hb=>ih hb) ha,rfl⟩
  ·simp only[Option.map_eq_some_iff] at h ⊢;obtain⟨a,ha,rfl⟩:=h;exact⟨a,list (fun a b hb=>ih hb) ha,rfl⟩
  ·simp only[Option.map_eq_some_iff] at h ⊢;obtain⟨a,ha,rfl⟩:=h;exact⟨a,list (fun a b hb=>ih hb) ha,rfl⟩
  ·exact h

theorem renT_le{d e:Nat}(hde:d<=e){t t':T}(h:renT ρ d t=some t'):renT ρ e t=some t':=by
 induction hde with
 |refl=>exact h
 |step _ ih=>exact renT_mono ih

theorem TLe.int{k:IntKind}{a b:Int}(h:a=b):TLe ρ (.int k a) (.int k b):=⟨1,_,rfl,by rw[h];exact RLe.refl _⟩
theorem TLe.bool{a b:Bool}(h:a=b):TLe ρ (.bool a) (.bool b):=⟨1,_,rfl,by rw[h];exact RLe.refl _⟩
theorem TLe.str{a b:List UInt8}(h:a=b):TLe ρ (.str a) (.str b):=⟨1,_,rfl,by rw[h];exact RLe.refl _⟩
theorem TLe.bys{a b:List UInt8}(h:a=b):TLe ρ (.bys a) (.bys b):=⟨1,_,rfl,by rw[h];exact RLe.refl _⟩
theorem TLe.v{x y:Value}(h:x=y):TLe ρ (.v x) (.v y):=⟨1,_,rfl,by rw[h];exact RLe.refl _⟩
theorem TLe.slNil{sz n:Nat}{row:Nat->List T}(h:n=0):TLe ρ (.v (.slice none 0 0)) (.sl sz n row):=⟨1,_,rfl,by subst h;intro E w v hx;cases hx;exact .slNil _ _⟩
theorem TLe.bysNil{l:List UInt8}(h:l=[]):TLe ρ (.v (.slice none 0 0)) (.bys l):=⟨1,_,rfl,by subst h;intro E w v hx;cases hx;exact .bysNil⟩
theorem TLe.slE{sz n:Nat}{row:Nat->List T}(h:n=0):TLe ρ .emp (.sl sz n row):=⟨1,_,rfl,by subst h;intro E w v hx;cases hx with|emp a=>cases a with|none=>exact .slNil _ _|some a=>exact .slEmp _ _ _⟩
theorem TLe.bysE{l:List UInt8}(h:l=[]):TLe ρ .emp (.bys l):=⟨1,_,rfl,by subst h;intro E w v hx;cases hx with|emp a=>cases a with|none=>exact .bysNil|some a=>exact .bysEmp _⟩
theorem TLe.sl{sz n m:Nat}{row row':Nat->List T}(hn:n=m)(h:∀i,i<n->row i=row' i):TLe ρ (.sl sz n row) (.sl sz m row'):=by
 subst hn;refine⟨1,_,rfl,fun E w v hx=> ?_⟩
 cases hx with
 |slNil=>exact .slNil _ _
 |slEmp=>exact .slEmp _ _ _
 |sl _ _ _ b off cap u h1 h2 h3 h4 h5 h6=>
  exact .sl _ _ _ b off cap u h1 h2 (fun i hi=>by rw[←h i hi];exact h3 i hi) (fun i t hi ht=>h4 i t hi (by rw[h i hi];exact ht)) (fun i j t hi ht=>h5 i j t hi (by rw[h i hi];exact ht)) (fun i j t hi ht=>h6 i j t hi (by rw[h i hi];exact ht))
theorem TLe.osl{k m off off' n n':Nat}(h:ρ k=some m)(ho:off=off')(hn:n=n'):TLe ρ (.osl m off n) (.osl k off' n'):=by
 subst ho;subst hn;exact⟨1,.osl m off n,by simp[renT,h],RLe.refl _⟩
theorem TLe.ref{k m i i' j j':Nat}(h:ρ k=some m)(hi:i=i')(hj:j=j'):TLe ρ (.ref m i j) (.ref k i' j'):=by
 subst hi;subst hj;exact⟨1,.ref m i j,by simp[renT,h],RLe.refl _⟩
theorem TLe.posl{k m v v' i i' j j' n n':Nat}(h:ρ k=some m)(hv:v=v')(hi:i=i')(hj:j=j')(hn:n=n'):TLe ρ (.posl m v i j n) (.posl k v' i' j' n'):=by
 subst hv;subst hi;subst hj;subst hn;exact⟨1,.posl m v i j n,by simp[renT,h],RLe.refl _⟩
theorem TLe.ifp{k m:Nat}{t t':TypeId}{ms ms':List (String×FuncId)}(h:ρ k=some m)(ht:t=t')(hm:ms=ms'):TLe ρ (.ifp t m ms) (.ifp t' k ms'):=by
 subst ht;subst hm;exact⟨1,.ifp t m ms,by simp[renT,h],RLe.refl _⟩
theorem TLe.mpr{k m:Nat}(h:ρ k=some m):TLe ρ (.mpr m) (.mpr k):=⟨1,.mpr m,by simp[renT,h],RLe.refl _⟩
theorem TLe.und(t:T):TLe ρ t .und:=⟨1,_,rfl,fun _ _ v _=>.und v⟩

def TLes(ρ:Nat->Option Nat):List T->List T->Prop
 | [],[]=>True
 |a::r,b::q=>TLe ρ a b/\TLes ρ r q
 |_,_=>False

theorem tles_ok:∀{as bs:List T},TLes ρ as bs->∃d cs,mapO (renT ρ d) bs=some cs/\as.length=cs.length/\∀(i:Nat) (a c:T),as[i]? =some a->cs[i]? =some c->RLe a c:=by
 have mono:∀{d e:Nat},d<=e->∀{l q:List T},mapO (renT ρ d) l=some q->mapO (renT ρ e) l=some q:=by
  intro d e hde l;induction l with
  |nil=>intro q hq;exact hq
  |cons x l ih=>
   intro q hq;simp only[mapO] at hq ⊢;split at hq
   ·rename_i hb hr;rw[renT_le hde hb,ih hr];exact hq
   ·cases hq
 intro as;induction as with
 |nil=>
  intro bs h;cases bs with
  |nil=>exact⟨0,[],rfl,rfl,fun i a c ha=>by simp at ha⟩
  |cons=>exact h.elim
 |cons a as ih=>
  intro bs h;cases bs with
  |nil=>exact h.elim
  |cons b bs=>
   obtain⟨⟨d,c,hc,hle⟩,h2⟩:=h;obtain⟨e,cs,hcs,hlen,hall⟩:=ih h2;refine⟨max d e,c::cs,?_,by simp[hlen],fun i x z hx hz=> ?_⟩
   ·simp only[mapO,renT_le (Nat.le_max_left d e) hc,mono (Nat.le_max_right d e) hcs]
   ·cases i with
    |zero=>simp at hx hz;subst hx;subst hz;exact hle
    |succ i=>exact hall i x z (by simpa using hx) (by simpa using hz)

theorem TLe.agg{as bs:List T}(h:TLes ρ as bs):TLe ρ (.agg as) (.agg bs):=by
 obtain⟨d,cs,hcs,hlen,hall⟩:=tles_ok h;refine⟨d+1,.agg cs,by simp[renT,hcs],fun E w v hx=> ?_⟩
 cases hx with
 |agg _ vs hl ht=>
  refine .agg _ vs (by omega) fun i c x hc hx=> ?_
  have hlt:i<as.length:=by rw[hlen];exact(List.getElem?_eq_some_iff.1 hc).1
  exact hall i _ c (List.getElem?_eq_getElem hlt) hc _ _ _ (ht i _ x (List.getElem?_eq_getElem hlt) hx)
theorem TLe.tup{as bs:List T}(h:TLes ρ as bs):TLe ρ (.tup as) (.tup bs):=by
 obtain⟨d,cs,hcs,hlen,hall⟩:=tles_ok h;refine⟨d+1,.tup cs,by simp[renT,hcs],fun E w v hx=> ?_⟩
 cases hx with
 |tup _ vs hl ht=>
  refine .tup _ vs (by omega) fun i c x hc hx=> ?_
  have hlt:i<as.length:=by rw[hlen];exact(List.getElem?_eq_some_iff.1 hc).1
  exact hall i _ c (List.getElem?_eq_getElem hlt) hc _ _ _ (ht i _ x (List.getElem?_eq_getElem hlt) hx)
theorem TLe.fn{f:Fn}{as bs:List T}(h:TLes ρ as bs):TLe ρ (.fn f as) (.fn f bs):=by
 obtain⟨d,cs,hcs,hlen,hall⟩:=tles_ok h;refine⟨d+1,.fn f cs,by simp[renT,hcs],fun E w v hx=> ?_⟩
 cases hx with
 |fn _ _ vs hl ht=>
  refine .fn _ _ vs (by omega) fun i c x hc hx=> ?_
  have hlt:i<as.length:=by rw[hlen];exact(List.getElem?_eq_some_iff.1 hc).1
  exact hall i _ c (List.getElem?_eq_getElem hlt) hc _ _ _ (ht i _ x (List.getElem?_eq_getElem hlt) hx)

theorem rle_none:∀{d:Nat} {t t':T},renT (fun _=>none) d t=some t'->t'=t:=by
 intro d;induction d with
 |zero=>intro t t' h;simp[renT] at h
 |succ d ih=>
  have list:∀{l q:List T},mapO (renT (fun _=>none) d) l=some q->q=l:=by
   intro l;induction l with
   |nil=>intro q hq;simpa[mapO] using hq.symm
   |cons x l ihl=>
    intro q hq;simp only[mapO] at hq;split at hq
    ·rename_i hb hr;simp only[Option.some.injEq] at hq;rw[←hq,ih hb,ihl hr]
    ·cases hq
  intro t t' h;unfold renT at h;split at h
  ·simp at h
  ·simp at h
  ·simp at h
  ·simp at h
  ·simp at h
  ·simp at h
  ·simp only[Option.map_eq_some_iff] at h;obtain⟨cs,hcs,rfl⟩:=h;rw[list hcs]
  ·simp only[Option.map_eq_some_iff] at h;obtain⟨cs,hcs,rfl⟩:=h;rw[list hcs]
  ·simp only[Option.map_eq_some_iff] at h;obtain⟨cs,hcs,rfl⟩:=h;rw[list hcs]
  ·simp only[Option.some.injEq] at h;exact h.symm

theorem TLe.rle{t t':T}(h:TLe (fun _=>none) t t'):RLe t t':=by
 obtain⟨d,t'',h1,h2⟩:=h;rw[rle_none h1] at h2;exact h2


def tleV(ρ:Nat->Option Nat):Nat->T->T->Prop
 |0,t,t'=>TLe ρ t t'
 |d+1,t,t'=>
  match t,t' with
  |_,.und=>True
  | .int k a,.int k' b=>match decide (k=k') with|true=>a=b|false=>False
  | .bool a,.bool b=>a=b
  | .str a,.str b=>a=b
  | .bys a,.bys b=>a=b
  | .v x,.v y=>x=y
  | .v (.slice none 0 0),.sl _ n _=>n=0
  | .v (.slice none 0 0),.bys l=>l=[]
  | .emp,.sl _ n _=>n=0
  | .emp,.bys l=>l=[]
  | .emp,.emp=>True
  | .sl sz n row,.sl sz' m row'=>match Nat.beq sz sz' with|true=>n=m/\RowsEq n row row'|false=>False
  | .osl m off n,.osl k off' n'=>match ρ k with
   |some m'=>match Nat.beq m m' with|true=>off=off'/\n=n'|false=>False
   |none=>False
  | .ref m i j,.ref k i' j'=>match ρ k with
   |some m'=>match Nat.beq m m' with|true=>i=i'/\j=j'|false=>False
   |none=>False
  | .mpr m,.mpr k=>match ρ k with
   |some m'=>match Nat.beq m m' with|true=>True|false=>False
   |none=>False
  | .ifp t m ms,.ifp t' k ms'=>match ρ k with
   |some m'=>match Nat.beq m m' with|true=>t=t'/\ms=ms'|false=>False
   |none=>False
  | .posl m v i j n,.posl k v' i' j' n'=>match ρ k with
   |some m'=>match Nat.beq m m' with|true=>v=v'/\i=i'/\j=j'/\n=n'|false=>False
   |none=>False
  | .agg as,.agg bs=>tlesV (tleV ρ d) as bs
  | .tup as,.tup bs=>tlesV (tleV ρ d) as bs
  | .fn f as,.fn g bs=>f=g/\tlesV (tleV ρ d) as bs
  |t,t'=>TLe ρ t t'
where
 tlesV (f:T->T->Prop):List T->List T->Prop
 | [],[]=>True
 |a::r,b::q=>f a b/\tlesV f r q
 |_,_=>False

theorem tleV_ok:∀{d:Nat} {t t':T},tleV ρ d t t'->TLe ρ t t':=by
 intro d;induction d with
 |zero=>intro t t' h;exact h
 |succ d ih=>
  have list:∀{as bs:List T},tleV.tlesV (tleV ρ d) as bs->TLes ρ as bs:=by
   intro as;induction as with
   |nil=>intro bs h;cases bs<;>exact h
   |cons a as iha=>
    intro bs h;cases bs with
    |nil=>exact h
    |cons b bs=>exact⟨ih h.1,iha h.2⟩
  intro t t' h;unfold tleV at h;split at h
  ·exact TLe.und _
  ·split at h
   ·rename_i hk;rw[of_decide_eq_true hk];exact TLe.int h
   ·exact h.elim
  ·exact TLe.bool h
  ·exact TLe.str h
  ·exact TLe.bys h
  ·exact TLe.v h
  ·exact TLe.slNil h
  ·exact TLe.bysNil h
  ·exact TLe.slE h
  ·exact TLe.bysE h
  ·exact⟨1,_,rfl,RLe.refl _⟩
  ·split at h
   ·rename_i hb;rw[Nat.eq_of_beq_eq_true hb];exact TLe.sl h.1 h.2
   ·exact h.elim
  ·split at h
   ·rename_i hr;split at h
    ·rename_i hb;rw[Nat.eq_of_beq_eq_true hb];exact TLe.osl hr h.1 h.2
    ·exact h.elim
   ·exact h.elim
  ·split at h
   ·rename_i hr;split at h
    ·rename_i hb;rw[Nat.eq_of_beq_eq_true hb];exact TLe.ref hr h.1 h.2
    ·exact h.elim
   ·exact h.elim
  ·split at h
   ·rename_i hr;split at h
    ·rename_i hb;rw[Nat.eq_of_beq_eq_true hb];exact TLe.mpr hr
    ·exact h.elim
   ·exact h.elim
  ·split at h
   ·rename_i hr;split at h
    ·rename_i hb;rw[Nat.eq_of_beq_eq_true hb];exact TLe.ifp hr h.1 h.2
    ·exact h.elim
   ·exact h.elim
  ·split at h
   ·rename_i hr;split at h
    ·rename_i hb;rw[Nat.eq_of_beq_eq_true hb];exact TLe.posl hr h.1 h.2.1 h.2.2.1 h.2.2.2
    ·exact h.elim
   ·exact h.elim
  ·exact TLe.agg (list h)
  ·exact TLe.tup (list h)
  ·obtain⟨rfl,h⟩:=h;exact TLe.fn (list h)
  ·exact h

end
end Go.SS
/- A calculus of symbolic states: loops with what holds at their heads. -/
namespace Go.SS
open Go.RowKit

inductive Lk where
 |no
 |box (m:Nat)
 |arr (m:Nat)
 |ren (m:Nat)
 |nilC (k j:Nat) (ty:TypeId) (sz:Nat)
 |nilS (i:Nat) (p:List Nat) (ty:TypeId) (sz:Nat)
 |fam (k:Nat)
 |at_ (j:Nat)
 |frz (i:Nat)
 |cel (k j:Nat)
 |vl (i:Nat) (p:List Nat)
 |fav (i:Nat) (p:List Nat)
 |fac (k j:Nat)

def resL(s:Slots):List Lk->List Lk
 | []=>[]
 | .at_ j::r=>(match slk s j with| .osl k _ _=>.arr k| .ref k _ _=>.arr k|_=>.no)::resL s r
 |x::r=>x::resL s r

def nilB:Option T->Bool
 |some (.v (.slice none 0 0))=>true
 |some .emp=>true
 |_=>false

def setNil(k:Nat):List Nat->T->Option T
 | [],.v (.slice none 0 0)=>some (.osl k 0 0)
 | [],.emp=>some (.osl k 0 0)
 |j::p,.agg cs=>match cs[j]? with
  |some t=>(setNil k p t).map fun t'=>.agg (cs.set j t')
  |none=>none
 |j::p,.tup cs=>match cs[j]? with
  |some t=>(setNil k p t).map fun t'=>.tup (cs.set j t')
  |none=>none
 |_,_=>none

def runG0(σ:Sy):Lk->Option Sy
 | .nilC k j ty sz=>match getOb σ.H k with
  |some (.arr _ bty bsz n row)=>match n,nilB ((row 0)[j]?),Nat.beq sz 0 with
   |1,true,false=>some ⟨σ.s,(σ.H++[some (Ob.arr true ty sz 0 fun _=>[])]).set k (some (.arr false bty bsz 1 fun _=>(row 0).set j (.osl σ.H.length 0 0)))⟩
   |_,_,_=>none
  |_=>none
 | .nilS i p ty sz=>match setNil σ.H.length p (slk σ.s i),Nat.beq sz 0 with
  |some t,false=>some ⟨(i,t)::σ.s,σ.H++[some (.arr true ty sz 0 fun _=>[])]⟩
  |_,_=>none
 | .fam k=>match getOb σ.H k with
  |some (.arr true ty sz n row)=>some ⟨σ.s,σ.H.set k (some (.fam 0 ty sz n row))⟩
  |_=>none
 | .frz i=>match borrow 0 (keepObs (reach σ.H 64 (idsT [slk σ.s i]) []) σ.H 0) 6 (slk σ.s i) with
  |some (t,none)=>some ⟨(i,t)::σ.s,dropObs σ.H (reach σ.H 64 (idsT [slk σ.s i]) [])⟩
  |_=>none
 |_=>some σ

def partK:List Nat->T->Option Nat
 | [],.osl k _ _=>some k
 |j::p,.agg cs=>match cs[j]? with
  |some t=>partK p t
  |none=>none
 |j::p,.tup cs=>match cs[j]? with
  |some t=>partK p t
  |none=>none
 |_,_=>none

def cellK(H:Heap)(k j:Nat):Option Nat:=
 match getOb H k with
 |some (.arr _ _ _ _ row)=>match(row 0)[j]? with
  |some (.osl m _ _)=>some m
  |_=>none
 |_=>none

def fixL(σ:Sy):Lk->Lk
 | .fav i p=>match partK p (slk σ.s i) with
  |some k=>.fam k
  |none=>.no
 | .fac k j=>match cellK σ.H k j with
  |some k=>.fam k
  |none=>.no
 |x=>x

def runG1(σ:Sy)(x:Lk):Option Sy:=runG0 σ (fixL σ x)

def runG(σ:Sy):List Lk->Option Sy
 | []=>some σ
 |x::r=>match runG1 σ x with
  |some σ'=>runG σ' r
  |none=>none

def Lk.isG:Lk->Bool
 | .nilC .. | .nilS .. | .fam _| .frz _| .fav .. | .fac .. =>true
 |_=>false

def lnks:List Lk->List Lk
 | []=>[]
 |x::r=>match x.isG with
  |true=>lnks r
  |false=>x::lnks r

def toArrL:Option Nat->Lk
 |some m=>.arr m
 |none=>.no

def celL(s:Slots)(H:Heap):List Lk->List Lk
 | []=>[]
 | .cel k j::r=>toArrL (cellK H k j)::celL s H r
 | .vl i p::r=>toArrL (partK p (slk s i))::celL s H r
 |x::r=>x::celL s H r

def Lk.old:Lk->Option Nat
 | .no| .nilC .. | .nilS .. | .fam _| .at_ _| .frz _| .cel .. | .vl .. | .fav .. | .fac .. =>none
 | .box m| .arr m| .ren m=>some m

def olds:List Lk->List (Option Nat)
 | []=>[]
 |x::r=>x.old::olds r

def RowsRen(ρ:Nat->Option Nat)(n:Nat)(row row':Nat->List T):Prop:=∀i,i<n->mapO (renT ρ 6) (row' i)=some (row i)

def obV(ρ:Nat->Option Nat)(H:Heap)(lk:Lk)(o:Option Ob):Prop:=
 match o with
 |none=>True
 |some ob'=>match lk with
  | .no| .nilC .. | .nilS .. | .fam _| .at_ _| .frz _| .cel .. | .vl .. | .fav .. | .fac .. =>False
  | .box m=>match getOb H m,ob' with
   |some (.arr _ _ sz n row),.arr cl' _ sz' n' row'=>match Nat.beq sz sz'&&(row' 0).all oneT&&(!cl'||(row' 0).all closedT) with
    |true=>n=1/\n'=1/\tleV.tlesV (tleV ρ 6) (row 0) (row' 0)
    |false=>False
   |_,_=>False
  | .arr m=>match getOb H m,ob' with
   |some (.bys _ l),.bys _ l'=>l=l'
   |some (.arr true _ sz n row),.arr true _ sz' n' row'=>match Nat.beq sz sz' with
    |true=>n=n'/\RowsEq n row row'
    |false=>False
   |some (.fam v _ sz n row),.fam v' _ sz' n' row'=>match Nat.beq sz sz' with
    |true=>v=v'/\n=n'/\FamEq n row row'
    |false=>False
   |some (.mp bo get),.mp bo' get'=>match bo==bo' with
    |true=>∀n,get n=get' n
    |false=>False
   |some (.mp2 get),.mp2 get'=>∀a b,get a b=get' a b
   |_,_=>False
  | .ren m=>match getOb H m,ob' with
   |some (.arr _ _ sz n row),.arr false _ sz' n' row'=>match Nat.beq sz sz' with
    |true=>n=n'/\RowsRen ρ n row row'
    |false=>False
   |_,_=>False

def slotsV(ρ:Nat->Option Nat)(s:Slots):Slots->Prop
 | []=>True
 |(j,t)::r=>tleV ρ 6 (slk s j) t/\slotsV ρ s r

def heapV(ρ:Nat->Option Nat)(H:Heap):List Lk->Heap->Prop
 | [],[]=>True
 |lk::l,o::r=>obV ρ H lk o/\heapV ρ H l r
 |_,_=>False

def idB:Nat->Nat->List (Option Nat)->Bool
 |0,_,_=>true
 |m+1,i,some k::r=>Nat.beq i k&&idB m (i+1) r
 |_+1,_,_=>false

def subV(m:Nat)(l:List Lk)(σ σ':Sy):Prop:=
 match runG σ l with
 |some σ=>match injB (liveN (olds (celL σ.s σ.H (lnks l))) σ'.H)&&idB m 0 (olds (celL σ.s σ.H (lnks l))) with
  |true=>slotsV (rho (olds (celL σ.s σ.H (lnks l)))) σ.s σ'.s/\heapV (rho (olds (celL σ.s σ.H (lnks l)))) σ.H (celL σ.s σ.H (lnks l)) σ'.H
  |false=>False
 |none=>False

def subO(m:Nat)(l:Option (List Lk))(σ σ':Sy):Prop:=
 match l with
 |some l=>subV m l σ σ'
 |none=>False

def frz(H:Heap)(s:Slots):List Nat->Option (Slots×Option Prop)
 | []=>some ([],none)
 |i::r=>match borrow 0 H 6 (slk s i),frz H s r with
  |some (t,p),some (q,p')=>some ((i,t)::q,andOO p p')
  |_,_=>none

inductive Ann:Type 1
 |none
 |unr (n:Nat) (sub:Nat->Nat->Ann)
 |one (ι:Type) (I:ι->Sy) (μ:ι->Nat) (lin lback:List Lk) (sub:ι->Nat->Ann)
 |onef (ks:List Nat) (ι:Type) (I:ι->Sy) (μ:ι->Nat) (lback:List Lk) (sub:ι->Nat->Ann)
 |two (ι₁ ι₂:Type) (I₁:ι₁->Sy) (I₂:ι₂->Sy) (μ₁:ι₁->Nat) (μ₂:ι₂->Nat) (l1 l2 l11 l12 l21 l22:Option (List Lk)) (sub₁:ι₁->Nat->Ann) (sub₂:ι₂->Nat->Ann)

def nLoops:Code->Nat
 | .seq a b=>nLoops a+nLoops b
 | .cond _ a b=>nLoops a+nLoops b
 | .block _ b=>nLoops b
 | .loop b=>nLoops b+1
 |_=>0

def rounds(step:Nat->(Sy->Prop)->Sy->Prop):Nat->Sy->Prop
 |0,_=>False
 |n+1,σ=>step n (rounds step n) σ

def vcI(P:Program)(G:Gam)(nt m0:Nat):Code->Nat->(Exit->Sy->(Nat->Ann)->Prop)->Sy->(Nat->Ann)->Prop
 | .skip,_,Q,σ,A=>Q .normal σ A
 | .region _ ops draw,_,Q,σ,A=>match draw with
  |false=>vcOps P G nt ops ops.toList σ.s [] σ.H fun s H=>Q .normal ⟨s,H⟩ A
  |true=>vcDraw P G nt ops σ.s σ.H fun s H=>Q .normal ⟨s,H⟩ A
 | .seq a b,k,Q,σ,A=>vcI P G nt m0 a k (fun e σ' A'=>match e with| .normal=>vcI P G nt m0 b (k+nLoops a) Q σ' A'|e=>Q e σ' A') σ A
 | .cond c x y,k,Q,σ,A=>match opT σ.s c with
  | .bool b=>(b=true->vcI P G nt m0 x k Q σ A)/\(b=false->vcI P G nt m0 y (k+nLoops x) Q σ A)
  |_=>False
 | .block id body,k,Q,σ,A=>vcI P G nt m0 body k (fun e σ' A'=>match e with| .exit i=>(match Nat.beq i id with|true=>Q .normal σ' A'|false=>Q (.exit i) σ' A')|e=>Q e σ' A') σ A
 | .loop body,k,Q,σ,A=>match A k with
  | .none=>False
  | .unr n sub=>rounds (fun m next σ'=>vcI P G nt m0 body (k+1) (fun e σ'' A'=>match e with| .normal=>next σ''|e=>Q e σ'' A') σ' (sub m)) n σ
  | .one ι I μ lin lback sub=>(∃x,subV m0 (resL σ.s lin) σ (I x))/\∀x:ι,vcI P G nt m0 body (k+1) (fun e σ' A'=>match e with| .normal=>∃y,subV m0 (resL σ'.s lback) σ' (I y)/\Lt (μ y) (μ x)|e=>Q e σ' A') (I x) (sub x)
  | .onef ks ι I μ lback sub=>(match m0,frz σ.H σ.s ks with
   |0,some (s',p)=>andO p (∃x,subV 0 [] ⟨s',[]⟩ (I x))
   |_,_=>False)/\∀x:ι,vcI P G nt m0 body (k+1) (fun e σ' A'=>match e with| .normal=>∃y,subV m0 (resL σ'.s lback) σ' (I y)/\Lt (μ y) (μ x)|e=>Q e σ' A') (I x) (sub x)
  | .two ι₁ ι₂ I₁ I₂ μ₁ μ₂ l1 l2 l11 l12 l21 l22 sub₁ sub₂=>
   ((∃x,subO m0 l1 σ (I₁ x))∨(∃x,subO m0 l2 σ (I₂ x)))/\
   (∀x:ι₁,vcI P G nt m0 body (k+1) (fun e σ' A'=>match e with| .normal=>(∃y,subO m0 l11 σ' (I₁ y)/\Lt (μ₁ y) (μ₁ x))∨(∃y,subO m0 l12 σ' (I₂ y)/\Lt (μ₂ y) (μ₁ x))|e=>Q e σ' A') (I₁ x) (sub₁ x))/\
   (∀x:ι₂,vcI P G nt m0 body (k+1) (fun e σ' A'=>match e with| .normal=>(∃y,subO m0 l21 σ' (I₁ y)/\Lt (μ₁ y) (μ₂ x))∨(∃y,subO m0 l22 σ' (I₂ y)/\Lt (μ₂ y) (μ₂ x))|e=>Q e σ' A') (I₂ x) (sub₂ x))
 | .exit id,_,Q,σ,A=>Q (.exit id) σ A
 | .ret,_,Q,σ,A=>Q .ret σ A
 |_,_,_,_,_=>False

section
variable {P:Program} {G:Gam} {nt m:Nat}

theorem tlesV_ok{ρ:Nat->Option Nat}{d:Nat}:∀{as bs:List T},tleV.tlesV (tleV ρ d) as bs->as.length=bs.length/\∀(j:Nat) (a b:T),as[j]? =some a->bs[j]? =some b->TLe ρ a b:=by
 intro as;induction as with
 |nil=>
  intro bs h;cases bs with
  |nil=>exact⟨rfl,fun j a b ha=>by simp at ha⟩
  |cons=>exact h.elim
 |cons a as ih=>
  intro bs h;cases bs with
  |nil=>exact h.elim
  |cons b bs=>
   obtain⟨h1,h2⟩:=ih h.2;refine⟨by simp[h1],fun j x z hx hz=> ?_⟩
   cases j with
   |zero=>simp at hx hz;subst hx;subst hz;exact tleV_ok h.1
   |succ j=>exact h2 j x z (by simpa using hx) (by simpa using hz)

theorem obV_ok{ρ:Nat->Option Nat}{H:Heap}{lk:Lk}{ob':Ob}(h:obV ρ H lk (some ob')):∃m ob,lk.old=some m/\getOb H m=some ob/\OLe ρ ob ob':=by
 unfold obV at h;split at h
 ·rename_i hn;cases hn
 ·rename_i ob hob;simp only[Option.some.injEq] at hob;subst hob;split at h
  iterate 10 exact h.elim
  ·split at h
   ·rename_i m _ _ cl ty sz n row cl' ty' sz' n' row' hm;split at h
    ·rename_i hb;simp only[Bool.and_eq_true,Bool.or_eq_true,Bool.not_eq_true'] at hb;obtain⟨⟨hb1,hb2⟩,hb3⟩:=hb;obtain⟨rfl,rfl,h⟩:=h;obtain rfl:=Nat.eq_of_beq_eq_true hb1;obtain⟨e1,e2⟩:=tlesV_ok h;exact⟨m,_,rfl,hm,.box cl cl' ty ty' sz row row' (fun t ht=>List.all_eq_true.1 hb2 t ht) (fun hc t ht=>List.all_eq_true.1 (hb3.resolve_left (by simp[hc])) t ht) e1 e2⟩
    ·exact h.elim
   ·exact h.elim
  ·split at h
   ·rename_i m _ _ ty l ty' l' hm;subst h;exact⟨m,_,rfl,hm,.bys _ _ _⟩
   ·rename_i m _ _ ty sz n row ty' sz' n' row' hm;split at h
    ·rename_i hb;obtain⟨rfl,h⟩:=h;obtain rfl:=Nat.eq_of_beq_eq_true hb;exact⟨m,_,rfl,hm,.same _ _ _ _ _ _ h⟩
    ·exact h.elim
   ·rename_i m _ _ v ty sz n row v' ty' sz' n' row' hm;split at h
    ·rename_i hb;obtain⟨rfl,rfl,h⟩:=h;obtain rfl:=Nat.eq_of_beq_eq_true hb;exact⟨m,_,rfl,hm,.fam _ _ _ _ _ _ _ h⟩
    ·exact h.elim
   ·rename_i m _ _ bo get bo' get' hm;split at h
    ·rename_i hb;obtain rfl:bo=bo':=by simpa using hb
     exact⟨m,_,rfl,hm,.mp _ _ _ h⟩
    ·exact h.elim
   ·rename_i m _ _ get get' hm;exact⟨m,_,rfl,hm,.mp2 _ _ h⟩
   ·exact h.elim
  ·split at h
   ·rename_i m _ _ cl ty sz n row ty' sz' n' row' hm;split at h
    ·rename_i hb;obtain⟨rfl,h⟩:=h;obtain rfl:=Nat.eq_of_beq_eq_true hb;exact⟨m,_,rfl,hm,.ren _ _ _ _ _ _ _ _ (fun hc=>by cases hc) h⟩
    ·exact h.elim
   ·exact h.elim

theorem heapV_ok{ρ:Nat->Option Nat}{H:Heap}:∀{l:List Lk} {H':Heap},heapV ρ H l H'->(olds l).length=H'.length/\∀k ob',getOb H' k=some ob'->∃m ob,rho (olds l) k=some m/\getOb H m=some ob/\OLe ρ ob ob':=by
 intro l;induction l with
 |nil=>
  intro H' h;cases H' with
  |nil=>exact⟨rfl,fun k ob' hk=>by simp[getOb] at hk⟩
  |cons=>exact h.elim
 |cons lk l ih=>
  intro H' h;cases H' with
  |nil=>exact h.elim
  |cons o H'=>
   obtain⟨h1,h2⟩:=ih h.2;refine⟨by simp[olds,h1],fun k ob' hk=> ?_⟩
   cases k with
   |zero=>
    have:o=some ob':=by simpa[getOb] using hk
    subst this;exact obV_ok h.1
   |succ k=>exact h2 k ob' (by simpa[getOb] using hk)

theorem slotsV_ok{ρ:Nat->Option Nat}{s:Slots}:∀{s':Slots},slotsV ρ s s'->∀p ∈ s',TLe ρ (slk s p.1) p.2:=by
 intro s';induction s' with
 |nil=>intro _ p hp;cases hp
 |cons x s' ih=>
  intro h p hp;obtain⟨j,t⟩:=x;rcases List.mem_cons.1 hp with rfl|hp
  ·exact tleV_ok h.1
  ·exact ih h.2 p hp

theorem idB_ok:∀{m i:Nat} {l:List (Option Nat)},idB m i l=true->∀k,k<m->rho l k=some (i+k):=by
 intro m;induction m with
 |zero=>intro i l _ k hk;omega
 |succ m ih=>
  intro i l h k hk;cases l with
  |nil=>simp[idB] at h
  |cons x l=>
   cases x with
   |none=>simp[idB] at h
   |some x=>
    simp only[idB,Bool.and_eq_true] at h;cases k with
    |zero=>simp only[rho];rw[←Nat.eq_of_beq_eq_true h.1];rfl
    |succ k=>
     simp only[rho];rw[ih h.2 k (by omega)]
     congr 1
     omega

theorem pushEmpty{c:Ctx}{E:Env}{H:Heap}{w:World}(h:Inv c E H w)(ty:TypeId)(sz:Nat):Inv c (E.push H.length 0 0 sz) (H++[some (.arr true ty sz 0 fun _=>[])]) w/\Step E w (E.push H.length 0 0 sz) w:=
 h.push (ob:=.arr true ty sz 0 fun _=>[]) rfl rfl rfl (Nat.le_refl _) (fun _ _=>rfl) 0 0 #[] 0 (fun h=>absurd rfl h) (fun h=>absurd rfl h) (by simp) (Nat.le_refl 0) (fun i hi=>absurd hi (Nat.not_lt_zero _)) (fun i t hi=>absurd hi (Nat.not_lt_zero _)) (fun _ i t hi=>absurd hi (Nat.not_lt_zero _)) (fun i j t hi=>absurd hi (Nat.not_lt_zero _))

theorem nilB_ok{o:Option T}(h:nilB o=true):∃t,o=some t/\∀{E:Env} {w:World} {u:Value},Rd E w t u->∃a,u= .slice a 0 0:=by
 unfold nilB at h;split at h
 ·exact⟨_,rfl,fun hx=>⟨none,rd_v hx⟩⟩
 ·exact⟨_,rfl,fun hx=>by cases hx with|emp a=>exact⟨a,rfl⟩⟩
 ·cases h

theorem setNil_ok{E:Env}{w:World}{k sz:Nat}(hst:Step E w (E.push k 0 0 sz) w):∀(p:List Nat) {t t':T} {x:Value},setNil k p t=some t'->Rd E w t x->Rd (E.push k 0 0 sz) w t' x:=by
 intro p;induction p with
 |nil=>
  intro t t' x h hx;have key:(∃a,x= .slice a 0 0)/\t'= .osl k 0 0:=by
   unfold setNil at h;split at h
   ·simp only[Option.some.injEq] at h;exact⟨⟨none,rd_v hx⟩,h.symm⟩
   ·simp only[Option.some.injEq] at h;exact⟨by cases hx with|emp a=>exact⟨a,rfl⟩,h.symm⟩
   ·contradiction
   ·contradiction
   ·cases h
  obtain⟨⟨a,rfl⟩,rfl⟩:=key;exact rd_emp a
 |cons j p ih=>
  intro t t' x h hx;have list:∀{cs:List T} {vs:Array Value} {t0 t1:T},cs[j]? =some t0->setNil k p t0=some t1->cs.length=vs.size->(∀(i:Nat) (t:T) (x:Value),cs[i]? =some t->vs[i]? =some x->Rd E w t x)->
    (cs.set j t1).length=vs.size/\∀(i:Nat) (t:T) (x:Value),(cs.set j t1)[i]? =some t->vs[i]? =some x->Rd (E.push k 0 0 sz) w t x:=by
   intro cs vs t0 t1 h0 h1 hl ht;refine⟨by simp[hl],fun i t x hi hx=> ?_⟩
   rw[List.getElem?_set] at hi
   split at hi
   ·rename_i hji;subst hji;split at hi
    ·simp only[Option.some.injEq] at hi;subst hi;exact ih h1 (ht j t0 x h0 hx)
    ·cases hi
   ·exact hst.rd (ht i t x hi hx)
  cases t with
  |agg cs=>
   simp only[setNil] at h;split at h
   ·rename_i t0 h0;simp only[Option.map_eq_some_iff] at h;obtain⟨t1,h1,rfl⟩:=h;cases hx with
    |agg _ vs hl ht=>obtain⟨a1,a2⟩:=list h0 h1 hl ht;exact .agg _ vs a1 a2
   ·cases h
  |tup cs=>
   simp only[setNil] at h;split at h
   ·rename_i t0 h0;simp only[Option.map_eq_some_iff] at h;obtain⟨t1,h1,rfl⟩:=h;cases hx with
    |tup _ vs hl ht=>obtain⟨a1,a2⟩:=list h0 h1 hl ht;exact .tup _ vs a1 a2
   ·cases h
  |_=>simp[setNil] at h

theorem frzI{c:Ctx}{E:Env}{H:Heap}{w:World}(h:Inv c E H w){ks:List Nat}{t r:T}{x:Value}(hb:borrow 0 (keepObs ks H 0) 6 t=some (r,none))(hx:Rd E w t x):
  ∃E2,Inv c E2 (dropObs H ks) w/\Step E w E2 w/\Rd E2 w r x:=by
 have hK:Inv c E (keepObs ks H 0) w:=by
  refine⟨⟨fun k ob hk=>h.heap.live k ob (keepObs_get hk).1,fun k k' o o' b hk hk'=>h.heap.inj k k' o o' b (keepObs_get hk).1 (keepObs_get hk').1,fun k hk=>by rw[keepObs_length];exact h.heap.lt k hk,h.heap.l2,fun k ob v hk=>h.heap.cur k ob v (keepObs_get hk).1⟩,h.nlt,h.nnew,fun k ob b hk=>h.bnew k ob b (keepObs_get hk).1,h.fr,h.keep⟩
 have hr:=borrow_ok hK 6 hb trivial hx;let E2:Env:={E with N:=(E.lent 0 (keepObs ks H 0)).N}
 have hstep:Step E w E2 w:=⟨⟨fun b hb=>.inl hb,fun _ h=>h,fun _ _=>rfl,fun _ _=>rfl,fun _ _=>rfl,fun _ _ h=>h,fun _ _ _ _ _=>rfl,fun _ _ _ _ _=>rfl⟩,fun b _=>rfl,fun _ h=>.inl h⟩
 refine⟨E2,⟨⟨fun k ob hk=> ?_,fun k k' o o' b hk hk'=>h.heap.inj k k' o o' b (dropObs_get hk).1 (dropObs_get hk').1,fun k hk=>by rw[dropObs_length];exact h.heap.lt k hk,h.heap.l2,fun k ob v hk=>h.heap.cur k ob v (dropObs_get hk).1⟩,fun b hb'=> ?_,fun b hb'=> ?_,fun k ob b hk=>h.bnew k ob b (dropObs_get hk).1,h.fr,h.keep.step hstep⟩,hstep,?_⟩
 ·obtain⟨g1,g2⟩:=dropObs_get hk;obtain⟨e1,e2,e3⟩:=h.heap.live k ob g1;refine⟨e1,e2.mono e1 hstep (fun b hb'=>rfl),fun b hb' hn=> ?_⟩
  have hb':Blk E k ob b:=hb';rcases hn with hn|⟨k2,ob2,_,hk2,hb2⟩
  ·exact e3 b hb' hn
  ·obtain⟨g3,g4⟩:=keepObs_get hk2;have:=h.heap.inj k k2 ob ob2 b g1 g3 hb' hb2;rw[Nat.zero_add] at g4;exact g2 (this▸g4)
 ·rcases hb' with hb'|⟨k2,ob2,_,hk2,hb2⟩
  ·exact h.nlt b hb'
  ·exact hK.heap.blt hk2 hb2
 ·rcases hb' with hn|⟨k2,ob2,_,hk2,hb2⟩
  ·exact h.nnew b hn
  ·exact .inr (h.bnew k2 ob2 b (keepObs_get hk2).1 hb2)
 ·exact Rd.mono (w:=w) (w':=w) (E:=E.lent 0 (keepObs ks H 0)) (E':=E2) ⟨fun _ h=>h,fun _ h=>absurd h.2 (Nat.not_lt_zero _),fun _ h=>absurd h.2 (Nat.not_lt_zero _),fun _ h=>absurd h.2 (Nat.not_lt_zero _),fun _ h=>absurd h.2 (Nat.not_lt_zero _),fun _ _ h=>absurd h.2 (Nat.not_lt_zero _),fun _ _ _ _ h=>absurd h.2 (Nat.not_lt_zero _),fun _ _ _ _ h=>absurd h.2 (Nat.not_lt_zero _)⟩ (fun _ _=>rfl) hr

theorem runG0_ok{σ σ':Sy}{x:Lk}(h:runG0 σ x=some σ'):Sub m σ σ':=by
 intro c a w _ hr;obtain⟨E,hr⟩:=hr;unfold runG0 at h;split at h
 ·rename_i k j ty sz;split at h
  case h_2=>cases h
  rename_i cl bty bsz n row hk;split at h
  case h_2=>cases h
  rename_i hnj hsz;obtain⟨tj,hj,htj⟩:=nilB_ok hnj;simp only[Option.some.injEq] at h;subst h;obtain⟨hI,hst⟩:=pushEmpty hr.inv ty sz;have hk1:getOb (σ.H++[some (Ob.arr true ty sz 0 fun _=>[])]) k=some (.arr cl bty bsz 1 row):=by rw[getOb_append,if_pos (getOb_lt hk)];exact hk
  obtain⟨hL,hO,hN⟩:=hI.heap.live k _ hk1;have hO:ArrOk _ w k ⟨cl,bty,bsz,1,row⟩:=hO;obtain⟨e1,e2,e3,e4,e5,cs,tyc,e6,e7,e8⟩:=hO;have hW:=hI.writeO (w':=w) hk1 rfl rfl rfl (Nat.le_refl _) (fun _ _ _=>rfl) (.arr false bty bsz 1 fun _=>(row 0).set j (.osl σ.H.length 0 0)) (fun b hb=>.inl (hb.arr rfl)) (fun v hv=>absurd hv (hI.noL2 hk1 rfl v)) (fun hs=>by
   refine⟨e1,e2,fun i hi=> ?_,fun i t hi ht=> ?_,fun hc=>(by cases hc),cs,tyc,e6,e7,fun i q t hi hq=> ?_⟩
   ·exact(List.length_set ..).trans (e3 0 (Nat.lt_succ_self 0))
   ·rcases List.mem_or_eq_of_mem_set ht with h1|rfl
    ·exact e4 0 t (by simp) h1
    ·rfl
   ·obtain rfl:i=0:=by have:i<1:=hi;omega
    have hq2:((row 0).set j (T.osl σ.H.length 0 0))[q]? =some t:=hq;rw[List.getElem?_set] at hq2
    split at hq2
    ·rename_i hjq;subst hjq;split at hq2
     ·simp only[Option.some.injEq] at hq2;subst hq2;obtain⟨u,hu,hru⟩:=e8 0 j _ (by simp) hj
      refine⟨u,hu,?_⟩
      obtain⟨a,rfl⟩:=htj hru;exact rd_emp a
     ·cases hq2
    ·exact e8 0 q t (by simp) hq2)
  exact⟨_,hr.defers,hr.size,⟨fun i hi=>hst.rd (hr.slots.on i hi),hr.slots.off⟩,hW.1⟩
 ·rename_i i p ty sz;split at h
  case h_2=>cases h
  rename_i t hs hsz;simp only[Option.some.injEq] at h;subst h;obtain⟨hI,hst⟩:=pushEmpty hr.inv ty sz;refine⟨_,hr.defers,hr.size,⟨fun q hq=> ?_,fun q hq=>absurd (fun q hq=>by cases hq) hq⟩,hI⟩
  simp only[slk];split
  ·rename_i he;obtain rfl:=Nat.eq_of_beq_eq_true he;have:=hr.slots.on q (fun q hq=>by cases hq)
   exact setNil_ok hst _ hs this
  ·exact hst.rd (hr.slots.on q (fun q hq=>by cases hq))
 ·rename_i k;split at h
  case h_2=>cases h
  rename_i ty sz n row hk;simp only[Option.some.injEq] at h;subst h;have hI:=hr.inv;have hn2:¬E.L2 k 0:=hI.noL2 hk rfl 0;let E':=E.bump k 0 (fun _ _=>0) (fun _ _=>0)
  have hst:Step E w E' w:=⟨Env.bump_le hn2,fun _ _=>rfl,fun _ h=>.inl h⟩
  obtain⟨hL,hO,hN⟩:=hI.heap.live k _ hk;have hO:ArrOk E w k ⟨true,ty,sz,n,row⟩:=hO;obtain⟨e1,e2,e3,e4,e5,cs,tyc,e6,e7,e8⟩:=hO;simp only at e1 e2 e3 e4 e5 e7 e8;have hco:∀i t,i<n->t ∈ row i->closedOne t=true:=fun i t hi ht=>by simp[closedOne,e4 i t hi ht,e5 trivial i t hi ht]
  have nown:∀(i j:Nat) (oty:TypeId) (osz on:Nat) (orow:Nat->List T),i<n->(row i)[j]? =some (.own oty osz on orow)->False:=fun i j oty osz on orow hi hj=>by
   have:=hco i _ hi (List.mem_of_getElem? hj);simp[closedOne,closedT] at this
  have hF:FamOk E' w k 0 ty sz n row:=fam_build (.inr ⟨rfl,rfl⟩) e1 e2 cs tyc e6 e7 e3 (fun r q t hr hq=>by
   obtain⟨u,hu,hru⟩:=e8 r q t hr hq;exact⟨u,hu,.inl ⟨hco r t hr (List.mem_of_getElem? hq),hst.rd hru⟩⟩) (fun i j i' j' oty osz on orow oty' osz' on' orow' hi hi' hj=>(nown i j _ _ _ _ hi hj).elim)
  have hklt:=getOb_lt hk;refine⟨E',hr.defers,hr.size,⟨fun i hi=>hst.rd (hr.slots.on i hi),hr.slots.off⟩,hI.to rfl rfl rfl (Nat.le_refl _) hst k (fun i=>i=k) (fun _ h=>h) (fun i o hi hne=> ?_) (fun o ho=> ?_) (fun _ _ _=>rfl) (fun i hi=>by rw[List.length_set];exact hI.heap.lt i hi) (fun i u hu=> ?_) (fun o i u hi hu=> ?_)⟩
  ·rw[getOb_set hklt,if_neg hne] at hi;exact⟨hi,hne⟩
  ·rw[getOb_set hklt,if_pos rfl] at ho;simp only[Option.some.injEq] at ho;subst ho;refine⟨hL,hF,fun b hb=>.inr ⟨k,_,rfl,hk,?_⟩⟩
   rcases hb with hb|⟨v0,ty0,sz0,n0,row0,i0,j0,oty1,osz1,on1,orow1,hobe,hi0,hj0,hc0,rfl⟩
   ·exact .inl hb
   ·simp only[Ob.fam.injEq] at hobe;obtain⟨rfl,rfl,rfl,rfl,rfl⟩:=hobe;exact(nown _ _ _ _ _ _ hi0 hj0).elim
  ·rcases hu with hu|⟨rfl,_⟩
   ·exact hI.heap.l2 _ _ hu
   ·exact hL
  ·rw[getOb_set hklt] at hi;split at hi
   ·rename_i he;subst he;simp only[Option.some.injEq] at hi;subst hi;refine⟨_,_,_,_,_,rfl,?_⟩
    rcases hu with hu|⟨_,rfl⟩
    ·exact absurd hu (hI.noL2 hk rfl u)
    ·exact Nat.le_refl _
   ·rename_i hne;rcases hu with hu|⟨e,_⟩
    ·exact hI.heap.cur _ _ _ hi hu
    ·exact absurd e hne
 ·rename_i i;split at h
  case h_2=>cases h
  rename_i t hb;simp only[Option.some.injEq] at h;subst h;obtain⟨E2,hI,hst,hrd⟩:=frzI hr.inv hb (hr.slots.on i (fun q hq=>by cases hq))
  refine⟨E2,hr.defers,hr.size,⟨fun q hq=> ?_,fun q hq=>absurd (fun q hq=>by cases hq) hq⟩,hI⟩
  simp only[slk];split
  ·rename_i he;obtain rfl:=Nat.eq_of_beq_eq_true he;exact hrd
  ·exact hst.rd (hr.slots.on q (fun q hq=>by cases hq))
 ·simp only[Option.some.injEq] at h;subst h;exact⟨E,hr⟩

theorem runG_ok:∀{l:List Lk} {σ σ':Sy},runG σ l=some σ'->Sub m σ σ':=by
 intro l;induction l with
 |nil=>intro σ σ' h;simp only[runG,Option.some.injEq] at h;subst h;exact Sub.refl m σ
 |cons x l ih=>
  intro σ σ' h;simp only[runG] at h;split at h
  ·rename_i σ1 h1;exact fun c a w hm hr=>ih h c a w hm (runG0_ok (m:=m) (x:=fixL _ _) h1 c a w hm hr)
  ·cases h

theorem subV_ok{l:List Lk}{σ σ':Sy}(h:subV m l σ σ'):Sub m σ σ':=by
 unfold subV at h;split at h
 ·rename_i σ1 hg;split at h
  ·rename_i hi;simp only[Bool.and_eq_true] at hi;obtain⟨h1,h2⟩:=heapV_ok h.2;intro c a w hm hr;exact real_ren (ρ:=rho (olds (celL σ1.s σ1.H (lnks l)))) (fun k m hk=>by rw[←h1];exact rho_lt hk) (rho_injL hi.1) (slotsV_ok h.1) h2 (fun k hk=>by rw[idB_ok hi.2 k (by omega)];simp) (runG_ok (m:=m) hg c a w hm hr)
  ·exact h.elim
 ·exact h.elim

theorem lent0_ok{c:Ctx}{E:Env}{H:Heap}{w:World}(hc0:c.m=0)(h:Inv c E H w):Inv c (E.lent 0 H) [] w:=by
 have hn:∀k ob,¬getOb ([]:Heap) k=some ob:=fun k ob hk=>by simp[getOb] at hk
 refine⟨⟨fun k ob hk=>absurd hk (hn k ob),fun k k' o o' b hk _ _ _=>absurd hk (hn k o),fun k hk=>absurd hk.2 (Nat.not_lt_zero k),fun k v hv=>absurd hv.2 (Nat.not_lt_zero k),fun k ob v hk=>absurd hk (hn k ob)⟩,fun x hx=> ?_,fun x hx=> ?_,fun k ob b hk=>absurd hk (hn k ob),h.fr,⟨fun b hb=>.inl (h.keep.N b hb),fun k hk=>by omega,h.keep.same,fun k v hk=>by omega⟩⟩
 ·rcases hx with hx|⟨k,ob,_,hob,hx⟩
  ·exact h.nlt x hx
  ·exact h.heap.blt hob hx
 ·rcases hx with hx|⟨k,ob,hkb,hob,hx⟩
  ·exact h.nnew x hx
  ·exact .inr (h.bnew k ob x hob hx)
theorem frz_mem{H:Heap}{s:Slots}:∀{ks:List Nat} {s':Slots} {p:Option Prop},frz H s ks=some (s',p)->p.getD True->∀i,slk s' i= .und∨∃q,borrow 0 H 6 (slk s i)=some (slk s' i,q)/\q.getD True:=by
 intro ks;induction ks with
 |nil=>
  intro s' p h _ i;simp only[frz,Option.some.injEq,Prod.mk.injEq] at h;obtain⟨rfl,_⟩:=h;exact .inl rfl
 |cons j r ih=>
  intro s' p h hp i;simp only[frz] at h;split at h
  ·rename_i t q1 q p' h1 h2;simp only[Option.some.injEq,Prod.mk.injEq] at h;obtain⟨rfl,rfl⟩:=h;obtain⟨hp1,hp2⟩:=andOO_ok hp;simp only[slk];split
   ·rename_i he;obtain rfl:=Nat.eq_of_beq_eq_true he;exact .inr ⟨_,h1,hp1⟩
   ·exact ih h2 hp2 i
  ·cases h
theorem frz_ok{σ:Sy}{ks:List Nat}{s':Slots}{p:Option Prop}(h:frz σ.H σ.s ks=some (s',p))(hp:p.getD True):Sub 0 σ ⟨s',[]⟩:=by
 intro c a w hc hr;obtain⟨E,hr⟩:=hr;refine⟨E.lent 0 σ.H,hr.defers,hr.size,⟨fun i _=> ?_,fun i hx=>absurd (fun q hq=>by cases hq) hx⟩,lent0_ok hc hr.inv⟩
 rcases frz_mem h hp i with hi|⟨q,hi,hq⟩
 ·show Rd _ w (slk s' i) _;rw[hi];exact .und _
 ·exact borrow_ok hr.inv 6 hi hq (hr.slots.on i (fun q hq=>by cases hq))
theorem subO_ok{l:Option (List Lk)}{σ σ':Sy}(h:subO m l σ σ'):Sub m σ σ':=by
 unfold subO at h;split at h
 ·exact subV_ok h
 ·exact h.elim

theorem relP_mono{s:Slots}{op:Op}{k k':Gam->Prop}(hk:∀G',k G'->k' G')(h:relP G s op k):relP G s op k':=by
 unfold relP at h ⊢;split at h
 ·exact hk _ h
 ·split at h
  ·obtain⟨x,hx⟩:=h;exact⟨x,hk _ hx⟩
  ·split at h
   ·rcases h with⟨x,hx⟩|⟨x,hx⟩
    ·exact .inl ⟨x,hk _ hx⟩
    ·exact .inr ⟨x,hk _ hx⟩
   ·obtain⟨x,hx⟩:=h;exact⟨x,hk _ hx⟩
  ·obtain⟨x,hx⟩:=h;exact⟨x,hk _ hx⟩
  ·obtain⟨x,hx⟩:=h;exact⟨x,hk _ hx⟩
  ·exact hk _ h

theorem pathProp_mono{s:Slots}:∀{p:Path} {q q':Prop},(q->q')->pathProp s p q->pathProp s p q':=by
 intro p;induction p with
 |nil=>intro q q' hq h;exact hq h
 |cons x p ih=>
  intro q q' hq h;obtain⟨t,b⟩:=x;simp only[pathProp] at h ⊢;split at h
  ·exact ih (fun h he=>hq (h he)) h
  ·exact h.elim

theorem vcOps_mono{all:Array Oper}{K K':Slots->Heap->Prop}(hK:∀s H,K s H->K' s H):∀(rest:List Oper) (s:Slots) (ps:Paths) (H:Heap),vcOps P G nt all rest s ps H K->vcOps P G nt all rest s ps H K':=by
 intro rest;induction rest with
 |nil=>intro s ps H h;exact hK _ _ h
 |cons o rest ih=>
  intro s ps H h;have andp:∀{p:Path} {side:Option Prop} {q q':Prop},(q->q')->andP s p side q->andP s p side q':=by
   intro p side q q' hq h;cases side with
   |none=>exact hq h
   |some r=>exact⟨h.1,hq h.2⟩
  unfold vcOps at h ⊢;split at h
  ·split at h
   ·exact h.elim
   ·split at h
    ·exact fun b hb=>ih _ _ _ (h b hb)
    ·refine relP_mono (fun G' h=> ?_) h
     split at h
     ·exact andp (ih _ _ _) h
     ·exact h.elim
  ·split at h
   ·split at h
    ·split at h
     ·exact h.elim
     ·split at h
      ·refine relP_mono (fun G' h=> ?_) h
       split at h
       ·exact andp (ih _ _ _) h
       ·exact h.elim
      ·split at h
       ·exact h.elim
       ·refine relP_mono (fun G' h=> ?_) h
        split at h
        ·exact andp (fun h=>⟨pathProp_mono (ih _ _ _) h.1,fun hn=>ih _ _ _ (h.2 hn)⟩) h
        ·exact h.elim
    ·exact h.elim
   ·exact h.elim

theorem vcAny_mono{all:Array Oper}{b:Nat}{H0:Heap}{K K':Slots->Heap->Prop}(hK:∀s H,K s H->K' s H):∀(rest:List Oper) (i:Nat) (earlier:List (Nat×Oper×RW)) (tab:List Nat) (s:Slots) (ps:Paths) (hist:List (Nat×Heap)),
  vcAny P G nt all b H0 rest i earlier tab s ps hist K->vcAny P G nt all b H0 rest i earlier tab s ps hist K':=by
 intro rest;induction rest with
 |nil=>intro i earlier tab s ps hist h;exact hK _ _ h
 |cons o rest ih=>
  intro i earlier tab s ps hist h;have andp:∀{p:Path} {side:Option Prop} {q q':Prop},(q->q')->andP s p side q->andP s p side q':=by
   intro p side q q' hq h;cases side with
   |none=>exact hq h
   |some r=>exact⟨h.1,hq h.2⟩
  unfold vcAny at h ⊢;split at h
  ·exact h.elim
  ·split at h
   ·split at h
    ·exact h.elim
    ·split at h
     ·split at h
      ·exact andp (ih _ _ _ _ _ _) h
      ·exact h.elim
     ·split at h
      ·refine relP_mono (fun G' h=> ?_) h
       split at h
       ·exact andp (ih _ _ _ _ _ _) h
       ·exact h.elim
      ·refine relP_mono (fun G' h=> ?_) h
       split at h
       ·exact andp (ih _ _ _ _ _ _) h
       ·exact h.elim
   ·split at h
    ·split at h
     ·split at h
      ·exact h.elim
      ·refine relP_mono (fun G' h=> ?_) h
       split at h
       ·exact andp (ih _ _ _ _ _ _) h
       ·exact h.elim
     ·exact h.elim
    ·exact h.elim

theorem vcTail_mono{all:Array Oper}{K K':Slots->Heap->Prop}{s:Slots}{H:Heap}(hK:∀s H,K s H->K' s H):∀{rest:List Oper},vcTail P G nt all s H K rest->vcTail P G nt all s H K' rest:=by
 intro rest h;cases rest with
 |nil=>exact h
 |cons o rest=>
  unfold vcTail at h ⊢;dsimp only at h ⊢;split at h
  ·exact h.elim
  ·rename_i hp;intro b;have hb:=h b;split at hb
   ·rename_i t H' side he;cases side with
    |none=>exact vcOps_mono hK _ _ _ _ hb
    |some r=>exact⟨hb.1,vcOps_mono hK _ _ _ _ hb.2⟩
   ·exact hb.elim

theorem vcDraw_mono{ops:Array Oper}{K K':Slots->Heap->Prop}{s:Slots}{H:Heap}(hK:∀s H,K s H->K' s H)(h:vcDraw P G nt ops s H K):vcDraw P G nt ops s H K':=by
 have one:∀{o:Array Oper} {G:Gam} {K K':Slots->Heap->Prop},(∀s H,K s H->K' s H)->vcDr P G nt o s H K->vcDr P G nt o s H K':=fun{o G K K'} hK h=>vcAny_mono hK _ _ _ _ _ _ _ h
 unfold vcDraw at h ⊢;split at h
 ·exact one hK h
 ·split at h
  ·exact one hK h
  ·split at h
   ·exact one hK h
   ·exact one (fun s H h=>vcTail_mono hK h) h

theorem vcI_ok:∀(code:Code) (k:Nat) (Q:Exit->Sy->(Nat->Ann)->Prop) (Q':Exit->Sy->Prop) (σ:Sy) (A:Nat->Ann),(∀e σ A,Q e σ A->Q' e σ)->vcI P G nt m code k Q σ A->vc P G nt (Sub m) code Q' σ:=by
 intro code;induction code with
 |skip=>intro k Q Q' σ A hQ h;exact hQ _ _ _ h
 |region id ops draw=>
  intro k Q Q' σ A hQ h;simp only[vcI,vc] at h ⊢;split at h
  ·exact vcOps_mono (fun s H hk=>hQ _ _ _ hk) _ _ _ _ h
  ·exact vcDraw_mono (fun s H hk=>hQ _ _ _ hk) h
 |seq x y ihx ihy=>
  intro k Q Q' σ A hQ h;simp only[vcI,vc] at h ⊢;refine ihx _ _ _ _ _ (fun e σ' A' h'=> ?_) h
  cases e with
  |normal=>exact ihy _ _ _ _ _ hQ h'
  |_=>exact hQ _ _ _ h'
 |cond cd x y ihx ihy=>
  intro k Q Q' σ A hQ h;simp only[vcI,vc] at h ⊢;split at h
  ·rename_i b hb0;rw[hb0];exact⟨fun hb=>ihx _ _ _ _ _ hQ (h.1 hb),fun hb=>ihy _ _ _ _ _ hQ (h.2 hb)⟩
  ·exact h.elim
 |block id body ih=>
  intro k Q Q' σ A hQ h;simp only[vcI,vc] at h ⊢;refine ih _ _ _ _ _ (fun e σ' A' h'=> ?_) h
  cases e with
  |exit i=>
   simp only at h' ⊢;split at h'
   ·rename_i hb0;rw[hb0];exact hQ _ _ _ h'
   ·rename_i hb0;rw[hb0];exact hQ _ _ _ h'
  |_=>exact hQ _ _ _ h'
 |loop body ih=>
  intro k Q Q' σ A hQ h;simp only[vcI,vc] at h ⊢;split at h
  ·exact h.elim
  ·rename_i n sub hA;refine⟨{p:Nat×Sy//rounds (fun r next σ'=>vcI P G nt m body (k+1) (fun e σ'' A'=>match e with| .normal=>next σ''|e=>Q e σ'' A') σ' (sub r)) p.1 p.2},fun p=>p.1.2,fun p=>p.1.1,⟨⟨(n,σ),h⟩,fun c a w _ hr=>hr⟩,fun x=> ?_⟩
   obtain⟨⟨j,τ⟩,hx⟩:=x;cases j with
   |zero=>exact hx.elim
   |succ j=>
    refine ih _ _ _ _ _ (fun e σ' A' h'=> ?_) hx
    cases e with
    |normal=>exact⟨⟨(j,σ'),h'⟩,fun c a w _ hr=>hr,Nat.lt_succ_self j⟩
    |_=>exact hQ _ _ _ h'
  ·rename_i ι I μ lin lback sub hA;obtain⟨⟨x0,h0⟩,hround⟩:=h;refine⟨ι,I,μ,⟨x0,subV_ok h0⟩,fun x=>ih _ _ _ _ _ (fun e σ' A' h'=> ?_) (hround x)⟩
   cases e with
   |normal=>obtain⟨y,hy,hlt⟩:=h';exact⟨y,subV_ok hy,hlt⟩
   |_=>exact hQ _ _ _ h'
  ·rename_i ks ι I μ lback sub hA;obtain⟨h0,hround⟩:=h;split at h0
   ·rename_i s' p hz;have h0':p.getD True/\∃x,subV 0 [] ⟨s',[]⟩ (I x):=by
     cases p with
     |none=>exact⟨trivial,h0⟩
     |some p=>exact h0
    obtain⟨hp,x0,hx0⟩:=h0';refine⟨ι,I,μ,⟨x0,fun c a w hc hr=>subV_ok hx0 c a w hc (frz_ok hz hp c a w hc hr)⟩,fun x=>ih _ _ _ _ _ (fun e σ' A' h'=> ?_) (hround x)⟩
    cases e with
    |normal=>obtain⟨y,hy,hlt⟩:=h';exact⟨y,subV_ok hy,hlt⟩
    |_=>exact hQ _ _ _ h'
   ·exact h0.elim
  ·rename_i ι₁ ι₂ I₁ I₂ μ₁ μ₂ l1 l2 l11 l12 l21 l22 sub₁ sub₂ hA;obtain⟨h0,h1,h2⟩:=h;refine⟨ι₁ ⊕ ι₂,fun x=>match x with| .inl x=>I₁ x| .inr x=>I₂ x,fun x=>match x with| .inl x=>μ₁ x| .inr x=>μ₂ x,?_,fun x=> ?_⟩
   ·rcases h0 with⟨x,hx⟩|⟨x,hx⟩
    ·exact⟨.inl x,subO_ok hx⟩
    ·exact⟨.inr x,subO_ok hx⟩
   ·cases x with
    |inl x=>
     refine ih _ _ _ _ _ (fun e σ' A' h'=> ?_) (h1 x)
     cases e with
     |normal=>
      rcases h' with⟨y,hy,hlt⟩|⟨y,hy,hlt⟩
      ·exact⟨.inl y,subO_ok hy,hlt⟩
      ·exact⟨.inr y,subO_ok hy,hlt⟩
     |_=>exact hQ _ _ _ h'
    |inr x=>
     refine ih _ _ _ _ _ (fun e σ' A' h'=> ?_) (h2 x)
     cases e with
     |normal=>
      rcases h' with⟨y,hy,hlt⟩|⟨y,hy,hlt⟩
      ·exact⟨.inl y,subO_ok hy,hlt⟩
      ·exact⟨.inr y,subO_ok hy,hlt⟩
     |_=>exact hQ _ _ _ h'
 |exit id=>intro k Q Q' σ A hQ h;exact hQ _ _ _ h
 |ret=>intro k Q Q' σ A hQ h;exact hQ _ _ _ h
 |_=>intro k Q Q' σ A hQ h;simp[vcI] at h

def postV(res r:T):Prop:=tleV (fun _=>none) 6 r res

def vcFn(P:Program)(G:Gam)(nt:Nat)(rs:List ResultVar)(code:Code)(args:List T)(res:T)(A:Nat->Ann):Prop:=
 vcI P G nt 0 code 0 (fun e σ _=>retQ P rs (postV res) e σ) ⟨initS 0 args,[]⟩ A

theorem fn_vc(hm:P.follows .mixedOrders=true)(hG:GamOk P G)(hGc:∀x ∈ G,Callable P x.1){f:FuncId}{fn:Func}{code:Code}{args:List T}{res:T}(hf:P.funcs[f]? =some fn)(hb:fn.body=some code)(hnt:args.length<=fn.ntmps)
  (A:Nat->Ann) (h:vcFn P G fn.ntmps fn.results.toList code args res A):PureFn P f args res:=by
 refine fn_pure hm hG hGc hf hb hnt (vcI_ok _ _ _ _ _ _ (fun e σ A' hq=> ?_) h)
 have mono:∀{p:Option Prop} {q q':Prop},(q->q')->andO p q->andO p q':=by
  intro p q q' hq h;cases p with
  |none=>exact hq h
  |some p=>exact⟨h.1,hq h.2⟩
 unfold retQ at hq ⊢;split at hq
 ·split at hq
  ·split at hq
   ·exact mono (mono fun h=>TLe.rle (tleV_ok h)) hq
   ·exact hq.elim
  ·exact hq.elim
 ·split at hq
  ·split at hq
   ·exact mono (mono fun h=>TLe.rle (tleV_ok h)) hq
   ·exact hq.elim
  ·exact hq.elim
 ·exact hq.elim

end
end Go.SS
/- A calculus of symbolic states: a function that writes to what it is given, from its code. -/
namespace Go.SS
open Go.RowKit

section
variable {c:Ctx} {E:Env} {H:Heap} {w:World} {P:Program} {G:Gam}

theorem start_eff{vs:Array Value}{args:List T}{nt:Nat}(hH:HeapOk E w H)(hN:∀b,E.N b->b<w.heap.size)(ha:RdL E w args vs)(hnt:args.length<=nt):
  RealE ⟨w,XB E H,E.N,nt,E,H.length⟩ E (initS 0 args) [] H {tmps:=vs++Array.replicate (nt-vs.size) undef,defers:=[]} w:=by
 have hlen:args.length=vs.size:=ha.1;refine⟨rfl,by simp;omega,⟨fun i _=> ?_,fun i hi=>absurd (fun q hq=>by cases hq) hi⟩,⟨hH,hN,fun b hb=>.inl hb,fun k ob b hk hb=>.inr ⟨k,ob,hk,hb⟩,⟨rfl,rfl,rfl,Nat.le_refl _,fun _ _ _=>rfl,Nat.le_refl _⟩,⟨fun _ h=>h,fun _ _ h=>⟨h,rfl,rfl,rfl⟩,fun _ _=>rfl,fun _ _ _ h=>⟨h,fun _ _=>⟨rfl,rfl⟩⟩⟩⟩⟩
 rw[slk_initS,if_pos (Nat.zero_le _),Nat.sub_zero];simp only[List.getD_eq_getElem?_getD,Array.getD_eq_getD_getElem?,Array.getElem?_append]
 by_cases hi:i<vs.size
 ·rw[if_pos hi,List.getElem?_eq_getElem (by omega),Array.getElem?_eq_getElem hi]
  exact ha.2 i _ _ (List.getElem?_eq_getElem (by omega)) (Array.getElem?_eq_getElem hi)
 ·rw[List.getElem?_eq_none (by omega)]
  exact .und _

end
end Go.SS
namespace Go.SS
inductive ObEq:Option Ob->Option Ob->Prop
 |same (o:Option Ob):ObEq o o
 |rows (cl:Bool) (ty ty':TypeId) (sz n:Nat) (row row':Nat->List T) (h:∀i,i<n->row i=row' i):ObEq (some (.arr cl ty sz n row)) (some (.arr cl ty' sz n row'))

def thereL:Heap->List Lk->Heap->Bool
 |H,lk::l,some _::r=>(match lk.old with|some m=>(getOb H m).isSome|none=>false)&&thereL H l r
 |H,_::l,none::r=>thereL H l r
 |_,_,_=>true

def linkB(σ:Sy)(l:List Lk)(σ':Sy):Bool:=
 match runG σ l with
 |some σ1=>thereL σ1.H (celL σ1.s σ1.H (lnks l)) σ'.H
 |none=>false

def anyV(m:Nat)(σ σ':Sy):List (List Lk)->Prop
 | []=>False
 | [l]=>subV m l σ σ'
 |l::r=>match linkB σ l σ' with
  |true=>subV m l σ σ'
  |false=>anyV m σ σ' r

theorem anyV_ok{m:Nat}{σ σ':Sy}:∀{ls:List (List Lk)},anyV m σ σ' ls->Sub m σ σ':=by
 intro ls;induction ls with
 |nil=>intro h;exact h.elim
 |cons l ls ih=>
  intro h;cases ls with
  |nil=>exact subV_ok h
  |cons l' ls=>
   simp only[anyV] at h;split at h
   ·exact subV_ok h
   ·exact ih h

def retG(P:Program)(rs:List ResultVar)(m:Nat)(lk:List (List Lk))(res:T)(Hres:Heap):Exit->Sy->Prop
 | .normal,σ| .ret,σ=>match resT P σ.s σ.H rs with
  |some (r,p)=>andO p (anyV m ⟨[(0,r)],σ.H⟩ ⟨[(0,res)],Hres⟩ lk)
  |none=>False
 |_,_=>False

def vcFnG(P:Program)(G:Gam)(nt:Nat)(rs:List ResultVar)(code:Code)(args:List T)(H:Heap)(res:T)(Hres:Heap)(A:Nat->Ann)(lk:List (List Lk)):Prop:=
 vcI P G nt H.length code 0 (fun e σ _=>retG P rs H.length lk res Hres e σ) ⟨initS 0 args,H⟩ A

theorem fn_vcG{P:Program}{G:Gam}(hm:P.follows .mixedOrders=true)(hG:GamOk P G)(hGc:∀x ∈ G,Callable P x.1){f:FuncId}{fn:Func}{code:Code}{args:List T}{H Hres:Heap}{res:T}(hf:P.funcs[f]? =some fn)(hb:fn.body=some code)(hnt:args.length<=fn.ntmps)
  (A:Nat->Ann) (lk:List (List Lk)) (h:vcFnG P G fn.ntmps fn.results.toList code args H res Hres A lk):EffFn P f args H res Hres:=by
 intro E w vs hH hN ha;have hsz:vs.size=args.length:=ha.1.symm;have hvc:=vcI_ok (P:=P) (G:=G) (nt:=fn.ntmps) (m:=H.length) code 0 _ (fun e σ=>retG P fn.results.toList H.length lk res Hres e σ) _ A (fun e σ A' hq=>hq) h
 refine calls_of_wp hf hb (Code.wp_mono (fun e a' w' hh=> ?_) (vc_ok (c:=⟨w,XB E H,E.N,fn.ntmps,E,H.length⟩) hm hG hGc code _ _ _ w hvc ⟨E,start_eff hH hN ha hnt⟩))
 obtain⟨σ',hq,E',hr⟩:=hh;have main:retG P fn.results.toList H.length lk res Hres .ret σ'->a'.defers=[]/\∃v,(results fn a'.tmps).run P w'= .ok v w'/\
   ∃v' E',Ending.returned v= .returned v'/\Inv ⟨w,XB E H,E.N,0,E,0⟩ E' Hres w'/\Stp E w E' w'/\Rd E' w' res v':=by
  intro hq;refine⟨hr.defers,?_⟩
  simp only[retG] at hq;split at hq
  ·rename_i r p hres;obtain⟨hp,hq⟩:=andO_ok hq;obtain⟨v,hrun,hrd⟩:=resT_ok (P:=P) hr.inv.heap (fun i=>hr.slots.on i (fun q hq=>by cases hq)) hres hp
   refine⟨v,hrun,v,?_⟩
   have hI:=hr.inv;have h1:Real ⟨w,XB E H,E.N,1,E,H.length⟩ [(0,r)] σ'.H {tmps:= #[v],defers:=[]} w':=by
    refine⟨E',rfl,rfl,⟨fun i _=> ?_,fun i hi=>absurd (fun q hq=>by cases hq) hi⟩,⟨hI.heap,hI.nlt,hI.nnew,hI.bnew,hI.fr,⟨hI.keep.N,hI.keep.L,hI.keep.same,hI.keep.L2⟩⟩⟩
    cases i with
    |zero=>exact hrd
    |succ i=>exact .und _
   obtain⟨E2,hr2⟩:=anyV_ok hq ⟨w,XB E H,E.N,1,E,H.length⟩ _ w' rfl h1;have hI2:=hr2.inv;have hk:=hI2.keep;refine⟨E2,rfl,⟨hI2.heap,hI2.nlt,hI2.nnew,hI2.bnew,hI2.fr,⟨hk.N,fun k h=>absurd h (Nat.not_lt_zero _),hk.same,fun k v h=>absurd h (Nat.not_lt_zero _)⟩⟩,⟨⟨hk.N,fun k hL=> ?_,fun k hL=> ?_,fun k hL=> ?_,fun k hL=> ?_,fun k u hu=> ?_,fun k u i j hu=> ?_,fun k u i j hu=> ?_⟩,hk.same⟩,?_⟩
   ·exact(hk.L k (hH.lt k hL) hL).1
   ·exact(hk.L k (hH.lt k hL) hL).2.1
   ·exact(hk.L k (hH.lt k hL) hL).2.2.1
   ·exact(hk.L k (hH.lt k hL) hL).2.2.2
   ·exact(hk.L2 k u (hH.lt k (hH.l2 k u hu)) hu).1
   ·exact((hk.L2 k u (hH.lt k (hH.l2 k u hu)) hu).2 i j).1
   ·exact((hk.L2 k u (hH.lt k (hH.l2 k u hu)) hu).2 i j).2
   ·exact hr2.slots.on 0 (fun q hq=>by cases hq)
  ·exact hq.elim
 cases e with
 |normal=>exact main hq
 |ret=>exact main hq
 |_=>exact hq.elim
end Go.SS
/- A calculus of symbolic states: arguments that are given as data. -/
namespace Go.SS
open Go.RowKit

def okT(P:Program):Nat->TypeId->Bool
 |0,_=>false
 |d+1,t=>match P.underlying t with
  |some .bool=>Nat.beq (P.cellsOf t) 1
  |some (.int _)=>Nat.beq (P.cellsOf t) 1
  |some .string=>Nat.beq (P.cellsOf t) 1
  |some (.slice e)=>Nat.beq (P.cellsOf t) 1&&Nat.blt 0 (P.cellsOf e)&&okT P d e
  |some (.struct fs)=>(Nat.beq (endsAt fs.toList 0) (P.cellsOf t)&&Nat.blt (P.cellsOf t) 18446744073709551616)&&fs.toList.all fun f=>okT P d f.type
  |_=>false
where
 endsAt:List Field->Nat->Nat
 | [],n=>n
 |f::r,n=>match Nat.beq f.offset n with
  |true=>endsAt r (n+P.cellsOf f.type)
  |false=>18446744073709551616

def dI{H:Type}:DataW H->Int
 | .lit (.int _ n)=>n
 |_=>0
def dB{H:Type}:DataW H->Bool
 | .lit (.bool b)=>b
 |_=>false
def dS{H:Type}:DataW H->List UInt8
 | .lit (.string l)=>l
 |_=>[]
def elemsD{H:Type}:DataW H->List (DataW H)
 | .slice xs _=>xs
 |_=>[]
def partsD{H:Type}:DataW H->List (DataW H)
 | .agg xs=>xs
 |_=>[]
def trF{H:Type}(g:TypeId->DataW H->List T):List Field->List (DataW H)->List T
 | [],_=>[]
 |f::r,xs=>g f.type (xs.headD .nil)++trF g r xs.tail

def trT{H:Type}(P:Program):Nat->TypeId->DataW H->List T
 |0,_,_=>[]
 |d+1,t,x=>match P.underlying t with
  |some .bool=>[.bool (dB x)]
  |some (.int k)=>[.int k (dI x)]
  |some .string=>[.str (dS x)]
  |some (.slice e)=>match P.underlying e with
   |some (.int .u8)=>[.bys ((elemsD x).map byD)]
   |_=>[.sl (P.cellsOf e) (elemsD x).length fun i=>trT P d e ((elemsD x).getD i .nil)]
  |some (.struct fs)=>trF (trT P d) fs.toList (partsD x)
  |_=>[]
where
 byD:DataW H->UInt8
 | .lit (.int _ n)=>ofI n
 |_=>0

theorem trF_zip{H:Type}(g:TypeId->DataW H->List T):∀(fl:List Field) (xs:List (DataW H)),xs.length=fl.length->trF g fl xs=(fl.zip xs).flatMap fun p=>g p.1.type p.2
 | [],_,_=>rfl
 |f::fl,[],h=>by simp at h
 |f::fl,x::xs,h=>by
  simp only[trF,List.headD_cons,List.tail_cons,List.zip_cons_cons,List.flatMap_cons];rw[trF_zip g fl xs (by simpa using h)]

theorem mapM_get{α β:Type}{f:α->Option β}:∀{l:List α} {q:List β},l.mapM f=some q->q.length=l.length/\∀(i:Nat) (a:α) (b:β),l[i]? =some a->q[i]? =some b->f a=some b:=by
 intro l;induction l with
 |nil=>intro q h;simp at h;subst h;exact⟨rfl,fun i a b ha=>by simp at ha⟩
 |cons x l ih=>
  intro q h;simp only[List.mapM_cons,Option.bind_eq_bind,Option.bind_eq_some_iff,Option.pure_def,Option.some.injEq] at h;obtain⟨b,hb,q',hq,rfl⟩:=h;obtain⟨h1,h2⟩:=ih hq;refine⟨by simp[h1],fun i a b' ha hb'=> ?_⟩
  cases i with
  |zero=>simp at ha hb';subst ha;subst hb';exact hb
  |succ i=>exact h2 i a b' (by simpa using ha) (by simpa using hb')

theorem mapM_of{α β:Type}{f:α->Option β}:∀{l:List α} {q:List β},q.length=l.length->(∀(i:Nat) (a:α) (b:β),l[i]? =some a->q[i]? =some b->f a=some b)->l.mapM f=some q:=by
 intro l;induction l with
 |nil=>intro q h _;cases q with|nil=>rfl|cons=>simp at h
 |cons x l ih=>
  intro q h hf;cases q with
  |nil=>simp at h
  |cons b q=>
   have h1:=hf 0 x b rfl rfl;have h2:=ih (q:=q) (by simpa using h) fun i a b ha hb=>hf (i+1) a b (by simpa using ha) (by simpa using hb)
   simp only[List.mapM_cons,h1,h2,Option.bind_eq_bind,Option.bind_some,Option.pure_def]

section
variable {H:Type} {enc:TypeId×Value->H} {P:Program} {w w':World} {base:Nat} {held:Bool}

theorem cells_get{a:Addr}{n:Nat}{cs:List Value}(h:w.cells? base a n=some cs):base<=a.block/\cs.length=n/\∀j v,cs[j]? =some v->w.cell? (a.add j)=some v:=by
 unfold World.cells? at h;split at h
 ·rename_i hb;obtain⟨h1,h2⟩:=mapM_get h;refine⟨hb,by simpa using h1,fun j v hj=> ?_⟩
  have hlt:j<n:=by have:=(List.getElem?_eq_some_iff.1 hj).1;simpa[h1] using this
  exact h2 j j v (by simp[hlt]) hj
 ·cases h

theorem cells_of{a:Addr}{n:Nat}{cs:List Value}(hb:base<=a.block)(hl:cs.length=n)(h:∀j v,cs[j]? =some v->w.cell? (a.add j)=some v):w.cells? base a n=some cs:=by
 unfold World.cells?;rw[if_pos hb];refine mapM_of (by simpa using hl) fun i k v hk hv=> ?_
 have hki:i=k:=by
  have hlt:=(List.getElem?_eq_some_iff.1 hk).1
  simp at hlt
  simpa[hlt] using hk
 subst hki;exact h i v hv

theorem block_add(a:Addr)(n:Nat):(a.add n).block=a.block:=by unfold Addr.add;split<;>rfl

theorem cells_same{a:Addr}{n:Nat}{cs:List Value}(hw:∀b,b<w.heap.size->w'.heap[b]? =w.heap[b]?)(h:w.cells? base a n=some cs):w'.cells? base a n=some cs:=by
 obtain⟨h1,h2,h3⟩:=cells_get h;refine cells_of h1 h2 fun j v hj=> ?_
 have h4:=h3 j v hj;have hlt:(a.add j).block<w.heap.size:=by
  unfold World.cell? at h4;split at h4
  ·rename_i hb;exact(Array.getElem?_eq_some_iff.1 hb).1
  ·cases h4
 unfold World.cell? at h4 ⊢;rw[hw _ hlt];exact h4

theorem mem_row{a:Addr}{n:Nat}(h:0<n):(.cell a.block a.off:MemPlace) ∈ MemPlace.row a n:=by
 unfold MemPlace.row;exact List.mem_map.2 ⟨0,by simpa using h,rfl⟩

theorem trod_again{sp:Nat->Bool}(hw:∀b,b<w.heap.size->w'.heap[b]? =w.heap[b]?):∀(d:Nat) {fuel:Nat} {t:TypeId} {cs:List Value} {x:DataW H} {ps:List MemPlace},okT P d t=true->
  DataW.trod enc P w base (fun _=>true) held fuel t cs=some (x,ps)->(∀p ∈ ps,sp p.block=true)->DataW.trod enc P w' base sp held fuel t cs=some (x,ps):=by
 intro d;induction d with
 |zero=>intro fuel t cs x ps h;simp[okT] at h
 |succ d ih=>
  intro fuel t cs x ps hok h hsp;cases fuel with
  |zero=>simp[DataW.trod] at h
  |succ fuel=>
   unfold okT at hok;split at hok
   ·rename_i hu;obtain⟨b,rfl,he⟩:=DataW.trod_bool hu h;rw[he];simp[DataW.trod,hu]
   ·rename_i k hu;obtain⟨n,rfl,he,hwf⟩:=DataW.trod_int hu h;rw[he];simp[DataW.trod,hu,hwf]
   ·rename_i hu;obtain⟨s,rfl,he,hwf⟩:=DataW.trod_string hu h;rw[he];simp[DataW.trod,hu,hwf]
   ·rename_i e hu;simp only[Bool.and_eq_true] at hok;obtain⟨⟨_,hpos⟩,hoe⟩:=hok;have hpos:0<P.cellsOf e:=Nat.le_of_ble_eq_true hpos;rcases DataW.trod_slice hu h with⟨rfl,he⟩|⟨a,len,cap,elems,rest,n,hn,rfl,hx,hb,hl,hm,hlen,hel,hsp1,_⟩
    ·rw[he];simp[DataW.trod,hu]
    ·obtain rfl:fuel=n:=by omega
     obtain⟨hrl,hrest⟩:=hsp1 rfl;simp only[Prod.mk.injEq] at hx;obtain⟨hx,hps⟩:=hx;have inner:∀(i:Nat) (y:DataW H×List MemPlace),y ∈ elems++rest->((w.cells? base (a.add (i*P.cellsOf e)) (P.cellsOf e)).bind (DataW.trod enc P w base (fun _=>true) held fuel e))=some y->
       ((w'.cells? base (a.add (i*P.cellsOf e)) (P.cellsOf e)).bind (DataW.trod enc P w' base sp held fuel e))=some y:=by
      intro i y hy h;obtain⟨cs',h1,h2⟩:=Option.bind_eq_some_iff.1 h;rw[cells_same hw h1];simp only[Option.bind_some];obtain⟨y1,y2⟩:=y;refine ih hoe h2 fun p hp=>hsp p ?_
      rw[hps];exact List.mem_append_right _ (List.mem_flatMap.2 ⟨_,hy,hp⟩)
     have rng:∀{n i k:Nat},(List.range n)[i]? =some k->i=k/\k<n:=by
      intro n i k hk;have hlt:=(List.getElem?_eq_some_iff.1 hk).1
      simp at hlt;have:i=k:=by simpa[hlt] using hk
      exact⟨this,this▸hlt⟩
     have he':(List.range len).mapM (fun i=>(w'.cells? base (a.add (i*P.cellsOf e)) (P.cellsOf e)).bind (DataW.trod enc P w' base sp held fuel e))=some elems:=
      mapM_of (by simpa using hlen) fun i k y hk hy=>by
       obtain⟨rfl,hlt⟩:=rng hk;exact inner i y (List.mem_append_left _ (List.mem_of_getElem? hy)) ((hel i hlt).trans hy)
     have hr':(List.range (cap-len)).mapM (fun j=>(w'.cells? base (a.add ((len+j)*P.cellsOf e)) (P.cellsOf e)).bind (DataW.trod enc P w' base sp held fuel e))=some rest:=
      mapM_of (by simpa using hrl) fun i k y hk hy=>by
       obtain⟨rfl,hlt⟩:=rng hk;exact inner (len+i) y (List.mem_append_right _ (List.mem_of_getElem? hy)) ((hrest i hlt).trans hy)
     have hspa:sp a.block=true∨cap-len=0:=by
      by_cases hz:cap-len=0
      ·exact .inr hz
      ·left
       refine hsp (.cell a.block a.off) ?_
       rw[hps];exact List.mem_append_left _ (mem_row (Nat.mul_pos (by omega) hpos))
     simp only[DataW.trod,hu];rw[if_pos ⟨hb,hl,hm⟩,he'];simp only[Option.bind_some];rcases hspa with hs|hz
     ·rw[hs];simp only[if_true,hr',Option.map_some,hx,hps]
     ·have hrest0:rest=[]:=List.eq_nil_of_length_eq_zero (by omega)
      rw[hrest0] at hx hps hr';cases sp a.block
      ·simp only[Bool.false_eq_true,if_false,Option.map_some,hx,hps]
      ·simp only[if_true,hr',Option.map_some,hx,hps]
   ·rename_i fs hu;simp only[Bool.and_eq_true] at hok;have hof:=List.all_eq_true.1 hok.2;obtain⟨xs,n,hn,hx,hl,hxl,hf⟩:=DataW.trod_struct hu h;obtain rfl:fuel=n:=by omega
    simp only[Prod.mk.injEq] at hx;obtain⟨hx,hps⟩:=hx;rw[hx,hps];refine ChangeShapes.trod_struct_mk hu hl (mapM_of (by simpa using hxl) fun i f y hfi hy=> ?_)
    obtain⟨y1,y2⟩:=y;refine ih (hof f (List.mem_of_getElem? hfi)) ((hf i f (by simpa using hfi)).trans hy) fun p hp=>hsp p ?_
    rw[hps];exact List.mem_flatMap.2 ⟨_,List.mem_of_getElem? hy,hp⟩
   ·cases hok

def RdC(E:Env)(w:World)(ts:List T)(cs:List Value):Prop:=ts.length=cs.length/\∀(i:Nat) (t:T) (v:Value),ts[i]? =some t->cs[i]? =some v->Rd E w t v/\closedT t=true/\oneT t=true

theorem rdC_append{E:Env}{as bs:List T}{us vs:List Value}(h:RdC E w as us)(k:RdC E w bs vs):RdC E w (as++bs) (us++vs):=by
 refine⟨by simp[h.1,k.1],fun i t v hi hv=> ?_⟩
 rw[List.getElem?_append] at hi hv
 rw[←h.1] at hv;split at hi
 ·rename_i hlt;rw[if_pos hlt] at hv;exact h.2 i t v hi hv
 ·rename_i hlt;rw[if_neg hlt] at hv;exact k.2 _ t v hi hv

theorem rdC_one{E:Env}{t:T}{v:Value}(h:Rd E w t v)(hc:closedT t=true)(ho:oneT t=true):RdC E w [t] [v]:=by
 refine⟨rfl,fun i t' v' hi hv=> ?_⟩
 cases i with
 |zero=>simp at hi hv;subst hi;subst hv;exact⟨h,hc,ho⟩
 |succ i=>simp at hi

theorem endsAt_le:∀{fs:List Field} {n m:Nat},okT.endsAt P fs n=m->m<18446744073709551616->n<=m/\∀f r,fs=f::r->f.offset=n/\okT.endsAt P r (n+P.cellsOf f.type)=m:=by
 intro fs;induction fs with
 |nil=>intro n m h _;simp only[okT.endsAt] at h;exact⟨by omega,fun f r hf=>by cases hf⟩
 |cons f fs ih=>
  intro n m h hm;simp only[okT.endsAt] at h;split at h
  ·rename_i hb;obtain⟨h1,_⟩:=ih h hm;refine⟨by omega,fun g r hg=> ?_⟩
   cases hg;exact⟨Nat.eq_of_beq_eq_true hb,h⟩
  ·omega

theorem trod_rd{E:Env}(hE:∀b,b<w.heap.size->E.N b):∀(d:Nat) {fuel:Nat} {t:TypeId} {cs:List Value} {x:DataW H} {ps:List MemPlace},okT P d t=true->
  DataW.trod enc P w base (fun _=>true) held fuel t cs=some (x,ps)->RdC E w (trT P d t x) cs:=by
 intro d;induction d with
 |zero=>intro fuel t cs x ps h;simp[okT] at h
 |succ d ih=>
  intro fuel t cs x ps hok h;unfold okT at hok;unfold trT;split at hok
  ·rename_i hu;obtain⟨b,rfl,he⟩:=DataW.trod_bool hu h;simp only[Prod.mk.injEq] at he;rw[he.1];exact rdC_one (.bool b) rfl rfl
  ·rename_i k hu;obtain⟨n,rfl,he,hwf⟩:=DataW.trod_int hu h;simp only[Prod.mk.injEq] at he;rw[he.1];exact rdC_one (.int k n) rfl rfl
  ·rename_i hu;obtain⟨s,rfl,he,hwf⟩:=DataW.trod_string hu h;simp only[Prod.mk.injEq] at he;rw[he.1];exact rdC_one (.str s.data.toList) rfl rfl
  ·rename_i e hu;simp only[Bool.and_eq_true] at hok;obtain⟨⟨_,hpos⟩,hoe⟩:=hok;have hpos:0<P.cellsOf e:=Nat.le_of_ble_eq_true hpos;rcases DataW.trod_slice hu h with⟨rfl,he⟩|⟨a,len,cap,elems,rest,n,hn,rfl,hx,hb,hl,hm,hlen,hel,hsp1,_⟩
   ·simp only[Prod.mk.injEq] at he;rw[he.1];simp only[elemsD];split
    ·exact rdC_one .bysNil rfl rfl
    ·exact rdC_one (.slNil _ _) rfl rfl
   ·obtain rfl:fuel=n+1:=by omega
    simp only[Prod.mk.injEq] at hx;rw[hx.1];simp only[elemsD];have hrow:∀i,i<len->∃cs',w.cells? base (a.add (i*P.cellsOf e)) (P.cellsOf e)=some cs'/\RdC E w (trT P d e ((elems.map (·.1)).getD i .nil)) cs':=by
     intro i hi;have hl0:=hel i hi;have hlt:i<elems.length:=by omega
     rw[List.getElem?_eq_getElem hlt] at hl0
     obtain⟨cs',h1,h2⟩:=Option.bind_eq_some_iff.1 hl0;refine⟨cs',h1,?_⟩
     have:=ih hoe (x:=elems[i].1) (ps:=elems[i].2) h2;rw[List.getD_eq_getElem?_getD,List.getElem?_map,List.getElem?_eq_getElem hlt]
     exact this
    by_cases hz:cap=0
    ·have hl0:len=0:=by omega
     have he0:elems=[]:=List.eq_nil_of_length_eq_zero (by omega)
     subst hz;subst hl0;subst he0;simp only[List.map_nil];split
     ·exact rdC_one (.bysEmp a) rfl rfl
     ·exact rdC_one (.slEmp _ _ a) rfl rfl
    ·have hsp0:a.spot=none:=by
      have:∃cs',w.cells? base (a.add (0*P.cellsOf e)) (P.cellsOf e)=some cs':=by
       by_cases hl0:0<len
       ·obtain⟨cs',h1,_⟩:=hrow 0 hl0;exact⟨cs',h1⟩
       ·obtain⟨hrl,hrest⟩:=hsp1 rfl;have h0:=hrest 0 (by omega)
        have hlt:0<rest.length:=by omega
        rw[List.getElem?_eq_getElem hlt] at h0
        obtain⟨cs',h1,_⟩:=Option.bind_eq_some_iff.1 h0;rw[show len+0=0 by omega] at h1
        exact⟨cs',h1⟩
      obtain⟨cs',h1⟩:=this;obtain⟨_,g2,g3⟩:=cells_get h1;have hlt:0<cs'.length:=by omega
      have:=g3 0 cs'[0] (List.getElem?_eq_getElem hlt)
      have hs:=World.cell?_spot this
      rw[Nat.zero_mul] at hs
      simpa[Addr.add] using hs
     obtain⟨b,off,spot⟩:=a;simp only at hsp0;subst hsp0;have hblt:b<w.heap.size∨len=0:=by
      by_cases hl0:0<len
      ·left
       obtain⟨cs',h1,_⟩:=hrow 0 hl0;obtain⟨_,g2,g3⟩:=cells_get h1;have hlt:0<cs'.length:=by omega
       have h4:=g3 0 cs'[0] (List.getElem?_eq_getElem hlt)
       unfold World.cell? at h4;split at h4
       ·rename_i hb';have:=(Array.getElem?_eq_some_iff.1 hb').1
        rw[block_add,block_add] at this;exact this
       ·cases h4
      ·exact .inr (by omega)
     have hblt:b<w.heap.size:=by
      rcases hblt with h|h
      ·exact h
      ·obtain⟨hrl,hrest⟩:=hsp1 rfl;have h0:=hrest 0 (by omega)
       have hlt:0<rest.length:=by omega
       rw[List.getElem?_eq_getElem hlt] at h0
       obtain⟨cs',h1,_⟩:=Option.bind_eq_some_iff.1 h0;obtain⟨_,g2,g3⟩:=cells_get h1;have hlt:0<cs'.length:=by omega
       have h4:=g3 0 cs'[0] (List.getElem?_eq_getElem hlt)
       unfold World.cell? at h4;split at h4
       ·rename_i hb';have:=(Array.getElem?_eq_some_iff.1 hb').1
        rw[block_add,block_add] at this;exact this
       ·cases h4
     have hadd:∀i j,(Addr.add (Addr.add ⟨b,off,none⟩ i) j)=⟨b,off+i+j,none⟩:=fun i j=>by rw[Addr.add_lit,Addr.add_lit]
     skip
     split
     ·rename_i hu8;have hc1:P.cellsOf e=1:=by
       cases d with
       |zero=>simp[okT] at hoe
       |succ d=>
        unfold okT at hoe;rw[hu8] at hoe;exact Nat.eq_of_beq_eq_true hoe
      refine rdC_one ?_ rfl rfl
      have hlen':((elems.map (·.1)).map trT.byD).length=len:=by simp[hlen]
      rw[←hlen'];refine .bys _ b off cap (hE b hblt) (by rw[hlen'];exact hl) fun i x hx=> ?_
      have hi:i<len:=by have:=(List.getElem?_eq_some_iff.1 hx).1;omega
      have hl0:=hel i hi;have hlt:i<elems.length:=by omega
      rw[List.getElem?_eq_getElem hlt] at hl0
      obtain⟨cs',h1,h2⟩:=Option.bind_eq_some_iff.1 hl0;obtain⟨nn,hcs,hxx,hwf⟩:=DataW.trod_int hu8 h2;obtain⟨_,_,g3⟩:=cells_get h1;have:=g3 0 (.int .u8 nn) (by rw[hcs];rfl)
      rw[hadd,hc1,Nat.mul_one,Nat.add_zero] at this;rw[this];simp only[List.getElem?_map,List.getElem?_eq_getElem hlt,Option.map_some,Option.some.injEq] at hx
      rw[←hx,hxx];simp only[trT.byD];have hr:Rng .u8 nn:=by
       simp only[Lit.wf] at hwf
       simpa[Rng] using hwf
      rw[ofI_eq hr]
     ·refine rdC_one ?_ rfl rfl
      have hlen':(elems.map (·.1)).length=len:=by simp[hlen]
      rw[hlen'];have hu':∀i j,i<len->∀t,(trT P d e ((elems.map (·.1)).getD i .nil))[j]? =some t->∃v,w.cell? ⟨b,off+i*P.cellsOf e+j,none⟩=some v/\Rd E w t v/\closedT t=true/\oneT t=true:=by
       intro i j hi t ht;obtain⟨cs',h1,q1,q2⟩:=hrow i hi;obtain⟨_,_,g3⟩:=cells_get h1;have hlt:j<cs'.length:=by rw[←q1];exact(List.getElem?_eq_some_iff.1 ht).1
       have hv:=List.getElem?_eq_getElem hlt
       refine⟨_,?_,q2 j t _ ht hv⟩
       have:=g3 j _ hv;rw[hadd] at this;exact this
      refine .sl _ _ _ b off cap (fun i j=>(w.cell? ⟨b,off+i*P.cellsOf e+j,none⟩).getD undef) (hE b hblt) hl (fun i hi=> ?_) (fun i t hi ht=> ?_) (fun i j t hi ht=> ?_) (fun i j t hi ht=> ?_)
      ·obtain⟨cs',h1,q1,_⟩:=hrow i hi;rw[q1];exact(cells_get h1).2.1
      ·obtain⟨j,hj⟩:=List.getElem?_of_mem ht
       obtain⟨v,_,_,hc,ho⟩:=hu' i j hi t hj;exact⟨ho,hc⟩
      ·obtain⟨v,hv,_⟩:=hu' i j hi t ht;rw[hv];rfl
      ·obtain⟨v,hv,hr,_⟩:=hu' i j hi t ht;rw[hv];exact hr
  ·rename_i fs hu;simp only[Bool.and_eq_true] at hok;have hof:=List.all_eq_true.1 hok.2;have hend:=Nat.eq_of_beq_eq_true hok.1.1;have hbig:=Nat.blt_eq.mp hok.1.2;obtain⟨xs,n,hn,hx,hl,hxl,hf⟩:=DataW.trod_struct hu h;simp only[Prod.mk.injEq] at hx;rw[hx.1];simp only[partsD];rw[trF_zip _ _ _ (by simpa using hxl)]
   have key:∀(fl:List Field) (ys:List (DataW H×List MemPlace)) (o:Nat),okT.endsAt P fl o=P.cellsOf t->ys.length=fl.length->(∀f ∈ fl,okT P d f.type=true)->
     (∀(i:Nat) (f:Field),fl[i]? =some f->DataW.trod enc P w base (fun _=>true) held n f.type ((cs.drop f.offset).take (P.cellsOf f.type))=ys[i]?)->
     RdC E w ((fl.zip (ys.map (·.1))).flatMap fun p=>trT P d p.1.type p.2) (cs.drop o):=by
    intro fl;induction fl with
    |nil=>
     intro ys o he hyl _ _;simp only[okT.endsAt] at he;subst he;rw[List.drop_of_length_le (by omega)]
     exact⟨rfl,fun i t v hi=>by simp at hi⟩
    |cons f fl ihf=>
     intro ys o he hyl hok hg;cases ys with
     |nil=>simp at hyl
     |cons y ys=>
      obtain⟨e1,e2⟩:=(endsAt_le he hbig).2 f fl rfl;have hle:=(endsAt_le e2 hbig).1;have h0:=hg 0 f rfl;obtain⟨y1,y2⟩:=y;have r0:=ih (hok f (by simp)) h0
      rw[e1] at r0;have r1:=ihf ys (o+P.cellsOf f.type) e2 (by simpa using hyl) (fun g hg'=>hok g (by simp[hg'])) (fun i g hi=>by
       have:=hg (i+1) g (by simpa using hi)
       simpa using this)
      have:=rdC_append r0 r1;rw[←List.drop_drop,List.take_append_drop] at this
      simpa using this
   have:=key fs.toList xs 0 hend (by simpa using hxl) hof (fun i f hi=>hf i f (by simpa using hi))
   simpa using this
  ·cases hok


def wfD{H:Type}(P:Program):Nat->TypeId->DataW H->Prop
 |0,_,_=>False
 |d+1,t,x=>match P.underlying t with
  |some .bool=>∃b,x= .lit (.bool b)
  |some (.int k)=>∃n,x= .lit (.int k n)/\(Lit.int k n).wf=true
  |some .string=>∃l,x= .lit (.string l)/\l.length<=maxLen
  |some (.slice e)=>x= .nil∨∃xs sp,x= .slice xs sp/\xs.length<=maxLen/\∀y,y ∈ xs->wfD P d e y
  |some (.struct fs)=>∃xs,x= .agg xs/\xs.length=fs.size/\∀(i:Nat) (f:Field) (y:DataW H),fs[i]? =some f->xs[i]? =some y->wfD P d f.type y
  |_=>False

theorem trod_wf{sp:Nat->Bool}:∀(d:Nat) {fuel:Nat} {t:TypeId} {cs:List Value} {x:DataW H} {ps:List MemPlace},okT P d t=true->DataW.trod enc P w base sp held fuel t cs=some (x,ps)->wfD P d t x:=by
 intro d;induction d with
 |zero=>intro fuel t cs x ps h;simp[okT] at h
 |succ d ih=>
  intro fuel t cs x ps hok h;unfold okT at hok;unfold wfD;split at hok
  ·rename_i hu;obtain⟨b,rfl,he⟩:=DataW.trod_bool hu h;simp only[Prod.mk.injEq] at he;exact⟨b,he.1⟩
  ·rename_i k hu;obtain⟨n,rfl,he,hwf⟩:=DataW.trod_int hu h;simp only[Prod.mk.injEq] at he;exact⟨n,he.1,hwf⟩
  ·rename_i hu;obtain⟨s,rfl,he,hwf⟩:=DataW.trod_string hu h;simp only[Prod.mk.injEq] at he;exact⟨_,he.1,by rw[Array.length_toList];exact hwf⟩
  ·rename_i e hu;simp only[Bool.and_eq_true] at hok;rcases DataW.trod_slice hu h with⟨rfl,he⟩|⟨a,len,cap,elems,rest,n,hn,rfl,hx,hb,hl,hm,hlen,hel,hsp1,_⟩
   ·simp only[Prod.mk.injEq] at he;exact .inl he.1
   ·simp only[Prod.mk.injEq] at hx;refine .inr ⟨_,_,hx.1,by simp;omega,fun y hy=> ?_⟩
    obtain⟨z,hz,rfl⟩:=List.mem_map.1 hy;obtain⟨i,hi,rfl⟩:=List.mem_iff_getElem.1 hz;have:=hel i (by omega)
    rw[List.getElem?_eq_getElem hi] at this
    obtain⟨cs',h1,h2⟩:=Option.bind_eq_some_iff.1 this;exact ih hok.2 h2
  ·rename_i fs hu;simp only[Bool.and_eq_true] at hok;have hof:=List.all_eq_true.1 hok.2;obtain⟨xs,n,hn,hx,hl,hxl,hf⟩:=DataW.trod_struct hu h;simp only[Prod.mk.injEq] at hx;refine⟨_,hx.1,by simpa using hxl,fun i f y hfi hy=> ?_⟩
   simp only[List.getElem?_map,Option.map_eq_some_iff] at hy
   obtain⟨z,hz,rfl⟩:=hy;exact ih (hof f (by simpa using Array.mem_of_getElem? hfi)) ((hf i f hfi).trans hz)
  ·cases hok

theorem trodAll_again{sp:Nat->Bool}{d:Nat}(hw:∀b,b<w.heap.size->w'.heap[b]? =w.heap[b]?):∀{ts:List TypeId} {vs:List Value} {ds:List (DataW H)} {ps:List MemPlace},(∀t ∈ ts,okT P d t=true)->
  DataW.TrodAll enc P w base (fun _=>true) held ts vs ds ps->(∀p ∈ ps,sp p.block=true)->DataW.TrodAll enc P w' base sp held ts vs ds ps:=by
 intro ts;induction ts with
 |nil=>
  intro vs ds ps _ h _;cases vs<;>cases ds<;>first|exact h|exact h.elim
 |cons t ts ih=>
  intro vs ds ps hok h hsp;cases vs with
  |nil=>cases ds<;>exact h.elim
  |cons v vs=>
   cases ds with
   |nil=>exact h.elim
   |cons x ds=>
    obtain⟨p,q,⟨fuel,hp⟩,hq,rfl⟩:=h;exact⟨p,q,⟨fuel,trod_again hw d (hok t (by simp)) hp fun z hz=>hsp z (List.mem_append_left _ hz)⟩,ih (fun t ht=>hok t (by simp[ht])) hq fun z hz=>hsp z (List.mem_append_right _ hz),rfl⟩

theorem post_true{again:Bool}{f:Func}{s:ChangeSpec}{W W':World}{args:Array Value}{ds gs:List (DataW H)}{before:List MemPlace}{d:Nat}{tb:TypeId}
  (hW:DataW.Whole enc P f.params.toList s.vars false W args.toList ds gs before) (hvars:s.vars=[]) (hfn:s.fn H ds={results:=[.lit (.bool true)],args:=ds})
  (hres:f.resultTypes= #[tb]) (htb:P.underlying tb=some .bool) (hok:∀t ∈ f.params.toList,okT P d t=true) (hb:Below W.heap.size W W'):
  s.post enc P f false true false again W args (.bool true) W':=by
 have hW':=hW;obtain⟨p,q,hA,hV,rfl,hfz,hnd⟩:=hW;rw[hvars] at hV;obtain⟨rfl,rfl⟩:=ChangeShapes.trodVars_none hV;simp only[List.append_nil] at hW' hfz;have hlt:∀z ∈ p,z.block<W.heap.size:=fun z hz=>hA.lt z hz
 have hres':∀(b:Nat) (sp:Nat->Bool) (hd:Bool),DataW.TrodAll enc P W' b sp hd f.resultTypes.toList ((Value.bool true).resultList f.resultTypes.size) (s.fn H (ds++[])).results []:=by
  intro b sp hd;rw[List.append_nil,hfn,hres];exact trodAll_cons_mk (shut_bool htb _) ChangeShapes.trodAll_mk0
 have hargs:∀sp:Nat->Bool,(∀z ∈ p,sp z.block=true)->DataW.TrodAll enc P W' 0 sp true f.params.toList args.toList (s.fn H (ds++[])).args p:=by
  intro sp hsp;rw[List.append_nil,hfn];exact trodAll_again hb.block hok hA hsp
 have hvs:∀sp:Nat->Bool,DataW.TrodVars enc P W' sp s.vars (s.fn H (ds++[])).vars []:=by
  intro sp;rw[List.append_nil,hfn,hvars];rfl
 refine⟨ds,[],p,[],p,[],hW',hres' _ _ _,hargs _ (fun z hz=>by simpa using hlt z hz),hvs _,hb.frame _,fun _=>⟨?_,_,_,([]++p)++[],⟨[]++p,[],ChangeShapes.trodAll_append (hargs _ (fun _ _=>rfl)) (hres' _ _ _),hvs _,rfl,?_,?_⟩,?_⟩⟩
 ·exact ok_one hres rfl (okWide_bool_mk htb _)
 ·intro b off hp;have hp':MemPlace.cell b off ∈ p:=by simpa using hp
  have h1:=hfz b off hp';have h2:=hb.block b (hlt _ hp');unfold World.frozen? at h1 ⊢;rw[h2];exact h1
 ·intro ha;cases ha
 ·intro z hz _
  simpa using hz

def E0(W:World):Env:=⟨fun b=>b<W.heap.size,fun _=>False,fun _=>0,fun _=>0,fun _=>(0,[]),fun _ _=>False,fun _ _ _ _=>0,fun _ _ _ _=>0⟩

theorem pure_true{f:FuncId}{W:World}{args:Array Value}{ts:List T}(h:PureFn P f ts (.bool true))(ha:RdL (E0 W) W ts args):Calls P f args W fun e W'=>e= .returned (.bool true)/\Below W.heap.size W W':=by
 refine(h (E0 W) W args (fun _=>⟨fun h=>h,fun _ h=>h⟩) (fun _ h=>h) ha).mono fun e W' hh=> ?_
 obtain⟨v,rfl,hb,hr⟩:=hh;rw[rd_bool hr];exact⟨rfl,hb.toBelow⟩


def WfAll{H:Type}(P:Program)(d:Nat):List TypeId->List (DataW H)->Prop
 | [],[]=>True
 |t::ts,x::xs=>wfD P d t x/\WfAll P d ts xs
 |_,_=>False

theorem wfAll_cons{d:Nat}{t:TypeId}{ts:List TypeId}{xs:List (DataW H)}(h:WfAll P d (t::ts) xs):∃x xs',xs=x::xs'/\wfD P d t x/\WfAll P d ts xs':=by
 cases xs with
 |nil=>exact h.elim
 |cons x xs=>exact⟨x,xs,rfl,h.1,h.2⟩
theorem wfAll_nil{d:Nat}{xs:List (DataW H)}(h:WfAll P d [] xs):xs=[]:=by
 cases xs with
 |nil=>rfl
 |cons x xs=>exact h.elim

def argT{H:Type}(P:Program)(d:Nat)(t:TypeId)(x:DataW H):T:=match P.underlying t with
 |some (.struct _)=>.agg (trT P d t x)
 |_=>(trT P d t x).headD .und
def argTs{H:Type}(P:Program)(d:Nat):List TypeId->List (DataW H)->List T
 |t::ts,x::xs=>argT P d t x::argTs P d ts xs
 |_,_=>[]
theorem arg_rd{E:Env}{d:Nat}{t:TypeId}{x:DataW H}{v:Value}{b0:Nat}(hok:okT P d t=true)(hval:Value.okWide P w .any b0 t v)(h:RdC E w (trT P d t x) v.cells.toList):Rd E w (argT P d t x) v:=by
 cases d with
 |zero=>simp[okT] at hok
 |succ d=>
  have one:∀{v:Value} {ts:List T},v.cells= #[v]->RdC E w ts v.cells.toList->Rd E w (ts.headD .und) v:=by
   intro v ts hc h;rw[hc] at h;obtain⟨h1,h2⟩:=h;cases ts with
   |nil=>simp at h1
   |cons y ts=>exact(h2 0 y v rfl rfl).1
  unfold okT at hok;unfold argT;split at hok
  ·rename_i hu;rw[hu];obtain⟨b,rfl⟩:=WideShapes.okWide_bool hu hval;exact one rfl h
  ·rename_i k hu;rw[hu];obtain⟨b,rfl⟩:=WideShapes.okWide_int hu hval;exact one rfl h
  ·rename_i hu;rw[hu];obtain⟨b,rfl⟩:=WideShapes.okWide_string hu hval;exact one rfl h
  ·rename_i e hu;rw[hu];obtain⟨a,l,c,rfl⟩:=WideShapes.okWide_slice hu hval;exact one rfl h
  ·rename_i fs hu;rw[hu];obtain⟨cs,rfl,_⟩:=WideShapes.okWide_struct hu hval;obtain⟨h1,h2⟩:=h;refine .agg _ _ (by simpa[Value.cells] using h1) fun i t x hi hx=>(h2 i t x hi ?_).1
   simpa[Value.cells] using hx
  ·cases hok
theorem args_rd{d:Nat}:∀{ts:List TypeId} {vs:List Value} {ds:List (DataW H)} {ps:List MemPlace} {base:Nat},(∀t ∈ ts,okT P d t=true)->DataW.TrodAll enc P w 0 (fun _=>true) true ts vs ds ps->
  (∀(j:Nat) t v,ts[j]? =some t->vs[j]? =some v->Value.okWide P w .any base t v)->WfAll P d ts ds/\(argTs P d ts ds).length=vs.length/\∀(i:Nat) (t:T) (x:Value),(argTs P d ts ds)[i]? =some t->vs[i]? =some x->Rd (E0 w) w t x:=by
 intro ts;induction ts with
 |nil=>
  intro vs ds ps base _ h _;obtain⟨rfl,rfl,rfl⟩:=ChangeShapes.trodAll_nil h;exact⟨trivial,rfl,fun i t x hi=>by simp[argTs] at hi⟩
 |cons t ts ih=>
  intro vs ds ps base hok h hv;obtain⟨v0,vs0,d0,ds0,p0,q0,rfl,rfl,rfl,⟨fuel,h0⟩,r0⟩:=ChangeShapes.trodAll_cons h;obtain⟨h1,h2,h3⟩:=ih (base:=base) (fun t ht=>hok t (by simp[ht])) r0 fun j t v ht hv'=>hv (j+1) t v (by simpa using ht) (by simpa using hv')
  have hot:=hok t (by simp)
  refine⟨⟨trod_wf d hot h0,h1⟩,by simp[argTs,h2],fun i t' x hi hx=> ?_⟩
  cases i with
  |zero=>
   simp[argTs] at hi hx;subst hi;subst hx;exact arg_rd hot (hv 0 t v0 rfl rfl) (trod_rd (E:=E0 w) (fun b hb=>hb) d hot h0)
  |succ i=>exact h3 i t' x (by simpa[argTs] using hi) (by simpa using hx)

theorem law_all{again:Bool}{f:FuncId}{fn:Func}{s:ChangeSpec}{W:World}{base:Nat}{args:Array Value}{ds gs:List (DataW H)}{before:List MemPlace}(d:Nat){tb:TypeId}
  (hval:∀(j:Nat) t v,fn.params[j]? =some t->args[j]? =some v->Value.okWide P W .any base t v)
  (hW:DataW.Whole enc P fn.params.toList s.vars false W args.toList ds gs before) (hvars:s.vars=[]) (hfn:WfAll P d fn.params.toList ds->s.fn H ds={results:=[.lit (.bool true)],args:=ds})
  (hres:fn.resultTypes= #[tb]) (htb:P.underlying tb=some .bool) (hok:fn.params.toList.all (okT P d)=true)
  (walk:WfAll P d fn.params.toList ds->∃ts,PureFn P f ts (.bool true)/\∀vs:Array Value,RdL (E0 W) W (argTs P d fn.params.toList ds) vs->RdL (E0 W) W ts vs):
  Calls P f args W fun e W'=>∃v,e= .returned v/\s.post enc P fn false true false again W args v W':=by
 have hok:=List.all_eq_true.1 hok;have hW':=hW;obtain⟨p,q,hA,hV,rfl,hfz,hnd⟩:=hW;rw[hvars] at hV;obtain⟨rfl,rfl⟩:=ChangeShapes.trodVars_none hV;obtain⟨h1,h2,h3⟩:=args_rd (base:=base) hok hA fun j t v ht hv=>hval j t v (by simpa using ht) (by simpa using hv)
 obtain⟨ts,hpure,hrd⟩:=walk h1;refine(pure_true hpure (hrd args ⟨by simpa using h2,fun i t x hi hx=>h3 i t x hi (by simpa using hx)⟩)).mono fun e W' hh=> ?_
 obtain⟨rfl,hb⟩:=hh;exact⟨_,rfl,post_true (d:=d) hW' hvars (hfn h1) hres htb hok hb⟩
end
end Go.SS
