/- Of the proof that this claim's last text ends. -/
import Derived.AtR
import Derived.Deep.Quiet
import Derived.Below
import Derived.KernelRfl
import Derived.Laws.Slices
import Derived.IntWalk
import Derived.Shelf.Abstract
import Derived.Laws.StructEq
import Derived.RangeFuncLeaves
import Derived.StillTail
import Derived.Test.YtnfpoclhmidpgaaGreatDoorProg
set_option maxRecDepth 100000
set_option maxHeartbeats 8000000
set_option linter.unusedSimpArgs false
set_option linter.unusedVariables false
namespace Go.Sl
open Go Go.RowKit
structure Ent where
 b:Nat
 rw:Bool
 o:Obj
structure Fr (S:Nat→Prop) (w0 w:World):Prop where
 os:w.os=w0.os
 tape:w.tape=w0.tape
 output:w.output=w0.output
 size:w0.heap.size≤w.heap.size
 block:∀k,k < w0.heap.size→¬S k→w.heap[k]?=w0.heap[k]?
 shp:∀(k:Nat) (c:Array Value) (el:TypeId) (fz:Nat×Nat),w0.heap[k]?=some (.cells c el fz)→∃c':Array Value,c'.size=c.size∧w.heap[k]?=some (.cells c' el fz)
theorem Fr.refl (S:Nat→Prop) (w:World):Fr S w w:=⟨rfl,rfl,rfl,Nat.le_refl _,fun _ _ _=>rfl,fun _ c _ _ h=>⟨c,rfl,h⟩⟩
structure Inv (S:Nat→Prop) (w0:World) (H:List Ent) (w:World):Prop where
 fr:Fr S w0 w
 nd:(H.map Ent.b).Nodup
 hb:∀e∈H,w.heap[e.b]?=some e.o
 wr:∀e∈H,e.rw=true→S e.b∨w0.heap.size≤e.b
def look:List (Nat×Value)→Nat→Option Value
 | [],_=>none
 | (k,v)::r,t=>bif Nat.beq k t then some v else look r t
def opv (E:List (Nat×Value)):Operand→Option Value
 | .tmp t=>look E t
 | .const v=>some v
 | .global g=>some (.pointer (some ⟨g,0,none⟩))
 | .func f=>some (.func (.func f) #[] #[])
structure Fits (E:List (Nat×Value)) (n:Nat) (tmps:Array Value):Prop where
 sz:tmps.size=n
 lk:∀t v,look E t=some v→tmps[t]?=some v
theorem Fits.opv {E:List (Nat×Value)} {n:Nat} {tmps:Array Value} (h:Fits E n tmps) (D:List Deferred) {x:Operand} {v:Value} (hx:opv E x=some v):
 ({tmps:=tmps,defers:=D}:Act).eval x=v:=by
 cases x with
 | tmp t=>
   have h1:=h.lk t v hx
   show tmps.getD t undef=v
   rw[Array.getD_eq_getD_getElem?,h1];rfl
 | const u=>cases hx;rfl
 | global g=>cases hx;rfl
 | func f=>cases hx;rfl
theorem Cq (k:Nat) (v:Value) (r:List (Nat×Value)) (t:Nat):look ((k,v)::r) t=if k=t then some v else look r t:=by
 simp only[look]
 cases h:Nat.beq k t with
 | true=>rw[if_pos (Nat.eq_of_beq_eq_true h)];rfl
 | false=>rw[if_neg (Nat.ne_of_beq_eq_false h)];rfl
theorem Fits.put {E:List (Nat×Value)} {n:Nat} {tmps:Array Value} (h:Fits E n tmps) {d:Nat} (hd:d < n) (v:Value):
 Fits ((d,v)::E) n (tmps.setIfInBounds d v):=by
 refine⟨by simpa using h.sz,fun t u ht=>?_⟩
 rw[Cq] at ht
 rw[Array.getElem?_setIfInBounds]
 by_cases e:d=t
 · subst e
   rw[if_pos rfl] at ht;cases ht
   rw[if_pos rfl,if_pos (by rw[h.sz];exact hd)]
 · rw[if_neg e] at ht;rw[if_neg e];exact h.lk t u ht
def sub (E' E:List (Nat×Value)):Prop:=∀t v,look E' t=some v→look E t=some v
theorem Fits.sub {E E':List (Nat×Value)} {n:Nat} {tmps:Array Value} (h:Fits E n tmps) (hs:sub E' E):Fits E' n tmps:=⟨h.sz,fun t v e=>h.lk t v (hs t v e)⟩
theorem Bw (E:List (Nat×Value)):sub [] E:=fun _ _ h=>by cases h
theorem Bh {E E':List (Nat×Value)} {k:Nat} {v:Value} (h:look E k=some v) (hs:sub E' E):sub ((k,v)::E') E:=fun t u e=>by
 rw[Cq] at e
 by_cases he:k=t
 · subst he;rw[if_pos rfl] at e;cases e;exact h
 · rw[if_neg he] at e;exact hs t u e
structure Cx where
 P:Program
 b:Frame
 n:Nat
 T:List Frame→Machine→Prop
def Go1 (C:Cx) (k:List Item) (D:List Deferred) (E:List (Nat×Value)) (w:World):Prop:=
 ∀tmps,Fits E C.n tmps→∀cs,∃m,C.T cs m∧Steps C.P (lone (C.b.atR {tmps:=tmps,defers:=D} k) cs w) m
def GoP (C:Cx) (chain:List PanicEntry) (D:List Deferred) (E:List (Nat×Value)) (w:World):Prop:=
 ∀tmps,Fits E C.n tmps→∀k cs,∃m,C.T cs m∧Steps C.P (lone {C.b.atR {tmps:=tmps,defers:=D} k with mode:=.panicking chain} cs w) m
def GoR (C:Cx) (D:List Deferred) (E:List (Nat×Value)) (w:World):Prop:=
 ∀tmps,Fits E C.n tmps→∀k cs,∃m,C.T cs m∧Steps C.P (lone {C.b.atR {tmps:=tmps,defers:=D} k with mode:=.returning} cs w) m
def WF (C:Cx) (S:Nat→Prop) (w0:World) (k:List Item) (D:List Deferred) (E:List (Nat×Value)) (H:List Ent):Prop:=
 ∀w,Inv S w0 H w→Go1 C k D E w
section
variable {C:Cx} {S:Nat→Prop} {w0:World} {k:List Item} {D:List Deferred} {E:List (Nat×Value)} {H:List Ent}
theorem Go1.step {k':List Item} {w w':World} (hs:∀tmps cs,Fits E C.n tmps→step C.P (lone (C.b.atR {tmps:=tmps,defers:=D} k) cs w)=.next (lone (C.b.atR {tmps:=tmps,defers:=D} k') cs w'))
 (h:Go1 C k' D E w'):Go1 C k D E w:=fun tmps hf cs=>
 let ⟨m,ht,hst⟩:=h tmps hf cs
 ⟨m,ht,(Steps.one (hs tmps cs hf)).trans hst⟩
theorem A1 {E':List (Nat×Value)} (hs:sub E' E) (h:WF C S w0 k D E' H):WF C S w0 k D E H:=fun w hi tmps hf cs=>h w hi tmps (hf.sub hs) cs
theorem Inv.subset {H':List Ent} {w:World} (hi:Inv S w0 H w) (hs:H'.Sublist H):Inv S w0 H' w:=
 ⟨hi.fr,(hs.map Ent.b).nodup hi.nd,fun e he=>hi.hb e (hs.subset he),fun e he=>hi.wr e (hs.subset he)⟩
theorem Inv.perm {H':List Ent} {w:World} (hi:Inv S w0 H w) (hs:H.Perm H'):Inv S w0 H' w:=
 ⟨hi.fr,(hs.map Ent.b).nodup_iff.1 hi.nd,fun e he=>hi.hb e (hs.mem_iff.2 he),fun e he=>hi.wr e (hs.mem_iff.2 he)⟩
theorem CU {H':List Ent} (hs:H'.Sublist H) (h:WF C S w0 k D E H'):WF C S w0 k D E H:=fun w hi=>h w (hi.subset hs)
theorem w_perm {H':List Ent} (hs:H.Perm H') (h:WF C S w0 k D E H'):WF C S w0 k D E H:=fun w hi=>h w (hi.perm hs)
theorem An {x y:Code} (h:WF C S w0 (.code x::.code y::k) D E H):WF C S w0 (.code (.seq x y)::k) D E H:=fun w hi=>Go1.step (fun _ _ _=>stepR_seq) (h w hi)
theorem AB (h:WF C S w0 k D E H):WF C S w0 (.code .skip::k) D E H:=fun w hi=>Go1.step (fun _ _ _=>stepR_skip) (h w hi)
theorem w_label {l:Nat} (h:WF C S w0 k D E H):WF C S w0 (.code (.label l)::k) D E H:=fun w hi=>Go1.step (fun _ _ _=>stepR_label) (h w hi)
theorem AH {id:Nat} (h:WF C S w0 k D E H):WF C S w0 (.inBlock id::k) D E H:=fun w hi=>Go1.step (fun _ _ _=>stepR_inBlock) (h w hi)
theorem A6 {id:Nat} {c:Code} (h:WF C S w0 (.code c::.inBlock id::k) D E H):WF C S w0 (.code (.block id c)::k) D E H:=fun w hi=>Go1.step (fun _ _ _=>stepR_block) (h w hi)
theorem w_inLoop {c:Code} (h:WF C S w0 (.code c::.inLoop c::k) D E H):WF C S w0 (.inLoop c::k) D E H:=fun w hi=>Go1.step (fun _ _ _=>stepR_inLoop) (h w hi)
theorem w_loop' {c:Code} (h:WF C S w0 (.code c::.inLoop c::k) D E H):WF C S w0 (.code (.loop c)::k) D E H:=fun w hi=>Go1.step (fun _ _ _=>stepR_loop) (h w hi)
theorem Bl {id:Nat} {k':List Item} (hk:exitTo id k=some k') (h:WF C S w0 k' D E H):WF C S w0 (.code (.exit id)::k) D E H:=fun w hi=>Go1.step (fun _ _ _=>stepR_exit hk) (h w hi)
theorem w_cond {c:Operand} {x y:Code} {t:Bool} (hc:opv E c=some (.bool t)) (ht:t=true→WF C S w0 (.code x::k) D E H) (hf:t=false→WF C S w0 (.code y::k) D E H):
 WF C S w0 (.code (.cond c x y)::k) D E H:=fun w hi=>by
 refine Go1.step (k':=.code (if t then x else y)::k) (fun _ _ hfit=>stepR_cond (hfit.opv D hc)) ?_
 cases t with
 | true=>exact ht rfl w hi
 | false=>exact hf rfl w hi
theorem w_region {id:Nat} {ops:Array Oper} (h:WF C S w0 (.inRegion ops (List.range ops.size)::k) D E H):WF C S w0 (.code (.region id ops false)::k) D E H:=fun w hi=>Go1.step (fun _ _ _=>stepR_region) (h w hi)
theorem w_regEnd {ops:Array Oper} (h:WF C S w0 k D E H):WF C S w0 (.inRegion ops []::k) D E H:=fun w hi=>Go1.step (fun _ _ _=>stepR_region_end) (h w hi)
end
end Go.Sl
namespace Go.Sl
open Go Go.RowKit
def OpV (C:Cx) (S:Nat→Prop) (w0:World) (H:List Ent) (D:List Deferred) (E:List (Nat×Value)) (o:Oper) (v:Value):Prop:=
 ∀tmps w,Fits E C.n tmps→Inv S w0 H w→o.quietAt C.P {tmps:=tmps,defers:=D} (Inv S w0 H) w v
def guardOk (E:List (Nat×Value)) (ops:Array Oper) (o:Oper):Option Bool:=
 match o.guard with
 | none=>some true
 | some (j,want)=>
   match (ops[j]?).bind (·.dst) with
   | some t=>match look E t with
     | some (.bool b)=>some (b == want)
     | some (.tuple _)=>some false
     | _=>none
   | none=>none
theorem BC {E:List (Nat×Value)} {n:Nat} {tmps:Array Value} (hf:Fits E n tmps) {ops:Array Oper} {o:Oper} {t:Bool} (h:guardOk E ops o=some t):
 Region.wanted o (yielded ops tmps)=t:=by
 unfold guardOk at h
 unfold Region.wanted
 cases hg:o.guard with
 | none=>rw[hg] at h;simp at h;rw[←h]
 | some p =>
   obtain⟨j,want⟩:=p
   rw[hg] at h
   simp only at h ⊢
   unfold yielded
   cases hd:(ops[j]?).bind (·.dst) with
   | none=>rw[hd] at h;simp at h
   | some d=>
     rw[hd] at h
     simp only at h
     cases hl:look E d with
     | none=>rw[hl] at h;simp at h
     | some v=>
       rw[hl] at h
       have:=hf.lk d v hl
       cases v<;>simp at h
       · simp[this,←h]
       · simp[this,←h]
def putE (d:Option Nat) (v:Value) (E:List (Nat×Value)):List (Nat×Value):=
 match d with
 | some d=>(d,v)::E
 | none=>E
theorem Fits.putE {E:List (Nat×Value)} {n:Nat} {tmps:Array Value} (h:Fits E n tmps) {d:Option Nat} (hd:∀t,d=some t→t < n) (v:Value) (D:List Deferred):
 Fits (putE d v E) n ((({tmps:=tmps,defers:=D}:Act).put d v)).tmps∧(({tmps:=tmps,defers:=D}:Act).put d v).defers=D:=by
 cases d with
 | none=>exact⟨h,rfl⟩
 | some t=>exact⟨h.put (hd t rfl) v,rfl⟩
theorem Da {a:Act} {D:List Deferred} (h:a.defers=D):a={tmps:=a.tmps,defers:=D}:=by subst h;rfl
def dstOk (d:Option Nat) (n:Nat):Bool:=
 match d with
 | some t=>Nat.blt t n
 | none=>true
theorem CF {d:Option Nat} {n:Nat} (h:dstOk d n=true):∀t,d=some t→t < n:=by
 rintro t rfl
 simpa [dstOk] using h
def WO (C:Cx) (S:Nat→Prop) (w0:World) (ops:Array Oper) (rest:List Oper) (k:List Item) (D:List Deferred) (E:List (Nat×Value)) (H:List Ent):Prop:=
 ∀pre,ops.toList.drop pre=rest→WF C S w0 (.inRegion ops (List.range' pre rest.length)::k) D E H
def Go2 (C:Cx) (ops:Array Oper) (rest:List Oper) (k:List Item) (D:List Deferred) (E:List (Nat×Value)) (w:World):Prop:=
 ∀pre,ops.toList.drop pre=rest→Go1 C (.inRegion ops (List.range' pre rest.length)::k) D E w
section
variable {C:Cx} {S:Nat→Prop} {w0:World} {k:List Item} {D:List Deferred} {E:List (Nat×Value)} {H:List Ent}
theorem w_reg {id:Nat} {ops:Array Oper} (h:WO C S w0 ops ops.toList k D E H):WF C S w0 (.code (.region id ops false)::k) D E H:=by
 refine w_region ?_
 have:=h 0 (by simp)
 rw[Array.length_toList] at this
 rwa [List.range_eq_range']
theorem wo_nil {ops:Array Oper} (h:WF C S w0 k D E H):WO C S w0 ops [] k D E H:=fun _ _=>w_regEnd h
theorem drop_cons {α:Type} {l:List α} {n:Nat} {x:α} {rest:List α} (h:l.drop n=x::rest):l[n]?=some x∧l.drop (n+1)=rest:=by
 constructor
 · have:=congrArg (·[0]?) h
   simpa using this
 · rw[←List.drop_drop,h];rfl
def OpK (C:Cx) (D:List Deferred) (E:List (Nat×Value)) (d:Option Nat) (K:List Deferred→List (Nat×Value)→World→Prop):Result Next→Prop
 | .ok (.value v) w'=>K D (putE d v E) w'
 | .ok .skip w'=>K D (putE d undef E) w'
 | .ok (.defer x) w'=>C.b.roundOf=none∧K (x::D) (putE d undef E) w'
 | .ok (.enter f args) w'=>Calls C.P f args w' fun
  | .returned v,w''=>K D (putE d v E) w''
  | .panicked chain,w''=>GoP C chain D E w''
  | .outgrown,_=>False
 | .halt (.panic v) w'=>GoP C [{v,recovered:=false}] D E w'
 | _=>False
theorem go2_op {ops:Array Oper} {o:Oper} {rest:List Oper} {w:World} (hg:guardOk E ops o=some true) (hd:dstOk o.dst C.n=true)
 (h:∀tmps,Fits E C.n tmps→OpK C D E o.dst (fun D' E' w'=>Go2 C ops rest k D' E' w') ((o.semAt C.b.roundOf ({tmps:=tmps,defers:=D}:Act).eval).run C.P w)):
 Go2 C ops (o::rest) k D E w:=by
 intro pre hpre tmps hf cs
 obtain⟨h0,hrest⟩:=drop_cons hpre
 have ho:ops[pre]?=some o:=by simpa using h0
 have hw:=BC hf hg
 have hr:=h tmps hf
 have hgo:=stepGR_op (P:=C.P) (b:=C.b) (k:=k) (cs:=cs) (w:=w) (a:={tmps:=tmps,defers:=D}) (rest:=List.range' (pre+1) rest.length) ho hw
 have hfin:∀v,(C.b.atR {tmps:=tmps,defers:=D} (.inRegion ops (pre::List.range' (pre+1) rest.length)::k)).finish v=C.b.atR (({tmps:=tmps,defers:=D}:Act).put o.dst v) (.inRegion ops (List.range' (pre+1) rest.length)::k):=by
  intro v;rw[Frame.finish_atR,ho];rfl
 have hlen:List.range' pre (o::rest).length=pre::List.range' (pre+1) rest.length:=by simp[List.range'_succ]
 rw[hlen]
 generalize hR:(o.semAt C.b.roundOf ({tmps:=tmps,defers:=D}:Act).eval).run C.P w=r at hr
 unfold OpK at hr
 have put2:∀v,∃t',Fits (putE o.dst v E) C.n t'∧(({tmps:=tmps,defers:=D}:Act).put o.dst v)={tmps:=t',defers:=D}:=by
  intro v
  obtain⟨f1,f2⟩:=hf.putE (CF hd) v D
  exact⟨_,f1,Da f2⟩
 split at hr
 · rename_i v w'
   obtain⟨t',f1,e1⟩:=put2 v
   obtain⟨m,ht,hs⟩:=hr (pre+1) hrest t' f1 cs
   refine⟨m,ht,(Steps.one (step_lone_go ?_)).trans hs⟩
   rw[hgo,←e1,←hfin];simp[stepG.apply,hR]
 · rename_i w'
   obtain⟨t',f1,e1⟩:=put2 undef
   obtain⟨m,ht,hs⟩:=hr (pre+1) hrest t' f1 cs
   refine⟨m,ht,(Steps.one (step_lone_go ?_)).trans hs⟩
   rw[hgo,←e1,←hfin];simp[stepG.apply,hR]
 · rename_i x w'
   obtain⟨hro,hr⟩:=hr
   obtain⟨f1,f2⟩:=hf.putE (CF hd) undef (x::D)
   obtain⟨m,ht,hs⟩:=hr (pre+1) hrest _ f1 cs
   refine⟨m,ht,(Steps.one (step_lone_go ?_)).trans hs⟩
   have e2:({tmps:=(({tmps:=tmps,defers:=x::D}:Act).put o.dst undef).tmps,defers:=x::D}:Act)=({tmps:=tmps,defers:=x::D}:Act).put o.dst undef:=(Da f2).symm
   have:=Frame.finish_atR C.b {tmps:=tmps,defers:=x::D} ops pre (List.range' (pre+1) rest.length) k undef
   rw[ho] at this
   have this':({C.b.atR {tmps:=tmps,defers:=D} (.inRegion ops (pre::List.range' (pre+1) rest.length)::k) with defers:=x::D}:Frame).finish undef=
    C.b.atR (({tmps:=tmps,defers:=x::D}:Act).put o.dst undef) (.inRegion ops (List.range' (pre+1) rest.length)::k):=this
   rw[hgo,e2,←this']
   simp[stepG.apply,hR,Frame.atR]
 · rename_i f args w'
   obtain⟨e,w'',fr,hR2,hsteps,_,hleave⟩:=hr (C.b.atR {tmps:=tmps,defers:=D} (.inRegion ops (pre::List.range' (pre+1) rest.length)::k)::cs)
   have henter:step C.P (lone (C.b.atR {tmps:=tmps,defers:=D} (.inRegion ops (pre::List.range' (pre+1) rest.length)::k)) cs w)=
    .next (lone (Frame.enter C.P f args .normal) (C.b.atR {tmps:=tmps,defers:=D} (.inRegion ops (pre::List.range' (pre+1) rest.length)::k)::cs) w'):=
    step_lone_go (by rw[hgo];simp[stepG.apply,hR,Frame.atR])
   cases e with
   | returned v=>
     obtain⟨t',f1,e1⟩:=put2 v
     obtain⟨m,ht,hs⟩:=hR2 (pre+1) hrest t' f1 cs
     refine⟨m,ht,(Steps.one henter).trans (Steps.trans hsteps ((Steps.one ?_).trans hs))⟩
     rw[←e1,←hfin];exact step_leave_returned hleave
   | panicked chain=>
     obtain⟨m,ht,hs⟩:=hR2 tmps hf (.inRegion ops (pre::List.range' (pre+1) rest.length)::k) cs
     refine⟨m,ht,(Steps.one henter).trans (Steps.trans hsteps ((Steps.one ?_).trans hs))⟩
     rw[←Frame.raise_atR];exact step_leave_panicked hleave
   | outgrown=>exact hR2.elim
 · rename_i v w'
   obtain⟨m,ht,hs⟩:=hr tmps hf (.inRegion ops (pre::List.range' (pre+1) rest.length)::k) cs
   refine⟨m,ht,(Steps.one (step_lone_go ?_)).trans hs⟩
   rw[hgo,←Frame.raise_atR];simp[stepG.apply,hR]
 · exact hr.elim
theorem go2_skip {ops:Array Oper} {o:Oper} {rest:List Oper} {w:World} (hg:guardOk E ops o=some false) (hd:dstOk o.dst C.n=true)
 (h:Go2 C ops rest k D (putE o.dst undef E) w):Go2 C ops (o::rest) k D E w:=by
 intro pre hpre tmps hf cs
 obtain⟨h0,hrest⟩:=drop_cons hpre
 have ho:ops[pre]?=some o:=by simpa using h0
 have hw:=BC hf hg
 have hlen:List.range' pre (o::rest).length=pre::List.range' (pre+1) rest.length:=by simp[List.range'_succ]
 rw[hlen]
 obtain⟨f1,f2⟩:=hf.putE (CF hd) undef D
 obtain⟨m,ht,hs⟩:=h (pre+1) hrest _ f1 cs
 refine⟨m,ht,(Steps.one ?_).trans hs⟩
 have:=stepR_op_skip (P:=C.P) (b:=C.b) (k:=k) (cs:=cs) (w:=w) (a:={tmps:=tmps,defers:=D}) (ops:=ops) (i:=pre) (rest:=List.range' (pre+1) rest.length) (by simp[ho,hw])
 rw[this,ho]
 simp only[Option.bind_some]
 have e2:({tmps:=(({tmps:=tmps,defers:=D}:Act).put o.dst undef).tmps,defers:=D}:Act)=({tmps:=tmps,defers:=D}:Act).put o.dst undef:=(Da f2).symm
 rw[e2]
theorem wo_go2 {ops:Array Oper} {rest:List Oper} (h:∀w,Inv S w0 H w→Go2 C ops rest k D E w):WO C S w0 ops rest k D E H:=fun pre hpre w hi=>h w hi pre hpre
theorem WO.go2 {ops:Array Oper} {rest:List Oper} (h:WO C S w0 ops rest k D E H) {w:World} (hi:Inv S w0 H w):Go2 C ops rest k D E w:=fun pre hpre=>h pre hpre w hi
theorem De {ops:Array Oper} {o:Oper} {rest:List Oper} (hg:guardOk E ops o=some true) (hd:dstOk o.dst C.n=true)
 (h:∀w,Inv S w0 H w→∀tmps,Fits E C.n tmps→OpK C D E o.dst (fun D' E' w'=>Go2 C ops rest k D' E' w') ((o.semAt C.b.roundOf ({tmps:=tmps,defers:=D}:Act).eval).run C.P w)):
 WO C S w0 ops (o::rest) k D E H:=wo_go2 fun w hi=>go2_op hg hd (h w hi)
theorem wo_skip {ops:Array Oper} {o:Oper} {rest:List Oper} (hg:guardOk E ops o=some false) (hd:dstOk o.dst C.n=true)
 (h:WO C S w0 ops rest k D (putE o.dst undef E) H):WO C S w0 ops (o::rest) k D E H:=wo_go2 fun _ hi=>go2_skip hg hd (h.go2 hi)
theorem BV (ro:Option Nat) (ρ:Operand→Value) (o:Oper) (h:∀c,o.op≠.defer c):o.semAt ro ρ=execOp ρ o:=Oper.semAt_eq ro ρ o h
theorem wo_v {ops:Array Oper} {o:Oper} {rest:List Oper} {v:Value} (hv:OpV C S w0 H D E o v) (hg:guardOk E ops o=some true) (hd:dstOk o.dst C.n=true) (hnd:(match o.op with|.defer _=>false|_=>true)=true)
 (h:WO C S w0 ops rest k D (putE o.dst v E) H):WO C S w0 ops (o::rest) k D E H:=by
 refine De hg hd fun w hi tmps hf=>?_
 have hq:=hv tmps w hf hi
 rw[BV _ _ _ (by intro c hc;rw[hc] at hnd;cases hnd)]
 unfold Oper.quietAt at hq
 generalize (execOp ({tmps:=tmps,defers:=D}:Act).eval o).run C.P w=r at hq ⊢
 unfold Oper.quietUpon at hq
 split at hq
 · obtain⟨rfl,rfl⟩:=hq;exact h.go2 hi
 · obtain⟨rfl,rfl⟩:=hq;exact h.go2 hi
 · obtain ⟨rfl,hc⟩:=hq
   refine hc.mono ?_
   rintro e w'' ⟨rfl,hi'⟩
   exact h.go2 hi'
 · exact hq.elim
end
end Go.Sl
namespace Go.Sl
open Go Go.RowKit
section
variable {C:Cx} {S:Nat→Prop} {w0:World} {k:List Item} {D:List Deferred} {E:List (Nat×Value)} {H:List Ent}
theorem Inv.cell {w:World} {b:Nat} {rw:Bool} {c:Array Value} {el:TypeId} {fz:Nat×Nat} {off:Nat} {v:Value} (hi:Inv S w0 H w) (hm:(⟨b,rw,.cells c el fz⟩:Ent)∈H) (hc:c[off]?=some v):
 w.cell? ⟨b,off,none⟩=some v:=by
 have:=hi.hb _ hm
 simp only at this
 unfold World.cell?
 simp[this,hc]
theorem Inv.frozen {w:World} {b:Nat} {rw:Bool} {c:Array Value} {el:TypeId} {off:Nat} (hi:Inv S w0 H w) (hm:(⟨b,rw,.cells c el (0,0)⟩:Ent)∈H):
 w.frozen? ⟨b,off,none⟩=false:=by
 have:=hi.hb _ hm
 simp only at this
 unfold World.frozen?
 simp[this]
theorem B6 {o:Oper} {v:Value} (h:∀tmps w,Fits E C.n tmps→Inv S w0 H w→(execOp ({tmps:=tmps,defers:=D}:Act).eval o).run C.P w=.ok (.value v) w):OpV C S w0 H D E o v:=fun tmps w hf hi=>by
 unfold Oper.quietAt
 rw[h tmps w hf hi]
 exact⟨rfl,rfl⟩
variable {d:Option Tmp} {t t':TypeId} {p:String} {af:Array Edge} {g:Option (Nat×Bool)} {x y z:Operand} {v u:Value}
theorem Ai (hx:opv E x=some v):OpV C S w0 H D E ⟨d,.move x,t,p,af,g⟩ v:=B6 fun tmps w hf _=>by simp[execOp,hf.opv D hx]
theorem Aq (hx:opv E x=some v):OpV C S w0 H D E ⟨d,.assign x,t,p,af,g⟩ v:=B6 fun tmps w hf _=>by simp[execOp,hf.opv D hx]
def flatD:TypeDesc→Bool
 | .struct _|.array _ _=>false
 | _=>true
theorem run_loadVar1 {P:Program} {w:World} {dd:TypeDesc} {a:Addr} (hu:P.underlying t'=some dd) (hd:flatD dd=true) (hc:w.cell? a=some v):(loadVar t' a).run P w=.ok v w:=by
 unfold loadVar isAgg
 simp[underlying,program,Sem.run,hu,Sem.run_bind]
 cases dd<;>simp_all [flatD]
theorem Ac {dd:TypeDesc} {b off:Nat} {rw:Bool} {c:Array Value} {el:TypeId} {fz:Nat×Nat} (hu:C.P.underlying t'=some dd) (hd:flatD dd=true) (hx:opv E x=some (.pointer (some ⟨b,off,none⟩)))
 (hm:(⟨b,rw,.cells c el fz⟩:Ent)∈H) (hc:c[off]?=some v):OpV C S w0 H D E ⟨d,.load t' x,t,p,af,g⟩ v:=B6 fun tmps w hf hi=>by
 simp[execOp,hf.opv D hx,Instr.loadAt,Instr.sureAddr,run_loadVar1 hu hd (hi.cell hm hc)]
theorem BG {P:Program} {w:World} {b off:Nat} {c:Array Value} (hc:∀j,off≤j→j < off+c.size→w.cell? ⟨b,j,none⟩=c[j - off]?):
 ∀n i (acc:Array Value),i+n≤c.size→(loadCellsFrom ⟨b,off,none⟩ i n acc).run P w=.ok (acc++c.extract i (i+n)) w:=by
 intro n
 induction n with
 | zero=>intro i acc h;simp[loadCellsFrom];omega
 | succ n ih=>
   intro i acc h
   have h1:w.cell? ⟨b,off+i,none⟩=some (c[i]'(by omega)):=by
    rw[hc (off+i) (by omega) (by omega)]
    rw[show off+i - off=i from by omega]
    exact Array.getElem?_eq_getElem (by omega)
   have h2:(⟨b,off,none⟩:Addr).add i=⟨b,off+i,none⟩:=by
    unfold Addr.add;split
    · rename_i e;subst e;rfl
    · rfl
   simp only[loadCellsFrom,Sem.run_bind,h2,run_load,h1,Result.andThen_ok]
   rw[ih (i+1) _ (by omega)]
   congr 1
   apply Array.ext'
   simp only[Array.toList_append,Array.toList_push,Array.toList_extract,List.append_assoc,List.extract_eq_take_drop]
   simp only[List.cons_append,List.nil_append]
   rw[show i+(n+1) - i=n+1 from by omega,show i+1+n - (i+1)=n from by omega]
   have:c.toList.drop i=c[i]'(by omega)::c.toList.drop (i+1):=by
    rw[List.drop_eq_getElem_cons (by simp;omega)];simp
   rw[this,List.take_succ_cons]
theorem run_loadVarA {P:Program} {w:World} {dd:TypeDesc} {ti:TypeInfo} {b off:Nat} {c:Array Value} (hu:P.underlying t'=some dd) (hd:flatD dd=false) (hi:P.info? t'=some ti) (hsz:ti.size=c.size)
 (hc:∀j,off≤j→j < off+c.size→w.cell? ⟨b,j,none⟩=c[j - off]?):(loadVar t' ⟨b,off,none⟩).run P w=.ok (.agg c) w:=by
 unfold loadVar isAgg sizeOf typeInfo
 have h1:=BG (P:=P) (w:=w) hc c.size 0 #[] (by omega)
 simp at h1
 simp[underlying,program,Sem.run,hu,Sem.run_bind,hi]
 cases dd<;>simp_all [flatD,loadCells]
theorem B5 {dd:TypeDesc} {ti:TypeInfo} {b off:Nat} {rw:Bool} {c cs:Array Value} {el:TypeId} {fz:Nat×Nat} (hu:C.P.underlying t'=some dd) (hd:flatD dd=false) (hti:C.P.info? t'=some ti)
 (hx:opv E x=some (.pointer (some ⟨b,off,none⟩))) (hm:(⟨b,rw,.cells c el fz⟩:Ent)∈H) (hsz:ti.size=cs.size) (hle:off+cs.size≤c.size) (hc:∀j,j < cs.size→c[off+j]?=cs[j]?):
 OpV C S w0 H D E ⟨d,.load t' x,t,p,af,g⟩ (.agg cs):=B6 fun tmps w hf hi=>by
 have:=run_loadVarA (P:=C.P) (w:=w) (b:=b) (off:=off) (c:=cs) hu hd hti hsz (fun j h1 h2=>by
  obtain⟨i,rfl⟩:∃i,j=off+i:=⟨j - off,by omega⟩
  have h3:off+i - off=i:=by omega
  rw[h3]
  have h4:=hc i (by omega)
  rw[←h4]
  have:=hi.cell (off:=off+i) (v:=c[off+i]'(by omega)) hm (Array.getElem?_eq_getElem (by omega))
  rw[this,Array.getElem?_eq_getElem (by omega)])
 simp[execOp,hf.opv D hx,Instr.loadAt,Instr.sureAddr,this]
theorem Ah {a:Addr} (hx:opv E x=some (.pointer (some a))):OpV C S w0 H D E ⟨d,.nilCheck x,t,p,af,g⟩ (.pointer (some a)):=B6 fun tmps w hf _=>by simp[execOp,hf.opv D hx]
theorem BP {f:FuncId} {fs cs:Array Value} (hx:opv E x=some (.func (.func f) fs cs)):OpV C S w0 H D E ⟨d,.nilCheck x,t,p,af,g⟩ (.func (.func f) fs cs):=B6 fun tmps w hf _=>by simp[execOp,hf.opv D hx]
theorem BO {f:Nat} {fs cs:Array Value} (hx:opv E x=some (.func (.yield f) fs cs)):OpV C S w0 H D E ⟨d,.nilCheck x,t,p,af,g⟩ (.func (.yield f) fs cs):=B6 fun tmps w hf _=>by simp[execOp,hf.opv D hx]
theorem AX {f:Nat} {y:Value} (hx:opv E x=some (.iface f y)):OpV C S w0 H D E ⟨d,.nilCheck x,t,p,af,g⟩ (.iface f y):=B6 fun tmps w hf _=>by simp[execOp,hf.opv D hx]
def fieldOff (P:Program) (s:TypeId) (f:Nat):Option Nat:=
 match P.underlying s with
 | some (.struct fs)=>match fs[f]? with
   | some fd=>match P.info? fd.type with
     | some i=>if i.size=0 then none else some fd.offset
     | none=>none
   | none=>none
 | _=>none
theorem add_addr (b off n:Nat):(⟨b,off,none⟩:Addr).add n=⟨b,off+n,none⟩:=by
 unfold Addr.add;split
 · rename_i e;subst e;rfl
 · rfl
theorem Ad {s f b off fo:Nat} (hf':fieldOff C.P s f=some fo) (hx:opv E x=some (.pointer (some ⟨b,off,none⟩))):
 OpV C S w0 H D E ⟨d,.fieldAddr s x f,t,p,af,g⟩ (.pointer (some ⟨b,off+fo,none⟩)):=B6 fun tmps w hf _=>by
 unfold fieldOff at hf'
 cases hu:C.P.underlying s with
 | none=>rw[hu] at hf';simp at hf'
 | some dd=>
   rw[hu] at hf'
   cases dd<;>simp at hf'
   rename_i fs
   cases hq:fs[f]? with
   | none=>rw[hq] at hf';simp at hf'
   | some fd=>
     rw[hq] at hf';simp at hf'
     cases hi:C.P.info? fd.type with
     | none=>rw[hi] at hf';simp at hf'
     | some i=>
       rw[hi] at hf';simp at hf'
       obtain⟨h0,h1⟩:=hf'
       simp[execOp,hf.opv D hx,Instr.fieldAt,Instr.sureAddr,underlying,program,Sem.run,hu,hq,fieldPlace,sizeOf,typeInfo,hi,h0,add_addr,h1]
theorem run_part1 {P:Program} {w:World} {dd:TypeDesc} {cs:Array Value} {off:Nat} (hu:P.underlying t'=some dd) (hd:flatD dd=true) (hc:cs[off]?=some v):(part t' cs off).run P w=.ok v w:=by
 unfold part isAgg
 simp[underlying,program,Sem.run,hu,Sem.run_bind]
 cases dd<;>simp_all [flatD]
abbrev str (l:List UInt8):Value:=.string ⟨l.toArray⟩
def bt (l:List UInt8) (i:Int):Int:=((l[i.toNat]?).getD 0).toNat
theorem ov_lenS {dd:TypeId} {l:List UInt8} {aty:Array TypeId} (hx:opv E x=some (str l)) (hu:C.P.underlying dd=some .string) (ha:aty= #[dd]):
 OpV C S w0 H D E ⟨d,.call {callee:=.builtin .len,args:= #[x],argTypes:=aty},t,p,af,g⟩ (.int .i64 l.length):=B6 fun tmps w hf _=>by
 subst ha
 simp[execOp,resolve,invoke,builtin,Builtin.len_,hf.opv D hx,underlying,program,Sem.run,hu,goInt]
 rfl
theorem Ap {dd el:TypeId} {a:Option Addr} {n c:Nat} {aty:Array TypeId} (hx:opv E x=some (.slice a n c)) (hu:C.P.underlying dd=some (.slice el)) (ha:aty= #[dd]):
 OpV C S w0 H D E ⟨d,.call {callee:=.builtin .len,args:= #[x],argTypes:=aty},t,p,af,g⟩ (.int .i64 n):=B6 fun tmps w hf _=>by
 subst ha
 simp[execOp,resolve,invoke,builtin,Builtin.len_,hf.opv D hx,underlying,program,Sem.run,hu,goInt]
theorem ext_list (l:List UInt8) (a b:Nat):(⟨l.toArray⟩:ByteArray).extract a b=⟨((l.take b).drop a).toArray⟩:=by
 apply ByteArray.ext
 simp[ByteArray.data_extract,List.drop_take]
theorem size_list (l:List UInt8):(⟨l.toArray⟩:ByteArray).size=l.length:=by show l.toArray.size=_;simp
theorem ov_bin {op:BinOp} {xt yt:TypeId} (hx:opv E x=some v) (hy:opv E y=some u) {r:Value} (hg:op≠.eql∧op≠.neq) (h:∀w,(binOp op xt v u).run C.P w=.ok r w):OpV C S w0 H D E ⟨d,.binOp op xt x y yt,t,p,af,g⟩ r:=B6 fun tmps w hf _=>by
 have:eqGuard op xt x y v u=pure ():=by
  unfold eqGuard
  cases op<;>simp_all
 simp[execOp,hf.opv D hx,hf.opv D hy,this,h]
theorem ov_binE {op:BinOp} {xt yt:TypeId} (hx:opv E x=some v) (hy:opv E y=some u) {r:Value} (hgd:∀w,(eqGuard op xt x y v u).run C.P w=.ok () w) (h:∀w,(binOp op xt v u).run C.P w=.ok r w):OpV C S w0 H D E ⟨d,.binOp op xt x y yt,t,p,af,g⟩ r:=B6 fun tmps w hf _=>by
 simp[execOp,hf.opv D hx,hf.opv D hy,hgd,h]
variable {a b:Int} {kk k2:IntKind} {xt yt:TypeId}
theorem ov_add (hx:opv E x=some (.int kk a)) (hy:opv E y=some (.int kk b)) {r:Int} (h:kk.wrap (a+b)=r):OpV C S w0 H D E ⟨d,.binOp .add xt x y yt,t,p,af,g⟩ (.int kk r):=
 ov_bin hx hy ⟨by simp,by simp⟩ fun w=>by simp[binOp,Op.intArith,h]
theorem ov_sub (hx:opv E x=some (.int kk a)) (hy:opv E y=some (.int kk b)) {r:Int} (h:kk.wrap (a - b)=r):OpV C S w0 H D E ⟨d,.binOp .sub xt x y yt,t,p,af,g⟩ (.int kk r):=
 ov_bin hx hy ⟨by simp,by simp⟩ fun w=>by simp[binOp,Op.intArith,h]
theorem ov_mul (hx:opv E x=some (.int kk a)) (hy:opv E y=some (.int kk b)) {r:Int} (h:kk.wrap (a*b)=r):OpV C S w0 H D E ⟨d,.binOp .mul xt x y yt,t,p,af,g⟩ (.int kk r):=
 ov_bin hx hy ⟨by simp,by simp⟩ fun w=>by simp[binOp,Op.intArith,h]
theorem ov_quo (hx:opv E x=some (.int kk a)) (hy:opv E y=some (.int kk b)) (h0:b≠0) {r:Int} (h:kk.wrap (a.tdiv b)=r):OpV C S w0 H D E ⟨d,.binOp .quo xt x y yt,t,p,af,g⟩ (.int kk r):=
 ov_bin hx hy ⟨by simp,by simp⟩ fun w=>by simp[binOp,Op.intDiv,h0,h]
theorem ov_rem (hx:opv E x=some (.int kk a)) (hy:opv E y=some (.int kk b)) (h0:b≠0) {r:Int} (h:a.tmod b=r):OpV C S w0 H D E ⟨d,.binOp .rem xt x y yt,t,p,af,g⟩ (.int kk r):=
 ov_bin hx hy ⟨by simp,by simp⟩ fun w=>by simp[binOp,Op.intDiv,h0,h]
theorem ov_lss (hx:opv E x=some (.int kk a)) (hy:opv E y=some (.int kk b)):OpV C S w0 H D E ⟨d,.binOp .lss xt x y yt,t,p,af,g⟩ (.bool (decide (a < b))):=
 ov_bin hx hy ⟨by simp,by simp⟩ fun w=>by simp[binOp,Op.intCmp]
theorem ov_leq (hx:opv E x=some (.int kk a)) (hy:opv E y=some (.int kk b)):OpV C S w0 H D E ⟨d,.binOp .leq xt x y yt,t,p,af,g⟩ (.bool (decide (a≤b))):=
 ov_bin hx hy ⟨by simp,by simp⟩ fun w=>by simp[binOp,Op.intCmp]
theorem ov_gtr (hx:opv E x=some (.int kk a)) (hy:opv E y=some (.int kk b)):OpV C S w0 H D E ⟨d,.binOp .gtr xt x y yt,t,p,af,g⟩ (.bool (decide (b < a))):=
 ov_bin hx hy ⟨by simp,by simp⟩ fun w=>by simp[binOp,Op.intCmp]
theorem ov_geq (hx:opv E x=some (.int kk a)) (hy:opv E y=some (.int kk b)):OpV C S w0 H D E ⟨d,.binOp .geq xt x y yt,t,p,af,g⟩ (.bool (decide (b≤a))):=
 ov_bin hx hy ⟨by simp,by simp⟩ fun w=>by simp[binOp,Op.intCmp]
theorem ov_eql (hx:opv E x=some (.int kk a)) (hy:opv E y=some (.int kk b)):OpV C S w0 H D E ⟨d,.binOp .eql xt x y yt,t,p,af,g⟩ (.bool (decide (a=b))):=
 ov_binE hx hy (fun w=>by simp[eqGuard]) fun w=>by simp[binOp,Op.intCmp];rfl
theorem ov_neq (hx:opv E x=some (.int kk a)) (hy:opv E y=some (.int kk b)):OpV C S w0 H D E ⟨d,.binOp .neq xt x y yt,t,p,af,g⟩ (.bool (!decide (a=b))):=
 ov_binE hx hy (fun w=>by simp[eqGuard]) fun w=>by simp[binOp,Op.intCmp];rfl
theorem ov_shl (hx:opv E x=some (.int kk a)) (hy:opv E y=some (.int k2 b)) (h0:0≤b) {r:Int} (h:kk.wrap (a*2 ^ (min b.toNat kk.bits))=r):OpV C S w0 H D E ⟨d,.binOp .shl xt x y yt,t,p,af,g⟩ (.int kk r):=
 ov_bin hx hy ⟨by simp,by simp⟩ fun w=>by simp[binOp,Op.shift,show ¬b < 0 from by omega,h]
theorem ov_shr (hx:opv E x=some (.int kk a)) (hy:opv E y=some (.int k2 b)) (h0:0≤b) {r:Int} (h:a.fdiv (2 ^ (min b.toNat kk.bits))=r):OpV C S w0 H D E ⟨d,.binOp .shr xt x y yt,t,p,af,g⟩ (.int kk r):=
 ov_bin hx hy ⟨by simp,by simp⟩ fun w=>by simp[binOp,Op.shift,show ¬b < 0 from by omega,h]
theorem ov_or (hx:opv E x=some (.int kk a)) (hy:opv E y=some (.int kk b)) {r:Int} (h:kk.wrap (BitVec.ofInt kk.bits a ||| BitVec.ofInt kk.bits b).toNat=r):OpV C S w0 H D E ⟨d,.binOp .or xt x y yt,t,p,af,g⟩ (.int kk r):=
 ov_bin hx hy ⟨by simp,by simp⟩ fun w=>by simp[binOp,Op.intBits];simpa using h
theorem toList_list (l:List UInt8):(⟨l.toArray⟩:ByteArray).toList=l:=by
 have h:∀(s:ByteArray) (i:Nat) (r:List UInt8),ByteArray.toList.loop s i r=r.reverse++s.data.toList.drop i:=by
  intro s i r
  induction h:s.size - i generalizing i r with
  | zero=>
    rw[ByteArray.toList.loop,if_neg (by omega)]
    rw[List.drop_of_length_le (by show s.data.size≤i;have:s.size=s.data.size:=rfl;omega)];simp
  | succ n ih=>
    have hlt:i < s.size:=by omega
    rw[ByteArray.toList.loop,if_pos hlt,ih (i+1) _ (by omega)]
    rw[List.drop_eq_getElem_cons (l:=s.data.toList) (i:=i) (by simpa using hlt)]
    simp
    show s.data[i]! = _
    exact getElem!_pos s.data i hlt
 unfold ByteArray.toList
 rw[h];simp
theorem ov_eqlS {l m:List UInt8} (hx:opv E x=some (str l)) (hy:opv E y=some (str m)):OpV C S w0 H D E ⟨d,.binOp .eql xt x y yt,t,p,af,g⟩ (.bool (decide (l=m))):=
 ov_binE hx hy (fun w=>by simp[eqGuard]) fun w=>by simp only[binOp,Op.stringOp,toList_list];rw[show(l == m)=decide (l=m) from by rw[Bool.eq_iff_iff];simp];rfl
theorem ov_neqS {l m:List UInt8} (hx:opv E x=some (str l)) (hy:opv E y=some (str m)):OpV C S w0 H D E ⟨d,.binOp .neq xt x y yt,t,p,af,g⟩ (.bool (!decide (l=m))):=
 ov_binE hx hy (fun w=>by simp[eqGuard]) fun w=>by simp only[binOp,Op.stringOp,toList_list];rw[show(l == m)=decide (l=m) from by rw[Bool.eq_iff_iff];simp];rfl
theorem B1 {l m:List UInt8} (hx:opv E x=some (str l)) (hy:opv E y=some (str m)) (h:l.length+m.length≤9223372036854775807):OpV C S w0 H D E ⟨d,.binOp .add xt x y yt,t,p,af,g⟩ (str (l++m)):=
 ov_bin hx hy ⟨by simp,by simp⟩ fun w=>by
  have h1:¬(((⟨l.toArray⟩:ByteArray).size+(⟨m.toArray⟩:ByteArray).size:Nat):Int) > IntKind.i64.max:=by
   rw[size_list,size_list]
   have:IntKind.i64.max=9223372036854775807:=by decide
   omega
  have h2:(⟨l.toArray⟩:ByteArray)++⟨m.toArray⟩=⟨(l++m).toArray⟩:=by
   apply ByteArray.ext;simp
  simp only[binOp,Op.stringOp]
  rw[if_neg h1,h2];rfl
theorem ov_not {l:Bool} (hx:opv E x=some (.bool l)):OpV C S w0 H D E ⟨d,.unOp .not xt x,t,p,af,g⟩ (.bool (!l)):=B6 fun tmps w hf _=>by simp[execOp,hf.opv D hx,Op.unary]
theorem CE {ds:TypeDesc} {k1:IntKind} (hs:C.P.underlying xt=some ds) (hd:C.P.underlying yt=some (.int k1)) (hx:opv E x=some (.int kk a)) {r:Int} (h:k1.wrap a=r):OpV C S w0 H D E ⟨d,.convert xt yt x,t,p,af,g⟩ (.int k1 r):=B6 fun tmps w hf _=>by
 simp[execOp,hf.opv D hx,convert,underlying,program,Sem.run,hs,hd,Conv.intToInt,h]
theorem CD {dd:TypeDesc} (hu:C.P.underlying xt=some dd) (hd:(match dd with|.interface _=>false|_=>true)=true) (hx:opv E x=some v):OpV C S w0 H D E ⟨d,.makeInterface xt x,t,p,af,g⟩ (.iface xt v):=B6 fun tmps w hf _=>by
 cases dd<;>simp_all [execOp,Instr.makeInterface,underlying,program,Sem.run,hf.opv D hx]
def opvs (E:List (Nat×Value)):List Operand→Option (List Value)
 | []=>some []
 | x :: r=>match opv E x,opvs E r with
   | some v,some vs=>some (v::vs)
   | _,_=>none
theorem Fits.opvs {n:Nat} {tmps:Array Value} (h:Fits E n tmps):∀ {xs:List Operand} {vs:List Value},opvs E xs=some vs→xs.map ({tmps:=tmps,defers:=D}:Act).eval=vs
 | [],_,e=>by cases e;rfl
 | x :: r,vs,e=>by
   simp only[Sl.opvs] at e
   cases h1:Sl.opv E x with
   | none=>rw[h1] at e;simp at e
   | some v=>
     cases h2:Sl.opvs E r with
     | none=>rw[h1,h2] at e;simp at e
     | some rs=>
       rw[h1,h2] at e;simp at e
       rw[List.map_cons,h.opv D h1,h.opvs h2,e]
theorem Fits.opvsA {n:Nat} {tmps:Array Value} (h:Fits E n tmps) {xs:Array Operand} {vs:List Value} (e:Sl.opvs E xs.toList=some vs):xs.map ({tmps:=tmps,defers:=D}:Act).eval=vs.toArray:=by
 have:=h.opvs (D:=D) e
 apply Array.ext'
 simpa using this
theorem Bm {f:Fn} {fs cs:Array Operand} {vs us:List Value} (h1:opvs E fs.toList=some vs) (h2:opvs E cs.toList=some us):OpV C S w0 H D E ⟨d,.makeFunc f fs cs,t,p,af,g⟩ (.func f vs.toArray us.toArray):=B6 fun tmps w hf _=>by
 simp[execOp,hf.opvsA h1,hf.opvsA h2,Instr.makeFunc]
theorem Ae {vs:Array Value} {i:Nat} (hx:opv E x=some (.tuple vs)) (h:vs[i]?=some v):OpV C S w0 H D E ⟨d,.extract x i,t,p,af,g⟩ v:=B6 fun tmps w hf _=>by
 simp[execOp,hf.opv D hx,Instr.extract,h]
end
end Go.Sl
namespace Go.Sl
open Go Go.RowKit Go.Shelf Go.Proofs
inductive Upd (b:Nat) (o o':Obj):List Ent→List Ent→Prop
 | head (H:List Ent):Upd b o o' (⟨b,true,o⟩::H) (⟨b,true,o'⟩::H)
 | tail (e:Ent) {H H':List Ent} (h:Upd b o o' H H'):Upd b o o' (e::H) (e::H')
theorem Upd.mem {b:Nat} {o o':Obj} {H H':List Ent} (h:Upd b o o' H H'):(⟨b,true,o⟩:Ent)∈H:=by
 induction h with
 | head=>exact .head _
 | tail e _ ih=>exact .tail _ ih
theorem Upd.keys {b:Nat} {o o':Obj} {H H':List Ent} (h:Upd b o o' H H'):H'.map Ent.b=H.map Ent.b:=by
 induction h with
 | head=>rfl
 | tail e _ ih=>simp[ih]
theorem Upd.old {b:Nat} {o o':Obj} {H H':List Ent} (h:Upd b o o' H H') (hn:(H.map Ent.b).Nodup):∀e∈H',e=⟨b,true,o'⟩∨(e∈H∧e.b≠b):=by
 induction h with
 | head H=>
   intro e he
   cases he with
   | head=>exact .inl rfl
   | tail _ he=>
     refine .inr ⟨.tail _ he,?_⟩
     simp only[List.map_cons,List.nodup_cons,List.mem_map,not_exists,not_and] at hn
     exact hn.1 e he
 | tail e0 hu ih=>
   intro e he
   simp only[List.map_cons,List.nodup_cons,List.mem_map,not_exists,not_and] at hn
   cases he with
   | head=>exact .inr ⟨.head _,fun hb=>hn.1 _ hu.mem hb.symm⟩
   | tail _ he=>
     rcases ih hn.2 e he with h|⟨h1,h2⟩
     · exact .inl h
     · exact .inr ⟨.tail _ h1,h2⟩
inductive Del (b:Nat):List Ent→List Ent→Prop
 | head (o:Obj) (H:List Ent):Del b (⟨b,true,o⟩::H) H
 | tail (e:Ent) {H H':List Ent} (h:Del b H H'):Del b (e::H) (e::H')
theorem Del.sub {b:Nat} {H H':List Ent} (h:Del b H H'):H'.Sublist H:=by
 induction h with
 | head o H=>exact List.sublist_cons_self _ _
 | tail e _ ih=>exact ih.cons_cons e
theorem Del.mem {b:Nat} {H H':List Ent} (h:Del b H H'):∃o,(⟨b,true,o⟩:Ent)∈H:=by
 induction h with
 | head o H=>exact⟨o,.head _⟩
 | tail e _ ih=>obtain⟨o,h⟩:=ih;exact⟨o,.tail _ h⟩
theorem Del.ne {b:Nat} {H H':List Ent} (h:Del b H H') (hn:(H.map Ent.b).Nodup):∀e∈H',e.b≠b:=by
 induction h with
 | head o H=>
   simp only[List.map_cons,List.nodup_cons,List.mem_map,not_exists,not_and] at hn
   exact hn.1
 | tail e0 hd ih=>
   simp only[List.map_cons,List.nodup_cons,List.mem_map,not_exists,not_and] at hn
   intro e he
   cases he with
   | head=>obtain⟨o,hm⟩:=hd.mem;exact fun hb=>hn.1 _ hm hb.symm
   | tail _ he=>exact ih hn.2 e he
theorem Fr.trans {S:Nat→Prop} {a b c:World} (h:Fr S a b) (k:Fr S b c):Fr S a c:=
 ⟨k.os.trans h.os,k.tape.trans h.tape,k.output.trans h.output,Nat.le_trans h.size k.size,fun i hi hS=>(k.block i (Nat.lt_of_lt_of_le hi h.size) hS).trans (h.block i hi hS),fun i c el fz hc=>by
  obtain⟨c1,h1,h2⟩:=h.shp i c el fz hc
  obtain⟨c2,h3,h4⟩:=k.shp i c1 el fz h2
  exact⟨c2,h3.trans h1,h4⟩⟩
theorem Fr.mono {S S':Nat→Prop} {a b:World} (h:Fr S a b) (hs:∀k,S k→S' k):Fr S' a b:=
 ⟨h.os,h.tape,h.output,h.size,fun i hi hS=>h.block i hi fun h1=>hS (hs _ h1),h.shp⟩
abbrev none_:Nat→Prop:=fun _=>False
theorem Inv.start (S:Nat→Prop) (w:World):Inv S w [] w:=⟨Fr.refl S w,List.nodup_nil,fun _ h=>(List.not_mem_nil h).elim,fun _ h=>(List.not_mem_nil h).elim⟩
theorem Inv.own {S:Nat→Prop} {w0 w:World} {H:List Ent} {b:Nat} {o:Obj} (hi:Inv S w0 H w) (h:w.heap[b]?=some o) (hs:S b∨w0.heap.size≤b) (hn:∀e∈H,e.b≠b):Inv S w0 (⟨b,true,o⟩::H) w:=
 ⟨hi.fr,by simp only[List.map_cons,List.nodup_cons,List.mem_map,not_exists,not_and];exact⟨hn,hi.nd⟩,fun e he=>by
  cases he with
  | head=>exact h
  | tail _ he=>exact hi.hb e he,fun e he=>by
  cases he with
  | head=>intro _;exact hs
  | tail _ he=>exact hi.wr e he⟩
theorem Inv.lt {S:Nat→Prop} {w0 w:World} {H:List Ent} (hi:Inv S w0 H w) {e:Ent} (he:e∈H):e.b < w.heap.size:=by
 have:=hi.hb e he
 exact(Array.getElem?_eq_some_iff.1 this).1
theorem Inv.new {S:Nat→Prop} {w0 w:World} {H:List Ent} (hi:Inv S w0 H w) (o:Obj):Inv S w0 (⟨w.heap.size,true,o⟩::H) {w with heap:=w.heap.push o}:=by
 have hold:∀k,k < w.heap.size→(w.heap.push o)[k]?=w.heap[k]?:=fun k hk=>by rw[Array.getElem?_push,if_neg (by omega)]
 refine⟨⟨hi.fr.os,hi.fr.tape,hi.fr.output,by simp;exact Nat.le_succ_of_le hi.fr.size,fun k hk hS=>?_,fun k c el fz hc=>?_⟩,?_,?_,?_⟩
 · show (w.heap.push o)[k]?=_
   rw[hold k (Nat.lt_of_lt_of_le hk hi.fr.size)];exact hi.fr.block k hk hS
 · obtain ⟨c',h1,h2⟩:=hi.fr.shp k c el fz hc
   exact⟨c',h1,by show(w.heap.push o)[k]?=_;rw[hold k (Array.getElem?_eq_some_iff.1 h2).1];exact h2⟩
 · simp only[List.map_cons,List.nodup_cons,List.mem_map,not_exists,not_and]
   exact⟨fun e he h=>by have:=hi.lt he;omega,hi.nd⟩
 · intro e he
   cases he with
   | head=>show(w.heap.push o)[w.heap.size]?=_;simp
   | tail _ he=>show(w.heap.push o)[e.b]?=_;rw[hold _ (hi.lt he)];exact hi.hb e he
 · intro e he h
   cases he with
   | head=>exact .inr hi.fr.size
   | tail _ he=>exact hi.wr e he h
theorem Inv.drew {S:Nat→Prop} {w0 w:World} {H:List Ent} (hi:Inv S w0 H w):Inv S w0 H {w with drawn:=w.drawn+1}:=
 ⟨⟨hi.fr.os,hi.fr.tape,hi.fr.output,hi.fr.size,hi.fr.block,hi.fr.shp⟩,hi.nd,hi.hb,hi.wr⟩
def ShpO (o o':Obj):Prop:=∀c el fz,o=.cells c el fz→∃c':Array Value,c'.size=c.size∧o'=.cells c' el fz
theorem ShpO.cells {c c':Array Value} {el:TypeId} {fz:Nat×Nat} (h:c'.size=c.size):ShpO (.cells c el fz) (.cells c' el fz):=fun _ _ _ e=>by cases e;exact⟨c',h,rfl⟩
def noCells:Obj→Bool
 | .cells _ _ _=>false
 | _=>true
theorem ShpO.not {o o':Obj} (h:noCells o=true):ShpO o o':=fun _ _ _ e=>by subst e;cases h
theorem CW:∀(l:List (Value×Nat)) (c:Array Value),(l.foldl (fun c (p:Value×Nat)=>c.setIfInBounds p.2 p.1) c).size=c.size
 | [],_=>rfl
 | p::l,c=>(CW l _).trans (by simp)
theorem Inv.upd {S:Nat→Prop} {w0 w w':World} {H H':List Ent} {b:Nat} {o o':Obj} (hi:Inv S w0 H w) (hu:Upd b o o' H H') (h1:w'.os=w.os) (h2:w'.tape=w.tape) (h3:w'.output=w.output)
 (h4:w'.heap.size=w.heap.size) (h5:∀k,k≠b→w'.heap[k]?=w.heap[k]?) (h6:w'.heap[b]?=some o') (hsh:b < w0.heap.size→ShpO o o'):Inv S w0 H' w':=by
 have hb:=hi.wr _ hu.mem rfl
 refine⟨⟨h1.trans hi.fr.os,h2.trans hi.fr.tape,h3.trans hi.fr.output,by rw[h4];exact hi.fr.size,fun k hk hS=>?_,fun k c el fz hc=>?_⟩,by rw[hu.keys];exact hi.nd,?_,?_⟩
 · rw[h5 k (by rintro rfl;rcases hb with h|h;exact hS h;simp only at h;omega)];exact hi.fr.block k hk hS
 · obtain ⟨c1,h7,h8⟩:=hi.fr.shp k c el fz hc
   by_cases hkb:k=b
   · subst hkb
     have h9:=hi.hb _ hu.mem
     simp only at h9
     rw[h8] at h9
     cases h9
     obtain⟨c2,h10,h11⟩:=hsh (Array.getElem?_eq_some_iff.1 hc).1 _ _ _ rfl
     exact⟨c2,h10.trans h7,by rw[h6,h11]⟩
   · exact⟨c1,h7,by rw[h5 k hkb];exact h8⟩
 · intro e he
   rcases hu.old hi.nd e he with rfl|⟨h,hne⟩
   · exact h6
   · rw[h5 _ hne];exact hi.hb e h
 · intro e he hr
   rcases hu.old hi.nd e he with rfl|⟨h,hne⟩
   · exact hb
   · exact hi.wr e h hr
theorem Inv.call {S S':Nat→Prop} {w0 w w':World} {H Hr Hn:List Ent} (hi:Inv S w0 H w) (hn:Inv S' w Hn w') (hrw:∀e∈Hn,e.rw=true) (hS:∀k,S' k→S k∨w0.heap.size≤k)
 (hsub:Hr.Sublist H) (hne:∀e∈Hr,¬S' e.b):Inv S w0 (Hn++Hr) w':=by
 have hi':=hi.subset hsub
 refine⟨⟨hn.fr.os.trans hi.fr.os,hn.fr.tape.trans hi.fr.tape,hn.fr.output.trans hi.fr.output,Nat.le_trans hi.fr.size hn.fr.size,fun k hk hk2=>?_,fun k c el fz hc=>?_⟩,?_,?_,?_⟩
 · rw[hn.fr.block k (Nat.lt_of_lt_of_le hk hi.fr.size) (fun h=>by rcases hS k h with h|h;exact hk2 h;omega)];exact hi.fr.block k hk hk2
 · obtain ⟨c1,h1,h2⟩:=hi.fr.shp k c el fz hc
   obtain⟨c2,h3,h4⟩:=hn.fr.shp k c1 el fz h2
   exact⟨c2,h3.trans h1,h4⟩
 · rw [List.map_append,List.nodup_append]
   refine⟨hn.nd,hi'.nd,?_⟩
   intro a ha b hb
   obtain⟨e,he,rfl⟩:=List.mem_map.1 ha
   obtain⟨f,hf,rfl⟩:=List.mem_map.1 hb
   intro heq
   rcases hn.wr e he (hrw e he) with h|h
   · exact hne f hf (heq▸h)
   · have:=hi'.lt hf;omega
 · intro e he
   rcases List.mem_append.1 he with h|h
   · exact hn.hb e h
   · rw[hn.fr.block _ (hi'.lt h) (hne e h)];exact hi'.hb e h
 · intro e he hr
   rcases List.mem_append.1 he with h|h
   · rcases hn.wr e h (hrw e h) with h|h
     · exact hS _ h
     · exact .inr (Nat.le_trans hi.fr.size h)
   · exact hi'.wr e h hr
theorem Inv.quiet {S:Nat→Prop} {w0 w w':World} {H:List Ent} (hi:Inv S w0 H w) (h:Fr none_ w w'):Inv S w0 H w':=by
 have:=Inv.call (Hn:=[]) hi (S':=none_) ⟨h,List.nodup_nil,fun _ h=>(List.not_mem_nil h).elim,fun _ h=>(List.not_mem_nil h).elim⟩ (fun _ h=>(List.not_mem_nil h).elim) (fun _ h=>h.elim) (List.Sublist.refl H) (fun _ _ h=>h)
 simpa using this
section
variable {C:Cx} {S:Nat→Prop} {w0:World} {k:List Item} {D:List Deferred} {E:List (Nat×Value)} {H H':List Ent}
variable {d:Option Tmp} {t t':TypeId} {p:String} {af:Array Edge} {g:Option (Nat×Bool)} {x y z:Operand} {v u:Value} {ops:Array Oper} {rest:List Oper}
theorem nd_of {o:Oper} (h:(match o.op with|.defer _=>false|_=>true)=true):∀c,o.op≠.defer c:=by
 intro c hc;rw[hc] at h;cases h
theorem notfz {S:Nat→Prop} {w:World} {b off:Nat} {rw:Bool} {c:Array Value} {el:TypeId} {lo hi':Nat} (hi:Inv S w0 H w) (hm:(⟨b,rw,.cells c el (lo,hi')⟩:Ent)∈H) (hf:off < lo∨hi'≤off):w.frozen? ⟨b,off,none⟩=false:=by
 have:=hi.hb _ hm
 simp only at this
 unfold World.frozen?
 simp only[this]
 simp;omega
theorem AK {b off lo hi':Nat} {c:Array Value} {el:TypeId} (hx:opv E x=some (.pointer (some ⟨b,off,none⟩))) (hy:opv E y=some v) (hv:(match v with|.agg _|.tuple _=>false|_=>true)=true)
 (hs:(C.P.info? t').map (·.size)=some 1) (hu:Upd b (.cells c el (lo,hi')) (.cells (c.setIfInBounds off v) el (lo,hi')) H H') (hlt:off < c.size) (hf:off < lo∨hi'≤off)
 (hg:guardOk E ops ⟨d,.store t' x y,t,p,af,g⟩=some true) (hd:dstOk d C.n=true) (h:WO C S w0 ops rest k D (putE d undef E) H'):WO C S w0 ops (⟨d,.store t' x y,t,p,af,g⟩::rest) k D E H:=by
 refine De hg hd fun w hi tmps hft=>?_
 rw[BV _ _ _ (nd_of rfl)]
 have hc:w.cell? ⟨b,off,none⟩=some (c[off]'hlt):=hi.cell hu.mem (Array.getElem?_eq_getElem hlt)
 have hfz:=notfz (S:=S) hi hu.mem hf
 have hvc:v.cells= #[v]:=by cases v<;>simp_all [Value.cells]
 cases hti:C.P.info? t' with
 | none=>rw[hti] at hs;simp at hs
 | some ti=>
   rw[hti] at hs;simp at hs
   have hrun:(execOp ({tmps:=tmps,defers:=D}:Act).eval (⟨d,.store t' x y,t,p,af,g⟩:Oper)).run C.P w=.ok .skip (w.setCell ⟨b,off,none⟩ v):=by
    have e2:(⟨b,off,none⟩:Addr).add 0=⟨b,off,none⟩:=rfl
    have hst:(store ⟨b,off,none⟩ v).run C.P w=.ok () (w.setCell ⟨b,off,none⟩ v):=by
     cases v<;>simp_all [store,Sem.run]
    simp[execOp,hft.opv D hx,hft.opv D hy,Instr.storeAt,Instr.sureAddr,storeVar,sizeOf,typeInfo,program,Sem.run,hti,hs,hvc,storeCells,e2,hst]
   rw[hrun]
   refine h.go2 (hi.upd hu rfl rfl rfl (by simp[World.setCell]) (fun j hj=>?_) ?_ (fun _=>.cells (by simp)))
   · simp only[World.setCell,Array.getElem?_modify];rw[if_neg (by omega)]
   · have hb:=hi.hb _ hu.mem
     simp only at hb
     simp only[World.setCell,Array.getElem?_modify,if_true,hb]
     simp
theorem AT {b:Nat} {c0:Value} {el:TypeId} (hx:opv E x=some (.pointer (some ⟨b,0,none⟩))) (hy:opv E y=some v) (hv:(match v with|.agg _|.tuple _=>false|_=>true)=true)
 (hs:(C.P.info? t').map (·.size)=some 1) (hu:Upd b (.cells #[c0] el (0,0)) (.cells #[v] el (0,0)) H H')
 (hg:guardOk E ops ⟨d,.store t' x y,t,p,af,g⟩=some true) (hd:dstOk d C.n=true) (h:WO C S w0 ops rest k D (putE d undef E) H'):WO C S w0 ops (⟨d,.store t' x y,t,p,af,g⟩::rest) k D E H:=
 AK (c:= #[c0]) hx hy hv hs (by exact hu) (by simp) (.inr (by simp)) hg hd h
theorem CK {P:Program} (b:Nat):∀(vs:List Value) (off i:Nat) (w:World),(∀v∈vs,(match v with|.agg _|.tuple _=>false|_=>true)=true) →
 (∀j,j < vs.length→(w.cell? ⟨b,off+i+j,none⟩).isSome∧w.frozen? ⟨b,off+i+j,none⟩=false) →
 ∃ w',(storeCells ⟨b,off,none⟩ vs i).run P w=.ok () w'∧w'.os=w.os∧w'.tape=w.tape∧w'.output=w.output∧w'.heap.size=w.heap.size∧(∀q,q≠b→w'.heap[q]?=w.heap[q]?) ∧
  ∀c el fz,w.heap[b]?=some (.cells c el fz)→w'.heap[b]?=some (.cells ((vs.zipIdx (off+i)).foldl (fun c (p:Value×Nat)=>c.setIfInBounds p.2 p.1) c) el fz)
 | [],off,i,w,_,_=>⟨w,rfl,rfl,rfl,rfl,rfl,fun _ _=>rfl,fun c el fz h=>by simpa using h⟩
 | v :: vs,off,i,w,hv,hc=>by
   obtain⟨h1,h2⟩:=hc 0 (by simp)
   obtain⟨c0,hc0⟩:=Option.isSome_iff_exists.1 h1
   simp only[Nat.add_zero] at hc0 h2
   have hst:(store ⟨b,off+i,none⟩ v).run P w=.ok () (w.setCell ⟨b,off+i,none⟩ v):=by
    have hv1:=hv v (.head _)
    cases v<;>simp_all [store,Sem.run]
   obtain ⟨w',g1,g2,g3,g4,g5,g6,g7⟩:=CK (P:=P) b vs off (i+1) (w.setCell ⟨b,off+i,none⟩ v) (fun u hu=>hv u (.tail _ hu)) (fun j hj=>by
    obtain⟨k1,k2⟩:=hc (j+1) (by simp;omega)
    have e:off+(i+1)+j=off+i+(j+1):=by omega
    rw[e]
    constructor
    · unfold World.cell? at k1 ⊢
      simp only[World.setCell,Array.getElem?_modify,if_true]
      cases hb:w.heap[b]? with
      | none=>simp[hb] at k1
      | some o=>
        cases o<;>simp_all
    · unfold World.frozen? at k2 ⊢
      simp only[World.setCell,Array.getElem?_modify,if_true]
      cases hb:w.heap[b]? with
      | none=>simp
      | some o=>
        cases o<;>simp_all)
   refine⟨w',?_,g2,g3,g4,g5.trans (by simp[World.setCell]),fun q hq=>(g6 q hq).trans ?_,fun c el fz hb=>?_⟩
   · simp only[storeCells,Sem.run_bind,add_addr,hst,Result.andThen_ok]
     exact g1
   · simp only[World.setCell,Array.getElem?_modify];rw[if_neg (by omega)]
   · have:=g7 (c.setIfInBounds (off+i) v) el fz (by simp[World.setCell,Array.getElem?_modify,hb])
     rw[this]
     simp[List.zipIdx_cons]
     rfl
theorem wo_storeA {b off lo hi':Nat} {c cs c':Array Value} {el:TypeId} (hx:opv E x=some (.pointer (some ⟨b,off,none⟩))) (hy:opv E y=some (.agg cs)) (hv:∀v∈cs.toList,(match v with|.agg _|.tuple _=>false|_=>true)=true)
 (hs:(C.P.info? t').map (·.size)=some cs.size) (hc':(cs.toList.zipIdx off).foldl (fun c (p:Value×Nat)=>c.setIfInBounds p.2 p.1) c=c') (hu:Upd b (.cells c el (lo,hi')) (.cells c' el (lo,hi')) H H') (hlt:off+cs.size≤c.size) (hf:off+cs.size≤lo∨hi'≤off)
 (hg:guardOk E ops ⟨d,.store t' x y,t,p,af,g⟩=some true) (hd:dstOk d C.n=true) (h:WO C S w0 ops rest k D (putE d undef E) H'):WO C S w0 ops (⟨d,.store t' x y,t,p,af,g⟩::rest) k D E H:=by
 refine De hg hd fun w hi tmps hft=>?_
 rw[BV _ _ _ (nd_of rfl)]
 obtain ⟨w',g1,g2,g3,g4,g5,g6,g7⟩:=CK (P:=C.P) b cs.toList off 0 w hv (fun j hj=>by
  have hj':j < cs.size:=by simpa using hj
  refine⟨?_,notfz (S:=S) hi hu.mem (by omega)⟩
  rw[hi.cell (off:=off+0+j) hu.mem (Array.getElem?_eq_getElem (by omega))];rfl)
 cases hti:C.P.info? t' with
 | none=>rw[hti] at hs;simp at hs
 | some ti=>
   rw[hti] at hs;simp at hs
   have hrun:(execOp ({tmps:=tmps,defers:=D}:Act).eval (⟨d,.store t' x y,t,p,af,g⟩:Oper)).run C.P w=.ok .skip w':=by
    simp[execOp,hft.opv D hx,hft.opv D hy,Instr.storeAt,Instr.sureAddr,storeVar,sizeOf,typeInfo,program,Sem.run,hti,hs,Value.cells,g1]
   rw[hrun]
   refine h.go2 (hi.upd hu g2 g3 g4 g5 g6 ?_ (fun _=>.cells (by rw[←hc',CW])))
   rw[g7 c el (lo,hi') (hi.hb _ hu.mem),←hc']
   simp
theorem A8 {ti:TypeInfo} {zv:Value} {cs:Array Value} (hi:C.P.info? t'=some ti) (hz:ti.zero=some zv) (hcs:zv.cells=cs) (hg:guardOk E ops ⟨d,.alloc t',t,p,af,g⟩=some true) (hd:dstOk d C.n=true)
 (h:∀b,w0.heap.size≤b→WO C S w0 ops rest k D (putE d (.pointer (some ⟨b,0,none⟩)) E) (⟨b,true,.cells cs t' (0,0)⟩::H)):WO C S w0 ops (⟨d,.alloc t',t,p,af,g⟩::rest) k D E H:=by
 refine De hg hd fun w hiv tmps hft=>?_
 rw[BV _ _ _ (nd_of rfl)]
 have hrun:(execOp ({tmps:=tmps,defers:=D}:Act).eval (⟨d,.alloc t',t,p,af,g⟩:Oper)).run C.P w=.ok (.value (.pointer (some ⟨w.heap.size,0,none⟩))) {w with heap:=w.heap.push (.cells cs t' (0,0))}:=by
  simp[execOp,Instr.alloc,zeroValue,typeInfo,program,Sem.run,hi,hz,newVar,newRow,hcs]
 rw[hrun]
 exact(h _ hiv.fr.size).go2 (hiv.new _)
theorem AL {cs:Array Value} (hx:opv E x=some v) (hcs:v.cells=cs) (hg:guardOk E ops ⟨d,.box t' x,t,p,af,g⟩=some true) (hd:dstOk d C.n=true)
 (h:∀b,w0.heap.size≤b→WO C S w0 ops rest k D (putE d (.pointer (some ⟨b,0,none⟩)) E) (⟨b,true,.cells cs t' (0,0)⟩::H)):WO C S w0 ops (⟨d,.box t' x,t,p,af,g⟩::rest) k D E H:=by
 refine De hg hd fun w hiv tmps hft=>?_
 rw[BV _ _ _ (nd_of rfl)]
 have hrun:(execOp ({tmps:=tmps,defers:=D}:Act).eval (⟨d,.box t' x,t,p,af,g⟩:Oper)).run C.P w=.ok (.value (.pointer (some ⟨w.heap.size,0,none⟩))) {w with heap:=w.heap.push (.cells cs t' (0,0))}:=by
  simp[execOp,hft.opv D hx,Instr.box,newVar,newRow,hcs]
 rw[hrun]
 exact(h _ hiv.fr.size).go2 (hiv.new _)
def callTo (E:List (Nat×Value)) (c:Call):Option (FuncId×List Value):=
 match c.callee with
 | .value f=>match opv E f,opvs E c.args.toList with
   | some (.func (.func f) first captured),some vs=>some (f,first.toList++vs++captured.toList)
   | _,_=>none
 | _=>none
theorem run_call {tmps:Array Value} {c:Call} {f:FuncId} {vs:List Value} {w:World} (hft:Fits E C.n tmps) (hc:callTo E c=some (f,vs)) (he:Enters C.P f):
 (execOp ({tmps:=tmps,defers:=D}:Act).eval (⟨d,.call c,t,p,af,g⟩:Oper)).run C.P w=.ok (.enter f vs.toArray) w:=by
 unfold callTo at hc
 split at hc
 · rename_i fo hfo
   split at hc
   · rename_i f' fs cs us h1 h2
     simp at hc
     obtain⟨rfl,rfl⟩:=hc
     have h3:=hft.opvsA (D:=D) h2
     simp[execOp,resolve,hfo,hft.opv D h1,Deferred.ofValue,h3,invoke]
     have:=he (fs++us.toArray++cs) w
     have e2:fs++us.toArray++cs=(fs.toList++(us++cs.toList)).toArray:=by apply Array.ext';simp
     rw[e2] at this
     have e3:fs++(us.toArray++cs)=(fs.toList++(us++cs.toList)).toArray:=by apply Array.ext';simp
     first
      | exact this
      | (rw[e3];exact this)
      | (rw[e2];exact this)
   · cases hc
 · cases hc
theorem wo_call {c:Call} {f:FuncId} {vs:List Value} {R:World→Ending→World→Prop} (hc:callTo E c=some (f,vs)) (he:Enters C.P f) (hg:guardOk E ops ⟨d,.call c,t,p,af,g⟩=some true) (hd:dstOk d C.n=true)
 (h:∀w,Inv S w0 H w→Calls C.P f vs.toArray w (R w))
 (hk : ∀w e w',Inv S w0 H w→R w e w'→match e with
  | .returned v=>Go2 C ops rest k D (putE d v E) w'
  | .panicked chain=>GoP C chain D E w'
  | .outgrown=>False):WO C S w0 ops (⟨d,.call c,t,p,af,g⟩::rest) k D E H:=by
 refine De hg hd fun w hiv tmps hft=>?_
 rw[BV _ _ _ (nd_of rfl),run_call hft hc he]
 refine(h w hiv).mono fun e w' hR=>?_
 have:=hk w e w' hiv hR
 cases e<;>exact this
def TCall (P:Program) (f:FuncId) (R:Ending→World→Prop):List Frame→Machine→Prop:=fun cs m=>
 ∃e w' fr,R e w'∧e≠.outgrown∧m=lone fr cs w'∧fr.fn=f∧fr.leaving P w' e
def cxOf (P:Program) (f:FuncId) (fn:Func) (R:Ending→World→Prop):Cx:={P:=P,b:={(default:Frame) with fn:=f,kind:=.normal},n:=fn.ntmps,T:=TCall P f R}
def args0:Nat→List Value→List (Nat×Value)
 | _,[]=>[]
 | i,v::vs=>(i,v)::args0 (i+1) vs
theorem look_args0:∀(i:Nat) (vs:List Value) (t:Nat) (v:Value),look (args0 i vs) t=some v→i≤t∧vs[t - i]?=some v
 | i,[],t,v,h=>by cases h
 | i, u :: vs,t,v,h=>by
   simp only[args0] at h
   rw[Cq] at h
   by_cases e:i=t
   · subst e;rw[if_pos rfl] at h;cases h;simp
   · rw [if_neg e] at h
     obtain⟨h1,h2⟩:=look_args0 (i+1) vs t v h
     refine⟨by omega,?_⟩
     rw[show t - i=(t - (i+1))+1 from by omega];simpa using h2
variable {P:Program} {f:FuncId} {fn:Func} {R:Ending→World→Prop}
def resv (E:List (Nat×Value)):List ResultVar→Option (List Value)
 | []=>some []
 | .tmp t::r=>match look E t,resv E r with
   | some v,some vs=>some (v::vs)
   | _,_=>none
 | _::_=>none
def tup (vs:List Value):Value:=
 match vs with
 | [v]=>v
 | vs=>.tuple vs.toArray
theorem run_results {tmps:Array Value} {vs:List Value} {w:World} {n:Nat} (hft:Fits E n tmps) (h:resv E fn.results.toList=some vs):(results fn tmps).run P w=.ok (tup vs) w:=by
 have hm : ∀ (g:ResultVar→Sem Value) (_:∀t,g (.tmp t)=pure (tmps.getD t undef)) (rs:List ResultVar) (vs:List Value),resv E rs=some vs→rs.mapM g=pure vs:=by
  intro g hg rs
  induction rs with
  | nil=>intro vs h;cases h;rfl
  | cons r rs ih=>
    intro vs h
    cases r with
    | cell a t=>simp[resv] at h
    | tmp t =>
      simp only[resv] at h
      cases h1:look E t with
      | none=>rw[h1] at h;simp at h
      | some v=>
        cases h2:resv E rs with
        | none=>rw[h1,h2] at h;simp at h
        | some us=>
          rw[h1,h2] at h;simp at h;subst h
          have h3:=hft.lk t v h1
          simp only[List.mapM_cons,ih us h2,hg,pure_bind]
          rw[Array.getD_eq_getD_getElem?,h3];rfl
 unfold results
 rw[Array.mapM_eq_mapM_toList,hm _ (fun _=>rfl) _ _ h]
 simp only[map_pure,pure_bind,Sem.run_pure,tup]
 split
 · rename_i hsz
   cases vs with
   | nil=>simp at hsz
   | cons v r=>
     cases r with
     | nil=>rfl
     | cons _ _=>simp at hsz
 · rename_i hsz
   cases vs with
   | nil=>rfl
   | cons v r=>
     cases r with
     | nil=>simp at hsz
     | cons _ _=>rfl
theorem goR_ret {w:World} (hf:P.funcs[f]?=some fn) (hr:∀tmps,Fits E fn.ntmps tmps→(results fn tmps).run P w=.ok v w) (hR:R (.returned v) w):GoR (cxOf P f fn R) [] E w:=
 fun tmps hft k cs=>⟨_,⟨.returned v,w,_,hR,by simp,rfl,rfl,⟨rfl,rfl,rfl,fn,hf,hr tmps hft⟩⟩,Steps.refl _ _⟩
theorem w_retR (hro:C.b.roundOf=none) (h:∀w,Inv S w0 H w→GoR C D E w):WF C S w0 (.code .ret::k) D E H:=fun w hi tmps hft cs=>
 let ⟨m,ht,hs⟩:=h w hi tmps hft (.code .ret::k) cs
 ⟨m,ht,(Steps.one (stepR_ret hro)).trans hs⟩
theorem w_endR (hro:C.b.roundOf=none) (h:∀w,Inv S w0 H w→GoR C D E w):WF C S w0 [] D E H:=fun w hi tmps hft cs=>
 let ⟨m,ht,hs⟩:=h w hi tmps hft [] cs
 ⟨m,ht,(Steps.one (stepR_end hro)).trans hs⟩
theorem AM {vs:List Value} (hf:P.funcs[f]?=some fn) (hr:resv E fn.results.toList=some vs) (hR:∀w,Inv S w0 H w→R (.returned (tup vs)) w):WF (cxOf P f fn R) S w0 (.code .ret::k) [] E H:=
 w_retR rfl fun w hi=>goR_ret hf (fun _ hft=>run_results hft hr) (hR w hi)
theorem Bp {vs:List Value} (hf:P.funcs[f]?=some fn) (hr:resv E fn.results.toList=some vs) (hR:∀w,Inv S w0 H w→R (.returned (tup vs)) w):WF (cxOf P f fn R) S w0 [] [] E H:=
 w_endR rfl fun w hi=>goR_ret hf (fun _ hft=>run_results hft hr) (hR w hi)
theorem goP_leave {chain:List PanicEntry} {w:World} (hf:P.funcs[f]?=some fn) (hR:R (.panicked chain) w):GoP (cxOf P f fn R) chain [] E w:=fun tmps hft k cs=>
 ⟨_,⟨.panicked chain,w,_,hR,by simp,rfl,rfl,⟨rfl,rfl,fn,hf⟩⟩,Steps.refl _ _⟩
theorem Bb {α:Type} (I:α→Prop) (μ:α→Nat) (EE:α→List (Nat×Value)) (HH:α→List Ent) {c:Code}
 (body:∀a,I a→(∀a',I a'→μ a' < μ a→WF C S w0 (.inLoop c::k) D (EE a') (HH a'))→WF C S w0 (.code c::.inLoop c::k) D (EE a) (HH a)):
 ∀a,I a→WF C S w0 (.code (.loop c)::k) D (EE a) (HH a):=by
 have:∀n a,μ a≤n→I a→WF C S w0 (.code c::.inLoop c::k) D (EE a) (HH a):=by
  intro n
  induction n with
  | zero=>intro a hn ha;exact body a ha fun a' _ h=>absurd h (by omega)
  | succ n ih=>intro a hn ha;exact body a ha fun a' ha' h=>w_inLoop (ih a' (by omega) ha')
 exact fun a ha=>w_loop' (this _ a (Nat.le_refl _) ha)
end
end Go.Sl
namespace Go.Sl
open Go Go.RowKit Go.Proofs
section
variable {C:Cx} {S:Nat→Prop} {w0:World} {k:List Item} {D:List Deferred} {E:List (Nat×Value)} {H:List Ent} {d:Option Tmp} {t t':TypeId} {p:String} {af:Array Edge} {g:Option (Nat×Bool)} {x y z:Operand} {v u:Value} {ops:Array Oper} {rest:List Oper} {a b:Int} {kk k2:IntKind} {xt yt:TypeId}
theorem C1 {n:Int} (h1: -9223372036854775808≤n) (h2:n≤9223372036854775807):IntKind.i64.wrap n=n:=by
 have hb:(2:Int) ^ IntKind.i64.bits=18446744073709551616:=by decide
 have hs:IntKind.i64.signed=true:=rfl
 have hc:(2:Int) ^ (IntKind.i64.bits - 1)=9223372036854775808:=by decide
 simp only[IntKind.wrap,hb,hc,hs]
 simp only[Bool.true_and,Bool.false_and,decide_eq_true_eq,Bool.false_eq_true,if_false]
 omega
theorem AD (hx:opv E x=some (.int .i64 a)) (hy:opv E y=some (.int .i64 b)) (h1: -9223372036854775808≤a+b) (h2:a+b≤9223372036854775807):OpV C S w0 H D E ⟨d,.binOp .add xt x y yt,t,p,af,g⟩ (.int .i64 (a+b)):=ov_add hx hy (C1 h1 h2)
theorem Ca (hx:opv E x=some (.int .i64 a)) (hy:opv E y=some (.int .i64 b)) (h1: -9223372036854775808≤a - b) (h2:a - b≤9223372036854775807):OpV C S w0 H D E ⟨d,.binOp .sub xt x y yt,t,p,af,g⟩ (.int .i64 (a - b)):=ov_sub hx hy (C1 h1 h2)
theorem ov_mul_i64 (hx:opv E x=some (.int .i64 a)) (hy:opv E y=some (.int .i64 b)) (h1: -9223372036854775808≤a*b) (h2:a*b≤9223372036854775807):OpV C S w0 H D E ⟨d,.binOp .mul xt x y yt,t,p,af,g⟩ (.int .i64 (a*b)):=ov_mul hx hy (C1 h1 h2)
theorem C8 {ds:TypeDesc} (hs:C.P.underlying xt=some ds) (hd:C.P.underlying yt=some (.int .i64)) (hx:opv E x=some (.int kk a)) (h1: -9223372036854775808≤a) (h2:a≤9223372036854775807):OpV C S w0 H D E ⟨d,.convert xt yt x,t,p,af,g⟩ (.int .i64 a):=CE hs hd hx (C1 h1 h2)
theorem wrap_u8_in {n:Int} (h1:0≤n) (h2:n≤255):IntKind.u8.wrap n=n:=by
 have hb:(2:Int) ^ IntKind.u8.bits=256:=by decide
 have hs:IntKind.u8.signed=false:=rfl
 have hc:(2:Int) ^ (IntKind.u8.bits - 1)=128:=by decide
 simp only[IntKind.wrap,hb,hc,hs]
 simp only[Bool.true_and,Bool.false_and,decide_eq_true_eq,Bool.false_eq_true,if_false]
 omega
theorem ov_conv_u8 {ds:TypeDesc} (hs:C.P.underlying xt=some ds) (hd:C.P.underlying yt=some (.int .u8)) (hx:opv E x=some (.int kk a)) (h1:0≤a) (h2:a≤255):OpV C S w0 H D E ⟨d,.convert xt yt x,t,p,af,g⟩ (.int .u8 a):=CE hs hd hx (wrap_u8_in h1 h2)
theorem wrap_u32_in {n:Int} (h1:0≤n) (h2:n≤4294967295):IntKind.u32.wrap n=n:=by
 have hb:(2:Int) ^ IntKind.u32.bits=4294967296:=by decide
 have hs:IntKind.u32.signed=false:=rfl
 have hc:(2:Int) ^ (IntKind.u32.bits - 1)=2147483648:=by decide
 simp only[IntKind.wrap,hb,hc,hs]
 simp only[Bool.true_and,Bool.false_and,decide_eq_true_eq,Bool.false_eq_true,if_false]
 omega
theorem Av (hc:opv E x=some (.bool true)) (hx:opv E y=some v):OpV C S w0 H D E ⟨d,.pick x y z,t,p,af,g⟩ v:=B6 fun tmps w hf _=>by
 simp[execOp,hf.opv D hc,hf.opv D hx,asBool]
theorem A0 (hc:opv E x=some (.bool false)) (hy:opv E z=some v):OpV C S w0 H D E ⟨d,.pick x y z,t,p,af,g⟩ v:=B6 fun tmps w hf _=>by
 simp[execOp,hf.opv D hc,hf.opv D hy,asBool]
theorem BN (hx:opv E x=some (.bool true)):OpV C S w0 H D E ⟨d,.unOp .not xt x,t,p,af,g⟩ (.bool false):=ov_not hx
theorem Ci (hx:opv E x=some (.bool false)):OpV C S w0 H D E ⟨d,.unOp .not xt x,t,p,af,g⟩ (.bool true):=ov_not hx
theorem wo_split {tt:Nat} {bb:Bool} (hl:look E tt=some (.bool bb)) (ht:bb=true→WO C S w0 ops rest k D ((tt,.bool true)::E) H) (hf:bb=false→WO C S w0 ops rest k D ((tt,.bool false)::E) H):WO C S w0 ops rest k D E H:=by
 have hs:∀v,look E tt=some v→sub ((tt,v)::E) E:=fun v hv s u e=>by
  rw[Cq] at e
  by_cases he:tt=s
  · subst he;rw[if_pos rfl] at e;cases e;exact hv
  · rw[if_neg he] at e;exact e
 cases bb with
 | true=>exact fun pre hp=>A1 (hs _ hl) (ht rfl pre hp)
 | false=>exact fun pre hp=>A1 (hs _ hl) (hf rfl pre hp)
theorem Bc {o1:Op} {j:Nat} {want:Bool} {tt:Nat} {q:Prop} {_i:Decidable q} (hj:(ops[j]?).bind (·.dst)=some tt) (hl:look E tt=some (.bool (decide q)))
 (ht:q→WO C S w0 ops (⟨d,o1,t,p,af,some (j,want)⟩::rest) k D ((tt,.bool true)::E) H) (hf:¬q→WO C S w0 ops (⟨d,o1,t,p,af,some (j,want)⟩::rest) k D ((tt,.bool false)::E) H):
 WO C S w0 ops (⟨d,o1,t,p,af,some (j,want)⟩::rest) k D E H:=wo_split hl (fun h=>ht (of_decide_eq_true h)) (fun h=>hf (of_decide_eq_false h))
theorem B8 {o1:Op} {j:Nat} {want:Bool} {tt:Nat} {q:Prop} {_i:Decidable q} (hj:(ops[j]?).bind (·.dst)=some tt) (hl:look E tt=some (.bool (!decide q)))
 (ht:¬q→WO C S w0 ops (⟨d,o1,t,p,af,some (j,want)⟩::rest) k D ((tt,.bool true)::E) H) (hf:q→WO C S w0 ops (⟨d,o1,t,p,af,some (j,want)⟩::rest) k D ((tt,.bool false)::E) H):
 WO C S w0 ops (⟨d,o1,t,p,af,some (j,want)⟩::rest) k D E H:=wo_split hl (fun h=>ht (of_decide_eq_false (by simpa using h))) (fun h=>hf (of_decide_eq_true (by simpa using h)))
theorem wo_ps {tt:Nat} {q:Prop} {_i:Decidable q} (hl:look E tt=some (.bool (decide q)))
 (ht:q→WO C S w0 ops (⟨d,.pick (.tmp tt) y z,t,p,af,g⟩::rest) k D ((tt,.bool true)::E) H) (hf:¬q→WO C S w0 ops (⟨d,.pick (.tmp tt) y z,t,p,af,g⟩::rest) k D ((tt,.bool false)::E) H):
 WO C S w0 ops (⟨d,.pick (.tmp tt) y z,t,p,af,g⟩::rest) k D E H:=wo_split hl (fun h=>ht (of_decide_eq_true h)) (fun h=>hf (of_decide_eq_false h))
variable {c:Operand} {c1 c2:Code}
theorem A5 (hc:opv E c=some (.bool true)) (h:WF C S w0 (.code c1::k) D E H):WF C S w0 (.code (.cond c c1 c2)::k) D E H:=w_cond hc (fun _=>h) (fun e=>by cases e)
theorem Az (hc:opv E c=some (.bool false)) (h:WF C S w0 (.code c2::k) D E H):WF C S w0 (.code (.cond c c1 c2)::k) D E H:=w_cond hc (fun e=>by cases e) (fun _=>h)
theorem CY {q:Prop} {_i:Decidable q} (hc:opv E c=some (.bool (decide q))) (ht:q→WF C S w0 (.code c1::k) D E H) (hf:¬q→WF C S w0 (.code c2::k) D E H):WF C S w0 (.code (.cond c c1 c2)::k) D E H:=
 w_cond hc (fun e=>ht (of_decide_eq_true e)) (fun e=>hf (of_decide_eq_false e))
theorem w_condN {q:Prop} {_i:Decidable q} (hc:opv E c=some (.bool (!decide q))) (ht:¬q→WF C S w0 (.code c1::k) D E H) (hf:q→WF C S w0 (.code c2::k) D E H):WF C S w0 (.code (.cond c c1 c2)::k) D E H:=
 w_cond hc (fun e=>ht (of_decide_eq_false (by simpa using e))) (fun e=>hf (of_decide_eq_true (by simpa using e)))
end
end Go.Sl
namespace Go.Sl
open Go Go.RowKit Go.Shelf Go.Proofs
section
variable {C:Cx} {S:Nat→Prop} {w0:World} {k:List Item} {D:List Deferred} {E:List (Nat×Value)} {H H':List Ent} {d:Option Tmp} {t t':TypeId} {p:String} {af:Array Edge} {g:Option (Nat×Bool)} {x y z:Operand} {v u:Value} {ops:Array Oper} {rest:List Oper} {a b:Int} {kk k2:IntKind} {xt yt:TypeId}
theorem AA {P:Program} {w:World} {dd:TypeDesc} (h:P.underlying t'=some dd):(underlying t').run P w=.ok dd w:=by
 simp[underlying,program,Sem.run,h]
theorem B0 {P:Program} {w:World} {ti:TypeInfo} (h:P.info? t'=some ti):(typeInfo t').run P w=.ok ti w:=by
 simp[typeInfo,program,Sem.run,h]
theorem BA {P:Program} {w:World} {n:Nat} (h:(P.info? t').map (·.size)=some n):(sizeOf t').run P w=.ok n w:=by
 cases hi:P.info? t' with
 | none=>rw[hi] at h;simp at h
 | some ti=>rw[hi] at h;simp at h;simp[sizeOf,B0 hi,h]
theorem Am {el bb off len cap sz:Nat} {i:Int} (hu:C.P.underlying t'=some (.slice el)) (hs:(C.P.info? el).map (·.size)=some sz) (hx:opv E x=some (.slice (some ⟨bb,off,none⟩) len cap)) (hy:opv E y=some (.int kk i)) (h0:0≤i) (h1:i < len):
 OpV C S w0 H D E ⟨d,.indexAddr t' x y,t,p,af,g⟩ (.pointer (some ⟨bb,off+i.toNat*sz,none⟩)):=B6 fun tmps w hf _=>by
 simp[execOp,Instr.indexAt,hf.opv D hx,hf.opv D hy,asIntOf,AA hu,BA hs,h0,h1,add_addr]
theorem ov_indexAddrA {el bb off len sz:Nat} {i:Int} (hu:C.P.underlying t'=some (.array len el)) (hs:(C.P.info? el).map (·.size)=some sz) (hx:opv E x=some (.pointer (some ⟨bb,off,none⟩))) (hy:opv E y=some (.int kk i)) (h0:0≤i) (h1:i < len):
 OpV C S w0 H D E ⟨d,.indexAddr t' x y,t,p,af,g⟩ (.pointer (some ⟨bb,off+i.toNat*sz,none⟩)):=B6 fun tmps w hf _=>by
 simp[execOp,Instr.indexAt,Instr.sureAddr,hf.opv D hx,hf.opv D hy,asIntOf,AA hu,BA hs,h0,h1,add_addr]
theorem ov_indexV {el len sz:Nat} {cs:Array Value} {dd:TypeDesc} {i:Int} (hu:C.P.underlying t'=some (.array len el)) (hs:(C.P.info? el).map (·.size)=some sz) (hd:C.P.underlying el=some dd) (hfl:flatD dd=true)
 (hx:opv E x=some (.agg cs)) (hy:opv E y=some (.int kk i)) (h0:0≤i) (h1:i < len) (hc:cs[i.toNat*sz]?=some v):
 OpV C S w0 H D E ⟨d,.index t' x y,t,p,af,g⟩ v:=B6 fun tmps w hf _=>by
 simp[execOp,Instr.index,hf.opv D hx,hf.opv D hy,asIntOf,AA hu,BA hs,h0,h1,run_part1 hd hfl hc]
theorem run_sliceBounds {P:Program} {w:World} {tmps:Array Value} {n:Nat} (hf:Fits E n tmps) {sl:Bool} {len cap:Nat} {lo hi:Option Operand} {a b:Nat}
 (hlo:(match lo with|none=>a=0|some o=>∃kk i,opv E o=some (.int kk i)∧0≤i∧i.toNat=a)) (hhi:(match hi with|none=>b=len|some o=>∃kk i,opv E o=some (.int kk i)∧0≤i∧i.toNat=b)) (hab:a≤b) (hb:b≤cap):
 (Instr.sliceBounds sl len cap (lo.map ({tmps:=tmps,defers:=D}:Act).eval) (hi.map ({tmps:=tmps,defers:=D}:Act).eval) none).run P w=.ok (a,b,cap) w:=by
 unfold Instr.sliceBounds Instr.sliceBound
 cases lo with
 | none =>
   simp only at hlo;subst hlo
   cases hi with
   | none=>simp only at hhi;subst hhi;simp
   | some oh=>
     obtain⟨kk,i,h1,h2,rfl⟩:=hhi
     simp[hf.opv D h1,asIntOf,h2,show i≤(cap:Int) from by omega]
 | some ol=>
   obtain⟨k2,i2,h3,h4,rfl⟩:=hlo
   cases hi with
   | none=>simp only at hhi;subst hhi;simp[hf.opv D h3,asIntOf,h4,show i2≤(b:Int) from by omega]
   | some oh=>
     obtain⟨kk,i,h1,h2,rfl⟩:=hhi
     simp[hf.opv D h1,hf.opv D h3,asIntOf,h2,h4,show i≤(cap:Int) from by omega,show i2≤max i 0 from by omega]
theorem ov_sliceL {el bb off len cap sz:Nat} {lo hi:Option Operand} {a b:Nat} (hu:C.P.underlying t'=some (.slice el)) (hs:(C.P.info? el).map (·.size)=some sz) (hx:opv E x=some (.slice (some ⟨bb,off,none⟩) len cap))
 (hlo:(match lo with|none=>a=0|some o=>∃kk i,opv E o=some (.int kk i)∧0≤i∧i.toNat=a)) (hhi:(match hi with|none=>b=len|some o=>∃kk i,opv E o=some (.int kk i)∧0≤i∧i.toNat=b)) (hab:a≤b) (hb:b≤cap):
 OpV C S w0 H D E ⟨d,.slice t' x lo hi none,t,p,af,g⟩ (.slice (some ⟨bb,if cap=a then off else off+a*sz,none⟩) (b - a) (cap - a)):=B6 fun tmps w hf _=>by
 simp[execOp,Instr.sliceAt,Instr.slice,hf.opv D hx,AA hu,run_sliceBounds (P:=C.P) (w:=w) (D:=D) hf hlo hhi hab hb,BA hs,add_addr]
 split<;>rfl
theorem ov_sliceLlt {el bb off len cap sz:Nat} {lo hi:Option Operand} {a b:Nat} (hu:C.P.underlying t'=some (.slice el)) (hs:(C.P.info? el).map (·.size)=some sz) (hx:opv E x=some (.slice (some ⟨bb,off,none⟩) len cap))
 (hlo:(match lo with|none=>a=0|some o=>∃kk i,opv E o=some (.int kk i)∧0≤i∧i.toNat=a)) (hhi:(match hi with|none=>b=len|some o=>∃kk i,opv E o=some (.int kk i)∧0≤i∧i.toNat=b)) (hab:a≤b) (hb:b≤cap) (hne:a < cap):
 OpV C S w0 H D E ⟨d,.slice t' x lo hi none,t,p,af,g⟩ (.slice (some ⟨bb,off+a*sz,none⟩) (b - a) (cap - a)):=by
 have:=ov_sliceL (C:=C) (S:=S) (w0:=w0) (H:=H) (D:=D) (d:=d) (t:=t) (p:=p) (af:=af) (g:=g) hu hs hx hlo hhi hab hb
 rwa [if_neg (by omega)] at this
theorem ov_min (hx:opv E x=some (.int kk a)) (hy:opv E y=some (.int k2 b)) {aty:Array TypeId}:OpV C S w0 H D E ⟨d,.call {callee:=.builtin .min,args:= #[x,y],argTypes:=aty},t,p,af,g⟩ (.int kk (if b < a then b else a)):=B6 fun tmps w hf _=>by
 simp[execOp,resolve,invoke,builtin,Builtin.min_,Builtin.min2,hf.opv D hx,hf.opv D hy]
def placesOf (P:Program) (t:TypeId):Option (Array (Nat×Nat)):=
 match P.underlying t with
 | some (.struct fs)=>fs.mapM fun f=>(P.info? f.type).map fun i=>(f.offset,i.size)
 | _=>none
theorem run_places {P:Program} {w:World}:∀(l:List Field) (r:List (Nat×Nat)),(l.mapM fun f=>(P.info? f.type).map fun i=>(f.offset,i.size))=some r →
 (l.mapM (m:=Sem) fun f=>do pure (f.offset,←sizeOf f.type)).run P w=.ok r w
 | [],r,h=>by simp at h;subst h;rfl
 | f :: l,r,h=>by
   simp only[List.mapM_cons] at h
   cases hi:P.info? f.type with
   | none=>rw[hi] at h;simp at h
   | some i=>
     cases hl:l.mapM (fun f=>(P.info? f.type).map fun i=>(f.offset,i.size)) with
     | none=>rw[hi,hl] at h;simp at h
     | some rs=>
       rw[hi,hl] at h;simp at h;subst h
       have:=run_places (P:=P) (w:=w) l rs hl
       simp at this
       have h5:=BA (t':=f.type) (P:=P) (w:=w) (n:=i.size) (by rw[hi];rfl)
       simp[List.mapM_cons,h5,this]
def partv (E:List (Nat×Value)):List (Nat×Operand)→Option (List (Nat×Value))
 | []=>some []
 | (i,x)::r=>match opv E x,partv E r with
   | some v,some vs=>some ((i,v)::vs)
   | _,_=>none
theorem Fits.partv {n:Nat} {tmps:Array Value} (h:Fits E n tmps):∀ {xs:List (Nat×Operand)} {vs:List (Nat×Value)},Sl.partv E xs=some vs→xs.map (fun p=>(p.1,({tmps:=tmps,defers:=D}:Act).eval p.2))=vs
 | [],_,e=>by cases e;rfl
 | (i, x) :: r,vs,e=>by
   simp only[Sl.partv] at e
   cases h1:Sl.opv E x with
   | none=>rw[h1] at e;simp at e
   | some v=>
     cases h2:Sl.partv E r with
     | none=>rw[h1,h2] at e;simp at e
     | some rs=>
       rw[h1,h2] at e;simp at e
       rw[List.map_cons,h.partv h2,h.opv D h1,e]
theorem Bq {pl:Array (Nat×Nat)} {ti:TypeInfo} {zs cs:Array Value} {vs:List (Nat×Value)} {parts:Array (Nat×Operand)} (hpl:placesOf C.P t'=some pl) (hti:C.P.info? t'=some ti) (hz:ti.zero=some (.agg zs)) (hp:partv E parts.toList=some vs)
 (hfill:Instr.fill (pl[·]?) zs vs=some cs):OpV C S w0 H D E ⟨d,.build t' parts,t,p,af,g⟩ (.agg cs):=B6 fun tmps w hf _=>by
 unfold placesOf at hpl
 cases hu:C.P.underlying t' with
 | none=>rw[hu] at hpl;simp at hpl
 | some dd=>
   rw[hu] at hpl
   cases dd<;>simp at hpl
   rename_i fs
   have hv:=hf.partv (D:=D) hp
   have h1:(zeroValue t').run C.P w=.ok (.agg zs) w:=by simp[zeroValue,B0 hti,hz]
   rw[Array.mapM_eq_mapM_toList] at hpl
   cases hl:fs.toList.mapM (fun f=>(C.P.info? f.type).map fun i=>(f.offset,i.size)) with
   | none=>rw[hl] at hpl;simp at hpl
   | some rs=>
     rw[hl] at hpl;simp at hpl;subst hpl
     have h2:(fs.mapM (m:=Sem) fun f=>do pure (f.offset,←sizeOf f.type)).run C.P w=.ok rs.toArray w:=by
      rw[Array.mapM_eq_mapM_toList]
      have:=run_places (P:=C.P) (w:=w) fs.toList rs hl
      simp at this
      simp[this]
     simp at h2
     have h3:(parts.map (fun (i,x)=>(i,({tmps:=tmps,defers:=D}:Act).eval x))).toList=vs:=by
      rw[←hv];simp
     have h4:Instr.fill (rs.toArray[·]?) zs (parts.map (fun (i,x)=>(i,({tmps:=tmps,defers:=D}:Act).eval x))).toList=some cs:=by rw[h3];exact hfill
     simp at h4
     simp[execOp,Instr.build,h1,Value.cells,AA hu,h2,h4]
def byv (l:List UInt8):List Value:=l.map fun b=>.int .u8 b.toNat
theorem Inv.freeze {w:World} {bb n m:Nat} {c:Array Value} {el:TypeId} (hi:Inv S w0 H w) (hu:Upd bb (.cells c el (0,0)) (.cells c el (n,n+m)) H H') (hm:m≠0) (hnew:w0.heap.size≤bb):Inv S w0 H' (w.freeze ⟨bb,n,none⟩ m):=by
 unfold World.freeze
 rw[if_neg hm]
 refine hi.upd hu rfl rfl rfl (by simp) (fun q hq=>?_) ?_ (fun h=>absurd h (by omega))
 · simp only[Array.getElem?_modify];rw[if_neg (by omega)]
 · have:=hi.hb _ hu.mem
   simp only at this
   simp[Array.getElem?_modify,this]
theorem wo_bytes {el:TypeId} {l:List UInt8} (hxs:C.P.underlying xt=some .string) (hys:C.P.underlying yt=some (.slice el)) (hel:C.P.underlying el=some (.int .u8)) (hx:opv E x=some (str l))
 (hg:guardOk E ops ⟨d,.convert xt yt x,t,p,af,g⟩=some true) (hd:dstOk d C.n=true)
 (h:∀bb cap,w0.heap.size≤bb→l.length≤cap→WO C S w0 ops rest k D (putE d (.slice (some ⟨bb,0,none⟩) l.length cap) E) (⟨bb,true,.cells ((byv l++List.replicate (cap - l.length) (Value.int .u8 0)).toArray) el (cap,cap+1)⟩::H)):
 WO C S w0 ops (⟨d,.convert xt yt x,t,p,af,g⟩::rest) k D E H:=by
 refine De hg hd fun w hi tmps hft=>?_
 rw[BV _ _ _ (nd_of rfl)]
 have hcut:l.length≤Question.cut (.appendCap l.length 0 el) (w.tape w.drawn (.appendCap l.length 0 el)):=by
  simp[Question.cut]
 generalize hcap:Question.cut (.appendCap l.length 0 el) (w.tape w.drawn (.appendCap l.length 0 el))=cap at hcut
 have hcells:((⟨l.toArray⟩:ByteArray).data.map (fun b=>Value.int .u8 b.toNat)++Array.replicate (cap - l.length) (Value.int .u8 0))=(byv l++List.replicate (cap - l.length) (Value.int .u8 0)).toArray:=by
  apply Array.ext';simp[byv]
 have hlen:((byv l++List.replicate (cap - l.length) (Value.int .u8 0)).toArray).size=cap:=by simp[byv];omega
 have hi2:=(hi.drew).new (.cells ((byv l++List.replicate (cap - l.length) (Value.int .u8 0)).toArray) el)
 have hi3:=Inv.freeze (n:=cap) (m:=1) hi2 (.head _) (by omega) hi.fr.size
 have hrun:(execOp ({tmps:=tmps,defers:=D}:Act).eval (⟨d,.convert xt yt x,t,p,af,g⟩:Oper)).run C.P w=.ok (.value (.slice (some ⟨w.heap.size,0,none⟩) l.length cap))
  (World.freeze {w with drawn:=w.drawn+1,heap:=w.heap.push (.cells ((byv l++List.replicate (cap - l.length) (Value.int .u8 0)).toArray) el)} ⟨w.heap.size,cap,none⟩ 1):=by
  have e1:(choose (.appendCap (⟨l.toArray⟩:ByteArray).size 0 el)).run C.P w=.ok cap {w with drawn:=w.drawn+1}:=by
   rw[size_list]
   simp[choose,Sem.run,Question.forced,hcap]
  have e2:(markStringish ⟨w.heap.size,0,none⟩).run C.P {w with drawn:=w.drawn+1,heap:=w.heap.push (.cells ((byv l++List.replicate (cap - l.length) (Value.int .u8 0)).toArray) el)}=.ok () (World.freeze {w with drawn:=w.drawn+1,heap:=w.heap.push (.cells ((byv l++List.replicate (cap - l.length) (Value.int .u8 0)).toArray) el)} ⟨w.heap.size,cap,none⟩ 1):=by
   simp only[markStringish,shape,Sem.run_bind,Sem.run,World.shape?,Array.getElem?_push_size,Result.andThen_ok]
   rw[hlen]
   rfl
  simp only[execOp,convert,hft.opv D hx,Sem.run_bind,AA hxs,AA hys,Result.andThen_ok,AA hel,Conv.stringToBytes,newRow,newObj]
  rw[size_list] at e1 ⊢
  simp only[e1,Result.andThen_ok]
  rw[hcells]
  simp only[Sem.run,Sem.run_bind,Sem.run_pure,Result.andThen_ok,e2]
 rw[hrun]
 exact(h _ cap hi.fr.size hcut).go2 hi3
end
end Go.Sl
namespace Go.Sl
open Go Go.RowKit Go.Shelf Go.Proofs
section
variable {C:Cx} {S:Nat→Prop} {w0:World} {k:List Item} {D:List Deferred} {E:List (Nat×Value)} {H H':List Ent} {d:Option Tmp} {t t':TypeId} {p:String} {af:Array Edge} {g:Option (Nat×Bool)} {x y z:Operand} {v u:Value} {ops:Array Oper} {rest:List Oper} {a b:Int} {kk k2:IntKind} {xt yt:TypeId}
inductive Res (P:Program) (E:List (Nat×Value)) (H:List Ent):List ResultVar→List Value→Prop
 | nil:Res P E H [] []
 | tmp {t:Nat} {v:Value} {rs:List ResultVar} {vs:List Value} (h:look E t=some v) (r:Res P E H rs vs):Res P E H (.tmp t::rs) (v::vs)
 | cell {a t:Nat} {dd:TypeDesc} {b off:Nat} {rw:Bool} {c:Array Value} {el:TypeId} {fz:Nat×Nat} {v:Value} {rs:List ResultVar} {vs:List Value} (h:look E a=some (.pointer (some ⟨b,off,none⟩))) (hu:P.underlying t=some dd) (hd:flatD dd=true)
  (hm:(⟨b,rw,.cells c el fz⟩:Ent)∈H) (hc:c[off]?=some v) (r:Res P E H rs vs):Res P E H (.cell a t::rs) (v::vs)
 | cellA {a t:Nat} {dd:TypeDesc} {ti:TypeInfo} {b:Nat} {rw:Bool} {c:Array Value} {el:TypeId} {fz:Nat×Nat} {rs:List ResultVar} {vs:List Value} (h:look E a=some (.pointer (some ⟨b,0,none⟩))) (hu:P.underlying t=some dd) (hd:flatD dd=false) (hti:P.info? t=some ti)
  (hm:(⟨b,rw,.cells c el fz⟩:Ent)∈H) (hsz:ti.size=c.size) (r:Res P E H rs vs):Res P E H (.cell a t::rs) (.agg c::vs)
theorem res_mapM {P:Program} {w:World} {n:Nat} {tmps:Array Value} (hi:Inv S w0 H w) (hft:Fits E n tmps) (gg:ResultVar→Sem Value) (h1:∀t,gg (.tmp t)=pure (tmps.getD t undef))
 (h2:∀a t,gg (.cell a t)=(do loadVar t (←asAddr (tmps.getD a undef)))) {rs:List ResultVar} {vs:List Value} (h:Res P E H rs vs):(rs.mapM gg).run P w=.ok vs w:=by
 have hget:∀t v,look E t=some v→tmps.getD t undef=v:=fun t v hv=>by
  rw[Array.getD_eq_getD_getElem?,hft.lk t v hv];rfl
 induction h with
 | nil=>rfl
 | tmp h r ih=>simp[List.mapM_cons,h1,hget _ _ h,ih]
 | cell h hu hd hm hc r ih=>simp[List.mapM_cons,h2,hget _ _ h,asAddr,run_loadVar1 hu hd (hi.cell hm hc),ih]
 | cellA h hu hd hti hm hsz r ih=>
   rename_i a t dd ti b rw c el fz rs vs
   have:=run_loadVarA (P:=P) (w:=w) (b:=b) (off:=0) (c:=c) hu hd hti hsz (fun j _ hj=>by
    have hj':j < c.size:=by omega
    rw[hi.cell hm (Array.getElem?_eq_getElem hj')];simp[Array.getElem?_eq_getElem hj'])
   simp[List.mapM_cons,h2,hget _ _ h,asAddr,this,ih]
theorem run_resultsM {P:Program} {fn:Func} {w:World} {n:Nat} {tmps:Array Value} {vs:List Value} (hi:Inv S w0 H w) (hft:Fits E n tmps) (h:Res P E H fn.results.toList vs):(results fn tmps).run P w=.ok (tup vs) w:=by
 unfold results
 rw[Array.mapM_eq_mapM_toList]
 simp only[map_eq_pure_bind,bind_assoc,pure_bind,Sem.run_bind]
 rw[res_mapM hi hft _ (fun _=>rfl) (fun _ _=>rfl) h]
 simp only[Result.andThen_ok,Sem.run_pure,tup]
 congr 1
 split
 · rename_i hsz
   cases vs with
   | nil=>simp at hsz
   | cons v r=>
     cases r with
     | nil=>rfl
     | cons _ _=>simp at hsz
 · rename_i hsz
   cases vs with
   | nil=>rfl
   | cons v r=>
     cases r with
     | nil=>simp at hsz
     | cons _ _=>rfl
variable {P:Program} {f:FuncId} {fn:Func} {R:Ending→World→Prop}
theorem C5 {vs:List Value} (hf:P.funcs[f]?=some fn) (hr:Res P E H fn.results.toList vs) (hR:∀w,Inv S w0 H w→R (.returned (tup vs)) w):WF (cxOf P f fn R) S w0 (.code .ret::k) [] E H:=
 w_retR rfl fun w hi=>goR_ret hf (fun _ hft=>run_resultsM hi hft hr) (hR w hi)
theorem w_endM {vs:List Value} (hf:P.funcs[f]?=some fn) (hr:Res P E H fn.results.toList vs) (hR:∀w,Inv S w0 H w→R (.returned (tup vs)) w):WF (cxOf P f fn R) S w0 [] [] E H:=
 w_endR rfl fun w hi=>goR_ret hf (fun _ hft=>run_resultsM hi hft hr) (hR w hi)
theorem B2 {el n sz : Nat} {zv : Value} {ti:TypeInfo} {vs:List (Nat×Value)} {parts:Array (Nat×Operand)} {cs:Array Value} (hu:C.P.underlying t'=some (.slice el)) (hti:C.P.info? el=some ti) (hsz:ti.size=sz) (hz:ti.zero=some zv) (hpos:Nat.blt 0 (n*sz)=true) (hle:Nat.ble (n*sz) 16777216=true)
 (hp:partv E parts.toList=some vs) (hfill:Instr.fill (fun i=>some (i*sz,sz)) ((Array.range (n*sz)).map (zv.cells[· % zv.cells.size]!)) vs=some cs) (hg:guardOk E ops ⟨d,.buildSlice t' n parts,t,p,af,g⟩=some true) (hd:dstOk d C.n=true)
 (h:∀bb,w0.heap.size≤bb→WO C S w0 ops rest k D (putE d (.slice (some ⟨bb,0,none⟩) n n) E) (⟨bb,true,.cells cs el (0,0)⟩::H)):WO C S w0 ops (⟨d,.buildSlice t' n parts,t,p,af,g⟩::rest) k D E H:=by
 refine De hg hd fun w hi tmps hft=>?_
 rw[BV _ _ _ (nd_of rfl)]
 have h1:0 < n*sz:=by simpa using hpos
 have h2:n*sz≤16777216:=by simpa using hle
 have h3:(parts.map (fun (i,x)=>(i,({tmps:=tmps,defers:=D}:Act).eval x))).toList=vs:=by
  rw[←hft.partv (D:=D) hp];simp
 simp at h3
 have hrun : (execOp ({ tmps := tmps, defers:=D}:Act).eval (⟨d,.buildSlice t' n parts,t,p,af,g⟩:Oper)).run C.P w=.ok (.value (.slice (some ⟨w.heap.size,0,none⟩) n n)) {w with heap:=w.heap.push (.cells cs el (0,0))}:=by
  have hs0:=BA (t':=el) (P:=C.P) (w:=w) (n:=sz) (by rw[hti,←hsz];rfl)
  have hz0:(zeroValue el).run C.P w=.ok zv w:=by simp[zeroValue,B0 hti,hz]
  have e1 : ¬ (n * sz > 2 ^ 24) := by have:(2:Nat) ^ 24=16777216:=by decide
                                      omega
  have e2:¬(n*sz=0):=by omega
  simp only[execOp,Instr.buildSlice,Sem.run_bind,AA hu,Result.andThen_ok,hs0]
  rw[if_neg e1]
  simp only[Sem.run_bind,Sem.run_pure,Result.andThen_ok,if_neg e2,hz0,Array.toList_map,h3,hfill,newRow,newObj,Sem.run]
 rw[hrun]
 exact(h _ hi.fr.size).go2 (hi.new _)
theorem growBy_le (m:Nat):∀(r c:Nat),c < m→Builtin.growBy m r c≤2*m+192
 | 0,c,h=>by unfold Builtin.growBy;omega
 | r + 1, c,h=>by
   unfold Builtin.growBy
   split
   · omega
   · by_cases h2:c+(c+768) / 4 < m
     · exact growBy_le m r _ h2
     · have:∀r c,m≤c→Builtin.growBy m r c=c:=by
        intro r c hc
        cases r with
        | zero=>rfl
        | succ r=>unfold Builtin.growBy;rw[if_pos (by omega)]
       rw[this _ _ (by omega)];omega
theorem nextcap_le (m o:Nat) (h:o < m):Builtin.nextslicecap m o≤2*m+192:=by
 unfold Builtin.nextslicecap
 split
 · omega
 · split
   · omega
   · exact growBy_le m 4 o h
def RowAt (H H':List Ent) (el:TypeId) (xs rst:List Value) (cap:Nat):Option Nat→Prop
 | none=>cap=0∧H'=H
 | some b=>(⟨b,true,.cells (xs++rst).toArray el (0,0)⟩:Ent)∈H∧Del b H H'
def okCell (v:Value):Bool:=match v with|.agg _|.tuple _=>false|_=>true
theorem foldl_set (c:List Value):∀(new:List Value) (pre:List Value) (rst:List Value),new.length≤rst.length→c=pre++rst →
 ((new.zipIdx pre.length).foldl (fun (c:Array Value) (p:Value×Nat)=>c.setIfInBounds p.2 p.1) c.toArray)=(pre++new++rst.drop new.length).toArray
 | [],pre,rst,_,h=>by simp[h]
 | v :: new,pre,r::rst,hl,h=>by
   subst h
   have:=foldl_set (pre++[v]++rst) new (pre++[v]) rst (by simpa using hl) rfl
   simp only[List.zipIdx_cons,List.foldl_cons]
   have e:((pre++r::rst).toArray.setIfInBounds pre.length v)=(pre++[v]++rst).toArray:=by
    apply Array.ext';simp
   rw[e]
   simp only[List.length_append,List.length_cons,List.length_nil] at this
   rw[this];simp
 | v::new,pre,[],hl,_=>by simp at hl
theorem run_append {el sz n cap kn:Nat} {ti:TypeInfo} {zv:Value} {base:Option Nat} {xs rst new:List Value} {sv xv:Value} {sT xT:TypeId} {dx:TypeDesc} {w:World} {aT:Array TypeId}
 (hi:Inv S w0 H w) (hu:C.P.underlying sT=some (.slice el)) (hux:C.P.underlying xT=some dx) (hdx:(∃e2,dx=.slice e2)∨dx=.string) (haT:aT= #[sT,xT]) (hti:C.P.info? el=some ti) (hsz:ti.size=sz) (hpos:0 < sz) (hz:ti.zero=some zv) (hzs:zv.cells.size=sz)
 (hs:sv=.slice (base.map fun b=>⟨b,0,none⟩) n cap) (hxs:xs.length=n*sz) (hcap:xs.length+rst.length=cap*sz)
 (hb:RowAt H H' el xs rst cap base)
 (hlen:(Builtin.lenOf xv).run C.P w=.ok kn w) (hnew:∀w',(∀(b:Nat) (c:Array Value) (e:TypeId) (f:Nat×Nat),w.heap[b]?=some (Obj.cells c e f)→w'.heap[b]?=some (Obj.cells c e f))→(Builtin.firstCells sz kn xv).run C.P w'=.ok new.toArray w') (hnl:new.length=kn*sz) (hok:∀v∈new,okCell v=true)
 (hroom:(2*(n+kn)+192)*ti.bytes≤281474976710656) (hmax:n+kn≤4611686018427387904) (hk:0 < kn):
 ∃b' cap' rst' w',(Builtin.append_ aT t #[sv,xv]).run C.P w=.ok (.slice (some ⟨b',0,none⟩) (n+kn) cap') w'∧(xs++new).length+rst'.length=cap'*sz∧n+kn≤cap'∧Inv S w0 (⟨b',true,.cells (xs++new++rst').toArray el (0,0)⟩::H') w':=by
 subst haT hs
 have hs0:∀w,(sizeOf el).run C.P w=.ok sz w:=fun w=>BA (by rw[hti,←hsz];rfl)
 rcases hdx with⟨e2,rfl⟩|rfl
 all_goals
  by_cases hfit:n+kn≤cap
  · cases base with
    | none=>have:=hb.1;omega
    | some b =>
      obtain⟨hm,hdel⟩:=hb
      obtain ⟨w',g1,g2,g3,g4,g5,g6,g7⟩:=CK (P:=C.P) b new (n*sz) 0 w (fun v hv=>by have:=hok v hv;unfold okCell at this;cases v<;>simp_all) (fun j hj=>by
       have hlt:n*sz+0+j < (xs++rst).toArray.size:=by
        simp only[List.size_toArray,List.length_append,hcap]
        have:(n+kn)*sz≤cap*sz:=Nat.mul_le_mul_right _ hfit
        rw[Nat.add_mul] at this;omega
       refine⟨?_,hi.frozen hm⟩
       rw[hi.cell hm (Array.getElem?_eq_getElem hlt)];rfl)
      have hrl:new.length≤rst.length:=by
       have:(n+kn)*sz≤cap*sz:=Nat.mul_le_mul_right _ hfit
       rw[Nat.add_mul] at this;omega
      have hcell:w'.heap[b]?=some (.cells (xs++new++rst.drop new.length).toArray el (0,0)):=by
       have:=g7 _ _ _ (hi.hb _ hm)
       rw[this]
       have:=foldl_set (xs++rst) new xs rst hrl rfl
       rw[hxs] at this
       simp only[Nat.add_zero]
       rw[this]
      refine⟨b,cap,rst.drop new.length,w',?_,by simp only[List.length_append,List.length_drop];omega,hfit,?_⟩
      · have e1:((⟨b,0,none⟩:Addr).add (n*sz))=⟨b,n*sz,none⟩:=by rw[add_addr];simp
        simp only[Builtin.append_,Sem.run_bind,AA hu,AA hux,Result.andThen_ok,hs0,Option.map_some,List.getElem?_toArray,List.getElem?_cons_zero,List.getElem?_cons_succ,Sem.run_pure]
        simp only[Bool.false_eq_true,if_false,hlen,Result.andThen_ok,Sem.run_bind]
        rw[if_pos hfit]
        simp only[Sem.run_bind,Bool.not_false,if_true,hnew w (fun _ _ _ _ h=>h),Result.andThen_ok,e1,List.toList_toArray,g1,Sem.run_pure]
      · have hbw:=hi.wr _ hm rfl
        refine⟨⟨g2.trans hi.fr.os,g3.trans hi.fr.tape,g4.trans hi.fr.output,by rw[g5];exact hi.fr.size,fun q hq hS=>?_,fun q c el' fz hc=>?_⟩,?_,?_,?_⟩
        · rw[g6 q (by rintro rfl;rcases hbw with h|h;exact hS h;simp only at h;omega)];exact hi.fr.block q hq hS
        · obtain ⟨c1,h7,h8⟩:=hi.fr.shp q c el' fz hc
          by_cases hqb:q=b
          · subst hqb
            have h9:=g7 _ _ _ h8
            exact⟨_,(CW _ _).trans h7,h9⟩
          · exact⟨c1,h7,by rw[g6 q hqb];exact h8⟩
        · simp only[List.map_cons,List.nodup_cons,List.mem_map,not_exists,not_and]
          exact⟨fun e he=>hdel.ne hi.nd e he,(hdel.sub.map Ent.b).nodup hi.nd⟩
        · intro e he
          cases he with
          | head=>exact hcell
          | tail _ he=>rw[g6 _ (hdel.ne hi.nd e he)];exact hi.hb e (hdel.sub.subset he)
        · intro e he hr
          cases he with
          | head=>exact hbw
          | tail _ he=>exact hi.wr e (hdel.sub.subset he) hr
  · have hcut:n+kn≤Question.cut (.appendCap (n+kn) cap el) (w.tape w.drawn (.appendCap (n+kn) cap el)):=by simp[Question.cut]
    generalize hcap':Question.cut (.appendCap (n+kn) cap el) (w.tape w.drawn (.appendCap (n+kn) cap el))=cap' at hcut
    have hold:(Builtin.firstCells sz n (.slice (base.map fun b=>⟨b,0,none⟩) n cap)).run C.P {w with drawn:=w.drawn+1}=.ok xs.toArray {w with drawn:=w.drawn+1}:=by
     cases base with
     | none=>
       have:xs=[]:=by
        cases xs with
        | nil=>rfl
        | cons _ _=>simp[hb.1] at hcap
       subst this
       simp[Builtin.firstCells]
     | some b=>
       obtain⟨hm,hdel⟩:=hb
       have h1:=BG (P:=C.P) (w:={w with drawn:=w.drawn+1}) (b:=b) (off:=0) (c:=(xs++rst).toArray) (fun j _ hj=>by
        have:=hi.drew.cell (off:=j) hm (Array.getElem?_eq_getElem (by simpa using hj))
        rw[this];simp) (n*sz) 0 #[] (by simp;omega)
       simp only[Builtin.firstCells,Option.map_some,loadCells]
       rw[h1]
       congr 1
       apply Array.ext'
       simp[←hxs]
    have hzl:(Builtin.zeroCells zv.cells (cap' - (n+kn))).toList.length=(cap' - (n+kn))*sz:=by simp[Builtin.zeroCells,hzs]
    refine⟨w.heap.size,cap',(Builtin.zeroCells zv.cells (cap' - (n+kn))).toList,{w with drawn:=w.drawn+1,heap:=w.heap.push (.cells (xs++new++(Builtin.zeroCells zv.cells (cap' - (n+kn))).toList).toArray el (0,0))},?_,?_,hcut,?_⟩
    · have hnc:=nextcap_le (n+kn) cap (by omega)
      have hnr:¬(Builtin.nextslicecap (n+kn) cap*ti.bytes > 2 ^ 48):=by
       have:Builtin.nextslicecap (n+kn) cap*ti.bytes≤(2*(n+kn)+192)*ti.bytes:=Nat.mul_le_mul_right _ hnc
       have h48:(2:Nat) ^ 48=281474976710656:=by decide
       omega
      have hmx:¬(((n+kn:Nat):Int) > IntKind.i64.max∧(False∨ti.bytes=0)):=by
       have:IntKind.i64.max=9223372036854775807:=by decide
       rintro⟨h,_⟩;omega
      simp only[Builtin.append_,Sem.run_bind,AA hu,AA hux,Result.andThen_ok,hs0,List.getElem?_toArray,List.getElem?_cons_zero,List.getElem?_cons_succ,Sem.run_pure]
      simp only[Bool.false_eq_true,if_false,hlen,Result.andThen_ok,Sem.run_bind]
      rw[if_neg hfit]
      simp only[Sem.run_bind,B0 hti,Result.andThen_ok]
      rw[if_neg hmx]
      simp only[Sem.run_bind,Sem.run_pure,Result.andThen_ok,B0 hti]
      rw[if_neg hnr]
      have e1:(choose (.appendCap (n+kn) cap el)).run C.P w=.ok cap' {w with drawn:=w.drawn+1}:=by
       simp[choose,Sem.run,Question.forced,hcap']
      have e2:∀w q,(askRoom q).run C.P w=.ok () w:=by
       intro w q;unfold askRoom;split<;>rfl
      have e3:∀w,(zeroValue el).run C.P w=.ok zv w:=fun w=>by simp[zeroValue,B0 hti,hz]
      have hn2:=hnew {w with drawn:=w.drawn+1} (fun _ _ _ _ h=>h)
      simp only[Sem.run_bind,Sem.run_pure,Result.andThen_ok,e1,B0 hti,e2,hold,Bool.not_false,if_true,hn2,e3,newRow,newObj,Sem.run]
      congr 4
      apply Array.ext';simp
    · rw [hzl,List.length_append,hxs,hnl,Nat.sub_mul,Nat.add_mul]
      have:(n+kn)*sz≤cap'*sz:=Nat.mul_le_mul_right _ hcut
      rw[Nat.add_mul] at this;omega
    · have hsub:H'.Sublist H:=by
       cases base with
       | none=>rw[hb.2];exact List.Sublist.refl _
       | some b=>exact hb.2.sub
      exact(hi.drew.new _).subset (hsub.cons_cons _)
theorem wo_append {el sz n cap kn:Nat} {ti:TypeInfo} {zv:Value} {base:Option Nat} {xs rst new:List Value} {sT xT:TypeId} {aT:Array TypeId} {e2:TypeId} {b2 o2 c2:Nat} {rw2:Bool} {cc:Array Value} {el2:TypeId} {fz2:Nat×Nat}
 (hx:opv E x=some (.slice (base.map fun b=>⟨b,0,none⟩) n cap)) (hy:opv E y=some (.slice (some ⟨b2,o2,none⟩) kn c2)) (hu:C.P.underlying sT=some (.slice el)) (hux:C.P.underlying xT=some (.slice e2)) (haT:aT= #[sT,xT]) (hti:C.P.info? el=some ti) (hsz:ti.size=sz) (hpos:0 < sz)
 (hz:ti.zero=some zv) (hzs:zv.cells.size=sz) (hxs:xs.length=n*sz) (hcap:xs.length+rst.length=cap*sz) (hb:RowAt H H' el xs rst cap base)
 (hm:(⟨b2,rw2,.cells cc el2 fz2⟩:Ent)∈H) (hnew:(cc.extract o2 (o2+kn*sz)).toList=new) (hle:o2+kn*sz≤cc.size) (hok:∀v∈new,okCell v=true)
 (hroom:(2*(n+kn)+192)*ti.bytes≤281474976710656) (hmax:n+kn≤4611686018427387904) (hk:0 < kn) (hg:guardOk E ops ⟨d,.call {callee:=.builtin .append,args:= #[x,y],argTypes:=aT},t,p,af,g⟩=some true) (hd:dstOk d C.n=true)
 (h:∀b' cap' rst',(xs++new).length+rst'.length=cap'*sz→n+kn≤cap'→WO C S w0 ops rest k D (putE d (.slice (some ⟨b',0,none⟩) (n+kn) cap') E) (⟨b',true,.cells (xs++new++rst').toArray el (0,0)⟩::H')):
 WO C S w0 ops (⟨d,.call {callee:=.builtin .append,args:= #[x,y],argTypes:=aT},t,p,af,g⟩::rest) k D E H:=by
 refine De hg hd fun w hi tmps hft=>?_
 rw[BV _ _ _ (nd_of rfl)]
 have hnl:new.length=kn*sz:=by rw[←hnew];simp;omega
 obtain ⟨b',cap',rst',w',r1,r2,r3,r4⟩:=run_append (t:=t) (w:=w) (sv:=.slice (base.map fun b=>⟨b,0,none⟩) n cap) (xv:=.slice (some ⟨b2,o2,none⟩) kn c2) hi hu hux (.inl ⟨e2,rfl⟩) haT hti hsz hpos hz hzs rfl hxs hcap hb (by simp[Builtin.lenOf]) (fun w' hw'=>by
  have h1:=BG (P:=C.P) (w:=w') (b:=b2) (off:=o2) (c:=cc.extract o2 (o2+kn*sz)) (fun j h1 h2=>by
   have h3:j - o2 < kn*sz:=by simp at h2;omega
   have hjc:j < cc.size:=by omega
   have hb2:=hw' _ _ _ _ (hi.hb _ hm)
   have:w'.cell? ⟨b2,j,none⟩=cc[j]?:=by
    unfold World.cell?
    simp[hb2]
   rw[this,Array.getElem?_extract]
   rw[if_pos (by omega)]
   congr 1;omega) (kn*sz) 0 #[] (by simp;omega)
  simp only[Builtin.firstCells,loadCells]
  rw[h1,←hnew]
  congr 1
  apply Array.ext'
  simp) hnl hok hroom hmax hk
 have hrun:(execOp ({tmps:=tmps,defers:=D}:Act).eval (⟨d,.call {callee:=.builtin .append,args:= #[x,y],argTypes:=aT},t,p,af,g⟩:Oper)).run C.P w=.ok (.value (.slice (some ⟨b',0,none⟩) (n+kn) cap')) w':=by
  simp[execOp,resolve,invoke,builtin,hft.opv D hx,hft.opv D hy,r1]
 rw[hrun]
 exact(h b' cap' rst' r2 r3).go2 r4
end
end Go.Sl
namespace Go.Sl
open Go Go.RowKit Go.Shelf Go.Proofs
def WQ (C:Cx) (S:Nat→Prop) (w0:World) (ops:Array Oper) (rest:List Oper) (k:List Item) (D:List Deferred) (E:List (Nat×Value)) (H:List Ent):Prop:=
 ∀tmps,Fits E C.n tmps→wpQuiet C.P ops (Inv S w0 H) (fun a'=>a'.defers=D∧∃E',Fits E' C.n a'.tmps∧WF C S w0 k D E' H) rest {tmps:=tmps,defers:=D}
section
variable {C:Cx} {S:Nat→Prop} {w0:World} {k:List Item} {D:List Deferred} {E:List (Nat×Value)} {H H':List Ent} {d:Option Tmp} {t t':TypeId} {p:String} {af:Array Edge} {g:Option (Nat×Bool)} {x y z:Operand} {v u:Value} {ops:Array Oper} {rest:List Oper}
theorem w_regQ {id:Nat} (hro:C.b.roundOf=none) (hm:C.P.follows .mixedOrders=true) (hB:Region.lexB .any ops=true) (h:WQ C S w0 ops ops.toList k D E H):WF C S w0 (.code (.region id ops true)::k) D E H:=by
 intro w hi tmps hf cs
 have hw:=wp_region_quiet (C:=Inv S w0 H) (id:=id) (Q:=fun e a' w'=>e=.normal∧a'.defers=D∧Inv S w0 H w'∧∃E',Fits E' C.n a'.tmps∧WF C S w0 k D E' H) (a:={tmps:=tmps,defers:=D}) (w:=w) hm hB hi.drew (by
  have h1:=h tmps hf
  have mono:∀(l:List Oper) (a:Act) (Q Q':Act→Prop),(∀a,Q a→Q' a)→wpQuiet C.P ops (Inv S w0 H) Q l a→wpQuiet C.P ops (Inv S w0 H) Q' l a:=by
   intro l
   induction l with
   | nil=>exact fun a Q Q' hq h=>hq a h
   | cons o l ih=>
     intro a Q Q' hq h
     unfold wpQuiet at h ⊢
     split
     · rename_i hw;rw[if_pos hw] at h;exact Oper.quiet_mono (fun a=>ih a Q Q' hq) h
     · rename_i hw;rw[if_neg hw] at h;exact ih _ Q Q' hq h
  exact mono _ _ _ _ (fun a ha w' hw'=>⟨rfl,ha.1,hw',ha.2⟩) h1)
 obtain⟨e,a',w',⟨rfl,hd,hi',E',hf',hk⟩,harr⟩:=hw C.b k cs
 obtain⟨tm,df⟩:=a'
 simp only at hd hf'
 subst hd
 obtain⟨m,ht,hs⟩:=hk w' hi' tm hf' cs
 refine⟨m,ht,?_⟩
 rw[Frame.atR_of_none hro] at hs ⊢
 exact Steps.trans harr hs
theorem wq_nil (h:WF C S w0 k D E H):WQ C S w0 ops [] k D E H:=fun tmps hf=>⟨rfl,E,hf,h⟩
theorem A3 {o:Oper} (hv:OpV C S w0 H D E o v) (hg:guardOk E ops o=some true) (hd:dstOk o.dst C.n=true) (h:WQ C S w0 ops rest k D (putE o.dst v E) H):WQ C S w0 ops (o::rest) k D E H:=fun tmps hf=>by
 unfold wpQuiet
 rw[if_pos (BC hf hg)]
 obtain⟨f1,f2⟩:=hf.putE (CF hd) v D
 refine⟨v,fun w hw=>hv tmps w hf hw,?_⟩
 rw[Da f2]
 exact h _ f1
theorem wq_skip {o:Oper} (hg:guardOk E ops o=some false) (hd:dstOk o.dst C.n=true) (h:WQ C S w0 ops rest k D (putE o.dst undef E) H):WQ C S w0 ops (o::rest) k D E H:=fun tmps hf=>by
 unfold wpQuiet
 rw[if_neg (by rw[BC hf hg];simp)]
 obtain⟨f1,f2⟩:=hf.putE (CF hd) undef D
 rw[Da f2]
 exact h _ f1
variable {kk k2:IntKind} {a b:Int} {xt yt:TypeId}
def clean (G:List Nat) (rest:List (Nat×Value)):List (Nat×Value):=rest.filter fun p=>G.contains p.1
def PF (C:Cx) (S:Nat→Prop) (w0:World) (G:List Nat) (k:List Item) (D:List Deferred) (acc rest:List (Nat×Value)) (H:List Ent):Prop:=WF C S w0 k D (acc++clean G rest) H
theorem look_append (l m:List (Nat×Value)) (t:Nat):look (l++m) t=match look l t with|some v=>some v|none=>look m t:=by
 induction l with
 | nil=>rfl
 | cons p l ih=>
   obtain⟨k,v⟩:=p
   rw[List.cons_append,Cq,Cq,ih]
   split<;>rfl
theorem look_clean (G:List Nat) (rest:List (Nat×Value)) (t:Nat) (u:Value) (h:look (clean G rest) t=some u):look rest t=some u:=by
 induction rest with
 | nil=>exact h
 | cons p rest ih=>
   obtain⟨q,v⟩:=p
   unfold clean at h ih
   rw[List.filter_cons] at h
   rw[Cq]
   by_cases hg:G.contains q=true
   · rw [if_pos hg,Cq] at h
     split
     · rename_i e;rw[if_pos e] at h;exact h
     · rename_i e;rw[if_neg e] at h;exact ih h
   · rw [if_neg hg] at h
     by_cases e:q=t
     · subst e
       exfalso
       have : ∀l:List (Nat×Value),look (l.filter fun p=>G.contains p.1) q=none:=by
        intro l
        induction l with
        | nil=>rfl
        | cons p l ih2=>
          obtain⟨r,v2⟩:=p
          rw[List.filter_cons]
          split
          · rename_i hr;rw[Cq,if_neg (by rintro rfl;exact hg hr)];exact ih2
          · exact ih2
       rw[this] at h;cases h
     · rw[if_neg e];exact ih h
def isFree (acc:List (Nat×Value)) (k:Nat):Bool:=match look acc k with|some _=>false|none=>true
theorem Aa (G:List Nat) (h:PF C S w0 G k D [] E H):WO C S w0 ops [] k D E H:=wo_nil (A1 (fun t u e=>look_clean G E t u e) h)
theorem BJ (G:List Nat) (h:PF C S w0 G k D [] E H):WQ C S w0 ops [] k D E H:=wq_nil (A1 (fun t u e=>look_clean G E t u e) h)
theorem Ab (n:Nat) (h:WO C S w0 ops ops.toList k D E H):WF C S w0 (.code (.region n ops false)::k) D E H:=w_reg h
theorem BL (n:Nat) (hro:C.b.roundOf=none) (hm:C.P.follows .mixedOrders=true) (hB:Region.lexB .any ops=true) (h:WQ C S w0 ops ops.toList k D E H):WF C S w0 (.code (.region n ops true)::k) D E H:=w_regQ hro hm hB h
theorem Al {G:List Nat} {acc:List (Nat×Value)} (h:WF C S w0 k D acc H):PF C S w0 G k D acc [] H:=by unfold PF;rwa [show clean G []=[] from rfl,List.append_nil]
theorem Ag {G:List Nat} {acc rest:List (Nat×Value)} {q:Nat} {v:Value} (hc:(G.contains q && isFree acc q)=true) (h:PF C S w0 G k D ((q,v)::acc) rest H):PF C S w0 G k D acc ((q,v)::rest) H:=by
 unfold PF at *
 refine A1 (fun t u e=>?_) h
 simp only[Bool.and_eq_true,isFree] at hc
 rw[List.cons_append,Cq,look_append] at e
 rw[look_append,clean,List.filter_cons,if_pos hc.1,Cq]
 by_cases he:q=t
 · subst he
   rw[if_pos rfl] at e ⊢
   cases hl:look acc q with
   | none=>exact e
   | some _=>rw[hl] at hc;simp at hc
 · rw[if_neg he] at e ⊢;exact e
theorem Aj {G:List Nat} {acc rest:List (Nat×Value)} {q:Nat} {v:Value} (hc:(G.contains q && isFree acc q)=false) (h:PF C S w0 G k D acc rest H):PF C S w0 G k D acc ((q,v)::rest) H:=by
 unfold PF at *
 refine A1 (fun t u e=>?_) h
 rw[look_append] at e ⊢
 rw[clean,List.filter_cons]
 by_cases hg:G.contains q=true
 · rw [if_pos hg,Cq]
   rw[hg] at hc
   simp only[Bool.true_and,isFree] at hc
   by_cases he:q=t
   · subst he
     cases hl:look acc q with
     | none=>rw[hl] at hc;simp at hc
     | some _=>rw[hl] at e;exact e
   · rw[if_neg he];exact e
 · rw[if_neg hg];exact e
theorem A7 (hx:opv E x=some (.int kk a)) (hy:opv E y=some (.int kk b)) {r:Bool} (h:decide (a < b)=r):OpV C S w0 H D E ⟨d,.binOp .lss xt x y yt,t,p,af,g⟩ (.bool r):=h▸ov_lss hx hy
theorem CQ (hx:opv E x=some (.int kk a)) (hy:opv E y=some (.int kk b)) {r:Bool} (h:decide (a≤b)=r):OpV C S w0 H D E ⟨d,.binOp .leq xt x y yt,t,p,af,g⟩ (.bool r):=h▸ov_leq hx hy
theorem Be (hx:opv E x=some (.int kk a)) (hy:opv E y=some (.int kk b)) {r:Bool} (h:decide (b < a)=r):OpV C S w0 H D E ⟨d,.binOp .gtr xt x y yt,t,p,af,g⟩ (.bool r):=h▸ov_gtr hx hy
theorem Bj (hx:opv E x=some (.int kk a)) (hy:opv E y=some (.int kk b)) {r:Bool} (h:decide (b≤a)=r):OpV C S w0 H D E ⟨d,.binOp .geq xt x y yt,t,p,af,g⟩ (.bool r):=h▸ov_geq hx hy
theorem Ay (hx:opv E x=some (.int kk a)) (hy:opv E y=some (.int kk b)) {r:Bool} (h:decide (a=b)=r):OpV C S w0 H D E ⟨d,.binOp .eql xt x y yt,t,p,af,g⟩ (.bool r):=h▸ov_eql hx hy
theorem AN (hx:opv E x=some (.int kk a)) (hy:opv E y=some (.int kk b)) {r:Bool} (h:(!decide (a=b))=r):OpV C S w0 H D E ⟨d,.binOp .neq xt x y yt,t,p,af,g⟩ (.bool r):=h▸ov_neq hx hy
theorem Ct {l m:List UInt8} (hx:opv E x=some (str l)) (hy:opv E y=some (str m)) {r:Bool} (h:decide (l=m)=r):OpV C S w0 H D E ⟨d,.binOp .eql xt x y yt,t,p,af,g⟩ (.bool r):=h▸ov_eqlS hx hy
theorem ov_neqS3 {l m:List UInt8} (hx:opv E x=some (str l)) (hy:opv E y=some (str m)) {r:Bool} (h:(!decide (l=m))=r):OpV C S w0 H D E ⟨d,.binOp .neq xt x y yt,t,p,af,g⟩ (.bool r):=h▸ov_neqS hx hy
theorem Ax {q:Prop} {_i:Decidable q} (h:¬q):(!decide q)=true:=by simp[h]
theorem As {q:Prop} {_i:Decidable q} (h:q):(!decide q)=false:=by simp[h]
end
end Go.Sl
namespace Go.Sl
open Go Go.RowKit Go.Shelf Go.Proofs
def QA (C:Cx) (k:List Item) (D:List Deferred):Exit→Act→World→Prop
 | .normal,a,w=>a.defers=D∧∃E,Fits E C.n a.tmps∧Go1 C k D E w
 | .panic chain,a,w=>a.defers=D∧a.tmps.size=C.n∧GoP C chain D [] w
 | _,_,_=>False
def Go3 (C:Cx) (ops:Array Oper) (fuel:Nat) (listed:Array Bool) (k:List Item) (D:List Deferred) (E:List (Nat×Value)) (w:World):Prop:=
 ∀tmps,Fits E C.n tmps→wpAny C.P .any ops (QA C k D) fuel listed {tmps:=tmps,defers:=D} w
def WA (C:Cx) (S:Nat→Prop) (w0:World) (ops:Array Oper) (fuel:Nat) (listed:Array Bool) (k:List Item) (D:List Deferred) (E:List (Nat×Value)) (H:List Ent):Prop:=
 ∀w,Inv S w0 H w→Go3 C ops fuel listed k D E w
section
variable {C:Cx} {S:Nat→Prop} {w0:World} {k:List Item} {D:List Deferred} {E:List (Nat×Value)} {H H':List Ent} {d:Option Tmp} {t t':TypeId} {p:String} {af:Array Edge} {g:Option (Nat×Bool)} {x y z:Operand} {v u:Value} {ops:Array Oper} {fuel:Nat} {listed listed':Array Bool}
theorem Cy (n:Nat) (hro:C.b.roundOf=none) (hm:C.P.follows .mixedOrders=true) {m:Nat} (hsz:ops.size=m) (h:WA C S w0 ops m (Array.replicate m false) k D E H):WF C S w0 (.code (.region n ops true)::k) D E H:=by
 subst hsz
 intro w hi tmps hf cs
 have hw:=wp_region_any (id:=n) (Q:=QA C k D) (a:={tmps:=tmps,defers:=D}) (w:=w) hm (h _ hi.drew tmps hf)
 obtain⟨e,a',w',hq,harr⟩:=hw C.b k cs
 cases e with
 | normal=>
   obtain⟨hd,E',hf',hg⟩:=hq
   obtain⟨tm,df⟩:=a'
   simp only at hd hf'
   subst hd
   obtain⟨m,ht,hs⟩:=hg tm hf' cs
   refine⟨m,ht,?_⟩
   rw[Frame.atR_of_none hro] at hs ⊢
   exact Steps.trans harr hs
 | panic chain=>
   obtain⟨hd,hsz,hg⟩:=hq
   obtain⟨tm,df⟩:=a'
   simp only at hd hsz
   subst hd
   obtain⟨todo,hst⟩:=harr
   obtain⟨m,ht,hs⟩:=hg tm ⟨hsz,fun _ _ h=>by cases h⟩ todo cs
   refine⟨m,ht,?_⟩
   rw[Frame.atR_of_none hro] at hs ⊢
   exact Steps.trans hst hs
 | exit _=>exact hq.elim
 | goto _=>exact hq.elim
 | ret=>exact hq.elim
 | outgrown=>exact hq.elim
theorem Ar (G:List Nat) (hr:Region.ready .any ops listed=[]) (h:PF C S w0 G k D [] E H):WA C S w0 ops fuel listed k D E H:=fun w hi tmps hf=>
 wpAny_done hr ⟨rfl,E,hf,(A1 (fun t u e=>look_clean G E t u e) h:WF C S w0 k D E H) w hi⟩ fuel
theorem qa_panic {o:Oper} {v:Value}:∀c (a:Act) w,QA C k D (.panic c) (a.put o.dst v) w→QA C k D (.panic c) a w:=by
 rintro c a w ⟨h1,h2,h3⟩
 refine⟨?_,?_,h3⟩
 · cases hd:o.dst<;>rw[hd] at h1<;>exact h1
 · cases hd:o.dst<;>rw[hd] at h2
   · exact h2
   · simpa [Act.put] using h2
theorem run_val {P:Program} {w w':World} {n:Next} (s:Sem Value) (h:(s >>= fun a=>pure (Next.value a)).run P w=.ok n w'):∃a,n=.value a:=by
 rw[Sem.run_bind] at h
 cases hs:s.run P w with
 | ok a w3=>rw[hs] at h;simp at h;exact⟨a,h.1.symm⟩
 | halt _ _=>rw[hs] at h;simp at h
def plainOp:Op→Bool
 | .move _|.assign _|.pick .. | .binOp .. | .unOp .. | .convert .. | .makeInterface .. | .makeFunc .. | .slice .. | .fieldAddr .. | .field .. | .indexAddr .. | .index .. | .extract .. | .build .. =>true
 | .call {callee:=.builtin .len,..}=>true
 | _=>false
theorem run_plain {P:Program} {w w':World} {n:Next} {ρ:Operand→Value} {o:Oper} (hp:plainOp o.op=true) (h:(execOp ρ o).run P w=.ok n w'):∃a,n=.value a:=by
 unfold execOp at h
 cases ho:o.op<;>rw[ho] at hp h<;>simp only[plainOp] at hp<;>first
  | (simp only[Sem.run_pure,Result.ok.injEq] at h;exact⟨_,h.1.symm⟩)
  | exact run_val _ h
  | (cases hp;done)
  | skip
 · simp only[Sem.run_bind] at h
   rename_i c a b
   cases hs:(asBool (ρ c)).run P w with
   | ok a w3=>rw[hs] at h;simp at h;exact⟨_,h.1.symm⟩
   | halt _ _=>rw[hs] at h;simp at h
 · rename_i c
   obtain⟨ce,args,tys⟩:=c
   cases ce with
   | value _=>simp at hp
   | invoke _ _=>simp at hp
   | builtin b=>
     cases b<;>simp at hp
     simp only[resolve,Sem.run_bind,Sem.run_pure,Result.andThen_ok,invoke,builtin] at h
     exact run_val _ (by rw[Sem.run_bind];exact h)
theorem wa_take (i:Nat) {o:Oper} (hi:ops[i]?=some o) (hv:∀w1,OpV C none_ w1 [] D E o v) (hs:Region.noSelect ops=true) (hf:Region.free .any ops listed i=true) (hr:(Region.ready .any ops listed).contains i=true)
 (hg:guardOk E ops o=some true) (hd:dstOk o.dst C.n=true) (hnc:plainOp o.op=true) (hl:listed.setIfInBounds i true=listed')
 (h:WA C S w0 ops fuel listed' k D (putE o.dst v E) H):WA C S w0 ops (fuel+1) listed k D E H:=fun w hiv tmps hft=>by
 obtain⟨f1,f2⟩:=hft.putE (CF hd) v D
 refine wpAny_take (v:=v) hi hs hf hr qa_panic (.inl ⟨BC hft hg,fun w1=>?_⟩) ?_
 · have hq:=hv w1 tmps w1 hft (Inv.start none_ w1)
   unfold Oper.quietAt at hq
   cases hR:(execOp ({tmps:=tmps,defers:=D}:Act).eval o).run C.P w1 with
   | halt _ _=>rw[hR] at hq;exact hq.elim
   | ok n w2=>
     obtain⟨a,rfl⟩:=run_plain hnc hR
     rw[hR] at hq
     obtain⟨rfl,rfl⟩:=hq
     rfl
 · rw[hl,Da f2];exact h w hiv _ f1
def WI (C:Cx) (S:Nat→Prop) (w0:World) (ops:Array Oper) (fuel:Nat) (listed:Array Bool) (i:Nat) (k:List Item) (D:List Deferred) (E:List (Nat×Value)) (H:List Ent):Prop:=
 ∀w,Inv S w0 H w→∀tmps,Fits E C.n tmps→wpOp C.P ops (QA C k D) i (wpAny C.P .any ops (QA C k D) fuel (listed.setIfInBounds i true)) {tmps:=tmps,defers:=D} w
theorem Af (i:Nat) (hr:Region.ready .any ops listed=[i]) (h:WI C S w0 ops fuel listed i k D E H):WA C S w0 ops (fuel+1) listed k D E H:=fun w hi tmps hf=>
 wpAny_all hr (by simp) fun j hj=>by simp at hj;subst hj;exact h w hi tmps hf
theorem AC (i j:Nat) (hr:Region.ready .any ops listed=[i,j]) (h:WI C S w0 ops fuel listed i k D E H) (h2:WI C S w0 ops fuel listed j k D E H):WA C S w0 ops (fuel+1) listed k D E H:=fun w hi tmps hf=>
 wpAny_all hr (by simp) fun q hq=>by simp at hq;rcases hq with rfl|rfl;exact h w hi tmps hf;exact h2 w hi tmps hf
theorem Cg (i j l:Nat) (hr:Region.ready .any ops listed=[i,j,l]) (h:WI C S w0 ops fuel listed i k D E H) (h2:WI C S w0 ops fuel listed j k D E H) (h3:WI C S w0 ops fuel listed l k D E H):WA C S w0 ops (fuel+1) listed k D E H:=fun w hi tmps hf=>
 wpAny_all hr (by simp) fun q hq=>by simp at hq;rcases hq with rfl|rfl|rfl;exact h w hi tmps hf;exact h2 w hi tmps hf;exact h3 w hi tmps hf
def OpKA (C:Cx) (D:List Deferred) (E:List (Nat×Value)) (d:Option Nat) (K:List (Nat×Value)→World→Prop):Result Next→Prop
 | .ok (.value v) w'=>K (putE d v E) w'
 | .ok .skip w'=>K (putE d undef E) w'
 | .ok (.enter f args) w'=>Calls C.P f args w' fun
  | .returned v,w''=>K (putE d v E) w''
  | .panicked chain,w''=>GoP C chain D [] w''
  | .outgrown,_=>False
 | .halt (.panic v) w'=>GoP C [{v,recovered:=false}] D [] w'
 | _=>False
theorem wi_op {i:Nat} {o:Oper} (hi:ops[i]?=some o) (hg:guardOk E ops o=some true) (hd:dstOk o.dst C.n=true) (hl:listed.setIfInBounds i true=listed')
 (h:∀w,Inv S w0 H w→∀tmps,Fits E C.n tmps→OpKA C D E o.dst (fun E' w'=>Go3 C ops fuel listed' k D E' w') ((execOp ({tmps:=tmps,defers:=D}:Act).eval o).run C.P w)):WI C S w0 ops fuel listed i k D E H:=fun w hiv tmps hft=>by
 unfold wpOp
 rw[hi]
 simp only
 rw[if_pos (BC hft hg),hl]
 left
 have hr:=h w hiv tmps hft
 unfold Oper.wp
 generalize (execOp ({tmps:=tmps,defers:=D}:Act).eval o).run C.P w=r at hr
 have put2:∀v,∃t',Fits (putE o.dst v E) C.n t'∧(({tmps:=tmps,defers:=D}:Act).put o.dst v)={tmps:=t',defers:=D}:=by
  intro v
  obtain⟨f1,f2⟩:=hft.putE (CF hd) v D
  exact⟨_,f1,Da f2⟩
 unfold OpKA at hr
 split at hr
 · rename_i v w'
   obtain⟨t',f1,e1⟩:=put2 v
   simp only[Oper.upon];rw[e1];exact hr t' f1
 · obtain ⟨t',f1,e1⟩:=put2 undef
   simp only[Oper.upon];rw[e1];exact hr t' f1
 · simp only[Oper.upon]
   refine Calls.mono hr fun e w'' he=>?_
   cases e with
   | returned v=>obtain⟨t',f1,e1⟩:=put2 v;simp only;rw[e1];exact he t' f1
   | panicked chain=>exact⟨rfl,hft.sz,he⟩
   | outgrown=>exact he.elim
 · simp only[Oper.upon]
   exact⟨rfl,hft.sz,hr⟩
 · exact hr.elim
theorem WA.go3 (h:WA C S w0 ops fuel listed k D E H) {w:World} (hi:Inv S w0 H w):Go3 C ops fuel listed k D E w:=h w hi
theorem Ao {i:Nat} {o:Oper} (hi:ops[i]?=some o) (hv:OpV C S w0 H D E o v) (hg:guardOk E ops o=some true) (hd:dstOk o.dst C.n=true) (hl:listed.setIfInBounds i true=listed')
 (h:WA C S w0 ops fuel listed' k D (putE o.dst v E) H):WI C S w0 ops fuel listed i k D E H:=wi_op hi hg hd hl fun w hiv tmps hft=>by
 have hq:=hv tmps w hft hiv
 unfold Oper.quietAt at hq
 generalize (execOp ({tmps:=tmps,defers:=D}:Act).eval o).run C.P w=r at hq ⊢
 unfold Oper.quietUpon at hq
 split at hq
 · obtain⟨rfl,rfl⟩:=hq;exact h.go3 hiv
 · obtain⟨rfl,rfl⟩:=hq;exact h.go3 hiv
 · obtain ⟨rfl,hc⟩:=hq
   refine hc.mono ?_
   rintro e w'' ⟨rfl,hi'⟩
   exact h.go3 hi'
 · exact hq.elim
end
end Go.Sl
namespace Go.Sl
open Go Go.RowKit Go.Shelf Go.Proofs
section
variable {C:Cx} {S:Nat→Prop} {w0:World} {k:List Item} {D:List Deferred} {E:List (Nat×Value)} {H H':List Ent} {d:Option Tmp} {t t':TypeId} {p:String} {af:Array Edge} {g:Option (Nat×Bool)} {x y z:Operand} {v u:Value} {ops:Array Oper} {rest:List Oper}
theorem cells1 {v:Value} (h:okCell v=true):v.cells= #[v]:=by
 cases v<;>simp[okCell] at h<;>rfl
theorem Cw {pl:Array (Nat×Nat)} {ti:TypeInfo} {zs:Array Value} (hpl:placesOf C.P t'=some pl) (hti:C.P.info? t'=some ti) (hz:ti.zero=some (.agg zs)):OpV C S w0 H D E ⟨d,.build t' #[],t,p,af,g⟩ (.agg zs):=
 Bq (vs:=[]) hpl hti hz rfl rfl
theorem ov_bldA {ti:TypeInfo} {z0 z1:Value} (hpl:placesOf C.P t'=some #[(0,1),(1,1)]) (hti:C.P.info? t'=some ti) (hz:ti.zero=some (.agg #[z0,z1])) (hx:opv E x=some v) (hv:okCell v=true):OpV C S w0 H D E ⟨d,.build t' #[(0,x)],t,p,af,g⟩ (.agg #[v,z1]):=
 Bq (vs:=[(0,v)]) hpl hti hz (by simp[partv,hx]) (by simp[Instr.fill,cells1 hv])
theorem ov_bldB {ti:TypeInfo} {z0 z1:Value} (hpl:placesOf C.P t'=some #[(0,1),(1,1)]) (hti:C.P.info? t'=some ti) (hz:ti.zero=some (.agg #[z0,z1])) (hx:opv E x=some v) (hy:opv E y=some u) (hv:okCell v=true) (hu:okCell u=true):OpV C S w0 H D E ⟨d,.build t' #[(0,x),(1,y)],t,p,af,g⟩ (.agg #[v,u]):=
 Bq (vs:=[(0,v),(1,u)]) hpl hti hz (by simp[partv,hx,hy]) (by simp[Instr.fill,cells1 hv,cells1 hu])
theorem CB {ti:TypeInfo} {z0 z1 z2 q:Value} (hpl:placesOf C.P t'=some #[(0,1),(1,1),(2,1)]) (hti:C.P.info? t'=some ti) (hz:ti.zero=some (.agg #[z0,z1,z2])) (hx:opv E x=some v) (hy:opv E y=some u) (hzz:opv E z=some q) (hv:okCell v=true) (hu:okCell u=true) (hq:okCell q=true):OpV C S w0 H D E ⟨d,.build t' #[(0,x),(1,y),(2,z)],t,p,af,g⟩ (.agg #[v,u,q]):=
 Bq (vs:=[(0,v),(1,u),(2,q)]) hpl hti hz (by simp[partv,hx,hy,hzz]) (by simp[Instr.fill,cells1 hv,cells1 hu,cells1 hq])
theorem rng1:Array.range 1= #[0]:=by decide
theorem rng2:Array.range 2= #[0,1]:=by decide
theorem rng3:Array.range 3= #[0,1,2]:=by decide
theorem wo_bsA3 {el:Nat} {z0 z1 z2 a b c:Value} {ti:TypeInfo} (hu:C.P.underlying t'=some (.slice el)) (hti:C.P.info? el=some ti) (hsz:ti.size=3) (hz:ti.zero=some (.agg #[z0,z1,z2])) (hx:opv E x=some (.agg #[a,b,c]))
 (hg:guardOk E ops ⟨d,.buildSlice t' 1 #[(0,x)],t,p,af,g⟩=some true) (hd:dstOk d C.n=true)
 (h:∀bb,w0.heap.size≤bb→WO C S w0 ops rest k D (putE d (.slice (some ⟨bb,0,none⟩) 1 1) E) (⟨bb,true,.cells #[a,b,c] el (0,0)⟩::H)):WO C S w0 ops (⟨d,.buildSlice t' 1 #[(0,x)],t,p,af,g⟩::rest) k D E H:=
 B2 (sz:=3) (vs:=[(0,.agg #[a,b,c])]) (cs:= #[a,b,c]) hu hti hsz hz rfl rfl (by simp[partv,hx]) (by simp[Instr.fill,Value.cells,rng1,rng2,rng3]) hg hd h
theorem wo_bs1 {el:Nat} {zv a:Value} {ti:TypeInfo} (hu:C.P.underlying t'=some (.slice el)) (hti:C.P.info? el=some ti) (hsz:ti.size=1) (hz:ti.zero=some zv) (hx:opv E x=some a) (ha:okCell a=true)
 (hg:guardOk E ops ⟨d,.buildSlice t' 1 #[(0,x)],t,p,af,g⟩=some true) (hd:dstOk d C.n=true)
 (h:∀bb,w0.heap.size≤bb→WO C S w0 ops rest k D (putE d (.slice (some ⟨bb,0,none⟩) 1 1) E) (⟨bb,true,.cells #[a] el (0,0)⟩::H)):WO C S w0 ops (⟨d,.buildSlice t' 1 #[(0,x)],t,p,af,g⟩::rest) k D E H:=
 B2 (sz:=1) (vs:=[(0,a)]) (cs:= #[a]) hu hti hsz hz rfl rfl (by simp[partv,hx]) (by simp[Instr.fill,cells1 ha,rng1,rng2,rng3]) hg hd h
def rowE (b:Option Nat) (xs rst:List Value) (el:TypeId):List Ent:=match b with|none=>[]|some b=>[⟨b,true,.cells (xs++rst).toArray el (0,0)⟩]
theorem BW {A B:List Ent} {b:Option Nat} {xs rst:List Value} {el cap:Nat} (h:b=none→cap=0):RowAt (A++(rowE b xs rst el++B)) (A++B) el xs rst cap b:=by
 cases b with
 | none=>exact⟨h rfl,rfl⟩
 | some b=>
   refine⟨by simp[rowE],?_⟩
   induction A with
   | nil=>exact .head _ _
   | cons a A ih=>exact .tail _ ih
theorem rowAt0 {B:List Ent} {b:Option Nat} {xs rst:List Value} {el cap:Nat} (h:b=none→cap=0):RowAt (rowE b xs rst el++B) B el xs rst cap b:=BW (A:=[]) h
theorem Upd.app {b:Nat} {o o':Obj} (A:List Ent) {H H':List Ent} (h:Upd b o o' H H'):Upd b o o' (A++H) (A++H'):=by
 induction A with
 | nil=>exact h
 | cons a A ih=>exact .tail _ ih
theorem all_ok {cs:Array Value} (h:cs.toList.all okCell=true):∀v∈cs.toList,(match v with|.agg _|.tuple _=>false|_=>true)=true:=List.all_eq_true.1 h
theorem wo_storeD {b off lo hi':Nat} {c cs c':Array Value} {el:TypeId} (hx:opv E x=some (.pointer (some ⟨b,off,none⟩))) (hy:opv E y=some (.agg cs)) (hv:cs.toList.all okCell=true)
 (hs:(C.P.info? t').map (·.size)=some cs.size) (hc':(cs.toList.zipIdx off).foldl (fun c (p:Value×Nat)=>c.setIfInBounds p.2 p.1) c=c') (hu:Upd b (.cells c el (lo,hi')) (.cells c' el (lo,hi')) H H') (hlt:off+cs.size≤c.size) (hf:off+cs.size≤lo∨hi'≤off)
 (hg:guardOk E ops ⟨d,.store t' x y,t,p,af,g⟩=some true) (hd:dstOk d C.n=true) (h:WO C S w0 ops rest k D (putE d undef E) H'):WO C S w0 ops (⟨d,.store t' x y,t,p,af,g⟩::rest) k D E H:=
 wo_storeA hx hy (all_ok hv) hs hc' hu hlt hf hg hd h
theorem AI {b:Nat} {c cs:Array Value} {el:TypeId} (hx:opv E x=some (.pointer (some ⟨b,0,none⟩))) (hy:opv E y=some (.agg cs)) (hv:cs.toList.all okCell=true)
 (hs:(C.P.info? t').map (·.size)=some cs.size) (hu:Upd b (.cells c el (0,0)) (.cells cs el (0,0)) H H') (hlt:cs.size=c.size)
 (hg:guardOk E ops ⟨d,.store t' x y,t,p,af,g⟩=some true) (hd:dstOk d C.n=true) (h:WO C S w0 ops rest k D (putE d undef E) H'):WO C S w0 ops (⟨d,.store t' x y,t,p,af,g⟩::rest) k D E H:=
 wo_storeA hx hy (all_ok hv) hs (by
  have:=foldl_set c.toList cs.toList [] c.toList (by simp;omega) rfl
  simp only[List.length_nil,List.nil_append] at this
  rw[show c=c.toList.toArray from rfl]
  rw[this,List.drop_eq_nil_of_le (by simp;omega)];simp) hu (by omega) (.inr (by omega)) hg hd h
section
variable {α:Type} (f:α→List Value)
def rowV (ps:List α):List Value:=ps.flatMap f
theorem Ba {m:Nat} (hf:∀a,(f a).length=m):∀ps:List α,(rowV f ps).length=ps.length*m
 | []=>by simp[rowV]
 | a :: ps=>by
   have:=Ba hf ps
   simp only[rowV] at this ⊢
   rw[List.flatMap_cons,List.length_append,this,hf,List.length_cons,Nat.succ_mul,Nat.add_comm]
theorem C9 {m:Nat} (hf:∀a,(f a).length=m):∀(ps:List α) (j i:Nat) (hj:j < ps.length),i < m→(rowV f ps)[j*m+i]?=(f ps[j])[i]?
 | a :: ps,0,i,hj,hi=>by
   simp only[rowV,List.flatMap_cons,Nat.zero_mul,Nat.zero_add,List.getElem_cons_zero]
   rw[List.getElem?_append_left (by rw[hf];exact hi)]
 | a :: ps,j+1,i,hj,hi=>by
   have:=C9 hf ps j i (by simp at hj;omega) hi
   simp only[rowV,List.flatMap_cons,List.getElem_cons_succ] at this ⊢
   rw[List.getElem?_append_right (by rw[hf,Nat.succ_mul];omega),hf,show(j+1)*m+i - m=j*m+i from by rw[Nat.succ_mul];omega,this]
end
structure EqC (P:Program) (t:TypeId) (v u:Value) (r:Bool):Prop where
 flat:∃dd,P.underlying t=some dd∧flatD dd=true
 run:∀d w,(Op.equalIn (d+1) t v u).run P w=.ok r w
theorem eqc_int {P:Program} {kk k2:IntKind} {a b:Int} (h:P.underlying t=some (.int k2)):EqC P t (.int kk a) (.int kk b) (decide (a=b)):=
 ⟨⟨_,h,rfl⟩,fun d w=>by rw[run_equalIn_int w d t kk k2 a b h];congr 1⟩
theorem eqc_str {P:Program} {a b:List UInt8} (h:P.underlying t=some .string):EqC P t (str a) (str b) (decide (a=b)):=
 ⟨⟨_,h,rfl⟩,fun d w=>by
  rw[show str a=.string ⟨a.toArray⟩ from rfl,show str b=.string ⟨b.toArray⟩ from rfl,run_equalIn_string w d t _ _ h,toList_list,toList_list]
  congr 1
  rw[Bool.eq_iff_iff];simp⟩
inductive EqFs (P:Program) (xs ys:Array Value):List Field→List Bool→Prop
 | nil:EqFs P xs ys [] []
 | cons {f:Field} {fs:List Field} {v u:Value} {r:Bool} {rs:List Bool} (hn:f.name ≠ "_") (h1:xs[f.offset]?=some v) (h2:ys[f.offset]?=some u) (he:EqC P f.type v u r) (hs:EqFs P xs ys fs rs):EqFs P xs ys (f::fs) (r::rs)
theorem run_eqFs {P:Program} {xs ys:Array Value} {w:World} (d:Nat):∀(fs:List Field) (rs:List Bool),EqFs P xs ys fs rs →
 (Op.eqFields (d+1) xs ys fs).run P w=.ok (rs.all id) w
 | [],_,h=>by cases h;simp[Op.eqFields]
 | f :: fs,_,.cons (r:=r) (rs:=rs) hn h1 h2 he hs=>by
   obtain⟨dd,h3,h4⟩:=he.flat
   have ih:=run_eqFs (w:=w) d fs rs hs
   simp only[Op.eqFields,hn,ne_eq,not_false_eq_true,if_true,Sem.run_bind,run_part1 h3 h4 h1,run_part1 h3 h4 h2,Result.andThen_ok,he.run d w]
   cases r
   · simp
   · simpa using ih
theorem ov_eqlR {xt yt:TypeId} {xs ys:Array Value} {rs:List Bool} (hfs:C.P.underlying xt=some (.struct (C.P.fieldsOf xt))) (hh:C.P.stoodInHeld xt=false) (hm:C.P.eqGuardType C.P.depth xt=false) (hx:opv E x=some (.agg xs)) (hy:opv E y=some (.agg ys))
 (hr:EqFs C.P xs ys (C.P.fieldsOf xt).toList rs):OpV C S w0 H D E ⟨d,.binOp .eql xt x y yt,t,p,af,g⟩ (.bool (rs.all id)):=
 ov_binE hx hy (fun w=>run_eqGuard_agg w _ _ _ _ _ _ hm) fun w=>by rw[run_eql_struct,run_equalIn_agg w _ _ _ _ hfs hh,run_eqFs _ _ _ hr];rfl
theorem ov_neqR {xt yt:TypeId} {xs ys:Array Value} {rs:List Bool} (hfs:C.P.underlying xt=some (.struct (C.P.fieldsOf xt))) (hh:C.P.stoodInHeld xt=false) (hm:C.P.eqGuardType C.P.depth xt=false) (hx:opv E x=some (.agg xs)) (hy:opv E y=some (.agg ys))
 (hr:EqFs C.P xs ys (C.P.fieldsOf xt).toList rs):OpV C S w0 H D E ⟨d,.binOp .neq xt x y yt,t,p,af,g⟩ (.bool (!rs.all id)):=
 ov_binE hx hy (fun w=>run_eqGuard_agg w _ _ _ _ _ _ hm) fun w=>by rw[run_neq_struct,run_equalIn_agg w _ _ _ _ hfs hh,run_eqFs _ _ _ hr];rfl
theorem run_pushes {P:Program} {w:World} (f:Value→ByteArray→Sem (ForInStep ByteArray)) (hf:∀n s,f (.int .u8 n) s=pure (ForInStep.yield (s.push (UInt8.ofNat n.toNat)))) (l:List UInt8):∀s:ByteArray,(forIn (byv l) s f).run P w=.ok ⟨(s.data.toList++l).toArray⟩ w:=by
 induction l with
 | nil=>intro s;simp[byv]
 | cons c l ih=>
   intro s
   simp only[byv,List.map_cons] at ih ⊢
   rw[List.forIn_cons,hf]
   simp only[Sem.run_bind,Sem.run_pure,Result.andThen_ok]
   rw[ih]
   simp[ByteArray.push]
theorem run_forArr {P:Program} {w:World} (f:Value→ByteArray→Sem (ForInStep ByteArray)) (hf:∀n s,f (.int .u8 n) s=pure (ForInStep.yield (s.push (UInt8.ofNat n.toNat)))) (l:List UInt8):(forIn (byv l).toArray ByteArray.empty f).run P w=.ok ⟨l.toArray⟩ w:=by
 rw[List.forIn_toArray,run_pushes f hf]
 rfl
end
end Go.Sl
namespace Go.Sl
open Go Go.RowKit Go.Shelf Go.Proofs
section
variable {C:Cx} {S:Nat→Prop} {w0:World} {k:List Item} {D:List Deferred} {E:List (Nat×Value)} {H H':List Ent} {d:Option Tmp} {t t':TypeId} {p:String} {af:Array Edge} {g:Option (Nat×Bool)} {x y z:Operand} {v u:Value} {ops:Array Oper} {fuel:Nat} {listed listed':Array Bool} {i:Nat}
theorem A9 {b off lo hi':Nat} {c:Array Value} {el:TypeId} 
 (hop:ops[i]?=some ⟨d,.store t' x y,t,p,af,g⟩) (hx:opv E x=some (.pointer (some ⟨b,off,none⟩))) (hy:opv E y=some v) (hv:(match v with|.agg _|.tuple _=>false|_=>true)=true)
 (hs:(C.P.info? t').map (·.size)=some 1) (hu:Upd b (.cells c el (lo,hi')) (.cells (c.setIfInBounds off v) el (lo,hi')) H H') (hlt:off < c.size) (hf:off < lo∨hi'≤off)
 (hg:guardOk E ops ⟨d,.store t' x y,t,p,af,g⟩=some true) (hd:dstOk d C.n=true) (hl:listed.setIfInBounds i true=listed') (h:WA C S w0 ops fuel listed' k D (putE d undef E) H'):WI C S w0 ops fuel listed i k D E H:=by
 refine wi_op hop hg hd hl fun w hi tmps hft=>?_
 have hc:w.cell? ⟨b,off,none⟩=some (c[off]'hlt):=hi.cell hu.mem (Array.getElem?_eq_getElem hlt)
 have hfz:=notfz (S:=S) hi hu.mem hf
 have hvc:v.cells= #[v]:=by cases v<;>simp_all [Value.cells]
 cases hti:C.P.info? t' with
 | none=>rw[hti] at hs;simp at hs
 | some ti=>
   rw[hti] at hs;simp at hs
   have hrun:(execOp ({tmps:=tmps,defers:=D}:Act).eval (⟨d,.store t' x y,t,p,af,g⟩:Oper)).run C.P w=.ok .skip (w.setCell ⟨b,off,none⟩ v):=by
    have e2:(⟨b,off,none⟩:Addr).add 0=⟨b,off,none⟩:=rfl
    have hst:(store ⟨b,off,none⟩ v).run C.P w=.ok () (w.setCell ⟨b,off,none⟩ v):=by
     cases v<;>simp_all [store,Sem.run]
    simp[execOp,hft.opv D hx,hft.opv D hy,Instr.storeAt,Instr.sureAddr,storeVar,sizeOf,typeInfo,program,Sem.run,hti,hs,hvc,storeCells,e2,hst]
   rw[hrun]
   refine h.go3 (hi.upd hu rfl rfl rfl (by simp[World.setCell]) (fun j hj=>?_) ?_ (fun _=>.cells (by simp)))
   · simp only[World.setCell,Array.getElem?_modify];rw[if_neg (by omega)]
   · have hb:=hi.hb _ hu.mem
     simp only at hb
     simp only[World.setCell,Array.getElem?_modify,if_true,hb]
     simp
theorem Cz {b:Nat} {c0:Value} {el:TypeId} 
 (hop:ops[i]?=some ⟨d,.store t' x y,t,p,af,g⟩) (hx:opv E x=some (.pointer (some ⟨b,0,none⟩))) (hy:opv E y=some v) (hv:(match v with|.agg _|.tuple _=>false|_=>true)=true)
 (hs:(C.P.info? t').map (·.size)=some 1) (hu:Upd b (.cells #[c0] el (0,0)) (.cells #[v] el (0,0)) H H')
 (hg:guardOk E ops ⟨d,.store t' x y,t,p,af,g⟩=some true) (hd:dstOk d C.n=true) (hl:listed.setIfInBounds i true=listed') (h:WA C S w0 ops fuel listed' k D (putE d undef E) H'):WI C S w0 ops fuel listed i k D E H:=
 A9 (c:= #[c0]) hop hx hy hv hs (by exact hu) (by simp) (.inr (by simp)) hg hd hl h
theorem wi_storeA {b off lo hi':Nat} {c cs c':Array Value} {el:TypeId} 
 (hop:ops[i]?=some ⟨d,.store t' x y,t,p,af,g⟩) (hx:opv E x=some (.pointer (some ⟨b,off,none⟩))) (hy:opv E y=some (.agg cs)) (hv:∀v∈cs.toList,(match v with|.agg _|.tuple _=>false|_=>true)=true)
 (hs:(C.P.info? t').map (·.size)=some cs.size) (hc':(cs.toList.zipIdx off).foldl (fun c (p:Value×Nat)=>c.setIfInBounds p.2 p.1) c=c') (hu:Upd b (.cells c el (lo,hi')) (.cells c' el (lo,hi')) H H') (hlt:off+cs.size≤c.size) (hf:off+cs.size≤lo∨hi'≤off)
 (hg:guardOk E ops ⟨d,.store t' x y,t,p,af,g⟩=some true) (hd:dstOk d C.n=true) (hl:listed.setIfInBounds i true=listed') (h:WA C S w0 ops fuel listed' k D (putE d undef E) H'):WI C S w0 ops fuel listed i k D E H:=by
 refine wi_op hop hg hd hl fun w hi tmps hft=>?_
 obtain ⟨w',g1,g2,g3,g4,g5,g6,g7⟩:=CK (P:=C.P) b cs.toList off 0 w hv (fun j hj=>by
  have hj':j < cs.size:=by simpa using hj
  refine⟨?_,notfz (S:=S) hi hu.mem (by omega)⟩
  rw[hi.cell (off:=off+0+j) hu.mem (Array.getElem?_eq_getElem (by omega))];rfl)
 cases hti:C.P.info? t' with
 | none=>rw[hti] at hs;simp at hs
 | some ti=>
   rw[hti] at hs;simp at hs
   have hrun:(execOp ({tmps:=tmps,defers:=D}:Act).eval (⟨d,.store t' x y,t,p,af,g⟩:Oper)).run C.P w=.ok .skip w':=by
    simp[execOp,hft.opv D hx,hft.opv D hy,Instr.storeAt,Instr.sureAddr,storeVar,sizeOf,typeInfo,program,Sem.run,hti,hs,Value.cells,g1]
   rw[hrun]
   refine h.go3 (hi.upd hu g2 g3 g4 g5 g6 ?_ (fun _=>.cells (by rw[←hc',CW])))
   rw[g7 c el (lo,hi') (hi.hb _ hu.mem),←hc']
   simp
theorem wi_storeD {b off lo hi':Nat} {c cs c':Array Value} {el:TypeId} 
 (hop:ops[i]?=some ⟨d,.store t' x y,t,p,af,g⟩) (hx:opv E x=some (.pointer (some ⟨b,off,none⟩))) (hy:opv E y=some (.agg cs)) (hv:cs.toList.all okCell=true)
 (hs:(C.P.info? t').map (·.size)=some cs.size) (hc':(cs.toList.zipIdx off).foldl (fun c (p:Value×Nat)=>c.setIfInBounds p.2 p.1) c=c') (hu:Upd b (.cells c el (lo,hi')) (.cells c' el (lo,hi')) H H') (hlt:off+cs.size≤c.size) (hf:off+cs.size≤lo∨hi'≤off)
 (hg:guardOk E ops ⟨d,.store t' x y,t,p,af,g⟩=some true) (hd:dstOk d C.n=true) (hl:listed.setIfInBounds i true=listed') (h:WA C S w0 ops fuel listed' k D (putE d undef E) H'):WI C S w0 ops fuel listed i k D E H:=
 wi_storeA hop hx hy (all_ok hv) hs hc' hu hlt hf hg hd hl h
theorem Au {b:Nat} {c cs:Array Value} {el:TypeId} 
 (hop:ops[i]?=some ⟨d,.store t' x y,t,p,af,g⟩) (hx:opv E x=some (.pointer (some ⟨b,0,none⟩))) (hy:opv E y=some (.agg cs)) (hv:cs.toList.all okCell=true)
 (hs:(C.P.info? t').map (·.size)=some cs.size) (hu:Upd b (.cells c el (0,0)) (.cells cs el (0,0)) H H') (hlt:cs.size=c.size)
 (hg:guardOk E ops ⟨d,.store t' x y,t,p,af,g⟩=some true) (hd:dstOk d C.n=true) (hl:listed.setIfInBounds i true=listed') (h:WA C S w0 ops fuel listed' k D (putE d undef E) H'):WI C S w0 ops fuel listed i k D E H:=
 wi_storeA hop hx hy (all_ok hv) hs (by
  have:=foldl_set c.toList cs.toList [] c.toList (by simp;omega) rfl
  simp only[List.length_nil,List.nil_append] at this
  rw[show c=c.toList.toArray from rfl]
  rw[this,List.drop_eq_nil_of_le (by simp;omega)];simp) hu (by omega) (.inr (by omega)) hg hd hl h
theorem AF {ti:TypeInfo} {zv:Value} {cs:Array Value} 
 (hop:ops[i]?=some ⟨d,.alloc t',t,p,af,g⟩) (hinf:C.P.info? t'=some ti) (hz:ti.zero=some zv) (hcs:zv.cells=cs) (hg:guardOk E ops ⟨d,.alloc t',t,p,af,g⟩=some true) (hd:dstOk d C.n=true) (hl:listed.setIfInBounds i true=listed')
 (h:∀b,w0.heap.size≤b→WA C S w0 ops fuel listed' k D (putE d (.pointer (some ⟨b,0,none⟩)) E) (⟨b,true,.cells cs t' (0,0)⟩::H)):WI C S w0 ops fuel listed i k D E H:=by
 refine wi_op hop hg hd hl fun w hiv tmps hft=>?_
 have hrun:(execOp ({tmps:=tmps,defers:=D}:Act).eval (⟨d,.alloc t',t,p,af,g⟩:Oper)).run C.P w=.ok (.value (.pointer (some ⟨w.heap.size,0,none⟩))) {w with heap:=w.heap.push (.cells cs t' (0,0))}:=by
  simp[execOp,Instr.alloc,zeroValue,typeInfo,program,Sem.run,hinf,hz,newVar,newRow,hcs]
 rw[hrun]
 exact(h _ hiv.fr.size).go3 (hiv.new _)
theorem wi_buildSlice {el n sz : Nat} {zv:Value} {ti:TypeInfo} {vs:List (Nat×Value)} {parts:Array (Nat×Operand)} {cs:Array Value} 
 (hop:ops[i]?=some ⟨d,.buildSlice t' n parts,t,p,af,g⟩) (hu:C.P.underlying t'=some (.slice el)) (hti:C.P.info? el=some ti) (hsz:ti.size=sz) (hz:ti.zero=some zv) (hpos:Nat.blt 0 (n*sz)=true) (hle:Nat.ble (n*sz) 16777216=true)
 (hp:partv E parts.toList=some vs) (hfill:Instr.fill (fun i=>some (i*sz,sz)) ((Array.range (n*sz)).map (zv.cells[· % zv.cells.size]!)) vs=some cs) (hg:guardOk E ops ⟨d,.buildSlice t' n parts,t,p,af,g⟩=some true) (hd:dstOk d C.n=true) (hl:listed.setIfInBounds i true=listed')
 (h:∀bb,w0.heap.size≤bb→WA C S w0 ops fuel listed' k D (putE d (.slice (some ⟨bb,0,none⟩) n n) E) (⟨bb,true,.cells cs el (0,0)⟩::H)):WI C S w0 ops fuel listed i k D E H:=by
 refine wi_op hop hg hd hl fun w hi tmps hft=>?_
 have h1:0 < n*sz:=by simpa using hpos
 have h2:n*sz≤16777216:=by simpa using hle
 have h3:(parts.map (fun (i,x)=>(i,({tmps:=tmps,defers:=D}:Act).eval x))).toList=vs:=by
  rw[←hft.partv (D:=D) hp];simp
 simp at h3
 have hrun : (execOp ({ tmps := tmps, defers:=D}:Act).eval (⟨d,.buildSlice t' n parts,t,p,af,g⟩:Oper)).run C.P w=.ok (.value (.slice (some ⟨w.heap.size,0,none⟩) n n)) {w with heap:=w.heap.push (.cells cs el (0,0))}:=by
  have hs0:=BA (t':=el) (P:=C.P) (w:=w) (n:=sz) (by rw[hti,←hsz];rfl)
  have hz0:(zeroValue el).run C.P w=.ok zv w:=by simp[zeroValue,B0 hti,hz]
  have e1 : ¬ (n * sz > 2 ^ 24) := by have:(2:Nat) ^ 24=16777216:=by decide
                                      omega
  have e2:¬(n*sz=0):=by omega
  simp only[execOp,Instr.buildSlice,Sem.run_bind,AA hu,Result.andThen_ok,hs0]
  rw[if_neg e1]
  simp only[Sem.run_bind,Sem.run_pure,Result.andThen_ok,if_neg e2,hz0,Array.toList_map,h3,hfill,newRow,newObj,Sem.run]
 rw[hrun]
 exact(h _ hi.fr.size).go3 (hi.new _)
theorem CH {el:Nat} {z0 z1 z2 a b c:Value} {ti:TypeInfo} 
 (hop:ops[i]?=some ⟨d,.buildSlice t' 1 #[(0,x)],t,p,af,g⟩) (hu:C.P.underlying t'=some (.slice el)) (hti:C.P.info? el=some ti) (hsz:ti.size=3) (hz:ti.zero=some (.agg #[z0,z1,z2])) (hx:opv E x=some (.agg #[a,b,c]))
 (hg:guardOk E ops ⟨d,.buildSlice t' 1 #[(0,x)],t,p,af,g⟩=some true) (hd:dstOk d C.n=true) (hl:listed.setIfInBounds i true=listed')
 (h:∀bb,w0.heap.size≤bb→WA C S w0 ops fuel listed' k D (putE d (.slice (some ⟨bb,0,none⟩) 1 1) E) (⟨bb,true,.cells #[a,b,c] el (0,0)⟩::H)):WI C S w0 ops fuel listed i k D E H:=
 wi_buildSlice (sz:=3) (vs:=[(0,.agg #[a,b,c])]) (cs:= #[a,b,c]) hop hu hti hsz hz rfl rfl (by simp[partv,hx]) (by simp[Instr.fill,Value.cells,rng1,rng2,rng3]) hg hd hl h
theorem wi_bs1 {el:Nat} {zv a:Value} {ti:TypeInfo} 
 (hop:ops[i]?=some ⟨d,.buildSlice t' 1 #[(0,x)],t,p,af,g⟩) (hu:C.P.underlying t'=some (.slice el)) (hti:C.P.info? el=some ti) (hsz:ti.size=1) (hz:ti.zero=some zv) (hx:opv E x=some a) (ha:okCell a=true)
 (hg:guardOk E ops ⟨d,.buildSlice t' 1 #[(0,x)],t,p,af,g⟩=some true) (hd:dstOk d C.n=true) (hl:listed.setIfInBounds i true=listed')
 (h:∀bb,w0.heap.size≤bb→WA C S w0 ops fuel listed' k D (putE d (.slice (some ⟨bb,0,none⟩) 1 1) E) (⟨bb,true,.cells #[a] el (0,0)⟩::H)):WI C S w0 ops fuel listed i k D E H:=
 wi_buildSlice (sz:=1) (vs:=[(0,a)]) (cs:= #[a]) hop hu hti hsz hz rfl rfl (by simp[partv,hx]) (by simp[Instr.fill,cells1 ha,rng1,rng2,rng3]) hg hd hl h
theorem Bu {el sz n cap kn:Nat} {ti:TypeInfo} {zv:Value} {base:Option Nat} {xs rst new:List Value} {sT xT:TypeId} {aT:Array TypeId} {e2:TypeId} {b2 o2 c2:Nat} {rw2:Bool} {cc:Array Value} {el2:TypeId} {fz2:Nat×Nat}
 (hop:ops[i]?=some ⟨d,.call {callee:=.builtin .append,args:= #[x,y],argTypes:=aT},t,p,af,g⟩) 
 (hx:opv E x=some (.slice (base.map fun b=>⟨b,0,none⟩) n cap)) (hy:opv E y=some (.slice (some ⟨b2,o2,none⟩) kn c2)) (hu:C.P.underlying sT=some (.slice el)) (hux:C.P.underlying xT=some (.slice e2)) (haT:aT= #[sT,xT]) (hti:C.P.info? el=some ti) (hsz:ti.size=sz) (hpos:0 < sz)
 (hz:ti.zero=some zv) (hzs:zv.cells.size=sz) (hxs:xs.length=n*sz) (hcap:xs.length+rst.length=cap*sz) (hb:RowAt H H' el xs rst cap base)
 (hm:(⟨b2,rw2,.cells cc el2 fz2⟩:Ent)∈H) (hnew:(cc.extract o2 (o2+kn*sz)).toList=new) (hle:o2+kn*sz≤cc.size) (hok:∀v∈new,okCell v=true)
 (hroom:(2*(n+kn)+192)*ti.bytes≤281474976710656) (hmax:n+kn≤4611686018427387904) (hk:0 < kn) (hg:guardOk E ops ⟨d,.call {callee:=.builtin .append,args:= #[x,y],argTypes:=aT},t,p,af,g⟩=some true) (hd:dstOk d C.n=true) (hl:listed.setIfInBounds i true=listed')
 (h:∀b' cap' rst',(xs++new).length+rst'.length=cap'*sz→n+kn≤cap'→WA C S w0 ops fuel listed' k D (putE d (.slice (some ⟨b',0,none⟩) (n+kn) cap') E) (⟨b',true,.cells (xs++new++rst').toArray el (0,0)⟩::H')):
 WI C S w0 ops fuel listed i k D E H:=by
 refine wi_op hop hg hd hl fun w hi tmps hft=>?_
 have hnl:new.length=kn*sz:=by rw[←hnew];simp;omega
 obtain ⟨b',cap',rst',w',r1,r2,r3,r4⟩:=run_append (t:=t) (w:=w) (sv:=.slice (base.map fun b=>⟨b,0,none⟩) n cap) (xv:=.slice (some ⟨b2,o2,none⟩) kn c2) hi hu hux (.inl ⟨e2,rfl⟩) haT hti hsz hpos hz hzs rfl hxs hcap hb (by simp[Builtin.lenOf]) (fun w' hw'=>by
  have h1:=BG (P:=C.P) (w:=w') (b:=b2) (off:=o2) (c:=cc.extract o2 (o2+kn*sz)) (fun j h1 h2=>by
   have h3:j - o2 < kn*sz:=by simp at h2;omega
   have hjc:j < cc.size:=by omega
   have hb2:=hw' _ _ _ _ (hi.hb _ hm)
   have:w'.cell? ⟨b2,j,none⟩=cc[j]?:=by
    unfold World.cell?
    simp[hb2]
   rw[this,Array.getElem?_extract]
   rw[if_pos (by omega)]
   congr 1;omega) (kn*sz) 0 #[] (by simp;omega)
  simp only[Builtin.firstCells,loadCells]
  rw[h1,←hnew]
  congr 1
  apply Array.ext'
  simp) hnl hok hroom hmax hk
 have hrun:(execOp ({tmps:=tmps,defers:=D}:Act).eval (⟨d,.call {callee:=.builtin .append,args:= #[x,y],argTypes:=aT},t,p,af,g⟩:Oper)).run C.P w=.ok (.value (.slice (some ⟨b',0,none⟩) (n+kn) cap')) w':=by
  simp[execOp,resolve,invoke,builtin,hft.opv D hx,hft.opv D hy,r1]
 rw[hrun]
 exact(h b' cap' rst' r2 r3).go3 r4
end
end Go.Sl
namespace Go.Sl
open Go Go.RowKit Go.Shelf Go.Proofs
inductive Del1 (e:Ent):List Ent→List Ent→Prop
 | head (H:List Ent):Del1 e (e::H) H
 | tail (x:Ent) {H H':List Ent} (h:Del1 e H H'):Del1 e (x::H) (x::H')
 | app (A:List Ent) {H H':List Ent} (h:Del1 e H H'):Del1 e (A++H) (A++H')
theorem Del1.perm {e:Ent} {H H':List Ent} (h:Del1 e H H'):H.Perm (e::H'):=by
 induction h with
 | head H=>exact List.Perm.refl _
 | tail x _ ih=>exact(ih.cons x).trans (List.Perm.swap _ _ _)
 | app A _ ih=>exact(ih.append_left A).trans (List.perm_middle)
inductive Take:List Ent→List Ent→List Ent→Prop
 | nil (H:List Ent):Take H [] H
 | cons {e:Ent} {H H1 F:List Ent} {ps:List Ent} (h:Del1 e H H1) (t:Take H1 ps F):Take H (e::ps) F
theorem Take.perm {H ps F:List Ent} (h:Take H ps F):H.Perm (ps++F):=by
 induction h with
 | nil H=>exact List.Perm.refl _
 | cons h _ ih=>exact h.perm.trans (ih.cons _)
theorem Inv.take {S:Nat→Prop} {w0 w:World} {H ps F:List Ent} (hi:Inv S w0 H w) (h:Take H ps F):Inv S w0 (ps++F) w:=hi.perm h.perm
theorem Inv.pick {S:Nat→Prop} {w0 w:World} {H ps R F:List Ent} (hi:Inv S w0 H w) (h:Take H ps R) (hs:F.Sublist R):Inv S w0 (ps++F) w:=(hi.take h).subset (List.Sublist.append (List.Sublist.refl _) hs)
def SL (P:Program) (f:FuncId) (vs:List Value) (pre:List Ent) (Q:Ending→List Ent→Prop):Prop:=
 ∀(S:Nat→Prop) (w0:World) (F:List Ent) (w:World),Inv S w0 (pre++F) w→Calls P f vs.toArray w fun e w'=>∃post,Q e post∧Inv S w0 (post++F) w'
theorem SL.mono {P:Program} {f:FuncId} {vs:List Value} {pre:List Ent} {Q Q':Ending→List Ent→Prop} (h:SL P f vs pre Q) (hq:∀e post,Q e post→Q' e post):SL P f vs pre Q':=
 fun S w0 F w hi=>(h S w0 F w hi).mono fun _ _ ⟨post,h1,h2⟩=>⟨post,hq _ _ h1,h2⟩
def WP (C:Cx) (S:Nat→Prop) (w0:World) (chain:List PanicEntry) (D:List Deferred) (E:List (Nat×Value)) (H:List Ent):Prop:=∀w,Inv S w0 H w→GoP C chain D E w
def WR (C:Cx) (S:Nat→Prop) (w0:World) (D:List Deferred) (E:List (Nat×Value)) (H:List Ent):Prop:=∀w,Inv S w0 H w→GoR C D E w
section
variable {C:Cx} {S:Nat→Prop} {w0:World} {k:List Item} {D:List Deferred} {E:List (Nat×Value)} {H H':List Ent} {d:Option Tmp} {t t':TypeId} {p:String} {af:Array Edge} {g:Option (Nat×Bool)} {x y z:Operand} {v u:Value} {ops:Array Oper} {rest:List Oper} {a b:Int} {kk k2:IntKind} {xt yt:TypeId}
theorem w_pick {ps R F:List Ent} (h:Take H ps R) (hs:F.Sublist R) (hk:WF C S w0 k D E (ps++F)):WF C S w0 k D E H:=fun w hi=>hk w (hi.pick h hs)
theorem wo_callS {c:Call} {f:FuncId} {vs:List Value} {pre F:List Ent} {Q:Ending→List Ent→Prop} (hp:Take H pre F) (hc:callTo E c=some (f,vs)) (he:Enters C.P f) (hg:guardOk E ops ⟨d,.call c,t,p,af,g⟩=some true) (hd:dstOk d C.n=true)
 (h:SL C.P f vs pre Q)
 (hk : ∀e post,Q e post→match e with
  | .returned v=>WO C S w0 ops rest k D (putE d v E) (post++F)
  | .panicked chain=>WP C S w0 chain D E (post++F)
  | .outgrown=>False):WO C S w0 ops (⟨d,.call c,t,p,af,g⟩::rest) k D E H:=by
 refine wo_call (R:=fun _ e w'=>∃post,Q e post∧Inv S w0 (post++F) w') hc he hg hd (fun w hi=>h S w0 F w (hi.take hp)) ?_
 rintro w e w' _ ⟨post,hq,hi⟩
 have:=hk e post hq
 cases e with
 | returned v=>exact this.go2 hi
 | panicked chain=>exact this w' hi
 | outgrown=>exact this
theorem wo_callR {c:Call} {f:FuncId} {vs:List Value} {pre F:List Ent} {Q:Value→List Ent→Prop} (hp:Take H pre F) (hc:callTo E c=some (f,vs)) (he:Enters C.P f) (hg:guardOk E ops ⟨d,.call c,t,p,af,g⟩=some true) (hd:dstOk d C.n=true)
 (h:SL C.P f vs pre fun e post=>∃v,e=.returned v∧Q v post)
 (hk:∀v post,Q v post→WO C S w0 ops rest k D (putE d v E) (post++F)):WO C S w0 ops (⟨d,.call c,t,p,af,g⟩::rest) k D E H:=
 wo_callS hp hc he hg hd h fun e post hq=>by obtain⟨v,rfl,hq⟩:=hq;exact hk v post hq
theorem Ak {P:Program} {f:FuncId} {fn:Func} {c:Code} {vs:List Value} {w:World} {R:Ending→World→Prop} (hf:P.funcs[f]?=some fn) (hb:fn.body=some c) (hn:Nat.ble vs.length fn.ntmps=true)
 (hi:Inv S w0 H w) (h:WF (cxOf P f fn R) S w0 [.code c] [] (args0 0 vs) H):Calls P f vs.toArray w R:=by
 intro cs
 have hn':vs.length≤fn.ntmps:=by simpa using hn
 have henter:Frame.enter P f vs.toArray .normal=(cxOf P f fn R).b.atR {tmps:=vs.toArray++Array.replicate (fn.ntmps - vs.length) undef,defers:=[]} [.code c]:=by
  simp[Frame.enter,Frame.atR,hf,hb,cxOf]
  rfl
 obtain ⟨m,⟨e,w',fr,hR,hne,rfl,hfn,hl⟩,hs⟩:=h w hi (vs.toArray++Array.replicate (fn.ntmps - vs.length) undef) ⟨by simp[cxOf];omega,fun t v hv=>by
  obtain⟨_,h2⟩:=look_args0 0 vs t v hv
  simp only[Nat.sub_zero] at h2
  have hlt:t < vs.length:=by
   rcases Nat.lt_or_ge t vs.length with h|h
   · exact h
   · rw[List.getElem?_eq_none h] at h2;cases h2
  rw[Array.getElem?_append_left (by simpa using hlt)];simpa using h2⟩ cs
 refine⟨e,w',fr,hR,?_,hfn,hl⟩
 rw[henter]
 cases e with
 | returned v=>exact hs
 | panicked ch=>exact hs
 | outgrown=>exact absurd rfl hne
theorem wo_panic {it:TypeId} {iv:Value} (hx:opv E x=some (.iface it iv)) (hg:guardOk E ops ⟨d,.panic x,t,p,af,g⟩=some true) (hd:dstOk d C.n=true)
 (h:WP C S w0 [{v:=.iface it iv,recovered:=false}] D E H):WO C S w0 ops (⟨d,.panic x,t,p,af,g⟩::rest) k D E H:=by
 refine De hg hd fun w hi tmps hft=>?_
 rw[BV _ _ _ (nd_of rfl)]
 have:(execOp ({tmps:=tmps,defers:=D}:Act).eval (⟨d,.panic x,t,p,af,g⟩:Oper)).run C.P w=.halt (.panic (.iface it iv)) w:=by
  simp[execOp,hft.opv D hx,Instr.panic,goPanic,Sem.run]
 rw[this]
 exact h w hi
theorem wp_leave {P:Program} {f:FuncId} {fn:Func} {R:Ending→World→Prop} {chain:List PanicEntry} (hf:P.funcs[f]?=some fn) (hR:∀w,Inv S w0 H w→R (.panicked chain) w):WP (cxOf P f fn R) S w0 chain [] E H:=fun w hi=>goP_leave hf (hR w hi)
theorem ov_assertT {dd:TypeDesc} (hu:C.P.underlying yt=some dd) (hd:(match dd with|.interface _=>false|_=>true)=true) (hx:opv E x=some (.iface yt v)):
 OpV C S w0 H D E ⟨d,.typeAssert x xt yt true,t,p,af,g⟩ (.tuple #[v,.bool true]):=B6 fun tmps w hf _=>by
 cases dd<;>simp_all [execOp,Instr.typeAssert,underlying,program,Sem.run,hf.opv D hx]
theorem ov_neqNil {ms:Array (String×TypeId)} {it:TypeId} (hu:C.P.underlying xt=some (.interface ms)) (hx:opv E x=some (.iface it v)) (hy:opv E y=some .nilIface):
 OpV C S w0 H D E ⟨d,.binOp .neq xt x y yt,t,p,af,g⟩ (.bool true):=
 ov_binE hx hy (fun w=>by simp[eqGuard]) fun w=>by
  have:∀n,(Op.equalIn (n+1) xt (.iface it v) .nilIface).run C.P w=.ok false w:=fun n=>by simp[Op.equalIn,underlying,program,Sem.run,hu]
  have h2:(Op.equal xt (.iface it v) .nilIface).run C.P w=.ok false w:=this 9999
  simp[binOp,h2]
theorem ov_neqNilF {ms:Array (String×TypeId)} {it:TypeId} (hu:C.P.underlying xt=some (.interface ms)) (hx:opv E x=some .nilIface):
 OpV C S w0 H D E ⟨d,.binOp .neq xt x (.const .nilIface) yt,t,p,af,g⟩ (.bool false):=
 ov_binE hx rfl (fun w=>by simp[eqGuard]) fun w=>by
  have:∀n,(Op.equalIn (n+1) xt .nilIface .nilIface).run C.P w=.ok true w:=fun n=>by simp[Op.equalIn,underlying,program,Sem.run,hu]
  have h2:(Op.equal xt .nilIface .nilIface).run C.P w=.ok true w:=this 9999
  simp[binOp,h2]
end
end Go.Sl
namespace Go.Sl
open Go Go.RowKit Go.Shelf Go.Proofs
section
variable {C:Cx} {S:Nat→Prop} {w0:World} {k:List Item} {D:List Deferred} {E:List (Nat×Value)} {H H':List Ent} {d:Option Tmp} {t t':TypeId} {p:String} {af:Array Edge} {g:Option (Nat×Bool)} {x y z:Operand} {v u:Value} {ops:Array Oper} {rest:List Oper} {a b:Int} {kk k2:IntKind} {xt yt:TypeId}
theorem wo_defer {f:FuncId} {fs cs:Array Value} {us:List Value} {aty:Array TypeId} {xs:Array Operand} (hro:C.b.roundOf=none) (hx:opv E x=some (.func (.func f) fs cs)) (hxs:opvs E xs.toList=some us)
 (hg:guardOk E ops ⟨d,.defer {callee:=.value x,args:=xs,argTypes:=aty},t,p,af,g⟩=some true) (hd:dstOk d C.n=true)
 (h:WO C S w0 ops rest k ({target:=.fn (.func f) cs,args:=fs++us.toArray}::D) (putE d undef E) H):WO C S w0 ops (⟨d,.defer {callee:=.value x,args:=xs,argTypes:=aty},t,p,af,g⟩::rest) k D E H:=by
 refine De hg hd fun w hi tmps hft=>?_
 have h3:=hft.opvsA (D:=D) hxs
 have:((⟨d,.defer {callee:=.value x,args:=xs,argTypes:=aty},t,p,af,g⟩:Oper).semAt C.b.roundOf ({tmps:=tmps,defers:=D}:Act).eval).run C.P w=.ok (.defer {target:=.fn (.func f) cs,args:=fs++us.toArray}) w:=by
  rw[hro,Oper.semAt_none]
  simp[execOp,resolve,hft.opv D hx,Deferred.ofValue,h3]
 rw[this]
 exact⟨hro,h.go2 hi⟩
def After (C:Cx) (D:List Deferred) (E:List (Nat×Value)) (w:World):FrameMode→Prop
 | .returning=>GoR C D E w
 | .panicking chain=>GoP C chain D E w
 | .run=>False
theorem goR_defer {f':FuncId} {f:Fn} {cap dargs args:Array Value} {w:World} (hinv:(invoke (.fn f cap) dargs).run C.P w=.ok (.enter f' args) w)
 (h : CallsD C.P f' args .returning w fun e u' w'=>match e with
  | .returned _=>After C D E w' (settle u')
  | .panicked ch=>After C D E w' (raised u' ch)
  | .outgrown=>False):GoR C ({target:=.fn f cap,args:=dargs}::D) E w:=by
 intro tmps hf k cs
 have h1:=step_defer (P:=C.P) (fr:={C.b.atR {tmps:=tmps,defers:={target:=.fn f cap,args:=dargs}::D} k with mode:=.returning}) (cs:=cs) (w:=w) (by simp) rfl rfl hinv
 obtain⟨e,u',w',fr,hR,hs,hk,hgo⟩:=h {C.b.atR {tmps:=tmps,defers:=D} k with mode:=.returning} cs rfl
 cases e with
 | outgrown=>exact hR.elim
 | returned v=>
   have h2:=step_going_returned (c:={C.b.atR {tmps:=tmps,defers:=D} k with mode:=u'}) (cs:=cs) hk hgo
   revert hR h2
   simp only
   cases settle u' with
   | run=>exact fun hR _=>hR.elim
   | returning=>exact fun hR h2=>by obtain⟨m,ht,hs2⟩:=hR tmps hf k cs;exact⟨m,ht,.head h1 (Steps.trans hs (.head h2 hs2))⟩
   | panicking chain=>exact fun hR h2=>by obtain⟨m,ht,hs2⟩:=hR tmps hf k cs;exact⟨m,ht,.head h1 (Steps.trans hs (.head h2 hs2))⟩
 | panicked ch=>
   have h2:=step_going_panicked (c:={C.b.atR {tmps:=tmps,defers:=D} k with mode:=u'}) (cs:=cs) hgo
   revert hR h2
   simp only
   cases raised u' ch with
   | run=>exact fun hR _=>hR.elim
   | returning=>exact fun hR h2=>by obtain⟨m,ht,hs2⟩:=hR tmps hf k cs;exact⟨m,ht,.head h1 (Steps.trans hs (.head h2 hs2))⟩
   | panicking chain=>exact fun hR h2=>by obtain⟨m,ht,hs2⟩:=hR tmps hf k cs;exact⟨m,ht,.head h1 (Steps.trans hs (.head h2 hs2))⟩
theorem goP_defer {f':FuncId} {f:Fn} {cap dargs args:Array Value} {ch0:List PanicEntry} {w:World} (hinv:(invoke (.fn f cap) dargs).run C.P w=.ok (.enter f' args) w)
 (h : CallsD C.P f' args (.panicking ch0) w fun e u' w'=>match e with
  | .returned _=>After C D E w' (settle u')
  | .panicked ch=>After C D E w' (raised u' ch)
  | .outgrown=>False):GoP C ch0 ({target:=.fn f cap,args:=dargs}::D) E w:=by
 intro tmps hf k cs
 have h1:=step_defer (P:=C.P) (fr:={C.b.atR {tmps:=tmps,defers:={target:=.fn f cap,args:=dargs}::D} k with mode:=.panicking ch0}) (cs:=cs) (w:=w) (by simp) rfl rfl hinv
 obtain⟨e,u',w',fr,hR,hs,hk,hgo⟩:=h {C.b.atR {tmps:=tmps,defers:=D} k with mode:=.panicking ch0} cs rfl
 cases e with
 | outgrown=>exact hR.elim
 | returned v=>
   have h2:=step_going_returned (c:={C.b.atR {tmps:=tmps,defers:=D} k with mode:=u'}) (cs:=cs) hk hgo
   revert hR h2
   simp only
   cases settle u' with
   | run=>exact fun hR _=>hR.elim
   | returning=>exact fun hR h2=>by obtain⟨m,ht,hs2⟩:=hR tmps hf k cs;exact⟨m,ht,.head h1 (Steps.trans hs (.head h2 hs2))⟩
   | panicking chain=>exact fun hR h2=>by obtain⟨m,ht,hs2⟩:=hR tmps hf k cs;exact⟨m,ht,.head h1 (Steps.trans hs (.head h2 hs2))⟩
 | panicked ch=>
   have h2:=step_going_panicked (c:={C.b.atR {tmps:=tmps,defers:=D} k with mode:=u'}) (cs:=cs) hgo
   revert hR h2
   simp only
   cases raised u' ch with
   | run=>exact fun hR _=>hR.elim
   | returning=>exact fun hR h2=>by obtain⟨m,ht,hs2⟩:=hR tmps hf k cs;exact⟨m,ht,.head h1 (Steps.trans hs (.head h2 hs2))⟩
   | panicking chain=>exact fun hR h2=>by obtain⟨m,ht,hs2⟩:=hR tmps hf k cs;exact⟨m,ht,.head h1 (Steps.trans hs (.head h2 hs2))⟩
theorem Inv.put {S:Nat→Prop} {w0 w:World} {H H':List Ent} {r:Nat} {o o':Obj} (hi:Inv S w0 H w) (hu:Upd r o o' H H') (hno:noCells o=true:=by rfl):Inv S w0 H' {w with heap:=w.heap.setIfInBounds r o'}:=by
 have hlt:r < w.heap.size:=hi.lt hu.mem
 refine hi.upd hu rfl rfl rfl (by simp) (fun q hq=>?_) ?_ (fun _=>.not hno)
 · simp only[Array.getElem?_setIfInBounds];rw[if_neg (by omega)]
 · simp[Array.getElem?_setIfInBounds,hlt]
theorem w_retW (hro:C.b.roundOf=none) (h:WR C S w0 D E H):WF C S w0 (.code .ret::k) D E H:=w_retR hro h
def TDef (P:Program) (R:Ending→World→Prop):List Frame→Machine→Prop:=fun cs m=>∃e w' fr,R e w'∧e≠.outgrown∧m=lone fr cs w'∧fr.kind=.deferred∧fr.going P w' e
def TPre (u u':FrameMode) (T:List Frame→Machine→Prop):List Frame→Machine→Prop:=fun cs m=>∀c r,cs=c::r→c.mode=u→T ({c with mode:=u'}::r) m
def cxD (P:Program) (f:FuncId) (fn:Func) (T:List Frame→Machine→Prop):Cx:={P:=P,b:={(default:Frame) with fn:=f,kind:=.deferred},n:=fn.ntmps,T:=T}
theorem dfl_round:(default:Frame).roundOf=none:=rfl
theorem go2_recover {P:Program} {f:FuncId} {fn:Func} {T:List Frame→Machine→Prop} {older:List PanicEntry} {aty:Array TypeId} {w:World}
 (hg:guardOk E ops ⟨d,.call {callee:=.builtin .recover,args:= #[],argTypes:=aty},t,p,af,g⟩=some true) (hd:dstOk d fn.ntmps=true)
 (h:Go2 (cxD P f fn T) ops rest k D (putE d v E) w):
 Go2 (cxD P f fn (TPre (.panicking ({v:=v,recovered:=false}::older)) (.panicking ({v:=v,recovered:=true}::older)) T)) ops (⟨d,.call {callee:=.builtin .recover,args:= #[],argTypes:=aty},t,p,af,g⟩::rest) k D E w:=by
 intro pre hpre tmps hf cs
 obtain⟨h0,hrest⟩:=drop_cons hpre
 have ho:ops[pre]?=some ⟨d,.call {callee:=.builtin .recover,args:= #[],argTypes:=aty},t,p,af,g⟩:=by simpa using h0
 have hw:=BC hf hg
 have hlen:List.range' pre ((⟨d,.call {callee:=.builtin .recover,args:= #[],argTypes:=aty},t,p,af,g⟩:Oper)::rest).length=pre::List.range' (pre+1) rest.length:=by simp[List.range'_succ]
 rw[hlen]
 by_cases hcs:∃c r,cs=c::r∧c.mode=.panicking ({v:=v,recovered:=false}::older)
 · obtain ⟨c,r,rfl,hc⟩:=hcs
   obtain⟨f1,f2⟩:=hf.putE (CF hd) v D
   obtain⟨m,ht,hs⟩:=h (pre+1) hrest _ f1 ({c with mode:=.panicking ({v:=v,recovered:=true}::older)}::r)
   refine⟨m,?_,.head (step_lone_go ?_) hs⟩
   · rintro c' r' e _;cases e;exact ht
   · have hfin:=Frame.finish_atR (cxD P f fn T).b {tmps:=tmps,defers:=D} ops pre (List.range' (pre+1) rest.length) k v
     rw[ho] at hfin
     have e2:=Da f2
     rw[←e2]
     simp only[Option.bind_some] at hfin
     have hfin':(({fn:=f,tmps:=tmps,todo:=.inRegion ops (pre::List.range' (pre+1) rest.length)::k,defers:=D,mode:=.run,kind:=.deferred,roundOf:=none}:Frame).finish v)=(cxD P f fn T).b.atR (({tmps:=tmps,defers:=D}:Act).put d v) (.inRegion ops (List.range' (pre+1) rest.length)::k):=hfin
     rw[←hfin']
     have hw':((ops[pre]?).map (Region.wanted · (yielded ops tmps))).getD false=true:=by rw[ho];simpa using hw
     simp[stepG,stepG.exec,stepG.oper,stepG.apply,Frame.atR,cxD,Frame.oper?,ho,hw,execOp,resolve,invoke,builtin,tryRecover,hc,Sem.runT_eq,GStep.bare_after,dfl_round]
 · exact⟨_,fun c r e hm=>absurd ⟨c,r,e,hm⟩ hcs,Steps.refl _ _⟩
theorem go2_recoverR {P:Program} {f:FuncId} {fn:Func} {T:List Frame→Machine→Prop} {aty:Array TypeId} {w:World}
 (hg:guardOk E ops ⟨d,.call {callee:=.builtin .recover,args:= #[],argTypes:=aty},t,p,af,g⟩=some true) (hd:dstOk d fn.ntmps=true)
 (h:Go2 (cxD P f fn T) ops rest k D (putE d .nilIface E) w):
 Go2 (cxD P f fn (TPre .returning .returning T)) ops (⟨d,.call {callee:=.builtin .recover,args:= #[],argTypes:=aty},t,p,af,g⟩::rest) k D E w:=by
 intro pre hpre tmps hf cs
 obtain⟨h0,hrest⟩:=drop_cons hpre
 have ho:ops[pre]?=some ⟨d,.call {callee:=.builtin .recover,args:= #[],argTypes:=aty},t,p,af,g⟩:=by simpa using h0
 have hw:=BC hf hg
 have hlen:List.range' pre ((⟨d,.call {callee:=.builtin .recover,args:= #[],argTypes:=aty},t,p,af,g⟩:Oper)::rest).length=pre::List.range' (pre+1) rest.length:=by simp[List.range'_succ]
 rw[hlen]
 by_cases hcs:∃c r,cs=c::r∧c.mode=.returning
 · obtain ⟨c,r,rfl,hc⟩:=hcs
   obtain⟨f1,f2⟩:=hf.putE (CF hd) .nilIface D
   obtain⟨m,ht,hs⟩:=h (pre+1) hrest _ f1 (c::r)
   refine⟨m,?_,.head (step_lone_go ?_) hs⟩
   · rintro c' r' e _;cases e
     have:({c with mode:=.returning}:Frame)=c:=by rw[←hc]
     rwa [this]
   · have hfin:=Frame.finish_atR (cxD P f fn T).b {tmps:=tmps,defers:=D} ops pre (List.range' (pre+1) rest.length) k .nilIface
     rw[ho] at hfin
     have e2:=Da f2
     rw[←e2]
     simp only[Option.bind_some] at hfin
     have hfin':(({fn:=f,tmps:=tmps,todo:=.inRegion ops (pre::List.range' (pre+1) rest.length)::k,defers:=D,mode:=.run,kind:=.deferred,roundOf:=none}:Frame).finish .nilIface)=(cxD P f fn T).b.atR (({tmps:=tmps,defers:=D}:Act).put d .nilIface) (.inRegion ops (List.range' (pre+1) rest.length)::k):=hfin
     rw[←hfin']
     simp[stepG,stepG.exec,stepG.oper,stepG.apply,Frame.atR,cxD,Frame.oper?,ho,hw,execOp,resolve,invoke,builtin,tryRecover,hc,Sem.runT_eq,GStep.bare_after,dfl_round]
 · exact⟨_,fun c r e hm=>absurd ⟨c,r,e,hm⟩ hcs,Steps.refl _ _⟩
end
end Go.Sl
namespace Go.Sl
open Go Go.RowKit Go.Shelf Go.Proofs
section
variable {P:Program} {ops:Array Oper} {md:Region.Mode} {K:World→Prop}
def headQ (P:Program) (md:Region.Mode) (ops:Array Oper) (K:World→Prop) (n:Nat) (L:Array Bool→Act→Prop):Nat→Array Bool→Act→Prop
 | 0,listed,a=>L listed a
 | f+1,listed,a=>Region.ready md ops listed≠[]∧∀i∈Region.ready md ops listed,i < n∧qOp P ops K i (headQ P md ops K n L f (listed.setIfInBounds i true)) a
theorem headQ_first {n i:Nat} {oi:Oper} {v:Value} {L:Array Bool→Act→Prop} (hi:ops[i]?=some oi) (hsel:∀(j:Nat) (o:Oper) cs b,ops[j]?=some o→o.op≠.select cs b)
 (hs:Region.sinkB md ops n=true) (hc:Region.chainB md ops n=true) (hn:n < ops.size) (hin:i < n) (hdone:∀listed a,L listed a→∀j∈Region.ready md ops listed,n≤j):
 ∀ (f:Nat) (listed:Array Bool) (a:Act),HeadInv md ops n listed →
  (∀j oj,ops[j]?=some oj→j≠i→listed.getD j true=false→(∀e∈oj.after,Region.binds md e=true→e.on≠i)→oi.apart ops oj=true) →
  i∈Region.ready md ops listed→YieldsIn P ops K oi v a →
  headQ P md ops K n L f (listed.setIfInBounds i true) (a.put oi.dst v)→headQ P md ops K n L (f+1) listed a
 | f, listed,a,inv,hfree,hr,hy,H=>by
   have hun:=(mem_ready.1 hr).1
   refine⟨fun h=>(by rw[h] at hr;cases hr),fun j hj=>?_⟩
   have hjn:j < n:=(Nat.lt_or_ge j n).elim id fun h=>absurd hj (tail_waits hs hc hn inv _ i rfl hin hun j h)
   refine⟨hjn,?_⟩
   by_cases hji:j=i
   · subst hji;exact hy.qOp hi H
   · match f,H with
     | 0,H=>have:=hdone _ _ H j (ready_mono hj hji);omega
     | f + 1,H=>
       have h1:=(H.2 j (ready_mono hj hji)).2
       obtain⟨hjun,oj,hoj,hall⟩:=mem_ready.1 hj
       have hnot:∀e∈oj.after,Region.binds md e=true→e.on≠i:=fun e he hb heq=>by
        have h1:=hall e he hb
        rw[heq,getD_both hun] at h1
        cases h1
       have h2:=qOp_put hoj (hfree j oj hoj hji hjun hnot) (fun cs b=>hsel i oi cs b hi) (fun cs b=>hsel j oj cs b hoj) hy h1
       have hfree':∀k ok,ops[k]?=some ok→k≠i→(listed.setIfInBounds j true).getD k true=false→(∀e∈ok.after,Region.binds md e=true→e.on≠i)→oi.apart ops ok=true:=fun k ok hk hki hun hno=>by
        refine hfree k ok hk hki ?_ hno
        by_cases hjk:j=k
        · subst hjk;exact hjun
        · rw[getD_set_ne true hjk] at hun;exact hun
       refine qOp_mono (fun a' h3=>headQ_first hi hsel hs hc hn hin hdone f (listed.setIfInBounds j true) a' (inv.set hj hjn) hfree' (ready_mono hr (Ne.symm hji)) h3.1 ?_) h2
       rw[Array.setIfInBounds_comm _ _ hji]
       exact h3.2
theorem headQ_lex {n g:Nat} {Lq:Act→Prop} (hsel:Region.noSelect ops=true) (hs:Region.sinkB md ops n=true) (hc:Region.chainB md ops n=true) (hn:n < ops.size):
 ∀(l:List Oper) (k:Nat) (listed:Array Bool) (a:Act),(∀j,j < l.length→l[j]?=ops[k+j]?)→k+l.length=n→HeadInv md ops n listed →
 Region.lexHead md ops g l.length k listed=true→wpQuiet P ops K Lq l a→headQ P md ops K n (fun listed' a'=>Region.seqB md ops g n listed'=true∧Lq a') l.length listed a
 | [],k,listed,a,_,hk,_,hB,h=>by
   have:k=n:=by simpa using hk
   subst this
   exact⟨by simpa [Region.lexHead] using hB,h⟩
 | o :: l,k,listed,a,hl,hk,inv,hB,h=>by
   have h0:ops[k]?=some o:=by simpa using (hl 0 (by simp)).symm
   simp only[List.length_cons,Region.lexHead,Bool.and_eq_true] at hB
   obtain⟨⟨hr,hf⟩,hB'⟩:=hB
   have hkn:k < n:=by simp only[List.length_cons] at hk;omega
   have hr':k∈Region.ready md ops listed:=by simpa using hr
   have hst:qOp P ops K k (wpQuiet P ops K Lq l) a:=by unfold qOp;simp only[h0];exact h
   obtain⟨v,hy,hK⟩:=yieldsIn_of_qOp h0 hst
   refine headQ_first h0 (Region.noSelect_spec hsel) hs hc hn hkn (fun listed' a' hL=>seqB_ready hL.1) l.length listed a inv (Region.free_spec h0 hf) hr' hy ?_
   exact headQ_lex hsel hs hc hn l (k+1) _ _ (fun j hj=>by have:=hl (j+1) (by simpa using hj);simpa [Nat.add_assoc,Nat.add_comm 1 j] using this) (by simp only[List.length_cons] at hk;omega) (inv.set hr' hkn) hB' hK
theorem linGo_step (fuel t:Nat) (listed:Array Bool):(Region.ready md ops listed=[]∧Region.linearise.go md ops (fuel+1) t listed []=[]) ∨
 ∃i t',i∈Region.ready md ops listed∧Region.linearise.go md ops (fuel+1) t listed []=i::Region.linearise.go md ops fuel t' (listed.setIfInBounds i true) []:=by
 simp only[Region.linearise.go]
 change (_∧(match (Region.ready md ops listed)[t % (Region.ready md ops listed).length]? with
  | some i=>Region.linearise.go md ops fuel (t / (Region.ready md ops listed).length) (listed.setIfInBounds i true) [i]
  | none=>[].reverse)=[])∨∃i t',i∈Region.ready md ops listed∧(match (Region.ready md ops listed)[t % (Region.ready md ops listed).length]? with
  | some i=>Region.linearise.go md ops fuel (t / (Region.ready md ops listed).length) (listed.setIfInBounds i true) [i]
  | none=>[].reverse)=i::Region.linearise.go md ops fuel t' (listed.setIfInBounds i true) []
 cases hi:(Region.ready md ops listed)[t % (Region.ready md ops listed).length]? with
 | none =>
   left
   refine⟨?_,rfl⟩
   cases hr:Region.ready md ops listed with
   | nil=>rfl
   | cons x xs=>
     rw[hr] at hi
     have hlt:t % (x::xs).length < (x::xs).length:=Nat.mod_lt _ (by simp)
     simp at hi
     simp at hlt
     omega
 | some i=>
   right
   refine⟨i,t / (Region.ready md ops listed).length,List.mem_of_getElem? hi,?_⟩
   simp only[]
   rw[linearise_go_acc,List.reverse_singleton,List.singleton_append]
theorem linGo_seq:∀(g k t:Nat) (listed:Array Bool),Region.seqB md ops g k listed=true→Region.linearise.go md ops g t listed []=List.range' k g
 | 0,_,_,_,_=>rfl
 | g + 1,k,t,listed,h=>by
   simp only[Region.seqB,Bool.and_eq_true,decide_eq_true_eq] at h
   rcases linGo_step (md:=md) (ops:=ops) g t listed with⟨h1,_⟩|⟨i,t',h1,h2⟩
   · rw[h.1] at h1;cases h1
   · rw [h.1] at h1
     have:i=k:=by simpa using h1
     subst this
     rw[h2,linGo_seq g (i+1) t' _ h.2];simp[List.range'_succ]
end
section
variable {C:Cx} {S:Nat→Prop} {w0:World} {k:List Item} {D:List Deferred} {E:List (Nat×Value)} {H H':List Ent} {d:Option Tmp} {t t':TypeId} {p:String} {af:Array Edge} {g:Option (Nat×Bool)} {x y z:Operand} {v u:Value} {ops:Array Oper} {rest tl:List Oper}
def GoA (C:Cx) (k:List Item) (a:Act) (w:World):Prop:=∀cs,∃m,C.T cs m∧Steps C.P (lone (C.b.atR a k) cs w) m
theorem goA_quiet {K:World→Prop} {i:Nat} {is:List Nat} {a:Act} {w:World} {N:Act→Prop} (hro:C.b.roundOf=none) (hw:K w) (hq:qOp C.P ops K i N a) (hr:i < ops.size) (hN:∀a w,K w→N a→GoA C (.inRegion ops is::k) a w):GoA C (.inRegion ops (i::is)::k) a w:=by
 obtain⟨o,ho⟩:∃o,ops[i]?=some o:=⟨ops[i],Array.getElem?_eq_getElem hr⟩
 unfold qOp at hq
 simp only[ho] at hq
 intro cs
 have hfin:∀v,(C.b.atR a (.inRegion ops (i::is)::k)).finish v=C.b.atR (a.put o.dst v) (.inRegion ops is::k):=by
  intro v;rw[Frame.finish_atR,ho];rfl
 split at hq
 · rename_i hwt
   obtain⟨v,h1,h2⟩:=hq
   have h3:=h1 w hw
   unfold Oper.quietAt at h3
   have hgo:=stepGR_op (P:=C.P) (b:=C.b) (k:=k) (cs:=cs) (w:=w) (a:=a) (rest:=is) ho hwt
   have hnd:o.semAt C.b.roundOf a.eval=execOp a.eval o:=by rw[hro,Oper.semAt_none]
   rw[hnd] at hgo
   generalize hR:(execOp a.eval o).run C.P w=r at h3
   cases r with
   | halt x w'=>simp only[Oper.quietUpon] at h3
   | ok n w'=>
     cases n<;>simp only[Oper.quietUpon] at h3
     case value u=>
      obtain⟨rfl,rfl⟩:=h3
      obtain⟨m,ht,hs⟩:=hN _ _ hw h2 cs
      refine⟨m,ht,(Steps.one (step_lone_go ?_)).trans hs⟩
      rw[hgo,←hfin];simp[stepG.apply,hR]
     case skip=>
      obtain⟨rfl,rfl⟩:=h3
      obtain⟨m,ht,hs⟩:=hN _ _ hw h2 cs
      refine⟨m,ht,(Steps.one (step_lone_go ?_)).trans hs⟩
      rw[hgo,←hfin];simp[stepG.apply,hR]
     case enter f args=>
      obtain⟨rfl,hc⟩:=h3
      obtain⟨e,w'',fr,⟨rfl,hK⟩,hsteps,_,hleave⟩:=hc (C.b.atR a (.inRegion ops (i::is)::k)::cs)
      obtain⟨m,ht,hs⟩:=hN _ _ hK h2 cs
      have henter:step C.P (lone (C.b.atR a (.inRegion ops (i::is)::k)) cs w')=.next (lone (Frame.enter C.P f args .normal) (C.b.atR a (.inRegion ops (i::is)::k)::cs) w'):=
       step_lone_go (by rw[hgo];simp[stepG.apply,hR,Frame.atR])
      refine⟨m,ht,(Steps.one henter).trans (Steps.trans hsteps ((Steps.one ?_).trans hs))⟩
      rw[←hfin];exact step_leave_returned hleave
 · rename_i hwt
   have hs0:=stepR_op_skip (P:=C.P) (b:=C.b) (k:=k) (cs:=cs) (w:=w) (a:=a) (ops:=ops) (i:=i) (rest:=is) (by simp[ho,hwt])
   obtain⟨m,ht,hs⟩:=hN _ _ hw hq cs
   refine⟨m,ht,(Steps.one ?_).trans hs⟩
   rw[hs0,ho];rfl
theorem goA_head {K:World→Prop} {n g:Nat} {L:Array Bool→Act→Prop} (hro:C.b.roundOf=none) (hL:∀listed a w t,K w→L listed a→GoA C (.inRegion ops (Region.linearise.go .any ops g t listed [])::k) a w):
 ∀(f:Nat) (listed:Array Bool) (a:Act) (w:World) (t:Nat),K w→n≤ops.size→headQ C.P .any ops K n L f listed a→GoA C (.inRegion ops (Region.linearise.go .any ops (f+g) t listed [])::k) a w
 | 0,listed,a,w,t,hw,_,h=>by rw[Nat.zero_add];exact hL _ _ _ _ hw h
 | f + 1,listed,a,w,t,hw,hn,h=>by
   rw[show f+1+g=(f+g)+1 by omega]
   rcases linGo_step (md:=.any) (ops:=ops) (f+g) t listed with⟨h1,_⟩|⟨i,t',h1,h2⟩
   · exact absurd h1 h.1
   · rw [h2]
     obtain⟨h3,h4⟩:=h.2 i h1
     exact goA_quiet hro hw h4 (by omega) fun a w hw h=>goA_head hro hL f _ a w t' hw hn h
def WT (C:Cx) (S:Nat→Prop) (w0:World) (ops:Array Oper) (rest tl:List Oper) (k:List Item) (D:List Deferred) (E:List (Nat×Value)) (H:List Ent):Prop:=
 ∀tmps,Fits E C.n tmps→wpQuiet C.P ops (Inv S w0 H) (fun a'=>a'.defers=D∧∃E',Fits E' C.n a'.tmps∧WO C S w0 ops tl k D E' H) rest {tmps:=tmps,defers:=D}
theorem Bg {id:Nat} (n:Nat) (hro:C.b.roundOf=none) (hm:C.P.follows .mixedOrders=true) (hB:Region.lexTailB .any ops n=true) (h:WT C S w0 ops (ops.toList.take n) (ops.toList.drop n) k D E H):WF C S w0 (.code (.region id ops true)::k) D E H:=by
 intro w hi tmps hf cs
 unfold Region.lexTailB at hB
 simp only[Bool.and_eq_true,decide_eq_true_eq] at hB
 obtain⟨⟨⟨⟨h1,h2⟩,h3⟩,h4⟩,h5⟩:=hB
 have hlen:(ops.toList.take n).length=n:=by simp;omega
 have hq:=headQ_lex (P:=C.P) (K:=Inv S w0 H) (g:=ops.size - n) (Lq:=fun a'=>a'.defers=D∧∃E',Fits E' C.n a'.tmps∧WO C S w0 ops (ops.toList.drop n) k D E' H) h1 h3 h4 h2 (ops.toList.take n) 0 (Array.replicate ops.size false) {tmps:=tmps,defers:=D}
  (fun j hj=>by rw[hlen] at hj;rw[Nat.zero_add,List.getElem?_take,if_pos hj];simp) (by rw[hlen];omega)
  ⟨by simp,fun j oj _ hl=>(by rw[getD_replicate_false] at hl;cases hl),fun q hq1 hq2=>by simp[hq2]⟩ (by rw[hlen];exact h5) (h tmps hf)
 rw[hlen] at hq
 have hgo:=goA_head (C:=C) (k:=k) (g:=ops.size - n) hro (fun listed a w t hw hL=>by
  obtain⟨hs,hd,E',hf',hk⟩:=hL
  rw[linGo_seq _ _ _ _ hs]
  obtain⟨tm,df⟩:=a
  simp only at hd hf'
  subst hd
  intro cs
  have hl2:(ops.toList.drop n).length=ops.size - n:=by simp
  have:=hk n rfl w hw tm hf' cs
  rw[hl2] at this
  exact this) n _ _ {w with drawn:=w.drawn+1} (w.tape w.drawn (.order C.b.fn id)) hi.drew (by omega) hq cs
 obtain⟨m,ht,hs⟩:=hgo
 refine⟨m,ht,(Steps.one ?_).trans hs⟩
 rw[stepR_region_draw]
 simp only[Region.schedule,hm,Bool.true_or,if_true,Region.linearise]
 rw[show n+(ops.size - n)=ops.size by omega]
theorem Bf (h:WO C S w0 ops tl k D E H):WT C S w0 ops [] tl k D E H:=fun tmps hf=>⟨rfl,E,hf,h⟩
theorem A4 {o:Oper} (hv:OpV C S w0 H D E o v) (hg:guardOk E ops o=some true) (hd:dstOk o.dst C.n=true) (h:WT C S w0 ops rest tl k D (putE o.dst v E) H):WT C S w0 ops (o::rest) tl k D E H:=fun tmps hf=>by
 unfold wpQuiet
 rw[if_pos (BC hf hg)]
 obtain⟨f1,f2⟩:=hf.putE (CF hd) v D
 refine⟨v,fun w hw=>hv tmps w hf hw,?_⟩
 rw[Da f2]
 exact h _ f1
theorem wt_skip {o:Oper} (hg:guardOk E ops o=some false) (hd:dstOk o.dst C.n=true) (h:WT C S w0 ops rest tl k D (putE o.dst undef E) H):WT C S w0 ops (o::rest) tl k D E H:=fun tmps hf=>by
 unfold wpQuiet
 rw[if_neg (by rw[BC hf hg];simp)]
 obtain⟨f1,f2⟩:=hf.putE (CF hd) undef D
 rw[Da f2]
 exact h _ f1
end
end Go.Sl
namespace Go.Sl
open Go Go.RowKit Go.Shelf Go.Proofs
section
variable {C:Cx} {S:Nat→Prop} {w0:World} {k:List Item} {D:List Deferred} {E:List (Nat×Value)} {H H':List Ent} {d:Option Tmp} {t t':TypeId} {p:String} {af:Array Edge} {g:Option (Nat×Bool)} {x y z:Operand} {v u:Value} {ops:Array Oper} {rest:List Oper} {a b:Int} {kk k2:IntKind} {xt yt:TypeId}
theorem callsD_of_WF {P:Program} {f:FuncId} {fn:Func} {c:Code} {vs:List Value} {w:World} {R:Ending→World→Prop} {md md':FrameMode} (hf:P.funcs[f]?=some fn) (hb:fn.body=some c) (hn:Nat.ble vs.length fn.ntmps=true)
 (hi:Inv S w0 H w) (h:WF (cxD P f fn (TPre md md' (TDef P R))) S w0 [.code c] [] (args0 0 vs) H):CallsD P f vs.toArray md w fun e u' w'=>u'=md'∧e≠.outgrown∧R e w':=by
 intro c0 cs hc
 have hn':vs.length≤fn.ntmps:=by simpa using hn
 have henter:Frame.enter P f vs.toArray .deferred=(cxD P f fn (TPre md md' (TDef P R))).b.atR {tmps:=vs.toArray++Array.replicate (fn.ntmps - vs.length) undef,defers:=[]} [.code c]:=by
  simp[Frame.enter,Frame.atR,hf,hb,cxD]
  rfl
 obtain ⟨m,ht,hs⟩:=h w hi (vs.toArray++Array.replicate (fn.ntmps - vs.length) undef) ⟨by simp[cxD];omega,fun t v hv=>by
  obtain⟨_,h2⟩:=look_args0 0 vs t v hv
  simp only[Nat.sub_zero] at h2
  have hlt:t < vs.length:=by
   rcases Nat.lt_or_ge t vs.length with h|h
   · exact h
   · rw[List.getElem?_eq_none h] at h2;cases h2
  rw[Array.getElem?_append_left (by simpa using hlt)];simpa using h2⟩ (c0::cs)
 obtain⟨e,w',fr,hR,hne,rfl,hk,hg⟩:=ht c0 cs rfl hc
 refine⟨e,md',w',fr,⟨rfl,hne,hR⟩,?_,hk,hg⟩
 rw[henter]
 cases e with
 | returned v=>exact hs
 | panicked ch=>exact hs
 | outgrown=>exact absurd rfl hne
theorem wo_recover {P:Program} {f:FuncId} {fn:Func} {T:List Frame→Machine→Prop} {older:List PanicEntry} {aty:Array TypeId}
 (hg:guardOk E ops ⟨d,.call {callee:=.builtin .recover,args:= #[],argTypes:=aty},t,p,af,g⟩=some true) (hd:dstOk d fn.ntmps=true)
 (h:WO (cxD P f fn T) S w0 ops rest k D (putE d v E) H):
 WO (cxD P f fn (TPre (.panicking ({v:=v,recovered:=false}::older)) (.panicking ({v:=v,recovered:=true}::older)) T)) S w0 ops (⟨d,.call {callee:=.builtin .recover,args:= #[],argTypes:=aty},t,p,af,g⟩::rest) k D E H:=
 wo_go2 fun _ hi=>go2_recover hg hd (h.go2 hi)
theorem wo_recoverR {P:Program} {f:FuncId} {fn:Func} {T:List Frame→Machine→Prop} {aty:Array TypeId}
 (hg:guardOk E ops ⟨d,.call {callee:=.builtin .recover,args:= #[],argTypes:=aty},t,p,af,g⟩=some true) (hd:dstOk d fn.ntmps=true)
 (h:WO (cxD P f fn T) S w0 ops rest k D (putE d .nilIface E) H):
 WO (cxD P f fn (TPre .returning .returning T)) S w0 ops (⟨d,.call {callee:=.builtin .recover,args:= #[],argTypes:=aty},t,p,af,g⟩::rest) k D E H:=
 wo_go2 fun _ hi=>go2_recoverR hg hd (h.go2 hi)
theorem goR_retD {P:Program} {f:FuncId} {fn:Func} {R:Ending→World→Prop} {w:World} (hf:P.funcs[f]?=some fn) (hr:∀tmps,Fits E fn.ntmps tmps→(results fn tmps).run P w=.ok v w) (hR:R (.returned v) w):GoR (cxD P f fn (TDef P R)) [] E w:=
 fun tmps hft _ _=>⟨_,⟨.returned v,w,_,hR,by simp,rfl,rfl,⟨rfl,rfl,fn,hf,hr tmps hft⟩⟩,Steps.refl _ _⟩
theorem w_endD {P:Program} {f:FuncId} {fn:Func} {R:Ending→World→Prop} {vs:List Value} (hf:P.funcs[f]?=some fn) (hr:resv E fn.results.toList=some vs) (hR:∀w,Inv S w0 H w→R (.returned (tup vs)) w):WF (cxD P f fn (TDef P R)) S w0 [] [] E H:=
 w_endR rfl fun w hi=>goR_retD hf (fun _ hft=>run_results hft hr) (hR w hi)
end
end Go.Sl
namespace Go.Sl
open Go Go.RowKit Go.Shelf Go.Proofs
section
variable {C:Cx} {S:Nat→Prop} {w0:World} {k:List Item} {D:List Deferred} {E:List (Nat×Value)} {H H':List Ent} {d:Option Tmp} {t t':TypeId} {p:String} {af:Array Edge} {g:Option (Nat×Bool)} {x y z:Operand} {v u:Value} {ops:Array Oper} {rest:List Oper} {a b:Int} {kk k2:IntKind} {xt yt:TypeId}
end
end Go.Sl
namespace Go.Sl
attribute [irreducible] OpV WO WQ WA WI Go3 PF WF Go1 Go2 GoP GoR WP WR WT GoA
end Go.Sl
namespace Go.Sl
open Go Go.Proofs
theorem Cl:Tryz.prog.info? 3=some Tryz.t3:=by kernel_rfl
theorem sz3:(Tryz.prog.info? 3).map (·.size)=some 1:=by kernel_rfl
theorem inf4:Tryz.prog.info? 4=some Tryz.t4:=by kernel_rfl
theorem sz4:(Tryz.prog.info? 4).map (·.size)=some 1:=by kernel_rfl
theorem inf5:Tryz.prog.info? 5=some Tryz.t5:=by kernel_rfl
theorem sz5:(Tryz.prog.info? 5).map (·.size)=some 1:=by kernel_rfl
theorem inf9:Tryz.prog.info? 9=some Tryz.t9:=by kernel_rfl
theorem sz9:(Tryz.prog.info? 9).map (·.size)=some 1:=by kernel_rfl
theorem Ck:(Tryz.prog.info? 22).map (·.size)=some 1:=by kernel_rfl
theorem sz23:(Tryz.prog.info? 23).map (·.size)=some 1:=by kernel_rfl
theorem sz24:(Tryz.prog.info? 24).map (·.size)=some 1:=by kernel_rfl
theorem AO:Tryz.prog.info? 26=some Tryz.t26:=by kernel_rfl
theorem Cj:(Tryz.prog.info? 26).map (·.size)=some 6:=by kernel_rfl
theorem pl26:placesOf Tryz.prog 26=some #[(0,1),(1,1),(2,1),(3,1),(4,1),(5,1)]:=by kernel_rfl
theorem fo26_0:fieldOff Tryz.prog 26 0=some 0:=by kernel_rfl
theorem fo26_1:fieldOff Tryz.prog 26 1=some 1:=by kernel_rfl
theorem fo26_2:fieldOff Tryz.prog 26 2=some 2:=by kernel_rfl
theorem BZ:fieldOff Tryz.prog 26 3=some 3:=by kernel_rfl
theorem Cd:fieldOff Tryz.prog 26 4=some 4:=by kernel_rfl
theorem Bz:fieldOff Tryz.prog 26 5=some 5:=by kernel_rfl
theorem sz29:(Tryz.prog.info? 29).map (·.size)=some 1:=by kernel_rfl
theorem inf31:Tryz.prog.info? 31=some Tryz.t31:=by kernel_rfl
theorem sz31:(Tryz.prog.info? 31).map (·.size)=some 3:=by kernel_rfl
theorem pl31:placesOf Tryz.prog 31=some #[(0,1),(1,1),(2,1)]:=by kernel_rfl
theorem fo31_0:fieldOff Tryz.prog 31 0=some 0:=by kernel_rfl
theorem CV:fieldOff Tryz.prog 31 1=some 1:=by kernel_rfl
theorem Cn:fieldOff Tryz.prog 31 2=some 2:=by kernel_rfl
theorem inf44:Tryz.prog.info? 44=some Tryz.t44:=by kernel_rfl
theorem sz44:(Tryz.prog.info? 44).map (·.size)=some 6:=by kernel_rfl
theorem Bn:Tryz.prog.info? 49=some Tryz.t49:=by kernel_rfl
theorem sz49:(Tryz.prog.info? 49).map (·.size)=some 3:=by kernel_rfl
theorem pl49:placesOf Tryz.prog 49=some #[(0,1),(1,1),(2,1)]:=by kernel_rfl
theorem fo49_0:fieldOff Tryz.prog 49 0=some 0:=by kernel_rfl
theorem fo49_1:fieldOff Tryz.prog 49 1=some 1:=by kernel_rfl
theorem fo49_2:fieldOff Tryz.prog 49 2=some 2:=by kernel_rfl
theorem inf53:Tryz.prog.info? 53=some Tryz.t53:=by kernel_rfl
theorem sz53:(Tryz.prog.info? 53).map (·.size)=some 2:=by kernel_rfl
theorem pl53:placesOf Tryz.prog 53=some #[(0,1),(1,1)]:=by kernel_rfl
theorem fo53_0:fieldOff Tryz.prog 53 0=some 0:=by kernel_rfl
theorem fo53_1:fieldOff Tryz.prog 53 1=some 1:=by kernel_rfl
theorem sz59:(Tryz.prog.info? 59).map (·.size)=some 1:=by kernel_rfl
theorem sz65:(Tryz.prog.info? 65).map (·.size)=some 1:=by kernel_rfl
theorem sz66:(Tryz.prog.info? 66).map (·.size)=some 1:=by kernel_rfl
theorem inf68:Tryz.prog.info? 68=some Tryz.t68:=by kernel_rfl
theorem sz68:(Tryz.prog.info? 68).map (·.size)=some 9:=by kernel_rfl
theorem pl68:placesOf Tryz.prog 68=some #[(0,1),(1,1),(2,1),(3,1),(4,1),(5,1),(6,1),(7,1),(8,1)]:=by kernel_rfl
theorem BY:fieldOff Tryz.prog 68 0=some 0:=by kernel_rfl
theorem C6:fieldOff Tryz.prog 68 1=some 1:=by kernel_rfl
theorem fo68_2:fieldOff Tryz.prog 68 2=some 2:=by kernel_rfl
theorem Dd:fieldOff Tryz.prog 68 3=some 3:=by kernel_rfl
theorem fo68_4:fieldOff Tryz.prog 68 4=some 4:=by kernel_rfl
theorem fo68_5:fieldOff Tryz.prog 68 5=some 5:=by kernel_rfl
theorem fo68_6:fieldOff Tryz.prog 68 6=some 6:=by kernel_rfl
theorem fo68_7:fieldOff Tryz.prog 68 7=some 7:=by kernel_rfl
theorem fo68_8:fieldOff Tryz.prog 68 8=some 8:=by kernel_rfl
theorem inf70:Tryz.prog.info? 70=some Tryz.t70:=by kernel_rfl
theorem sz70:(Tryz.prog.info? 70).map (·.size)=some 10:=by kernel_rfl
theorem pl70:placesOf Tryz.prog 70=some #[(0,1),(1,9)]:=by kernel_rfl
theorem Cv:fieldOff Tryz.prog 70 0=some 0:=by kernel_rfl
theorem fo70_1:fieldOff Tryz.prog 70 1=some 1:=by kernel_rfl
theorem inf73:Tryz.prog.info? 73=some Tryz.t73:=by kernel_rfl
theorem sz73:(Tryz.prog.info? 73).map (·.size)=some 8:=by kernel_rfl
theorem pl73:placesOf Tryz.prog 73=some #[(0,1),(1,1),(2,1),(3,1),(4,1),(5,1),(6,1),(7,1)]:=by kernel_rfl
theorem Cc:fieldOff Tryz.prog 73 0=some 0:=by kernel_rfl
theorem fo73_1:fieldOff Tryz.prog 73 1=some 1:=by kernel_rfl
theorem fo73_2:fieldOff Tryz.prog 73 2=some 2:=by kernel_rfl
theorem fo73_3:fieldOff Tryz.prog 73 3=some 3:=by kernel_rfl
theorem fo73_4:fieldOff Tryz.prog 73 4=some 4:=by kernel_rfl
theorem fo73_5:fieldOff Tryz.prog 73 5=some 5:=by kernel_rfl
theorem fo73_6:fieldOff Tryz.prog 73 6=some 6:=by kernel_rfl
theorem CO:fieldOff Tryz.prog 73 7=some 7:=by kernel_rfl
theorem inf75:Tryz.prog.info? 75=some Tryz.t75:=by kernel_rfl
theorem sz75:(Tryz.prog.info? 75).map (·.size)=some 2:=by kernel_rfl
theorem pl75:placesOf Tryz.prog 75=some #[(0,1),(1,1)]:=by kernel_rfl
theorem fo75_0:fieldOff Tryz.prog 75 0=some 0:=by kernel_rfl
theorem fo75_1:fieldOff Tryz.prog 75 1=some 1:=by kernel_rfl
theorem inf81:Tryz.prog.info? 81=some Tryz.t81:=by kernel_rfl
theorem pl81:placesOf Tryz.prog 81=some #[(0,1),(1,1),(2,1)]:=by kernel_rfl
theorem CN:fieldOff Tryz.prog 81 0=some 0:=by kernel_rfl
theorem BS:fieldOff Tryz.prog 81 1=some 1:=by kernel_rfl
theorem fo81_2:fieldOff Tryz.prog 81 2=some 2:=by kernel_rfl
theorem inf83:Tryz.prog.info? 83=some Tryz.t83:=by kernel_rfl
theorem pl83:placesOf Tryz.prog 83=some #[(0,3)]:=by kernel_rfl
theorem BX:fieldOff Tryz.prog 83 0=some 0:=by kernel_rfl
theorem inf88:Tryz.prog.info? 88=some Tryz.t88:=by kernel_rfl
theorem sz88:(Tryz.prog.info? 88).map (·.size)=some 1:=by kernel_rfl
theorem inf98:Tryz.prog.info? 98=some Tryz.t98:=by kernel_rfl
theorem pl98:placesOf Tryz.prog 98=some #[(0,3),(3,1),(4,1)]:=by kernel_rfl
theorem Ch:fieldOff Tryz.prog 98 0=some 0:=by kernel_rfl
theorem fo98_1:fieldOff Tryz.prog 98 1=some 3:=by kernel_rfl
theorem fo98_2:fieldOff Tryz.prog 98 2=some 4:=by kernel_rfl
theorem BB:Tryz.prog.info? 113=some Tryz.t113:=by kernel_rfl
theorem pl113:placesOf Tryz.prog 113=some #[(0,1)]:=by kernel_rfl
theorem Bd:fieldOff Tryz.prog 113 0=some 0:=by kernel_rfl
theorem inf117:Tryz.prog.info? 117=some Tryz.t117:=by kernel_rfl
theorem sz117:(Tryz.prog.info? 117).map (·.size)=some 3:=by kernel_rfl
theorem pl117:placesOf Tryz.prog 117=some #[(0,1),(1,1),(2,1)]:=by kernel_rfl
theorem Co:fieldOff Tryz.prog 117 0=some 0:=by kernel_rfl
theorem fo117_1:fieldOff Tryz.prog 117 1=some 1:=by kernel_rfl
theorem fo117_2:fieldOff Tryz.prog 117 2=some 2:=by kernel_rfl
theorem inf130:Tryz.prog.info? 130=some Tryz.t130:=by kernel_rfl
theorem pl130:placesOf Tryz.prog 130=some #[]:=by kernel_rfl
theorem inf137:Tryz.prog.info? 137=some Tryz.t137:=by kernel_rfl
theorem sz137:(Tryz.prog.info? 137).map (·.size)=some 0:=by kernel_rfl
theorem pl137:placesOf Tryz.prog 137=some #[]:=by kernel_rfl
theorem inf162:Tryz.prog.info? 162=some Tryz.t162:=by kernel_rfl
theorem sz162:(Tryz.prog.info? 162).map (·.size)=some 1:=by kernel_rfl
theorem pl162:placesOf Tryz.prog 162=some #[(0,1)]:=by kernel_rfl
theorem fo162_0:fieldOff Tryz.prog 162 0=some 0:=by kernel_rfl
theorem inf166:Tryz.prog.info? 166=some Tryz.t166:=by kernel_rfl
theorem sz166:(Tryz.prog.info? 166).map (·.size)=some 1:=by kernel_rfl
theorem pl166:placesOf Tryz.prog 166=some #[(0,1)]:=by kernel_rfl
theorem fo166_0:fieldOff Tryz.prog 166 0=some 0:=by kernel_rfl
theorem CT:(Tryz.prog.info? 173).map (·.size)=some 1:=by kernel_rfl
theorem AS:Tryz.prog.info? 174=some Tryz.t174:=by kernel_rfl
theorem B3:(Tryz.prog.info? 174).map (·.size)=some 3:=by kernel_rfl
theorem inf176:Tryz.prog.info? 176=some Tryz.t176:=by kernel_rfl
theorem sz176:(Tryz.prog.info? 176).map (·.size)=some 1:=by kernel_rfl
theorem sz189:(Tryz.prog.info? 189).map (·.size)=some 1:=by kernel_rfl
theorem AV:Tryz.prog.info? 190=some Tryz.t190:=by kernel_rfl
theorem B7:(Tryz.prog.info? 190).map (·.size)=some 5:=by kernel_rfl
theorem en11:Enters Tryz.prog 11:=enters_of Tryz.func11 (by kernel_rfl) rfl
theorem en12:Enters Tryz.prog 12:=enters_of Tryz.func12 (by kernel_rfl) rfl
theorem en13:Enters Tryz.prog 13:=enters_of Tryz.func13 (by kernel_rfl) rfl
theorem en15:Enters Tryz.prog 15:=enters_of Tryz.func15 (by kernel_rfl) rfl
theorem en17:Enters Tryz.prog 17:=enters_of Tryz.func17 (by kernel_rfl) rfl
theorem en21:Enters Tryz.prog 21:=enters_of Tryz.func21 (by kernel_rfl) rfl
theorem en23:Enters Tryz.prog 23:=enters_of Tryz.func23 (by kernel_rfl) rfl
theorem en25:Enters Tryz.prog 25:=enters_of Tryz.func25 (by kernel_rfl) rfl
theorem en27:Enters Tryz.prog 27:=enters_of Tryz.func27 (by kernel_rfl) rfl
theorem en28:Enters Tryz.prog 28:=enters_of Tryz.func28 (by kernel_rfl) rfl
theorem en30:Enters Tryz.prog 30:=enters_of Tryz.func30 (by kernel_rfl) rfl
theorem en33:Enters Tryz.prog 33:=enters_of Tryz.func33 (by kernel_rfl) rfl
theorem en35:Enters Tryz.prog 35:=enters_of Tryz.func35 (by kernel_rfl) rfl
theorem en36:Enters Tryz.prog 36:=enters_of Tryz.func36 (by kernel_rfl) rfl
theorem en37:Enters Tryz.prog 37:=enters_of Tryz.func37 (by kernel_rfl) rfl
theorem en38:Enters Tryz.prog 38:=enters_of Tryz.func38 (by kernel_rfl) rfl
theorem en40:Enters Tryz.prog 40:=enters_of Tryz.func40 (by kernel_rfl) rfl
theorem en43:Enters Tryz.prog 43:=enters_of Tryz.func43 (by kernel_rfl) rfl
theorem en44:Enters Tryz.prog 44:=enters_of Tryz.func44 (by kernel_rfl) rfl
theorem en45:Enters Tryz.prog 45:=enters_of Tryz.func45 (by kernel_rfl) rfl
theorem en46:Enters Tryz.prog 46:=enters_of Tryz.func46 (by kernel_rfl) rfl
theorem en48:Enters Tryz.prog 48:=enters_of Tryz.func48 (by kernel_rfl) rfl
theorem en49:Enters Tryz.prog 49:=enters_of Tryz.func49 (by kernel_rfl) rfl
theorem en50:Enters Tryz.prog 50:=enters_of Tryz.func50 (by kernel_rfl) rfl
theorem en51:Enters Tryz.prog 51:=enters_of Tryz.func51 (by kernel_rfl) rfl
theorem en52:Enters Tryz.prog 52:=enters_of Tryz.func52 (by kernel_rfl) rfl
theorem en53:Enters Tryz.prog 53:=enters_of Tryz.func53 (by kernel_rfl) rfl
theorem en59:Enters Tryz.prog 59:=enters_of Tryz.func59 (by kernel_rfl) rfl
theorem en60:Enters Tryz.prog 60:=enters_of Tryz.func60 (by kernel_rfl) rfl
theorem en61:Enters Tryz.prog 61:=enters_of Tryz.func61 (by kernel_rfl) rfl
theorem en62:Enters Tryz.prog 62:=enters_of Tryz.func62 (by kernel_rfl) rfl
theorem en63:Enters Tryz.prog 63:=enters_of Tryz.func63 (by kernel_rfl) rfl
theorem en68:Enters Tryz.prog 68:=enters_of Tryz.func68 (by kernel_rfl) rfl
theorem en69:Enters Tryz.prog 69:=enters_of Tryz.func69 (by kernel_rfl) rfl
theorem en70:Enters Tryz.prog 70:=enters_of Tryz.func70 (by kernel_rfl) rfl
theorem en71:Enters Tryz.prog 71:=enters_of Tryz.func71 (by kernel_rfl) rfl
theorem en72:Enters Tryz.prog 72:=enters_of Tryz.func72 (by kernel_rfl) rfl
theorem en73:Enters Tryz.prog 73:=enters_of Tryz.func73 (by kernel_rfl) rfl
theorem en74:Enters Tryz.prog 74:=enters_of Tryz.func74 (by kernel_rfl) rfl
theorem en75:Enters Tryz.prog 75:=enters_of Tryz.func75 (by kernel_rfl) rfl
theorem en78:Enters Tryz.prog 78:=enters_of Tryz.func78 (by kernel_rfl) rfl
theorem en79:Enters Tryz.prog 79:=enters_of Tryz.func79 (by kernel_rfl) rfl
theorem en83:Enters Tryz.prog 83:=enters_of Tryz.func83 (by kernel_rfl) rfl
theorem en84:Enters Tryz.prog 84:=enters_of Tryz.func84 (by kernel_rfl) rfl
theorem en88:Enters Tryz.prog 88:=enters_of Tryz.func88 (by kernel_rfl) rfl
theorem en89:Enters Tryz.prog 89:=enters_of Tryz.func89 (by kernel_rfl) rfl
theorem en90:Enters Tryz.prog 90:=enters_of Tryz.func90 (by kernel_rfl) rfl
theorem en91:Enters Tryz.prog 91:=enters_of Tryz.func91 (by kernel_rfl) rfl
theorem en92:Enters Tryz.prog 92:=enters_of Tryz.func92 (by kernel_rfl) rfl
theorem en93:Enters Tryz.prog 93:=enters_of Tryz.func93 (by kernel_rfl) rfl
theorem en94:Enters Tryz.prog 94:=enters_of Tryz.func94 (by kernel_rfl) rfl
theorem en95:Enters Tryz.prog 95:=enters_of Tryz.func95 (by kernel_rfl) rfl
theorem en96:Enters Tryz.prog 96:=enters_of Tryz.func96 (by kernel_rfl) rfl
theorem en97:Enters Tryz.prog 97:=enters_of Tryz.func97 (by kernel_rfl) rfl
theorem en101:Enters Tryz.prog 101:=enters_of Tryz.func101 (by kernel_rfl) rfl
theorem en102:Enters Tryz.prog 102:=enters_of Tryz.func102 (by kernel_rfl) rfl
theorem en103:Enters Tryz.prog 103:=enters_of Tryz.func103 (by kernel_rfl) rfl
theorem en104:Enters Tryz.prog 104:=enters_of Tryz.func104 (by kernel_rfl) rfl
theorem en105:Enters Tryz.prog 105:=enters_of Tryz.func105 (by kernel_rfl) rfl
theorem en106:Enters Tryz.prog 106:=enters_of Tryz.func106 (by kernel_rfl) rfl
theorem en107:Enters Tryz.prog 107:=enters_of Tryz.func107 (by kernel_rfl) rfl
theorem en108:Enters Tryz.prog 108:=enters_of Tryz.func108 (by kernel_rfl) rfl
theorem en109:Enters Tryz.prog 109:=enters_of Tryz.func109 (by kernel_rfl) rfl
theorem en110:Enters Tryz.prog 110:=enters_of Tryz.func110 (by kernel_rfl) rfl
theorem en111:Enters Tryz.prog 111:=enters_of Tryz.func111 (by kernel_rfl) rfl
theorem en112:Enters Tryz.prog 112:=enters_of Tryz.func112 (by kernel_rfl) rfl
theorem en115:Enters Tryz.prog 115:=enters_of Tryz.func115 (by kernel_rfl) rfl
theorem en116:Enters Tryz.prog 116:=enters_of Tryz.func116 (by kernel_rfl) rfl
theorem en117:Enters Tryz.prog 117:=enters_of Tryz.func117 (by kernel_rfl) rfl
theorem en118:Enters Tryz.prog 118:=enters_of Tryz.func118 (by kernel_rfl) rfl
theorem en121:Enters Tryz.prog 121:=enters_of Tryz.func121 (by kernel_rfl) rfl
theorem en122:Enters Tryz.prog 122:=enters_of Tryz.func122 (by kernel_rfl) rfl
theorem en123:Enters Tryz.prog 123:=enters_of Tryz.func123 (by kernel_rfl) rfl
theorem en124:Enters Tryz.prog 124:=enters_of Tryz.func124 (by kernel_rfl) rfl
theorem en125:Enters Tryz.prog 125:=enters_of Tryz.func125 (by kernel_rfl) rfl
theorem en126:Enters Tryz.prog 126:=enters_of Tryz.func126 (by kernel_rfl) rfl
theorem en127:Enters Tryz.prog 127:=enters_of Tryz.func127 (by kernel_rfl) rfl
theorem en128:Enters Tryz.prog 128:=enters_of Tryz.func128 (by kernel_rfl) rfl
theorem en129:Enters Tryz.prog 129:=enters_of Tryz.func129 (by kernel_rfl) rfl
theorem en130:Enters Tryz.prog 130:=enters_of Tryz.func130 (by kernel_rfl) rfl
theorem en131:Enters Tryz.prog 131:=enters_of Tryz.func131 (by kernel_rfl) rfl
theorem en132:Enters Tryz.prog 132:=enters_of Tryz.func132 (by kernel_rfl) rfl
theorem en133:Enters Tryz.prog 133:=enters_of Tryz.func133 (by kernel_rfl) rfl
theorem en134:Enters Tryz.prog 134:=enters_of Tryz.func134 (by kernel_rfl) rfl
theorem en135:Enters Tryz.prog 135:=enters_of Tryz.func135 (by kernel_rfl) rfl
theorem en136:Enters Tryz.prog 136:=enters_of Tryz.func136 (by kernel_rfl) rfl
theorem en137:Enters Tryz.prog 137:=enters_of Tryz.func137 (by kernel_rfl) rfl
theorem en138:Enters Tryz.prog 138:=enters_of Tryz.func138 (by kernel_rfl) rfl
theorem en139:Enters Tryz.prog 139:=enters_of Tryz.func139 (by kernel_rfl) rfl
theorem en140:Enters Tryz.prog 140:=enters_of Tryz.func140 (by kernel_rfl) rfl
theorem en141:Enters Tryz.prog 141:=enters_of Tryz.func141 (by kernel_rfl) rfl
theorem en142:Enters Tryz.prog 142:=enters_of Tryz.func142 (by kernel_rfl) rfl
theorem en147:Enters Tryz.prog 147:=enters_of Tryz.func147 (by kernel_rfl) rfl
theorem en148:Enters Tryz.prog 148:=enters_of Tryz.func148 (by kernel_rfl) rfl
theorem en149:Enters Tryz.prog 149:=enters_of Tryz.func149 (by kernel_rfl) rfl
theorem en150:Enters Tryz.prog 150:=enters_of Tryz.func150 (by kernel_rfl) rfl
theorem en173:Enters Tryz.prog 173:=enters_of Tryz.func173 (by kernel_rfl) rfl
theorem en174:Enters Tryz.prog 174:=enters_of Tryz.func174 (by kernel_rfl) rfl
theorem en175:Enters Tryz.prog 175:=enters_of Tryz.func175 (by kernel_rfl) rfl
theorem en176:Enters Tryz.prog 176:=enters_of Tryz.func176 (by kernel_rfl) rfl
theorem en177:Enters Tryz.prog 177:=enters_of Tryz.func177 (by kernel_rfl) rfl
theorem en178:Enters Tryz.prog 178:=enters_of Tryz.func178 (by kernel_rfl) rfl
theorem en179:Enters Tryz.prog 179:=enters_of Tryz.func179 (by kernel_rfl) rfl
theorem en180:Enters Tryz.prog 180:=enters_of Tryz.func180 (by kernel_rfl) rfl
theorem en181:Enters Tryz.prog 181:=enters_of Tryz.func181 (by kernel_rfl) rfl
theorem en182:Enters Tryz.prog 182:=enters_of Tryz.func182 (by kernel_rfl) rfl
theorem en183:Enters Tryz.prog 183:=enters_of Tryz.func183 (by kernel_rfl) rfl
theorem en184:Enters Tryz.prog 184:=enters_of Tryz.func184 (by kernel_rfl) rfl
theorem en185:Enters Tryz.prog 185:=enters_of Tryz.func185 (by kernel_rfl) rfl
theorem en186:Enters Tryz.prog 186:=enters_of Tryz.func186 (by kernel_rfl) rfl
theorem en187:Enters Tryz.prog 187:=enters_of Tryz.func187 (by kernel_rfl) rfl
theorem en188:Enters Tryz.prog 188:=enters_of Tryz.func188 (by kernel_rfl) rfl
theorem en189:Enters Tryz.prog 189:=enters_of Tryz.func189 (by kernel_rfl) rfl
theorem en190:Enters Tryz.prog 190:=enters_of Tryz.func190 (by kernel_rfl) rfl
theorem mixed:Tryz.prog.follows .mixedOrders=true:=by kernel_rfl
end Go.Sl

namespace Go.Sl
open Go Go.RowKit Go.Shelf Go.Proofs
theorem Y0 {p:Prop} (h:p:=by repeat(first|exact .head _|refine .tail _ ?_|refine List.mem_append_right _ ?_|assumption)):p:=h
theorem Y1 {p:Prop} (h:p:=by kernel_rfl):p:=h
theorem Y2 {p:Prop} (h:p:=by first|exact decide_eq_true (by omega)|exact decide_eq_false (by omega)|exact rfl):p:=h
theorem Y3 {p:Prop} (h:p:=by repeat(first|exact .head _|apply Upd.tail|apply Upd.app)):p:=h
theorem Y4 {p:Prop} (h:p:=by first|rfl|assumption|simp):p:=h
theorem Y5 {p:Prop} (h:p:=by repeat(first|exact List.Sublist.refl _|apply List.Sublist.cons|apply List.sublist_append_of_sublist_right)):p:=h
theorem Y6 {p:Prop} (h:p:=by repeat(first|exact Take.nil _|apply Take.cons|exact Del1.head _|apply Del1.tail|apply Del1.app)):p:=h
theorem Y7 {p:Prop} (h:p:=by repeat(first|exact Take.mid _ _|apply Take.tail|apply Take.appL)):p:=h
theorem Y8 {p:Prop} (h:p:=by first|decide|(simp;done)|omega|(simp only[Array.size_setIfInBounds];omega)):p:=h
theorem Y9 {p:Prop} (h:p:=by omega):p:=h
theorem Y10 {p:Prop} (h:p:=by first|exact Bw _|(refine Bh rfl ?_;repeat(first|exact Bw _|refine Bh rfl ?_))):p:=h
theorem Y11 {p:Prop} (h:p:=by first|exact Ax (by omega)|exact As (by omega)|exact rfl):p:=h
theorem Y12 {p:Prop} (h:p:=by intro e h;repeat(first|exact h|apply List.Mem.tail|apply List.mem_append_right)):p:=h
theorem Y13 {p:Prop} (h:p:=by repeat(first|exact .head _|refine .tail _ ?_|refine List.mem_append_right _ ?_)):p:=h
theorem Y14 {p:Prop} (h:p:=by repeat(first|exact Bw _|refine Bh rfl ?_)):p:=h
theorem Y15 {p:Prop} (h:p:=by first|rfl|simp):p:=h
theorem Y16 {p:Prop} (h:p:=by intro e h;repeat(first|exact h|assumption|apply List.Mem.tail|apply List.mem_append_right)):p:=h
theorem Y17 {p:Prop} (h:p:=by repeat(first|assumption|exact List.Sublist.refl _|apply List.Sublist.cons|apply List.sublist_append_of_sublist_right)):p:=h
theorem Y18 {p:Prop} (h:p:=by repeat(first|assumption|exact .head _|refine .tail _ ?_|refine List.mem_append_right _ ?_)):p:=h
theorem Y19 {p:Prop} (h:p:=by intro e h;simp only[List.mem_append,List.mem_cons,h,true_or,or_true]):p:=h
theorem Y20 {p:Prop} (h:p:=by first|exact decide_eq_true (by first|assumption|with_reducible rfl)|exact decide_eq_false (by assumption)|exact rfl):p:=h
theorem Y21 {p:Prop} (h:p:=by first|omega|(simp only[List.length_append,List.length_cons,List.length_nil];omega)):p:=h
theorem Y22 {p:Prop} (h:p:=by decide):p:=h
theorem Y23 {p:Prop} (h:p:=by repeat(first|exact .head _|apply Upd.tail)):p:=h
theorem Y24 {p:Prop} (h:p:=by first|exact Ax (by assumption)|exact As (by first|assumption|with_reducible rfl)|exact rfl):p:=h
theorem Y25 {p:Prop} (h:p:=by show _ < 6;omega):p:=h
theorem Y26 {p:Prop} (h:p:=by simp):p:=h
theorem Y27 {p:Prop} (h:p:=by show _ < 9;omega):p:=h
theorem Y28 {p:Prop} (h:p:=by simp only[List.length_cons];omega):p:=h
theorem Y29 {p:Prop} (h:p:=by simp only[List.length_append,List.length_cons,List.length_nil];omega):p:=h
theorem Y30 {p:Prop} (h:p:=by repeat(first|exact Del1.head _|apply Del1.tail|apply Del1.app)):p:=h
theorem Y31 {p:Prop} (h:p:=by show 1≤3;decide):p:=h
section
variable {C:Cx} {S:Nat→Prop} {w0:World} {k:List Item} {D:List Deferred} {E:List (Nat×Value)} {H H':List Ent} {d:Option Tmp} {t t':TypeId} {p:String} {af:Array Edge} {g:Option (Nat×Bool)} {x y:Operand} {v:Value} {ops:Array Oper} {rest:List Oper} {fuel:Nat} {listed listed':Array Bool}
theorem Zv {o:Oper} (hv:OpV C S w0 H D E o v) (h:WO C S w0 ops rest k D (putE o.dst v E) H) (hg:guardOk E ops o=some true:=by exact rfl) (hd:dstOk o.dst C.n=true:=by exact rfl) (hnd:(match o.op with|.defer _=>false|_=>true)=true:=by exact rfl):WO C S w0 ops (o::rest) k D E H:=wo_v hv hg hd hnd h
theorem Zm (hx:opv E x=some v) (h:WO C S w0 ops rest k D (putE d v E) H) (hg:guardOk E ops ⟨d,.move x,t,p,af,g⟩=some true:=by exact rfl) (hd:dstOk d C.n=true:=by exact rfl):WO C S w0 ops (⟨d,.move x,t,p,af,g⟩::rest) k D E H:=wo_v (Ai hx) hg hd rfl h
theorem Za (hx:opv E x=some v) (h:WO C S w0 ops rest k D (putE d v E) H) (hg:guardOk E ops ⟨d,.assign x,t,p,af,g⟩=some true:=by exact rfl) (hd:dstOk d C.n=true:=by exact rfl):WO C S w0 ops (⟨d,.assign x,t,p,af,g⟩::rest) k D E H:=wo_v (Aq hx) hg hd rfl h
theorem Zk {o:Oper} (h:WO C S w0 ops rest k D (putE o.dst undef E) H) (hg:guardOk E ops o=some false:=by exact rfl) (hd:dstOk o.dst C.n=true:=by exact rfl):WO C S w0 ops (o::rest) k D E H:=wo_skip hg hd h
theorem Zf {s f b off fo:Nat} (hf':fieldOff C.P s f=some fo) (hx:opv E x=some (.pointer (some ⟨b,off,none⟩))) (h:WO C S w0 ops rest k D (putE d (.pointer (some ⟨b,off+fo,none⟩)) E) H) (hg:guardOk E ops ⟨d,.fieldAddr s x f,t,p,af,g⟩=some true:=by exact rfl) (hd:dstOk d C.n=true:=by exact rfl):WO C S w0 ops (⟨d,.fieldAddr s x f,t,p,af,g⟩::rest) k D E H:=wo_v (Ad hf' hx) hg hd rfl h
theorem Zt (i:Nat) {o:Oper} (hi:ops[i]?=some o) (hv:∀w1,OpV C none_ w1 [] D E o v) (h:WA C S w0 ops fuel listed' k D (putE o.dst v E) H) (hs:Region.noSelect ops=true:=by kernel_rfl) (hf:Region.free .any ops listed i=true:=by kernel_rfl) (hr:(Region.ready .any ops listed).contains i=true:=by kernel_rfl)
    (hg:guardOk E ops o=some true:=by exact rfl) (hd:dstOk o.dst C.n=true:=by exact rfl) (hnc:plainOp o.op=true:=by exact rfl) (hl:listed.setIfInBounds i true=listed':=by exact rfl):WA C S w0 ops (fuel+1) listed k D E H:=wa_take i hi hv hs hf hr hg hd hnc hl h
end
abbrev U3:= @Go.Proofs.Tryz.underlying3
abbrev U4:= @Go.Proofs.Tryz.underlying4
abbrev U5:= @Go.Proofs.Tryz.underlying5
abbrev U9:= @Go.Proofs.Tryz.underlying9
abbrev U20:= @Go.Proofs.Tryz.underlying20
abbrev U21:= @Go.Proofs.Tryz.underlying21
abbrev U22:= @Go.Proofs.Tryz.underlying22
abbrev U23:= @Go.Proofs.Tryz.underlying23
abbrev U24:= @Go.Proofs.Tryz.underlying24
abbrev U26:= @Go.Proofs.Tryz.underlying26
abbrev U29:= @Go.Proofs.Tryz.underlying29
abbrev U31:= @Go.Proofs.Tryz.underlying31
abbrev U44:= @Go.Proofs.Tryz.underlying44
abbrev U49:= @Go.Proofs.Tryz.underlying49
abbrev U53:= @Go.Proofs.Tryz.underlying53
abbrev U59:= @Go.Proofs.Tryz.underlying59
abbrev U65:= @Go.Proofs.Tryz.underlying65
abbrev U66:= @Go.Proofs.Tryz.underlying66
abbrev U68:= @Go.Proofs.Tryz.underlying68
abbrev U70:= @Go.Proofs.Tryz.underlying70
abbrev U73:= @Go.Proofs.Tryz.underlying73
abbrev U75:= @Go.Proofs.Tryz.underlying75
abbrev U78:= @Go.Proofs.Tryz.underlying78
abbrev U88:= @Go.Proofs.Tryz.underlying88
abbrev U91:= @Go.Proofs.Tryz.underlying91
abbrev U111:= @Go.Proofs.Tryz.underlying111
abbrev U113:= @Go.Proofs.Tryz.underlying113
abbrev U114:= @Go.Proofs.Tryz.underlying114
abbrev U115:= @Go.Proofs.Tryz.underlying115
abbrev U117:= @Go.Proofs.Tryz.underlying117
abbrev U120:= @Go.Proofs.Tryz.underlying120
abbrev U128:= @Go.Proofs.Tryz.underlying128
abbrev U137:= @Go.Proofs.Tryz.underlying137
abbrev U159:= @Go.Proofs.Tryz.underlying159
abbrev U162:= @Go.Proofs.Tryz.underlying162
abbrev U164:= @Go.Proofs.Tryz.underlying164
abbrev U166:= @Go.Proofs.Tryz.underlying166
abbrev U173:= @Go.Proofs.Tryz.underlying173
abbrev U174:= @Go.Proofs.Tryz.underlying174
abbrev U176:= @Go.Proofs.Tryz.underlying176
abbrev U189:= @Go.Proofs.Tryz.underlying189
abbrev U190:= @Go.Proofs.Tryz.underlying190
abbrev U215:= @Go.Proofs.Tryz.underlying215
abbrev N0:List Nat:=[0,1,2,3,4,8,9,26,34,35,36]
abbrev N1:List Nat:=[0,1,2,4,5,6,8,9,10,11,13,19,21,22,36,37,38,41,50,51,65,66,67,70]
abbrev N2:List Nat:=[0,1,2,3,4,5,6,7,8,9,10,11,12,20,21,28,49,61,67,93,114,128,157,170,171,176,178,179,180,181,207]
abbrev N3:List Nat:=[0,1,2]
abbrev N4:List Nat:=[0,1,2,4,5,6,7,8,9,10,11,12,21,31,41,51,60,63,75]
abbrev N5:List Nat:=[0,2,4]
abbrev N6:List Nat:=[0,1,4,5,7,8,9,16]
abbrev N7:List Nat:=[0,1,2,4,5,6,7,8,9,10,11,12,13,14,15,16,17,18,19,20,21,22,23,24,25,28,36,135,152,160,196,272,276,337]
abbrev N8:List Nat:=[0,1,4,5,10,12,13,14,24]
abbrev N9:List Nat:=[0,2,3,4,5,12]
abbrev N10:List Nat:=[0,1,2,3,4,5,6,7,8,9,10,11,12,28,45,67,80,154]
abbrev N11:List Nat:=[0,1,2,3,4,21,22,23]
abbrev N12:List Nat:=[0,1,2,3,4,5,6,7,41,46,55,60,104,109,129,135,146]
abbrev N13:List Nat:=[0,2,3,4,5,6,8,19,33]
abbrev N14:List Nat:=[0,1,2,3,4,5,6,7,8,9,10,11,13,14,15,17,18,88]
abbrev N15:List Nat:=[0,1,4]
abbrev N16:List Nat:=[0,1,2,3,4,5,7,45,48,50,51,52,53,73,80,81,82,83,101]
abbrev N17:List Nat:=[0,1,2,3,4,5,6,7,8,9,10,12,22,29,30,31,40]
abbrev N18:List Nat:=[0,1,4,5,6,9]
abbrev N19:List Nat:=[0,2]
abbrev N20:List Nat:=[0,1,2,3,4,5,7,8,9,22,46]
abbrev N21:List Nat:=[0,2,3,4,5,6,7,9,23,34,35,36,37]
abbrev N22:List Nat:=[0,1,3,5,7,24,25,26,27,34,35,36,37,44,45,46,47]
abbrev N23:List Nat:=[0,1,2,5,6,7,9,10,11,20,31,34]
abbrev N24:List Nat:=[0,1,2,3,4,5,9,29]
abbrev N25:List Nat:=[0,2,3,4,8,12]
abbrev N26:List Nat:=[0,1,4,5,10,14,25]
abbrev N27:List Nat:=[0,1,4,5,7,10,11,12,13]
abbrev N28:List Nat:=[0,1,2,9]
abbrev N29:List Nat:=[0,1,3]
abbrev N30:List Nat:=[0,1,2,11,22]
abbrev N31:List Nat:=[0,1,19]
abbrev N32:List Nat:=[0,2,3,5,6,15]
abbrev N33:List Nat:=[0,1,2,3,4]
abbrev N34:List Nat:=[0,1,2,3,4,8]
abbrev N35:List Nat:=[0,1,2,3,6,13]
abbrev N36:List Nat:=[0,1,2,6,10]
abbrev N37:List Nat:=[0,1,2,3,5,8,15]
abbrev N38:List Nat:=[0,1,2,3,6,12]
abbrev N39:List Nat:=[0,1,4,5,9]
abbrev N40:List Nat:=[0,1,2,6]
abbrev N41:List Nat:=[0,1,2,5]
end Go.Sl
namespace Go.Sl
open Go Go.RowKit Go.Shelf Go.Proofs
section
variable {C:Cx} {S:Nat→Prop} {w0:World} {k:List Item} {D:List Deferred} {E:List (Nat×Value)} {H H':List Ent} {d:Option Tmp} {t t':TypeId} {p:String} {af:Array Edge} {g:Option (Nat×Bool)} {x y z:Operand} {v u:Value} {ops:Array Oper} {rest:List Oper}
theorem AW {dd:TypeDesc} {ti:TypeInfo} {b:Nat} {rw:Bool} {c:Array Value} {el:TypeId} {fz:Nat×Nat} (hu:C.P.underlying t'=some dd) (hd:flatD dd=false) (hti:C.P.info? t'=some ti)
 (hx:opv E x=some (.pointer (some ⟨b,0,none⟩))) (hm:(⟨b,rw,.cells c el fz⟩:Ent)∈H) (hsz:ti.size=c.size):OpV C S w0 H D E ⟨d,.load t' x,t,p,af,g⟩ (.agg c):=
 B5 hu hd hti hx hm hsz Y9 (fun j hj=>by rw[Nat.zero_add])
structure RecAt (c:Array Value) (off:Nat) (cs:Array Value):Prop where
 le:off+cs.size≤c.size
 at_:∀j,j < cs.size→c[off+j]?=cs[j]?
theorem ov_loadR {dd:TypeDesc} {ti:TypeInfo} {b off:Nat} {rw:Bool} {c cs:Array Value} {el:TypeId} {fz:Nat×Nat} (hu:C.P.underlying t'=some dd) (hd:flatD dd=false) (hti:C.P.info? t'=some ti)
 (hx:opv E x=some (.pointer (some ⟨b,off,none⟩))) (hm:(⟨b,rw,.cells c el fz⟩:Ent)∈H) (hr:RecAt c off cs) (hsz:ti.size=cs.size):OpV C S w0 H D E ⟨d,.load t' x,t,p,af,g⟩ (.agg cs):=
 B5 hu hd hti hx hm hsz hr.le hr.at_
end
end Go.Sl
namespace Go.Sl
open Go Go.RowKit Go.Shelf Go.Proofs
def Ent.ro (e:Ent):Ent:={e with rw:=false}
theorem Inv.swap {S:Nat→Prop} {w0 w:World} {A B:List Ent} (hi:Inv S w0 (A++B) w):Inv S w0 (B++A) w:=hi.perm List.perm_append_comm
end Go.Sl
namespace Go.Sl
open Go Go.RowKit Go.Shelf Go.Proofs
def fview (f:Field):String×TypeId×Nat:=(f.name,f.type,f.offset)
theorem eqfs3 {P:Program} {xs ys:Array Value} {l:List Field} {n0 n1 n2:String} {t0 t1 t2 o0 o1 o2:Nat} {v0 v1 v2 u0 u1 u2:Value} {r0 r1 r2:Bool} (h:l.map fview=[(n0,t0,o0),(n1,t1,o1),(n2,t2,o2)]) (hn0:n0 ≠ "_") (hn1:n1 ≠ "_") (hn2:n2 ≠ "_")
 (h0:xs[o0]?=some v0) (k0:ys[o0]?=some u0) (e0:EqC P t0 v0 u0 r0) (h1:xs[o1]?=some v1) (k1:ys[o1]?=some u1) (e1:EqC P t1 v1 u1 r1) (h2:xs[o2]?=some v2) (k2:ys[o2]?=some u2) (e2:EqC P t2 v2 u2 r2):EqFs P xs ys l [r0,r1,r2]:=by
 match l,h with
 | [f0,f1,f2],h=>
   simp only[List.map_cons,List.map_nil,fview,List.cons.injEq,Prod.mk.injEq,and_true] at h
   obtain⟨⟨rfl,rfl,rfl⟩,⟨rfl,rfl,rfl⟩,rfl,rfl,rfl⟩:=h
   exact .cons hn0 h0 k0 e0 (.cons hn1 h1 k1 e1 (.cons hn2 h2 k2 e2 .nil))
end Go.Sl
namespace Go.Sl
open Go Go.RowKit Go.Shelf Go.Proofs
section
variable {C:Cx} {S:Nat→Prop} {w0:World} {k:List Item} {D:List Deferred}
end
end Go.Sl
namespace Go.Sl
open Go Go.RowKit Go.Shelf Go.Proofs
section
variable {C:Cx} {S:Nat→Prop} {w0:World} {k:List Item} {D:List Deferred} {E:List (Nat×Value)} {H H':List Ent} {d:Option Tmp} {t t':TypeId} {p:String} {af:Array Edge} {g:Option (Nat×Bool)} {x y z:Operand} {v u:Value} {ops:Array Oper} {rest:List Oper}
theorem w_scope {c:Code} (h:WF C S w0 (.code c::.inScope c::k) D E H):WF C S w0 (.code (.scope c)::k) D E H:=by
 unfold WF at *
 exact fun w hi=>by
  have:=h w hi
  unfold Go1 at *
  intro tmps hf cs
  obtain⟨m,ht,hs⟩:=this tmps hf cs
  exact⟨m,ht,.head (step_lone_go (by simp[stepG,stepG.exec,Frame.atR])) hs⟩
theorem w_inScope {c:Code} (h:WF C S w0 k D E H):WF C S w0 (.inScope c::k) D E H:=by
 unfold WF at *
 exact fun w hi=>by
  have:=h w hi
  unfold Go1 at *
  intro tmps hf cs
  obtain⟨m,ht,hs⟩:=this tmps hf cs
  exact⟨m,ht,.head (step_lone_go (by simp[stepG,stepG.exec,Frame.atR])) hs⟩
def SLE (Env:List Ent→Prop) (P:Program) (f:FuncId) (vs:List Value) (pre:List Ent) (Q:Ending→List Ent→Prop):Prop:=
 ∀(S:Nat→Prop) (w0:World) (F:List Ent) (w:World),Env F→Inv S w0 (pre++F) w→Calls P f vs.toArray w fun e w'=>∃post,Q e post∧Inv S w0 (post++F) w'
theorem SL.env {Env:List Ent→Prop} {P:Program} {f:FuncId} {vs:List Value} {pre:List Ent} {Q:Ending→List Ent→Prop} (h:SL P f vs pre Q):SLE Env P f vs pre Q:=fun S w0 F w _ hi=>h S w0 F w hi
theorem SLE.mono {Env:List Ent→Prop} {P:Program} {f:FuncId} {vs:List Value} {pre:List Ent} {Q Q':Ending→List Ent→Prop} (h:SLE Env P f vs pre Q) (hq:∀e post,Q e post→Q' e post):SLE Env P f vs pre Q':=
 fun S w0 F w he hi=>(h S w0 F w he hi).mono fun _ _ ⟨post,h1,h2⟩=>⟨post,hq _ _ h1,h2⟩
end
end Go.Sl
namespace Go.Sl
open Go Go.RowKit Go.Shelf Go.Proofs
section
variable {C:Cx} {S:Nat→Prop} {w0:World} {D:List Deferred} {E:List (Nat×Value)} {H:List Ent} {d:Option Tmp} {t t':TypeId} {p:String} {af:Array Edge} {g:Option (Nat×Bool)}
theorem opv_run' {o:Oper} {v:Value} (h:∀tmps w,Fits E C.n tmps→Inv S w0 H w→(execOp ({tmps:=tmps,defers:=D}:Act).eval o).run C.P w=.ok (.value v) w):OpV C S w0 H D E o v:=by
 unfold OpV
 intro tmps w hf hi
 unfold Oper.quietAt
 rw[h tmps w hf hi]
 exact⟨rfl,rfl⟩
theorem AY {el n sz:Nat} {ti:TypeInfo} {zs cs:Array Value} {vs:List (Nat×Value)} {parts:Array (Nat×Operand)} (hu:C.P.underlying t'=some (.array n el)) (hs:(C.P.info? el).map (·.size)=some sz) (hti:C.P.info? t'=some ti) (hz:ti.zero=some (.agg zs)) (hp:partv E parts.toList=some vs)
 (hfill:Instr.fill (fun i=>some (i*sz,sz)) zs vs=some cs):OpV C S w0 H D E ⟨d,.build t' parts,t,p,af,g⟩ (.agg cs):=opv_run' fun tmps w hf _=>by
 have hv:=hf.partv (D:=D) hp
 have h1:(zeroValue t').run C.P w=.ok (.agg zs) w:=by simp[zeroValue,B0 hti,hz]
 have h3:(parts.map (fun (i,x)=>(i,({tmps:=tmps,defers:=D}:Act).eval x))).toList=vs:=by
  rw[←hv];simp
 have h4:Instr.fill (fun i=>some (i*sz,sz)) zs (parts.map (fun (i,x)=>(i,({tmps:=tmps,defers:=D}:Act).eval x))).toList=some cs:=by rw[h3];exact hfill
 simp at h4
 simp[execOp,Instr.build,h1,Value.cells,AA hu,BA hs,h4]
end
end Go.Sl
namespace Go.Sl
open Go Go.RowKit Go.Shelf Go.Proofs
section
variable {C:Cx} {S:Nat→Prop} {w0:World} {k:List Item} {D:List Deferred} {E:List (Nat×Value)} {H H':List Ent} {d:Option Tmp} {t t':TypeId} {p:String} {af:Array Edge} {g:Option (Nat×Bool)} {x y z:Operand} {v u:Value} {ops:Array Oper} {rest:List Oper} {aty:Array TypeId} {fuel:Nat} {listed listed':Array Bool}
end
end Go.Sl
namespace Go.Sl
open Go Go.RowKit Go.Shelf Go.Proofs
section
variable {C:Cx} {S:Nat→Prop} {w0:World} {D:List Deferred} {E:List (Nat×Value)} {H:List Ent} {d:Option Tmp} {t t':TypeId} {p:String} {af:Array Edge} {g:Option (Nat×Bool)} {x y:Operand} {xt yt:TypeId}
theorem ov_ofBytesAt {el bb off n cap:Nat} {rw_:Bool} {l:List UInt8} {c:Array Value} {el2:TypeId} {fz:Nat×Nat} (hxs:C.P.underlying xt=some (.slice el)) (hys:C.P.underlying yt=some .string) (hel:C.P.underlying el=some (.int .u8)) (hx:opv E x=some (.slice (some ⟨bb,off,none⟩) n cap)) (hn:n=l.length)
 (hm:(⟨bb,rw_,.cells c el2 fz⟩:Ent)∈H) (hc:∀(j:Nat) (hj:j < l.length),c[off+j]?=some (.int .u8 l[j].toNat)):OpV C S w0 H D E ⟨d,.convert xt yt x,t,p,af,g⟩ (str l):=opv_run' fun tmps w hf hi=>by
 subst hn
 have hlen:(byv l).length=l.length:=by simp[byv]
 have hl:(loadCells ⟨bb,off,none⟩ l.length).run C.P w=.ok (byv l).toArray w:=by
  have hc':∀j,off≤j→j < off+(byv l).toArray.size→w.cell? ⟨bb,j,none⟩=(byv l).toArray[j - off]?:=fun j h1 h2=>by
   obtain⟨i,rfl⟩:∃i,j=off+i:=⟨j - off,by omega⟩
   have hi2:i < l.length:=by simp at h2;omega
   rw[hi.cell hm (hc i hi2),show off+i - off=i by omega]
   simp[byv,hi2]
  have:=BG (P:=C.P) hc' l.length 0 #[] (by simp[byv])
  unfold loadCells
  rw[this]
  congr 1
  apply Array.ext'
  simp only[byv,Array.toList_append,Array.toList_extract,List.extract_eq_take_drop,List.drop_zero,Nat.zero_add,Nat.sub_zero,List.toList_toArray,List.nil_append]
  exact List.take_of_length_le Y26
 simp only[execOp,convert,hf.opv D hx,Sem.run_bind,AA hxs,AA hys,Result.andThen_ok,AA hel,Conv.bytesToString,hl]
 rw[run_forArr _ (fun _ _=>rfl)]
 simp
end
end Go.Sl
namespace Go.Sl
open Go Go.RowKit Go.Shelf Go.Proofs
theorem Take.mid:∀(A F:List Ent),Take (A++F) A F
 | [],F=>.nil F
 | e::A,F=>.cons (.head _) (Take.mid A F)
theorem Take.tail {H ps F:List Ent} (x:Ent) (h:Take H ps F):Take (x::H) ps (x::F):=by
 induction h with
 | nil H=>exact .nil _
 | cons h _ ih=>exact .cons (.tail x h) ih
theorem Take.join {H A B F1 F2:List Ent} (h:Take H A F1) (t:Take F1 B F2):Take H (A++B) F2:=by
 induction h with
 | nil _=>exact t
 | cons d _ ih=>exact .cons d (ih t)
theorem rowE_some {b:Nat} {xs rst:List Value} {el:TypeId}:rowE (some b) xs rst el=[⟨b,true,.cells (xs++rst).toArray el (0,0)⟩]:=rfl
theorem byv_len (l:List UInt8):(byv l).length=l.length:=by simp[byv]
theorem byv_app (l m:List UInt8):byv (l++m)=byv l++byv m:=by simp[byv]
end Go.Sl
namespace Go.Sl
open Go Go.RowKit Go.Shelf Go.Proofs
theorem Take.appL {H ps F:List Ent} (A:List Ent) (h:Take H ps F):Take (A++H) ps (A++F):=by
 induction A with
 | nil=>exact h
 | cons a A ih=>exact ih.tail a
end Go.Sl
namespace Go.Sl
open Go Go.RowKit Go.Shelf Go.Proofs
def Kn (S:Nat→Prop) (w0:World) (H:List Ent) (b o:Nat) (v:Value):Prop:=
 (∃rw c el fz,(⟨b,rw,.cells c el fz⟩:Ent)∈H∧c[o]?=some v)∨(b < w0.heap.size∧¬S b∧w0.cell? ⟨b,o,none⟩=some v)
theorem Kn.cell {S:Nat→Prop} {w0 w:World} {H:List Ent} {b o:Nat} {v:Value} (hk:Kn S w0 H b o v) (hi:Inv S w0 H w):w.cell? ⟨b,o,none⟩=some v:=by
 rcases hk with⟨rw,c,el,fz,hm,hc⟩|⟨hb,hs,hc⟩
 · exact hi.cell hm hc
 · unfold World.cell? at hc ⊢
   rw[hi.fr.block b hb hs];exact hc
theorem Kn.mono {S:Nat→Prop} {w0:World} {H H':List Ent} {b o:Nat} {v:Value} (h:∀e∈H,e∈H') (hk:Kn S w0 H b o v):Kn S w0 H' b o v:=by
 rcases hk with⟨rw,c,el,fz,hm,hc⟩|h2
 · exact .inl ⟨rw,c,el,fz,h _ hm,hc⟩
 · exact .inr h2
theorem Kn.cons {S:Nat→Prop} {w0:World} {H:List Ent} {b o:Nat} {v:Value} {e:Ent} (hk:Kn S w0 H b o v):Kn S w0 (e::H) b o v:=hk.mono fun _ h=>.tail _ h
theorem Kn.app {S:Nat→Prop} {w0:World} {H A:List Ent} {b o:Nat} {v:Value} (hk:Kn S w0 H b o v):Kn S w0 (A++H) b o v:=hk.mono fun _ h=>List.mem_append_right _ h
theorem Kn.appL {S:Nat→Prop} {w0:World} {H A:List Ent} {b o:Nat} {v:Value} (hk:Kn S w0 H b o v):Kn S w0 (H++A) b o v:=hk.mono fun _ h=>List.mem_append_left _ h
theorem Kn.of {S:Nat→Prop} {w0:World} {H:List Ent} {b o:Nat} {v:Value} {rw:Bool} {c:Array Value} {el:TypeId} {fz:Nat×Nat} (hm:(⟨b,rw,.cells c el fz⟩:Ent)∈H) (hc:c[o]?=some v):Kn S w0 H b o v:=.inl ⟨rw,c,el,fz,hm,hc⟩
theorem Kn.rebase {S:Nat→Prop} {w0 w:World} {H:List Ent} {b o:Nat} {v:Value} (hk:Kn S w0 H b o v) (hi:Inv S w0 H w):Kn none_ w [] b o v:=by
 refine .inr ⟨?_,fun h=>h,hk.cell hi⟩
 have:=hk.cell hi
 unfold World.cell? at this
 cases hb:w.heap[b]? with
 | none=>simp[hb] at this
 | some o=>exact(Array.getElem?_eq_some_iff.1 hb).1
def SLF (P:Program) (S:Nat→Prop) (w0:World) (F:List Ent) (f:FuncId) (vs:List Value) (pre:List Ent) (Q:Ending→List Ent→Prop):Prop:=
 ∀(w:World),Inv S w0 (pre++F) w→Calls P f vs.toArray w fun e w'=>∃post,Q e post∧Inv S w0 (post++F) w'
section
variable {C:Cx} {S:Nat→Prop} {w0:World} {k:List Item} {D:List Deferred} {E:List (Nat×Value)} {H H':List Ent} {d:Option Tmp} {t t':TypeId} {p:String} {af:Array Edge} {g:Option (Nat×Bool)} {x y z:Operand} {v u:Value} {ops:Array Oper} {rest:List Oper} {kk:IntKind} {xt yt:TypeId} {fuel:Nat} {listed listed':Array Bool} {i:Nat}
theorem A2 {dd:TypeDesc} {b off:Nat} (hu:C.P.underlying t'=some dd) (hd:flatD dd=true) (hx:opv E x=some (.pointer (some ⟨b,off,none⟩)))
 (hk:Kn S w0 H b off v):OpV C S w0 H D E ⟨d,.load t' x,t,p,af,g⟩ v:=by
 unfold OpV
 intro tmps w hf hi
 unfold Oper.quietAt
 have:(execOp ({tmps:=tmps,defers:=D}:Act).eval ⟨d,.load t' x,t,p,af,g⟩).run C.P w=.ok (.value v) w:=by
  simp[execOp,hf.opv D hx,Instr.loadAt,Instr.sureAddr,run_loadVar1 hu hd (hk.cell hi)]
 rw[this]
 exact⟨rfl,rfl⟩
theorem AJ {dd:TypeDesc} {ti:TypeInfo} {b off:Nat} {cs:Array Value} (hu:C.P.underlying t'=some dd) (hd:flatD dd=false) (hti:C.P.info? t'=some ti) (hx:opv E x=some (.pointer (some ⟨b,off,none⟩)))
 (hk:∀j (h:j < cs.size),Kn S w0 H b (off+j) cs[j]) (hsz:ti.size=cs.size):OpV C S w0 H D E ⟨d,.load t' x,t,p,af,g⟩ (.agg cs):=by
 unfold OpV
 intro tmps w hf hi
 unfold Oper.quietAt
 have : (execOp ({tmps:=tmps,defers:=D}:Act).eval ⟨d,.load t' x,t,p,af,g⟩).run C.P w=.ok (.value (.agg cs)) w:=by
  have:=run_loadVarA (P:=C.P) (w:=w) (b:=b) (off:=off) (c:=cs) hu hd hti hsz (fun j h1 h2=>by
   obtain⟨i,rfl⟩:∃i,j=off+i:=⟨j - off,by omega⟩
   rw[show off+i - off=i by omega,(hk i Y9).cell hi,Array.getElem?_eq_getElem Y9])
  simp[execOp,hf.opv D hx,Instr.loadAt,Instr.sureAddr,this]
 rw[this]
 exact⟨rfl,rfl⟩
def metTo (P:Program) (t:TypeId) (name:String):Option FuncId:=
 match P.info? t with
 | some ti=>match ti.methods.find? (·.name == name) with
   | some m=>match m.path,m.func,P.underlying t with
     | ⟨[]⟩,some (f,true),some (.pointer _)=>some f
     | ⟨[]⟩,some (f,false),some (.struct _)=>some f
     | _,_,_=>none
   | none=>none
 | none=>none
theorem run_method {P:Program} {w:World} {t:TypeId} {v:Value} {name:String} {f:FuncId} (n:Nat) (h:metTo P t name=some f):(method (n+1) t v name).run P w=.ok (f,v) w:=by
 unfold metTo at h
 split at h
 · rename_i ti hti
   split at h
   · rename_i m hm
     have hp:(typeInfo t).run P w=.ok ti w:=B0 hti
     split at h
     · rename_i q f' el hpa hfu hun
       simp at h
       subst h
       have e1:m.path= #[]:=hpa
       simp[method,Sem.run_bind,hp,hm,e1,follow,hfu,receiverAt,AA hun,Place.get]
     · rename_i q f' el hpa hfu hun
       simp at h
       subst h
       have e1:m.path= #[]:=hpa
       simp[method,Sem.run_bind,hp,hm,e1,follow,hfu,receiverAt,AA hun,Place.get]
     · cases h
   · cases h
 · cases h
inductive GoesTo (P:Program):Value→List Value→FuncId→List Value→Prop
 | fn (f:FuncId) (fs cs:Array Value) (args vs:List Value) (h:fs.toList++args++cs.toList=vs):GoesTo P (.func (.func f) fs cs) args f vs
 | met (f:FuncId) (t:TypeId) (v:Value) (name:String) (cs:Array Value) (args vs:List Value) (hm:metTo P t name=some f) (h:v::args=vs):GoesTo P (.func (.method name) #[.iface t v] cs) args f vs
def CallR (C:Cx) (D:List Deferred) (E:List (Nat×Value)) (o:Oper) (f:FuncId) (vs:List Value):Prop:=∀tmps w,Fits E C.n tmps→(execOp ({tmps:=tmps,defers:=D}:Act).eval o).run C.P w=.ok (.enter f vs.toArray) w
theorem CallR.val {c:Call} {f:FuncId} {vs:List Value} (hc:callTo E c=some (f,vs)) (he:Enters C.P f):CallR C D E ⟨d,.call c,t,p,af,g⟩ f vs:=fun tmps w hft=>run_call hft hc he
theorem CallR.inv {it:TypeId} {iv:Value} {name:String} {f:FuncId} {us:List Value} {xs:Array Operand} {aty:Array TypeId} (hx:opv E x=some (.iface it iv)) (hxs:opvs E xs.toList=some us) (hm:metTo C.P it name=some f) (he:Enters C.P f):
 CallR C D E ⟨d,.call {callee:=.invoke x name,args:=xs,argTypes:=aty},t,p,af,g⟩ f (iv::us):=fun tmps w hft=>by
 have h3:=hft.opvsA (D:=D) hxs
 have hmm:=run_method (P:=C.P) (w:=w) (v:=iv) (C.P.types.size+Made.depth - 1) hm
 have hd:C.P.types.size+Made.depth - 1+1=C.P.types.size+Made.depth:=by
  have:0 < Made.depth:=by decide
  omega
 rw[hd] at hmm
 have he2:=he (#[iv]++us.toArray) w
 have e2:(#[iv]++us.toArray:Array Value)=(iv::us).toArray:=by simp
 simp only[execOp,resolve,hft.opv D hx,h3,Sem.run_bind,Sem.run_pure,Result.andThen_ok,invoke]
 simp[callMethod,program,Sem.run_bind,Sem.run,hmm]
 rw[e2] at he2
 simpa using he2
theorem CallR.fv {fv:Value} {f:FuncId} {us vs:List Value} {xs:Array Operand} {aty:Array TypeId} (hx:opv E x=some fv) (hxs:opvs E xs.toList=some us) (hm:GoesTo C.P fv us f vs) (he:Enters C.P f):
 CallR C D E ⟨d,.call {callee:=.value x,args:=xs,argTypes:=aty},t,p,af,g⟩ f vs:=fun tmps w hft=>by
 have h3:=hft.opvsA (D:=D) hxs
 cases hm with
 | fn f fs cs args vs h=>
   subst h
   have:=he (fs++us.toArray++cs) w
   have e2:fs++us.toArray++cs=(fs.toList++us++cs.toList).toArray:=by apply Array.ext';simp
   have e3:fs++(us.toArray++cs)=(fs.toList++us++cs.toList).toArray:=by apply Array.ext';simp
   simp[execOp,resolve,hft.opv D hx,Deferred.ofValue,h3,invoke]
   rw[e2] at this
   first
    | simpa using this
    | (rw[e3];simpa using this)
 | met f tt vv name cs args vs hmt h=>
   subst h
   have hmm:=run_method (P:=C.P) (w:=w) (v:=vv) (C.P.types.size+Made.depth - 1) hmt
   have hd:C.P.types.size+Made.depth - 1+1=C.P.types.size+Made.depth:=by
    have:0 < Made.depth:=by decide
    omega
   rw[hd] at hmm
   have he2:=he (#[vv]++us.toArray) w
   have e2:(#[vv]++us.toArray:Array Value)=(vv::us).toArray:=by simp
   simp only[execOp,resolve,hft.opv D hx,h3,Sem.run_bind,Sem.run_pure,Result.andThen_ok,Deferred.ofValue,invoke]
   simp[callMethod,program,Sem.run_bind,Sem.run,hmm]
   rw[e2] at he2
   simpa using he2
theorem wo_callF {c:Call} {f:FuncId} {vs:List Value} {pre F:List Ent} {Q:Ending→List Ent→Prop} (hp:Take H pre F) (hc:CallR C D E ⟨d,.call c,t,p,af,g⟩ f vs) (hg:guardOk E ops ⟨d,.call c,t,p,af,g⟩=some true) (hd:dstOk d C.n=true)
 (h:SLF C.P S w0 F f vs pre Q)
 (hk : ∀e post,Q e post→match e with
  | .returned v=>WO C S w0 ops rest k D (putE d v E) (post++F)
  | .panicked chain=>WP C S w0 chain D E (post++F)
  | .outgrown=>False):WO C S w0 ops (⟨d,.call c,t,p,af,g⟩::rest) k D E H:=by
 refine De hg hd fun w hiv tmps hft=>?_
 rw[BV _ _ _ (nd_of rfl),hc tmps w hft]
 refine(h w (hiv.take hp)).mono ?_
 rintro e w' ⟨post,hq,hi⟩
 have:=hk e post hq
 cases e with
 | returned v=>exact this.go2 hi
 | panicked chain=>exact(by unfold WP at this;exact this w' hi)
 | outgrown=>exact this
theorem wi_callF {c:Call} {f:FuncId} {vs:List Value} {pre F:List Ent} {Q:Ending→List Ent→Prop} (hop:ops[i]?=some ⟨d,.call c,t,p,af,g⟩) (hp:Take H pre F) (hc:CallR C D E ⟨d,.call c,t,p,af,g⟩ f vs) (hg:guardOk E ops ⟨d,.call c,t,p,af,g⟩=some true) (hd:dstOk d C.n=true) (hl:listed.setIfInBounds i true=listed')
 (h:SLF C.P S w0 F f vs pre Q)
 (hk : ∀e post,Q e post→match e with
  | .returned v=>WA C S w0 ops fuel listed' k D (putE d v E) (post++F)
  | .panicked chain=>WP C S w0 chain D [] (post++F)
  | .outgrown=>False):WI C S w0 ops fuel listed i k D E H:=by
 refine wi_op hop hg hd hl fun w hiv tmps hft=>?_
 rw[hc tmps w hft]
 refine(h w (hiv.take hp)).mono ?_
 rintro e w' ⟨post,hq,hi⟩
 have:=hk e post hq
 cases e with
 | returned v=>exact this.go3 hi
 | panicked chain=>exact(by unfold WP at this;exact this w' hi)
 | outgrown=>exact this
theorem AQ {Q:Value→List Ent→Prop} {c:Call} {f:FuncId} {vs:List Value} {pre F:List Ent} (hp:Take H pre F) (hc:CallR C D E ⟨d,.call c,t,p,af,g⟩ f vs) (hg:guardOk E ops ⟨d,.call c,t,p,af,g⟩=some true) (hd:dstOk d C.n=true)
 (h:SLF C.P S w0 F f vs pre fun e post=>∃v,e=.returned v∧Q v post)
 (hk:∀v post,Q v post→WO C S w0 ops rest k D (putE d v E) (post++F)):WO C S w0 ops (⟨d,.call c,t,p,af,g⟩::rest) k D E H:=
 wo_callF hp hc hg hd h fun e post hq=>by obtain⟨v,rfl,hq⟩:=hq;exact hk v post hq
theorem AG {Q:Value→List Ent→Prop} {c:Call} {f:FuncId} {vs:List Value} {pre F:List Ent} (hop:ops[i]?=some ⟨d,.call c,t,p,af,g⟩) (hp:Take H pre F) (hc:CallR C D E ⟨d,.call c,t,p,af,g⟩ f vs) (hg:guardOk E ops ⟨d,.call c,t,p,af,g⟩=some true) (hd:dstOk d C.n=true) (hl:listed.setIfInBounds i true=listed')
 (h:SLF C.P S w0 F f vs pre fun e post=>∃v,e=.returned v∧Q v post)
 (hk:∀v post,Q v post→WA C S w0 ops fuel listed' k D (putE d v E) (post++F)):WI C S w0 ops fuel listed i k D E H:=
 wi_callF hop hp hc hg hd hl h fun e post hq=>by obtain⟨v,rfl,hq⟩:=hq;exact hk v post hq
theorem Aw {c:Call} {f:FuncId} {vs:List Value} (hc:CallR C D E ⟨d,.call c,t,p,af,g⟩ f vs) (h:SLF C.P S w0 H f vs [] fun e post=>e=.returned v∧post=[]):OpV C S w0 H D E ⟨d,.call c,t,p,af,g⟩ v:=by
 unfold OpV
 intro tmps w hft hi
 unfold Oper.quietAt
 rw[hc tmps w hft]
 exact⟨rfl,(h w hi).mono fun e w' ⟨post,⟨h1,h2⟩,h3⟩=>⟨h1,by subst h2;exact h3⟩⟩
end
theorem SLF.mono {P:Program} {S:Nat→Prop} {w0:World} {F:List Ent} {f:FuncId} {vs:List Value} {pre:List Ent} {Q Q':Ending→List Ent→Prop} (h:SLF P S w0 F f vs pre Q) (hq:∀e post,Q e post→Q' e post):SLF P S w0 F f vs pre Q':=
 fun w hi=>(h w hi).mono fun e w' ⟨post,h1,h2⟩=>⟨post,hq _ _ h1,h2⟩
theorem SLF.frame {P:Program} {S:Nat→Prop} {w0:World} {F A:List Ent} {f:FuncId} {vs:List Value} {pre:List Ent} {Q:Ending→List Ent→Prop} (h:SLF P S w0 (A++F) f vs pre Q):SLF P S w0 F f vs (pre++A) fun e post=>∃p,Q e p∧post=p++A:=
 fun w hi=>(h w (by rwa [List.append_assoc] at hi)).mono fun e w' ⟨post,h1,h2⟩=>⟨post++A,⟨post,h1,rfl⟩,by rwa [List.append_assoc]⟩
attribute [irreducible] SLF
end Go.Sl
namespace Go.Sl
open Go Go.RowKit Go.Shelf Go.Proofs
def mapB (i:Nat):List (Int×Value)→List MapEntry
 | []=>[]
 | p::r=>{key:=.int .u8 p.1,val:=p.2,born:=i}::mapB (i+1) r
def mapBO (l:List (Int×Value)):Obj:=.map (mapB 0 l).toArray l.length
theorem findNow_B (q:Int):∀(l:List (Int×Value)) (i j:Nat),Instr.findNow (.int .u8) (.int .u8 q) (mapB i l) j=some (match l.find? (fun p=>p.1 == q) with|some p=>some (j+l.findIdx (fun p=>p.1 == q),p.2)|none=>none)
 | [],_,_=>rfl
 | p :: r,i,j=>by
   simp only[mapB,Instr.findNow,Instr.sameNow,if_true]
   by_cases h:p.1=q
   · have h1:(q == p.1)=true:=by simp[h]
     have h2:(p.1 == q)=true:=by simp[h]
     simp[h1,List.find?_cons,h2,List.findIdx_cons]
   · have h1:(q == p.1)=false:=by simp;exact fun e=>h e.symm
     have h2:(p.1 == q)=false:=by simp[h]
     simp only[h1,findNow_B q r (i+1) (j+1),List.find?_cons,h2,List.findIdx_cons,cond_false]
     cases List.find? (fun p=>p.1 == q) r with
     | some p2=>simp only[Option.some.injEq,Prod.mk.injEq,and_true];omega
     | none=>rfl
theorem mapB_snoc (p:Int×Value):∀(l:List (Int×Value)) (i:Nat),mapB i (l++[p])=mapB i l++[{key:=.int .u8 p.1,val:=p.2,born:=i+l.length}]
 | [],i=>rfl
 | q::l,i=>by simp only[List.cons_append,mapB,mapB_snoc p l (i+1),List.length_cons];rw[show i+1+l.length=i+(l.length+1) by omega]
section
variable {C:Cx} {S:Nat→Prop} {w0:World} {k:List Item} {D:List Deferred} {E:List (Nat×Value)} {H H':List Ent} {d:Option Tmp} {t t':TypeId} {p:String} {af:Array Edge} {g:Option (Nat×Bool)} {x y z:Operand} {v u:Value} {ops:Array Oper} {rest:List Oper} {kk k2:IntKind} {xt yt:TypeId} {a b:Int}
theorem opv_runX {o:Oper} {v:Value} (h:∀tmps w,Fits E C.n tmps→Inv S w0 H w→(execOp ({tmps:=tmps,defers:=D}:Act).eval o).run C.P w=.ok (.value v) w):OpV C S w0 H D E o v:=by
 unfold OpV
 exact fun tmps w hf hi=>by
  unfold Oper.quietAt
  rw[h tmps w hf hi]
  exact⟨rfl,rfl⟩
theorem run_checkB {P:Program} {kt:TypeId} {q:Int} {w:World} {e:Bool} (hk:P.underlying kt=some (.int .u8)) (n:Nat):(Instr.checkKey e (n+1) kt (.int .u8 q)).run P w=.ok () w:=by
 simp[Instr.checkKey,underlying,program,Sem.run,hk]
theorem wo_makeMapB (hg:guardOk E ops ⟨d,.makeMap t' none,t,p,af,g⟩=some true) (hd:dstOk d C.n=true)
 (h:∀b,w0.heap.size≤b→WO C S w0 ops rest k D (putE d (.map (some b)) E) (⟨b,true,mapBO []⟩::H)):WO C S w0 ops (⟨d,.makeMap t' none,t,p,af,g⟩::rest) k D E H:=by
 refine De hg hd fun w hiv tmps hft=>?_
 rw[BV _ _ _ (nd_of rfl)]
 have hrun:(execOp ({tmps:=tmps,defers:=D}:Act).eval (⟨d,.makeMap t' none,t,p,af,g⟩:Oper)).run C.P w=.ok (.value (.map (some w.heap.size))) {w with heap:=w.heap.push (mapBO [])}:=by
  simp[execOp,Instr.makeMap,newObj,Sem.run,Sem.run_bind]
  rfl
 rw[hrun]
 exact(h _ hiv.fr.size).go2 (hiv.new _)
theorem run_mapInsB {mb:Nat} {kt et:TypeId} {l:List (Int×Value)} {q:Int} {w:World} (hu':C.P.underlying t'=some (.map kt et)) (hk:C.P.underlying kt=some (.int .u8)) (hl:l.find? (fun p=>p.1 == q)=none)
 (hb:w.heap[mb]?=some (mapBO l)):(Instr.mapUpdate t' (.map (some mb)) (.int .u8 q) v).run C.P w=.ok () {w with heap:=w.heap.setIfInBounds mb (mapBO (l++[(q,v)]))}:=by
 simp only[mapBO] at hb
 have hf:(Instr.findKey kt (.int .u8 q) (mapB 0 l)).run C.P w=.ok none w:=by
  simp[Instr.findKey,underlying,program,Sem.run,hk,findNow_B q l 0 0,hl]
 have hck:=run_checkB (P:=C.P) (w:=w) (e:=false) (q:=q) hk 9999
 have e1:mapBO (l++[(q,v)])=.map ((mapB 0 l).toArray.push {key:=.int .u8 q,val:=v,born:=l.length}) (l.length+1):=by
  simp[mapBO,mapB_snoc]
 rw[e1]
 simp[Instr.mapUpdate,AA hu',getObj,setObj,Sem.run,Sem.run_bind,hb,hck,hf]
theorem BU {mb:Nat} {kt et:TypeId} {l:List (Int×Value)} {q:Int} (hu':C.P.underlying t'=some (.map kt et)) (hk:C.P.underlying kt=some (.int .u8)) (hx:opv E x=some (.map (some mb))) (hy:opv E y=some (.int .u8 q)) (hz:opv E z=some v) (hl:l.find? (fun p=>p.1 == q)=none)
 (hu:Upd mb (mapBO l) (mapBO (l++[(q,v)])) H H') (hg:guardOk E ops ⟨d,.insert t' x y z,t,p,af,g⟩=some true) (hd:dstOk d C.n=true)
 (h:WO C S w0 ops rest k D (putE d undef E) H'):WO C S w0 ops (⟨d,.insert t' x y z,t,p,af,g⟩::rest) k D E H:=by
 refine De hg hd fun w hi tmps hft=>?_
 rw[BV _ _ _ (nd_of rfl)]
 have hrun:(execOp ({tmps:=tmps,defers:=D}:Act).eval (⟨d,.insert t' x y z,t,p,af,g⟩:Oper)).run C.P w=.ok .skip {w with heap:=w.heap.setIfInBounds mb (mapBO (l++[(q,v)]))}:=by
  simp[execOp,hft.opv D hx,hft.opv D hy,hft.opv D hz,Sem.run_bind,run_mapInsB hu' hk hl (hi.hb _ hu.mem)]
 rw[hrun]
 exact h.go2 (hi.put hu)
theorem wo_updB {mb:Nat} {kt et:TypeId} {l:List (Int×Value)} {q:Int} (hu':C.P.underlying t'=some (.map kt et)) (hk:C.P.underlying kt=some (.int .u8)) (hx:opv E x=some (.map (some mb))) (hy:opv E y=some (.int .u8 q)) (hz:opv E z=some v) (hl:l.find? (fun p=>p.1 == q)=none)
 (hu:Upd mb (mapBO l) (mapBO (l++[(q,v)])) H H') (hg:guardOk E ops ⟨d,.mapUpdate t' x y z,t,p,af,g⟩=some true) (hd:dstOk d C.n=true)
 (h:WO C S w0 ops rest k D (putE d undef E) H'):WO C S w0 ops (⟨d,.mapUpdate t' x y z,t,p,af,g⟩::rest) k D E H:=by
 refine De hg hd fun w hi tmps hft=>?_
 rw[BV _ _ _ (nd_of rfl)]
 have hrun:(execOp ({tmps:=tmps,defers:=D}:Act).eval (⟨d,.mapUpdate t' x y z,t,p,af,g⟩:Oper)).run C.P w=.ok .skip {w with heap:=w.heap.setIfInBounds mb (mapBO (l++[(q,v)]))}:=by
  simp[execOp,hft.opv D hx,hft.opv D hy,hft.opv D hz,Sem.run_bind,run_mapInsB hu' hk hl (hi.hb _ hu.mem)]
 rw[hrun]
 exact h.go2 (hi.put hu)
theorem ov_lookB {mb:Nat} {kt et:TypeId} {ti:TypeInfo} {zv:Value} {l:List (Int×Value)} {q:Int} {rw_:Bool} (hu':C.P.underlying t'=some (.map kt et)) (hk:C.P.underlying kt=some (.int .u8)) (hti:C.P.info? et=some ti) (hz:ti.zero=some zv) (hx:opv E x=some (.map (some mb))) (hy:opv E y=some (.int .u8 q))
 (hm:(⟨mb,rw_,mapBO l⟩:Ent)∈H):OpV C S w0 H D E ⟨d,.lookup t' x y true,t,p,af,g⟩ (.tuple #[((l.find? fun p=>p.1 == q).map (·.2)).getD zv,.bool (l.find? fun p=>p.1 == q).isSome]):=opv_runX fun tmps w hft hi=>by
 have hb:=hi.hb _ hm
 simp only[mapBO] at hb
 have hck:=fun e=>run_checkB (P:=C.P) (w:=w) (e:=e) (q:=q) hk 9999
 have hzv:(zeroValue et).run C.P w=.ok zv w:=by simp[zeroValue,B0 hti,hz]
 cases hin:l.find? (fun p=>p.1 == q) with
 | some r=>
   have hf:(Instr.findKey kt (.int .u8 q) (mapB 0 l)).run C.P w=.ok (some (0+l.findIdx (fun p=>p.1 == q),r.2)) w:=by
    simp[Instr.findKey,underlying,program,Sem.run,hk,findNow_B q l 0 0,hin]
   simp[execOp,Instr.lookup,hft.opv D hx,hft.opv D hy,AA hu',getObj,Sem.run,Sem.run_bind,hb,hck,hf,hin]
 | none=>
   have hf:(Instr.findKey kt (.int .u8 q) (mapB 0 l)).run C.P w=.ok none w:=by
    simp[Instr.findKey,underlying,program,Sem.run,hk,findNow_B q l 0 0,hin]
   simp[execOp,Instr.lookup,hft.opv D hx,hft.opv D hy,AA hu',getObj,Sem.run,Sem.run_bind,hb,hck,hf,hin,hzv]
theorem run_eqFn {P:Program} {ps rs:Array TypeId} {vr:Bool} {f:Fn} {fs cs:Array Value} (hu:P.underlying xt=some (.func ps rs vr)) (w:World):(Op.equal xt (.func f fs cs) .nilFunc).run P w=.ok false w:=by
 have:∀n,(Op.equalIn (n+1) xt (.func f fs cs) .nilFunc).run P w=.ok false w:=fun n=>by simp[Op.equalIn,underlying,program,Sem.run,hu]
 exact this 9999
theorem run_eqFnN {P:Program} {ps rs:Array TypeId} {vr:Bool} (hu:P.underlying xt=some (.func ps rs vr)) (w:World):(Op.equal xt .nilFunc .nilFunc).run P w=.ok true w:=by
 have:∀n,(Op.equalIn (n+1) xt .nilFunc .nilFunc).run P w=.ok true w:=fun n=>by simp[Op.equalIn,underlying,program,Sem.run,hu]
 exact this 9999
theorem ov_neqFn {ps rs:Array TypeId} {vr:Bool} {f:Fn} {fs cs:Array Value} (hu:C.P.underlying xt=some (.func ps rs vr)) (hx:opv E x=some (.func f fs cs)) (hy:opv E y=some .nilFunc):OpV C S w0 H D E ⟨d,.binOp .neq xt x y yt,t,p,af,g⟩ (.bool true):=opv_runX fun tmps w hf _=>by
 simp[execOp,hf.opv D hx,hf.opv D hy,eqGuard,binOp,run_eqFn hu]
theorem ov_neqFnN {ps rs:Array TypeId} {vr:Bool} (hu:C.P.underlying xt=some (.func ps rs vr)) (hx:opv E x=some .nilFunc) (hy:opv E y=some .nilFunc):OpV C S w0 H D E ⟨d,.binOp .neq xt x y yt,t,p,af,g⟩ (.bool false):=opv_runX fun tmps w hf _=>by
 simp[execOp,hf.opv D hx,hf.opv D hy,eqGuard,binOp,run_eqFnN hu]
theorem ov_assertF {dd:TypeDesc} {ti:TypeInfo} {zv:Value} {it:TypeId} (hu:C.P.underlying yt=some dd) (hd:(match dd with|.interface _=>false|_=>true)=true) (hti:C.P.info? yt=some ti) (hz:ti.zero=some zv) (hx:opv E x=some (.iface it v)) (hne:Nat.beq it yt=false):
 OpV C S w0 H D E ⟨d,.typeAssert x xt yt true,t,p,af,g⟩ (.tuple #[zv,.bool false]):=opv_runX fun tmps w hf _=>by
 have hn:it≠yt:=Nat.ne_of_beq_eq_false hne
 have hzv:(zeroValue yt).run C.P w=.ok zv w:=by simp[zeroValue,B0 hti,hz]
 cases dd<;>simp_all [execOp,Instr.typeAssert,underlying,program,Sem.run,Sem.run_bind,hf.opv D hx]
theorem rep_cells (zs:Array Value) (n sz:Nat) (hz:zs.size=sz):(Array.range (n*sz)).map (fun i=>zs[i % zs.size]!)=(rowV (fun _:Unit=>zs.toList) (List.replicate n ())).toArray:=by
 subst hz
 have hl:∀a:Unit,zs.toList.length=zs.size:=fun _=>by simp
 apply Array.ext
 · simp only[Array.size_map,Array.size_range,List.size_toArray,Ba (fun _:Unit=>zs.toList) hl,List.length_replicate]
 · intro i h1 h2
   have hi:i < n*zs.size:=by simpa using h1
   have hp:0 < zs.size:=by
    rcases Nat.eq_zero_or_pos zs.size with h|h
    · rw[h] at hi;simp at hi
    · exact h
   have hd:=Nat.div_add_mod i zs.size
   have hm:=Nat.mod_lt i hp
   have hq:i / zs.size < n:=Nat.div_lt_of_lt_mul (by rw[Nat.mul_comm];exact hi)
   have:=C9 (fun _:Unit=>zs.toList) hl (List.replicate n ()) (i / zs.size) (i % zs.size) (by simpa using hq) hm
   rw[show i / zs.size*zs.size+i % zs.size=i by rw[Nat.mul_comm];exact hd] at this
   simp only[Array.getElem_map,Array.getElem_range,List.getElem_toArray]
   have h3:i < (rowV (fun _:Unit=>zs.toList) (List.replicate n ())).length:=by simpa using h2
   rw[List.getElem?_eq_getElem h3] at this
   have h4:i % zs.size < zs.toList.length:=by simpa using hm
   rw[List.getElem?_eq_getElem h4] at this
   rw[Option.some.inj this]
   rw[getElem!_pos zs (i % zs.size) hm]
   simp
theorem C4 {el n sz:Nat} {ti:TypeInfo} {zv:Value} {zs:Array Value} {k1 k2:IntKind} (hx:opv E x=some (.int k1 (n:Int))) (hy:opv E y=some (.int k2 (n:Int))) (hu:C.P.underlying t'=some (.slice el)) (hti:C.P.info? el=some ti) (hsz:ti.size=sz) (hz:ti.zero=some zv) (hzs:zv.cells=zs) (hzl:zs.size=sz) (hpos:0 < sz) (hn:0 < n) (hroom:ti.bytes*n≤281474976710656) (hn2:n < 4611686018427387904)
 (hg:guardOk E ops ⟨d,.makeSlice t' x y,t,p,af,g⟩=some true) (hd:dstOk d C.n=true)
 (h:∀bb,w0.heap.size≤bb→WO C S w0 ops rest k D (putE d (.slice (some ⟨bb,0,none⟩) n n) E) (⟨bb,true,.cells (rowV (fun _:Unit=>zs.toList) (List.replicate n ())).toArray el (0,0)⟩::H)):WO C S w0 ops (⟨d,.makeSlice t' x y,t,p,af,g⟩::rest) k D E H:=by
 refine De hg hd fun w hi tmps hft=>?_
 rw[BV _ _ _ (nd_of rfl)]
 have hrun:(execOp ({tmps:=tmps,defers:=D}:Act).eval (⟨d,.makeSlice t' x y,t,p,af,g⟩:Oper)).run C.P w=.ok (.value (.slice (some ⟨w.heap.size,0,none⟩) n n)) {w with heap:=w.heap.push (.cells (rowV (fun _:Unit=>zs.toList) (List.replicate n ())).toArray el (0,0))}:=by
  have hs0:=BA (t':=el) (P:=C.P) (w:=w) (n:=sz) (by rw[hti,←hsz];rfl)
  have hz0:(zeroValue el).run C.P w=.ok zv w:=by simp[zeroValue,B0 hti,hz]
  have e2:∀q,(askRoom q).run C.P w=.ok () w:=by intro q;unfold askRoom;split<;>rfl
  have hw:IntKind.i64.wrap (n:Int)=(n:Int):=C1 Y9 Y9
  have hbn:(ti.bytes:Int)*(n:Int)≤281474976710656:=by
   have h:=Int.ofNat_le.2 hroom
   rw[Int.natCast_mul] at h
   exact h
  have e4:¬(n*sz=0):=by
   intro h
   rcases Nat.mul_eq_zero.1 h with h|h<;>omega
  have e5:=rep_cells zs n sz hzl
  rw[←hzs] at e5
  simp only[execOp,hft.opv D hx,hft.opv D hy,Instr.makeSlice,Sem.run_bind,AA hu,Result.andThen_ok,asInt,asIntOf,Sem.run_pure,B0 hti,hw]
  rw[if_neg (by simp only[Bool.or_eq_true,decide_eq_true_eq];omega)]
  simp only[Sem.run_bind,Result.andThen_ok,e2,hs0,Int.toNat_natCast]
  rw[if_neg e4]
  simp only[Sem.run_bind,Sem.run_pure,Result.andThen_ok,hz0,newRow,newObj,Sem.run]
  rw[e5,hzs]
 rw[hrun]
 exact(h _ hi.fr.size).go2 (hi.new _)
theorem ov_slice3 {el bb off len cap sz:Nat} {lo hi mx:Operand} {ka kb kc:IntKind} {a b c:Nat} (hu:C.P.underlying t'=some (.slice el)) (hs:(C.P.info? el).map (·.size)=some sz) (hx:opv E x=some (.slice (some ⟨bb,off,none⟩) len cap))
 (hlo:opv E lo=some (.int ka (a:Int))) (hhi:opv E hi=some (.int kb (b:Int))) (hmx:opv E mx=some (.int kc (c:Int))) (hab:a≤b) (hbc:b≤c) (hc:c≤cap):
 OpV C S w0 H D E ⟨d,.slice t' x (some lo) (some hi) (some mx),t,p,af,g⟩ (.slice (some ⟨bb,if c=a then off else off+a*sz,none⟩) (b - a) (c - a)):=opv_runX fun tmps w hf _=>by
 have e1:(Instr.sliceBounds true len cap (some (.int ka (a:Int))) (some (.int kb (b:Int))) (some (.int kc (c:Int)))).run C.P w=.ok (a,b,c) w:=by
  unfold Instr.sliceBounds Instr.sliceBound
  simp[asIntOf,show(c:Int)≤(cap:Int) from by omega,show(b:Int)≤(c:Int) from by omega,show(a:Int)≤(b:Int) from by omega]
  simp[hc,hbc,hab]
 simp[execOp,Instr.sliceAt,Instr.slice,hf.opv D hx,hf.opv D hlo,hf.opv D hhi,hf.opv D hmx,AA hu,e1,BA hs,add_addr]
 split<;>rfl
theorem ov_ofBytesK {el bb off cap:Nat} {l:List UInt8} (hxs:C.P.underlying xt=some (.slice el)) (hys:C.P.underlying yt=some .string) (hel:C.P.underlying el=some (.int .u8)) (hx:opv E x=some (.slice (some ⟨bb,off,none⟩) l.length cap))
 (hk:∀j (h:j < l.length),Kn S w0 H bb (off+j) (.int .u8 l[j].toNat)):OpV C S w0 H D E ⟨d,.convert xt yt x,t,p,af,g⟩ (str l):=opv_runX fun tmps w hf hi=>by
 have hl:(loadCells ⟨bb,off,none⟩ l.length).run C.P w=.ok (byv l).toArray w:=by
  have hc:∀j,off≤j→j < off+(byv l).toArray.size→w.cell? ⟨bb,j,none⟩=(byv l).toArray[j - off]?:=fun j h1 h2=>by
   have h2':j - off < l.length:=by simp[byv] at h2;omega
   have:=(hk (j - off) h2').cell hi
   rw[show off+(j - off)=j by omega] at this
   rw[this];simp[byv,h2']
  have:=BG (P:=C.P) hc l.length 0 #[] (by simp[byv])
  unfold loadCells
  rw[this]
  congr 1
  apply Array.ext'
  have:(byv l).length=l.length:=by simp[byv]
  simp[←this]
 simp only[execOp,convert,hf.opv D hx,Sem.run_bind,AA hxs,AA hys,Result.andThen_ok,AA hel,Conv.bytesToString,hl]
 rw[run_forArr _ (fun _ _=>rfl)]
 simp
theorem or_byte (n:Nat) (c:Nat) (hc:c < 256) (hn:n < 4294967296):IntKind.i64.wrap (BitVec.ofInt IntKind.i64.bits ((n*256:Nat):Int)||| BitVec.ofInt IntKind.i64.bits (c:Int)).toNat=((n*256+c:Nat):Int):=by
 have h1:(BitVec.ofInt IntKind.i64.bits ((n*256:Nat):Int)||| BitVec.ofInt IntKind.i64.bits (c:Int)).toNat=n*256+c:=by
  have hb:IntKind.i64.bits=64:=rfl
  rw[hb,BitVec.toNat_or]
  have e1:(BitVec.ofInt 64 ((n*256:Nat):Int)).toNat=n*256:=by rw[BitVec.ofInt_natCast,BitVec.toNat_ofNat];omega
  have e2:(BitVec.ofInt 64 (c:Int)).toNat=c:=by rw[BitVec.ofInt_natCast,BitVec.toNat_ofNat];omega
  rw[e1,e2]
  have:=Nat.two_pow_add_eq_or_of_lt (b:=c) (i:=8) Y9 n
  rw[show 2 ^ 8*n=n*256 by omega] at this
  omega
 rw[h1]
 exact C1 Y9 Y9
end
end Go.Sl
namespace Go.Sl
open Go
abbrev Bs:=List UInt8
structure InsM where
 op:Int
 to:Int
 a:Int
 b:Int
 lo:Int
 hi:Int
 nm:Bs
 args:List Int
 deriving DecidableEq
structure EndM where
 kd:Int
 a:Int
 b:Int
 to:Int
 el:Int
 nm:Bs
 args:List Int
 ws:List (Bs×Int)
 ot:Int
 deriving DecidableEq
structure BlkM where
 ins:List InsM
 en:EndM
 deriving DecidableEq
structure FlowM where
 nm:Bs
 ac:Int
 res:Int
 regs:List Int
 raises:List Bs
 blks:List BlkM
 deriving DecidableEq
def ins0:InsM:=⟨0,0,0,0,0,0,[],[]⟩
def end0:EndM:=⟨0,0,0,0,0,[],[],[],0⟩
def blk0:BlkM:=⟨[],end0⟩
def flow0:FlowM:=⟨[],0,0,[],[],[]⟩
inductive Out (α:Type) where
 | ok (a:α)
 | bad
 | full
def Out.bind {α β:Type}:Out α→(α→Out β)→Out β
 | .ok a,g=>g a
 | .bad,_=>.bad
 | .full,_=>.full
theorem Out.ok_bind {α β:Type} (a:α) (g:α→Out β):(Out.ok a).bind g=g a:=rfl
theorem Out.bind_assoc {α β γ:Type} (r:Out α) (g:α→Out β) (h:β→Out γ):(r.bind g).bind h=r.bind fun a=>(g a).bind h:=by cases r<;>rfl
theorem Out.nf {α β:Type} {r:Out α} {g:α→Out β} (h:r.bind g≠.full):r≠.full:=by rintro rfl;exact h rfl
theorem Out.nf_at {α β:Type} {r:Out α} {g:α→Out β} {a:α} (h:r.bind g≠.full) (e:r=.ok a):g a≠.full:=by subst e;exact h
structure Kd (σ:Type) where
 num:Int→Nat→σ→Out (Int×σ)
 txt:Bs→σ→Out (Bs×σ)
 ref:Bs→Int→σ→Out (Bs×σ)
 blk:σ→Out σ
section
variable {σ:Type} (κ:Kd σ)
def small (p:Int) (s:σ):Out (Int×σ):=(κ.num p 1 s).bind fun r=>.ok (r.1 % 256,r.2)
inductive LI|to|a|b|lo|hi|one|sh|fi|me|gl
 deriving DecidableEq
def arg1:List Int→Int
 | [n]=>n
 | _=>0
theorem arg1_ne:∀ {l:List Int},l.length≠1→arg1 l=0
 | [],_=>rfl
 | [_],h=>absurd rfl h
 | _::_::_,_=>rfl
def ltI:LI→InsM→σ→Out (InsM×σ)
 | .to,x,s=>(κ.num x.to 2 s).bind fun r=>.ok ({x with to:=r.1},r.2)
 | .a,x,s=>(κ.num x.a 2 s).bind fun r=>.ok ({x with a:=r.1},r.2)
 | .b,x,s=>(κ.num x.b 2 s).bind fun r=>.ok ({x with b:=r.1},r.2)
 | .lo,x,s=>(κ.num x.lo 4 s).bind fun r=>.ok ({x with lo:=r.1},r.2)
 | .hi,x,s=>(κ.num x.hi 4 s).bind fun r=>.ok ({x with hi:=r.1},r.2)
 | .one,x,s=>(κ.num (arg1 x.args) 2 s).bind fun r=>.ok ({x with args:=[r.1]},r.2)
 | .sh,x,s=>(κ.ref x.nm 2 s).bind fun r=>.ok ({x with nm:=r.1},r.2)
 | .fi,x,s=>(κ.ref x.nm 3 s).bind fun r=>.ok ({x with nm:=r.1},r.2)
 | .me,x,s=>(κ.ref x.nm 4 s).bind fun r=>.ok ({x with nm:=r.1},r.2)
 | .gl,x,s=>(κ.ref x.nm 5 s).bind fun r=>.ok ({x with nm:=r.1},r.2)
def runs {α β:Type} (step:β→α→σ→Out (α×σ)):List β→α→σ→Out (α×σ)
 | [],x,s=>.ok (x,s)
 | l::r,x,s=>(step l x s).bind fun q=>runs step r q.1 q.2
def formTab:List (Int×List LI):=[(1,[.to,.lo]),(12,[.to]),(20,[.a,.lo,.hi]),(23,[.a,.b]),(24,[.a,.sh]),(30,[.to,.sh]),(37,[.to,.gl]),(31,[.to,.a,.sh]),(32,[.to,.a,.fi]),(39,[.to,.a,.sh]),(55,[.to,.a,.me]),(33,[.a,.b,.fi]),(35,[.a,.b,.one]),(38,[.a,.gl]),
 (2,[.to,.a]),(11,[.to,.a]),(36,[.to,.a]),(3,[.to,.a,.b]),(4,[.to,.a,.b]),(5,[.to,.a,.b]),(6,[.to,.a,.b]),(7,[.to,.a,.b]),(8,[.to,.a,.b]),(9,[.to,.a,.b]),(10,[.to,.a,.b]),(34,[.to,.a,.b]),(21,[.a]),(22,[.a]),(40,[.a]),(50,[.a]),(51,[.a]),(52,[.a]),(53,[.a]),(54,[.a])]
def formI (op:Int):Option (List LI):=(formTab.find? fun p=>p.1 == op).map (·.2)
def codeIns (x:InsM) (s:σ):Out (InsM×σ):=(small κ x.op s).bind fun r=>
 match formI r.1 with
 | some ls=>runs (ltI κ) ls {x with op:=r.1} r.2
 | none=>.bad
def iter {α:Type} (step:α→σ→Out (α×σ)):List α→σ→Out (List α×σ)
 | [],s=>.ok ([],s)
 | x::r,s=>(step x s).bind fun q=>(iter step r q.2).bind fun q2=>.ok (q.1::q2.1,q2.2)
def lst {α:Type} (sz:Nat) (z:α) (step:α→σ→Out (α×σ)) (l:List α) (s:σ):Out (List α×σ):=(κ.num l.length sz s).bind fun r=>
 if r.1 < 0 then .bad else iter step (if r.1=l.length then l else List.replicate r.1.toNat z) r.2
inductive LJ|target|other|first|second|raised|called|asked|given|code|handlers
 deriving DecidableEq
def codeWhen (h:Bs×Int) (s:σ):Out ((Bs×Int)×σ):=(κ.txt h.1 s).bind fun r=>(κ.num h.2 2 r.2).bind fun r2=>.ok ((r.1,r2.1),r2.2)
def ltE:LJ→EndM→σ→Out (EndM×σ)
 | .target,x,s=>(κ.num x.to 2 s).bind fun r=>.ok ({x with to:=r.1},r.2)
 | .other,x,s=>(κ.num x.el 2 s).bind fun r=>.ok ({x with el:=r.1},r.2)
 | .first,x,s=>(κ.num x.a 2 s).bind fun r=>.ok ({x with a:=r.1},r.2)
 | .second,x,s=>(κ.num x.b 2 s).bind fun r=>.ok ({x with b:=r.1},r.2)
 | .code,x,s=>(κ.num x.a 1 s).bind fun r=>.ok ({x with a:=r.1},r.2)
 | .raised,x,s=>(κ.txt x.nm s).bind fun r=>.ok ({x with nm:=r.1},r.2)
 | .called,x,s=>(κ.ref x.nm 1 s).bind fun r=>.ok ({x with nm:=r.1},r.2)
 | .asked,x,s=>(κ.ref x.nm 4 s).bind fun r=>.ok ({x with nm:=r.1},r.2)
 | .given,x,s=>(lst κ 1 0 (fun n=>κ.num n 2) x.args s).bind fun r=>.ok ({x with args:=r.1},r.2)
 | .handlers,x,s=>(lst κ 1 ([],0) (codeWhen κ) x.ws s).bind fun r=>(κ.num x.ot 2 r.2).bind fun r2=>.ok ({x with ws:=r.1,ot:=r2.1},r2.2)
def formE (kd:Int):Option (List LJ):=
 if kd=1 then some [.target] else if kd=2 then some [.first,.target,.other] else if kd=3 then some [.first] else if kd=4 then some [.raised]
 else if kd=5 then some [.called,.given,.first,.target,.handlers] else if kd=6 then some [.asked,.given,.first,.target,.handlers]
 else if kd=7 then some [.first,.second,.target,.handlers] else if kd=8 then some [.first,.target,.handlers] else if kd=9 then some [.code] else none
def codeEnd (x:EndM) (s:σ):Out (EndM×σ):=(small κ x.kd s).bind fun r=>
 match formE r.1 with
 | some ls=>runs (ltE κ) ls {x with kd:=r.1} r.2
 | none=>.bad
def fixOt (x:EndM):EndM:=if x.kd=0 then {x with ot:= -1} else x
def codeBlk (b:BlkM) (s:σ):Out (BlkM×σ):=(κ.blk s).bind fun s=>(lst κ 1 ins0 (codeIns κ) b.ins s).bind fun r=>(codeEnd κ (fixOt b.en) r.2).bind fun r2=>.ok (⟨r.1,r2.1⟩,r2.2)
def codeFlow (f:FlowM) (s:σ):Out (FlowM×σ):=(κ.num f.ac 1 s).bind fun r1=>(small κ f.res r1.2).bind fun r2=>(lst κ 2 0 (small κ) f.regs r2.2).bind fun r3=>(lst κ 1 [] κ.txt f.raises r3.2).bind fun r4=>(lst κ 2 blk0 (codeBlk κ) f.blks r4.2).bind fun r5=>
 .ok ({f with ac:=r1.1,res:=r2.1,regs:=r3.1,raises:=r4.1,blks:=r5.1},r5.2)
end
end Go.Sl
namespace Go.Sl
open Go Go.RowKit Go.Shelf Go.Proofs
abbrev badE:List PanicEntry:=[{v:=.iface 137 (.agg #[]),recovered:=false}]
abbrev unitV:Value:=.tuple #[]
abbrev pv (b o:Nat):Value:=.pointer (some ⟨b,o,none⟩)
inductive Pt (K:Prop) (S:Nat→Prop) (w0:World) (F:List Ent) (b o:Nat) (v:Value):Value→List Ent→List Ent→Prop
 | own (c:Array Value) (el:TypeId) (v':Value) (h:c[o]?=some v):Pt K S w0 F b o v v' [⟨b,true,.cells c el (0,0)⟩] [⟨b,true,.cells (c.setIfInBounds o v') el (0,0)⟩]
 | kn (hk:K) (h:Kn S w0 F b o v):Pt K S w0 F b o v v [] []
def MoO {α:Type} (r:Out α) (G:α→Value→List Ent→Prop):Ending→List Ent→Prop:=fun e post=>
 match r with
 | .ok a=>∃v,e=.returned v∧G a v post
 | .bad=>e=.panicked badE∧post=[]
 | .full=>False
structure Cod (S:Nat→Prop) (w0:World) (σ:Type) where
 κ:Kd σ
 K:Prop
 it:TypeId
 iv:Value
 env:List Ent→Prop
 envU:∀F F',(∀e∈F,e∈F')→env F→env F'
 St:σ→List Ent→Prop
 fN:FuncId
 fT:FuncId
 fR:FuncId
 fB:FuncId
 mN:metTo Tryz.prog it "trestle/code.number" = some fN
 mT:metTo Tryz.prog it "trestle/code.text" = some fT
 mR:metTo Tryz.prog it "trestle/code.refer" = some fR
 mB:metTo Tryz.prog it "trestle/code.block" = some fB
 eN:Enters Tryz.prog fN
 eT:Enters Tryz.prog fT
 eR:Enters Tryz.prog fR
 eB:Enters Tryz.prog fB
 num : ∀(F:List Ent) (s:σ) (L:List Ent) (b o:Nat) (n:Int) (sz:Nat) (Lp:List Ent) (Lp':Int→List Ent),env F→St s L→(sz=1∨sz=2∨sz=4)→κ.num n sz s≠.full →
  (∀n' s',κ.num n sz s=.ok (n',s')→Pt K S w0 F b o (.int .i64 n) (.int .i64 n') Lp (Lp' n')) →
  SLF Tryz.prog S w0 F fN [iv,pv b o,.int .i64 (sz:Int)] (L++Lp) (MoO (κ.num n sz s) fun a v post=>v=unitV∧∃L',St a.2 L'∧post=L'++Lp' a.1)
 txt : ∀(F:List Ent) (s:σ) (L:List Ent) (b o:Nat) (n:Bs) (Lp:List Ent) (Lp':Bs→List Ent),env F→St s L→κ.txt n s≠.full →
  (∀n' s',κ.txt n s=.ok (n',s')→Pt K S w0 F b o (str n) (str n') Lp (Lp' n')) →
  SLF Tryz.prog S w0 F fT [iv,pv b o] (L++Lp) (MoO (κ.txt n s) fun a v post=>v=unitV∧∃L',St a.2 L'∧post=L'++Lp' a.1)
 ref : ∀(F:List Ent) (s:σ) (L:List Ent) (b o:Nat) (n:Bs) (q:Int) (Lp:List Ent) (Lp':Bs→List Ent),env F→St s L→κ.ref n q s≠.full →
  (∀n' s',κ.ref n q s=.ok (n',s')→Pt K S w0 F b o (str n) (str n') Lp (Lp' n')) →
  SLF Tryz.prog S w0 F fR [iv,pv b o,.int .u8 q] (L++Lp) (MoO (κ.ref n q s) fun a v post=>v=unitV∧∃L',St a.2 L'∧post=L'++Lp' a.1)
 blk:∀(F:List Ent) (s:σ) (L:List Ent),env F→St s L→κ.blk s≠.full→SLF Tryz.prog S w0 F fB [iv] L (MoO (κ.blk s) fun a v post=>v=unitV∧St a post)
theorem moO_bad {α:Type} {r:Out α} {G:α→Value→List Ent→Prop} (h:r=.bad):MoO r G (.panicked badE) []:=by subst h;exact⟨rfl,rfl⟩
theorem Bo {α:Type} {r:Out α} {G:α→Value→List Ent→Prop} {a:α} {v:Value} {post:List Ent} (h:r=.ok a) (hg:G a v post):MoO r G (.returned v) post:=by subst h;exact⟨v,rfl,hg⟩
theorem BI {α β:Type} {r:Out α} {r':Out β} {G:α→Value→List Ent→Prop} {G':β→Value→List Ent→Prop} {e:Ending} {post:List Ent} (h:MoO r G e post) (hb:r=.bad→r'=.bad) (hg:∀a v p,r=.ok a→G a v p→∃a',r'=.ok a'∧G' a' v p):MoO r' G' e post:=by
 cases r with
 | ok a=>obtain⟨v,rfl,h2⟩:=h;obtain⟨a',e2,h3⟩:=hg a v post rfl h2;exact Bo e2 h3
 | bad=>obtain⟨rfl,rfl⟩:=h;exact moO_bad (hb rfl)
 | full=>exact h.elim
theorem AR {α:Type} {P:Program} {f:FuncId} {fn:Func} {S:Nat→Prop} {w0:World} {H F:List Ent} {r:Out α} {G:α→Value→List Ent→Prop} (hf:P.funcs[f]?=some fn) (h:r=.bad) (hs:F.Sublist H) {E:List (Nat×Value)}:
 WP (cxOf P f fn fun e w'=>∃post,MoO r G e post∧Inv S w0 (post++F) w') S w0 badE [] E H:=
 wp_leave hf fun w hi=>⟨[],moO_bad h,hi.subset hs⟩
section
variable {C:Cx} {S:Nat→Prop} {w0:World} {k:List Item} {D:List Deferred} {E:List (Nat×Value)} {H H' F1 F2 L:List Ent} {d:Option Tmp} {t t':TypeId} {p:String} {af:Array Edge} {g:Option (Nat×Bool)} {x y z:Operand} {v u:Value} {ops:Array Oper} {rest:List Oper} {σ:Type}
theorem Cod.envC (cd:Cod S w0 σ) {F:List Ent} {e:Ent} (h:cd.env F):cd.env (e::F):=cd.envU _ _ (fun _ h=>.tail _ h) h
theorem Cod.envA (cd:Cod S w0 σ) {F A:List Ent} (h:cd.env F):cd.env (A++F):=cd.envU _ _ (fun _ h=>List.mem_append_right _ h) h
theorem AU {α:Type} {r:Out α} {G:α→Value→List Ent→Prop} {c:Call} {f:FuncId} {vs:List Value} {pre F:List Ent} (hp:Take H pre F) (hc:CallR C D E ⟨d,.call c,t,p,af,g⟩ f vs) (hg:guardOk E ops ⟨d,.call c,t,p,af,g⟩=some true) (hd:dstOk d C.n=true)
 (h:SLF C.P S w0 F f vs pre (MoO r G)) (hn:r=.bad→WP C S w0 badE D [] F)
 (hk:∀a,r=.ok a→∀v post,G a v post→WO C S w0 ops rest k D (putE d v E) (post++F)):WO C S w0 ops (⟨d,.call c,t,p,af,g⟩::rest) k D E H:=by
 refine wo_callF hp hc hg hd h fun e post hq=>?_
 cases r with
 | ok a=>obtain⟨v,rfl,hg⟩:=hq;exact hk a rfl v post hg
 | bad=>
   obtain⟨rfl,rfl⟩:=hq
   have:=hn rfl
   unfold WP GoP at *
   exact fun w hi tmps hf=>this w hi tmps ⟨hf.sz,fun _ _ h=>by cases h⟩
 | full=>exact hq.elim
theorem BT (cd:Cod S w0 σ) {s:σ} {xs:Array Operand} {aty:Array TypeId} {b o:Nat} {n:Int} {sz:Nat} {c:Array Value} {el:TypeId} (tL:Take H L F1) (tP:Take F1 [⟨b,true,.cells c el (0,0)⟩] F2) (hx:opv E x=some (.iface cd.it cd.iv)) (hxs:opvs E xs.toList=some [pv b o,.int .i64 (sz:Int)])
 (hc:c[o]?=some (.int .i64 n)) (hP:C.P=Tryz.prog) (hg:guardOk E ops ⟨d,.call {callee:=.invoke x "trestle/code.number",args:=xs,argTypes:=aty},t,p,af,g⟩=some true) (hd:dstOk d C.n=true) (he:cd.env F2) (hs:cd.St s L) (hsz:sz=1∨sz=2∨sz=4) (hf:cd.κ.num n sz s≠.full)
 (hbad:cd.κ.num n sz s=.bad→WP C S w0 badE D [] F2)
 (hk:∀n' s',cd.κ.num n sz s=.ok (n',s')→∀L',cd.St s' L'→WO C S w0 ops rest k D (putE d unitV E) (L'++(⟨b,true,.cells (c.setIfInBounds o (.int .i64 n')) el (0,0)⟩::F2))):
 WO C S w0 ops (⟨d,.call {callee:=.invoke x "trestle/code.number",args:=xs,argTypes:=aty},t,p,af,g⟩::rest) k D E H:=by
 refine AU (tL.join tP) (CallR.inv hx hxs (hP▸cd.mN) (hP▸cd.eN)) hg hd (hP▸cd.num F2 s L b o n sz [⟨b,true,.cells c el (0,0)⟩] (fun n'=>[⟨b,true,.cells (c.setIfInBounds o (.int .i64 n')) el (0,0)⟩]) he hs hsz hf (fun n' _ _=>.own c el _ hc)) hbad ?_
 rintro⟨n',s'⟩ e v post ⟨rfl,L',h1,rfl⟩
 have:=hk n' s' e L' h1
 rwa [List.append_assoc]
theorem wo_txt (cd:Cod S w0 σ) {s:σ} {xs:Array Operand} {aty:Array TypeId} {b o:Nat} {n:Bs} {c:Array Value} {el:TypeId} (tL:Take H L F1) (tP:Take F1 [⟨b,true,.cells c el (0,0)⟩] F2) (hx:opv E x=some (.iface cd.it cd.iv)) (hxs:opvs E xs.toList=some [pv b o])
 (hc:c[o]?=some (str n)) (hP:C.P=Tryz.prog) (hg:guardOk E ops ⟨d,.call {callee:=.invoke x "trestle/code.text",args:=xs,argTypes:=aty},t,p,af,g⟩=some true) (hd:dstOk d C.n=true) (he:cd.env F2) (hs:cd.St s L) (hf:cd.κ.txt n s≠.full)
 (hbad:cd.κ.txt n s=.bad→WP C S w0 badE D [] F2)
 (hk:∀n' s',cd.κ.txt n s=.ok (n',s')→∀L',cd.St s' L'→WO C S w0 ops rest k D (putE d unitV E) (L'++(⟨b,true,.cells (c.setIfInBounds o (str n')) el (0,0)⟩::F2))):
 WO C S w0 ops (⟨d,.call {callee:=.invoke x "trestle/code.text",args:=xs,argTypes:=aty},t,p,af,g⟩::rest) k D E H:=by
 refine AU (tL.join tP) (CallR.inv hx hxs (hP▸cd.mT) (hP▸cd.eT)) hg hd (hP▸cd.txt F2 s L b o n [⟨b,true,.cells c el (0,0)⟩] (fun n'=>[⟨b,true,.cells (c.setIfInBounds o (str n')) el (0,0)⟩]) he hs hf (fun n' _ _=>.own c el _ hc)) hbad ?_
 rintro⟨n',s'⟩ e v post ⟨rfl,L',h1,rfl⟩
 have:=hk n' s' e L' h1
 rwa [List.append_assoc]
theorem wo_ref (cd:Cod S w0 σ) {s:σ} {xs:Array Operand} {aty:Array TypeId} {b o:Nat} {n:Bs} {q:Int} {c:Array Value} {el:TypeId} (tL:Take H L F1) (tP:Take F1 [⟨b,true,.cells c el (0,0)⟩] F2) (hx:opv E x=some (.iface cd.it cd.iv)) (hxs:opvs E xs.toList=some [pv b o,.int .u8 q])
 (hc:c[o]?=some (str n)) (hP:C.P=Tryz.prog) (hg:guardOk E ops ⟨d,.call {callee:=.invoke x "trestle/code.refer",args:=xs,argTypes:=aty},t,p,af,g⟩=some true) (hd:dstOk d C.n=true) (he:cd.env F2) (hs:cd.St s L) (hf:cd.κ.ref n q s≠.full)
 (hbad:cd.κ.ref n q s=.bad→WP C S w0 badE D [] F2)
 (hk:∀n' s',cd.κ.ref n q s=.ok (n',s')→∀L',cd.St s' L'→WO C S w0 ops rest k D (putE d unitV E) (L'++(⟨b,true,.cells (c.setIfInBounds o (str n')) el (0,0)⟩::F2))):
 WO C S w0 ops (⟨d,.call {callee:=.invoke x "trestle/code.refer",args:=xs,argTypes:=aty},t,p,af,g⟩::rest) k D E H:=by
 refine AU (tL.join tP) (CallR.inv hx hxs (hP▸cd.mR) (hP▸cd.eR)) hg hd (hP▸cd.ref F2 s L b o n q [⟨b,true,.cells c el (0,0)⟩] (fun n'=>[⟨b,true,.cells (c.setIfInBounds o (str n')) el (0,0)⟩]) he hs hf (fun n' _ _=>.own c el _ hc)) hbad ?_
 rintro⟨n',s'⟩ e v post ⟨rfl,L',h1,rfl⟩
 have:=hk n' s' e L' h1
 rwa [List.append_assoc]
theorem wo_blk (cd:Cod S w0 σ) {s:σ} {aty:Array TypeId} (tL:Take H L F1) (hx:opv E x=some (.iface cd.it cd.iv)) (hP:C.P=Tryz.prog) (hg:guardOk E ops ⟨d,.call {callee:=.invoke x "trestle/code.block",args:= #[],argTypes:=aty},t,p,af,g⟩=some true) (hd:dstOk d C.n=true) (he:cd.env F1) (hs:cd.St s L) (hf:cd.κ.blk s≠.full)
 (hbad:cd.κ.blk s=.bad→WP C S w0 badE D [] F1)
 (hk:∀s',cd.κ.blk s=.ok s'→∀L',cd.St s' L'→WO C S w0 ops rest k D (putE d unitV E) (L'++F1)):
 WO C S w0 ops (⟨d,.call {callee:=.invoke x "trestle/code.block",args:= #[],argTypes:=aty},t,p,af,g⟩::rest) k D E H:=by
 refine AU tL (CallR.inv hx (us:=[]) rfl (hP▸cd.mB) (hP▸cd.eB)) hg hd (hP▸cd.blk F1 s L he hs hf) hbad ?_
 rintro s' e v post ⟨rfl,h1⟩
 exact hk s' e post h1
end
abbrev wkV {S:Nat→Prop} {w0:World} {σ:Type} (cd:Cod S w0 σ):Value:=.agg #[.iface cd.it cd.iv]
theorem wrap_u8 (n:Int):IntKind.u8.wrap n=n % 256:=by
 have hb:(2:Int) ^ IntKind.u8.bits=256:=by decide
 have hs:IntKind.u8.signed=false:=rfl
 simp only[IntKind.wrap,hb,hs]
 simp
theorem AE {P:Program} {S:Nat→Prop} {w0:World} {F:List Ent} {f:FuncId} {vs:List Value} {pre:List Ent} {Q:Ending→List Ent→Prop} (h:∀w,Inv S w0 (pre++F) w→Calls P f vs.toArray w fun e w'=>∃post,Q e post∧Inv S w0 (post++F) w'):SLF P S w0 F f vs pre Q:=by unfold SLF;exact h
end Go.Sl
namespace Go.Sl
open Go Go.RowKit Go.Shelf Go.Proofs
attribute [local irreducible] Calls
section
variable {S:Nat→Prop} {w0:World}
theorem Pt.up {b o:Nat} {v v':Value} {Lp Lp':List Ent} {F F':List Ent} {K:Prop} (h:Pt K S w0 F b o v v' Lp Lp') (hu:∀e∈F,e∈F'):Pt K S w0 F' b o v v' Lp Lp':=by
 cases h with
 | own c el v' h=>exact .own c el v' h
 | kn hk h=>exact .kn hk (h.mono hu)
theorem Cb {F:List Ent} (q:Bool):SLF Tryz.prog S w0 F 79 [.bool q] [] (MoO (if q then .ok () else .bad) fun _ v post=>v=unitV∧post=[]):=by
 refine AE fun w hi=>?_
 cases q with
 | true=>
   refine Ak Tryz.func79 rfl rfl (hi) ?_
   repeat' (first|refine Ag rfl ?_|refine Aj rfl ?_|refine Al ?_|refine An ?_|refine Az rfl ?_|refine AB ?_|refine Bp Tryz.func79 rfl (fun w_ hi_=>?_)|refine Ab 0 ?_;try refine Zm rfl (Zv (BN rfl) (Aa [0,3] ?_)))
   exact⟨[],⟨_,rfl,rfl,rfl⟩,hi_⟩
 | false=>
   refine Ak Tryz.func79 rfl rfl (hi) ?_
   repeat' (first|refine Ag rfl ?_|refine Aj rfl ?_|refine Al ?_|refine An ?_|refine A5 rfl ?_|refine Ab 0 ?_;try refine Zm rfl (Zv (Ci rfl) (Aa [0,3] ?_))|refine Ab 1 ?_;try refine Zv (Cw pl137 inf137 rfl) (Zv (CD U137 rfl rfl) ?_);try((refine wo_panic rfl rfl rfl ?_)<;>try refine Aa [0,3] ?_))
   exact AR Tryz.func79 rfl (List.Sublist.refl _)
end
section
variable {S:Nat→Prop} {w0:World} {σ:Type} (cd:Cod S w0 σ) {F:List Ent} {s:σ} {L:List Ent} (hE:cd.env F) (hs:cd.St s L)
include hE hs
theorem small_c {b o:Nat} {p:Int} {c:Array Value} {el:TypeId} (hp0:0≤p) (hp1:p≤255) (hc:c[o]?=some (.int .u8 p)) (hf:small cd.κ p s≠.full):
 SLF Tryz.prog S w0 F 90 [wkV cd,pv b o] (L++[⟨b,true,.cells c el (0,0)⟩]) (MoO (small cd.κ p s) fun a v post=>v=unitV∧∃L',cd.St a.2 L'∧post=L'++[⟨b,true,.cells (c.setIfInBounds o (.int .u8 a.1)) el (0,0)⟩]):=by
 refine AE fun w hi=>?_
 simp only[List.append_assoc,List.cons_append,List.nil_append] at hi
 have hlt:o < c.size:=by rw[Array.getElem?_eq_some_iff] at hc;exact hc.1
 refine Ak Tryz.func90 rfl rfl (hi) ?_
 repeat' (first|refine Ag rfl ?_|refine Aj rfl ?_|refine Al ?_|refine An ?_|refine Bp Tryz.func90 rfl (fun w_ hi_=>?_)|refine Ab 0 ?_;try refine AL rfl rfl rfl rfl (fun b_ hb_=>?_);try refine Aa [0,1,2,4] ?_|refine Ab 1 ?_;try refine Zm rfl (Zv (Ah rfl) (Zv (Ac U5 rfl rfl Y0 Y4) ?_));try refine Zv (C8 U5 U3 rfl Y9 Y9) ?_;try refine A8 Cl rfl rfl rfl rfl (fun b_ hb_=>?_);try refine AT rfl rfl rfl sz3 Y3 rfl rfl ?_;try refine Aa [0,1,2,4] ?_|refine Ab 2 ?_;try refine Zf Bd rfl (Zv (Ac U111 rfl rfl Y0 Y4) ?_);try((refine BT cd (sz:=1) (n:=p) Y7 Y6 rfl rfl rfl rfl rfl rfl (by repeat(first|exact hE|apply cd.envC|apply cd.envA)) hs Y9 (Out.nf hf) (fun e=>AR Tryz.func90 (by simp only[small,e,Out.bind]) Y5) (fun n' s' e1 L' hs'=>?_))<;>try refine Aa [0,1,2,4] ?_)|refine Ab 3 ?_;try refine Zm rfl (Zv (Ac U3 rfl rfl Y0 Y4) ?_);try refine Zv (CE U3 U5 rfl (wrap_u8 _)) (Zv (Ah rfl) ?_);try refine AK rfl rfl rfl sz5 Y3 Y8 (.inr Y8) rfl rfl ?_;try refine Aa [0,1,2,4] ?_)
 exact⟨_,Bo (by simp only[small,e1,Out.bind];rfl) ⟨rfl,L',hs',rfl⟩,hi_.pick (F:=F) (Take.join Y7 Y6) Y5⟩
theorem CA {b o:Nat} {n:Int} {Lp:List Ent} {Lp':Int→List Ent} (hf:cd.κ.num n 2 s≠.full) (hp:∀n' s',cd.κ.num n 2 s=.ok (n',s')→Pt cd.K S w0 F b o (.int .i64 n) (.int .i64 n') Lp (Lp' n')):
 SLF Tryz.prog S w0 F 147 [wkV cd,pv b o] (L++Lp) (MoO (cd.κ.num n 2 s) fun a v post=>v=unitV∧∃L',cd.St a.2 L'∧post=L'++Lp' a.1):=by
 refine AE fun w hi=>?_
 refine Ak Tryz.func147 rfl rfl (hi) ?_
 repeat' (first|refine Ag rfl ?_|refine Aj rfl ?_|refine Al ?_|refine An ?_|refine Bp Tryz.func147 rfl (fun w_ hi_=>?_)|refine Ab 0 ?_;try refine AL rfl rfl rfl rfl (fun b_ hb_=>?_);try refine Aa N3 ?_|refine Ab 1 ?_;try refine Zf Bd rfl (Zv (Ac U111 rfl rfl Y0 Y4) ?_);try refine Zm rfl ?_;try((refine AU (pre:=L++Lp) Y7 (CallR.inv rfl rfl cd.mN cd.eN) rfl rfl (cd.num _ s L b o n 2 Lp Lp' (by repeat(first|exact hE|apply cd.envC|apply cd.envA)) hs Y9 hf (fun n' s' e=>(hp n' s' e).up (fun e h=>.tail _ h))) (fun e=>AR Tryz.func147 e Y5) ?_;rintro⟨n',s'⟩ e1 v post ⟨rfl,L',hs',rfl⟩)<;>try refine Aa N3 ?_))
 exact⟨_,Bo e1 ⟨rfl,L',hs',rfl⟩,hi_.pick (F:=F) (by exact Take.mid _ _) Y5⟩
end
end Go.Sl
namespace Go.Sl
open Go Go.RowKit Go.Shelf Go.Proofs
attribute [local irreducible] Calls
def insC (x:InsM) (av:Value):List Value:=[.int .u8 x.op,.int .i64 x.to,.int .i64 x.a,.int .i64 x.b,.int .i64 x.lo,.int .i64 x.hi,str x.nm,av]
def endC (x:EndM) (av wv:Value):List Value:=[.int .u8 x.kd,.int .i64 x.a,.int .i64 x.b,.int .i64 x.to,.int .i64 x.el,str x.nm,av,wv,.int .i64 x.ot]
theorem BD {A R B:List Value} {j:Nat} (hj:j < R.length) {v:Value} (h:R[j]?=some v):((A++(R++B)).toArray)[A.length+j]?=some v:=by
 rw[List.getElem?_toArray,List.getElem?_append_right Y9,Nat.add_sub_cancel_left,List.getElem?_append_left hj];exact h
theorem BH {A R B:List Value} {j:Nat} (hj:j < R.length) (v:Value):((A++(R++B)).toArray).setIfInBounds (A.length+j) v=(A++(R.set j v++B)).toArray:=by
 rw[List.setIfInBounds_toArray,List.set_append_right _ _ Y9,Nat.add_sub_cancel_left,List.set_append_left _ _ hj]
def SlK (S:Nat→Prop) (w0:World) (F:List Ent) (cells:List Value) (n:Nat) (v:Value):Prop:=∃a cap,v=.slice a n cap∧n≤cap∧(cells=[]∨∃b off,a=some ⟨b,off,none⟩∧∀i (h:i < cells.length),Kn S w0 F b (off+i) cells[i])
theorem SlK.up {S:Nat→Prop} {w0:World} {F F':List Ent} {cells:List Value} {n:Nat} {v:Value} (h:SlK S w0 F cells n v) (hu:∀e∈F,e∈F'):SlK S w0 F' cells n v:=by
 obtain⟨a,cap,h1,hc,h2⟩:=h
 refine⟨a,cap,h1,hc,h2.imp id ?_⟩
 rintro⟨b,off,h3,h4⟩
 exact⟨b,off,h3,fun i hi=>(h4 i hi).mono hu⟩
def intsV (l:List Int):List Value:=l.map fun n=>.int .i64 n
def whensV (l:List (Bs×Int)):List Value:=l.flatMap fun p=>[str p.1,.int .i64 p.2]
def SlS {α:Type} (S:Nat→Prop) (w0:World) (V:List α→List Value) (X:List Ent) (l l0:List α) (v v0:Value):Prop:=(l=l0∧v=v0)∨SlK S w0 X (V l) l.length v
theorem SlS.same {α:Type} {S:Nat→Prop} {w0:World} {V:List α→List Value} {X:List Ent} {l:List α} {v:Value}:SlS S w0 V X l l v v:=.inl ⟨rfl,rfl⟩
theorem SlS.of {α:Type} {S:Nat→Prop} {w0:World} {V:List α→List Value} {X:List Ent} {l l0:List α} {v v0:Value} (h:SlK S w0 X (V l) l.length v):SlS S w0 V X l l0 v v0:=.inr h
theorem SlS.up {α:Type} {S:Nat→Prop} {w0:World} {V:List α→List Value} {X X':List Ent} {l l0:List α} {v v0:Value} (h:SlS S w0 V X l l0 v v0) (hu:∀e∈X,e∈X'):SlS S w0 V X' l l0 v v0:=h.imp id (fun h=>h.up hu)
theorem SlS.kn {α:Type} {S:Nat→Prop} {w0:World} {V:List α→List Value} {X G:List Ent} {l l0:List α} {v v0:Value} (h:SlS S w0 V X l l0 v v0) (h0:SlK S w0 G (V l0) l0.length v0):SlK S w0 (X++G) (V l) l.length v:=by
 rcases h with⟨rfl,rfl⟩|h
 · exact h0.up fun e h=>List.mem_append_right _ h
 · exact h.up fun e h=>List.mem_append_left _ h
theorem SlS.trans {α:Type} {S:Nat→Prop} {w0:World} {V:List α→List Value} {X X':List Ent} {l l1 l0:List α} {v v1 v0:Value} (h:SlS S w0 V X' l l1 v v1) (h0:SlS S w0 V X l1 l0 v1 v0):SlS S w0 V (X'++X) l l0 v v0:=by
 rcases h with⟨rfl,rfl⟩|h
 · exact h0.up fun e h=>List.mem_append_right _ h
 · exact .inr (h.up fun e h=>List.mem_append_left _ h)
abbrev ArgsK (S:Nat→Prop) (w0:World) (F:List Ent) (l:List Int) (v:Value):Prop:=SlK S w0 F (intsV l) l.length v
abbrev WhensK (S:Nat→Prop) (w0:World) (F:List Ent) (l:List (Bs×Int)) (v:Value):Prop:=SlK S w0 F (whensV l) l.length v
section
variable {C:Cx} {S:Nat→Prop} {w0:World} {k:List Item} {D:List Deferred} {E:List (Nat×Value)} {H H' F1 F2 L:List Ent} {d:Option Tmp} {t t':TypeId} {p:String} {af:Array Edge} {g:Option (Nat×Bool)} {x y z:Operand} {v u:Value} {ops:Array Oper} {rest:List Oper} {σ:Type}
theorem CJ (cd:Cod S w0 σ) {α:Type} {r:Out (α×σ)} {gv:α→Value} {c:Call} {f:FuncId} {vs:List Value} {b o:Nat} {cs:Array Value} {el:TypeId} (tL:Take H L F1) (tP:Take F1 [⟨b,true,.cells cs el (0,0)⟩] F2) (hc:CallR C D E ⟨d,.call c,t,p,af,g⟩ f vs) (hg:guardOk E ops ⟨d,.call c,t,p,af,g⟩=some true) (hd:dstOk d C.n=true)
 (h:SLF C.P S w0 F2 f vs (L++[⟨b,true,.cells cs el (0,0)⟩]) (MoO r fun a v post=>v=unitV∧∃L',cd.St a.2 L'∧post=L'++[⟨b,true,.cells (cs.setIfInBounds o (gv a.1)) el (0,0)⟩]))
 (hbad:r=.bad→WP C S w0 badE D [] F2)
 (hk:∀n' s',r=.ok (n',s')→∀L',cd.St s' L'→WO C S w0 ops rest k D (putE d unitV E) (L'++(⟨b,true,.cells (cs.setIfInBounds o (gv n')) el (0,0)⟩::F2))):WO C S w0 ops (⟨d,.call c,t,p,af,g⟩::rest) k D E H:=by
 refine AU (tL.join tP) hc hg hd h hbad ?_
 rintro⟨n',s'⟩ e v post ⟨rfl,L',h1,rfl⟩
 have:=hk n' s' e L' h1
 rwa [List.append_assoc]
end
section
variable {S:Nat→Prop} {w0:World} {σ:Type} (cd:Cod S w0 σ) {F:List Ent} {s:σ} {L:List Ent} (hE:cd.env F) (hs:cd.St s L)
include hE hs
theorem ito_c {A B:List Value} {b:Nat} {x:InsM} {av:Value} {el:TypeId} (hf:ltI cd.κ .to x s≠.full):
 SLF Tryz.prog S w0 F 121 [wkV cd,pv b A.length] (L++[⟨b,true,.cells (A++(insC x av++B)).toArray el (0,0)⟩]) (MoO (ltI cd.κ .to x s) fun a v post=>v=unitV∧∃L',cd.St a.2 L'∧post=L'++[⟨b,true,.cells (A++(insC a.1 av++B)).toArray el (0,0)⟩]):=by
 refine AE fun w hi=>?_
 simp only[List.append_assoc,List.cons_append,List.nil_append] at hi
 have st:∀v,((A++(insC x av++B)).toArray).setIfInBounds (A.length+1) v=(A++((insC x av).set 1 v++B)).toArray:=BH (show 1 < 8 by decide)
 refine Ak Tryz.func121 rfl rfl (hi) ?_
 repeat' (first|refine Ag rfl ?_|refine Aj rfl ?_|refine Al ?_|refine An ?_|refine Bp Tryz.func121 rfl (fun w_ hi_=>?_)|refine Ab 0 ?_;try refine AL rfl rfl rfl rfl (fun b_ hb_=>?_);try refine Aa N3 ?_|refine Bg (id:=1) 4 rfl mixed Y1 ?_;try refine A4 (AW U113 rfl BB rfl Y0 Y15) rfl rfl ?_;try refine A4 (Ai rfl) rfl rfl (A4 (Ah rfl) rfl rfl (A4 (Ad fo73_1 rfl) rfl rfl (Bf ?_)));try((refine CJ cd (o:=A.length+1) (gv:=fun n=>.int .i64 n) Y7 Y6 (CallR.val rfl en147) rfl rfl (CA cd (by repeat(first|exact hE|apply cd.envC|apply cd.envA)) hs (Out.nf hf) (fun n' s' _=>.own _ _ _ (BD (j:=1) (R:=insC x av) (show 1 < 8 by decide) rfl))) (fun e=>AR Tryz.func121 (by simp only[ltI,e,Out.bind]) Y5) (fun n' s' e1 L' hs'=>?_))<;>try refine Aa N3 ?_))
 rw[st] at hi_
 exact⟨_,Bo (by simp only[ltI,e1,Out.bind];rfl) ⟨rfl,L',hs',rfl⟩,hi_.pick (F:=F) (Take.join Y7 Y6) Y5⟩
theorem ia_c {A B:List Value} {b:Nat} {x:InsM} {av:Value} {el:TypeId} (hf:ltI cd.κ .a x s≠.full):
 SLF Tryz.prog S w0 F 123 [wkV cd,pv b A.length] (L++[⟨b,true,.cells (A++(insC x av++B)).toArray el (0,0)⟩]) (MoO (ltI cd.κ .a x s) fun a v post=>v=unitV∧∃L',cd.St a.2 L'∧post=L'++[⟨b,true,.cells (A++(insC a.1 av++B)).toArray el (0,0)⟩]):=by
 refine AE fun w hi=>?_
 simp only[List.append_assoc,List.cons_append,List.nil_append] at hi
 have st:∀v,((A++(insC x av++B)).toArray).setIfInBounds (A.length+2) v=(A++((insC x av).set 2 v++B)).toArray:=BH (show 2 < 8 by decide)
 refine Ak Tryz.func123 rfl rfl (hi) ?_
 repeat' (first|refine Ag rfl ?_|refine Aj rfl ?_|refine Al ?_|refine An ?_|refine Bp Tryz.func123 rfl (fun w_ hi_=>?_)|refine Ab 0 ?_;try refine AL rfl rfl rfl rfl (fun b_ hb_=>?_);try refine Aa N3 ?_|refine Bg (id:=1) 4 rfl mixed Y1 ?_;try refine A4 (AW U113 rfl BB rfl Y0 Y15) rfl rfl ?_;try refine A4 (Ai rfl) rfl rfl (A4 (Ah rfl) rfl rfl (A4 (Ad fo73_2 rfl) rfl rfl (Bf ?_)));try((refine CJ cd (o:=A.length+2) (gv:=fun n=>.int .i64 n) Y7 Y6 (CallR.val rfl en147) rfl rfl (CA cd (by repeat(first|exact hE|apply cd.envC|apply cd.envA)) hs (Out.nf hf) (fun n' s' _=>.own _ _ _ (BD (j:=2) (R:=insC x av) (show 2 < 8 by decide) rfl))) (fun e=>AR Tryz.func123 (by simp only[ltI,e,Out.bind]) Y5) (fun n' s' e1 L' hs'=>?_))<;>try refine Aa N3 ?_))
 rw[st] at hi_
 exact⟨_,Bo (by simp only[ltI,e1,Out.bind];rfl) ⟨rfl,L',hs',rfl⟩,hi_.pick (F:=F) (Take.join Y7 Y6) Y5⟩
theorem ib_c {A B:List Value} {b:Nat} {x:InsM} {av:Value} {el:TypeId} (hf:ltI cd.κ .b x s≠.full):
 SLF Tryz.prog S w0 F 125 [wkV cd,pv b A.length] (L++[⟨b,true,.cells (A++(insC x av++B)).toArray el (0,0)⟩]) (MoO (ltI cd.κ .b x s) fun a v post=>v=unitV∧∃L',cd.St a.2 L'∧post=L'++[⟨b,true,.cells (A++(insC a.1 av++B)).toArray el (0,0)⟩]):=by
 refine AE fun w hi=>?_
 simp only[List.append_assoc,List.cons_append,List.nil_append] at hi
 have st:∀v,((A++(insC x av++B)).toArray).setIfInBounds (A.length+3) v=(A++((insC x av).set 3 v++B)).toArray:=BH (show 3 < 8 by decide)
 refine Ak Tryz.func125 rfl rfl (hi) ?_
 repeat' (first|refine Ag rfl ?_|refine Aj rfl ?_|refine Al ?_|refine An ?_|refine Bp Tryz.func125 rfl (fun w_ hi_=>?_)|refine Ab 0 ?_;try refine AL rfl rfl rfl rfl (fun b_ hb_=>?_);try refine Aa N3 ?_|refine Bg (id:=1) 4 rfl mixed Y1 ?_;try refine A4 (AW U113 rfl BB rfl Y0 Y15) rfl rfl ?_;try refine A4 (Ai rfl) rfl rfl (A4 (Ah rfl) rfl rfl (A4 (Ad fo73_3 rfl) rfl rfl (Bf ?_)));try((refine CJ cd (o:=A.length+3) (gv:=fun n=>.int .i64 n) Y7 Y6 (CallR.val rfl en147) rfl rfl (CA cd (by repeat(first|exact hE|apply cd.envC|apply cd.envA)) hs (Out.nf hf) (fun n' s' _=>.own _ _ _ (BD (j:=3) (R:=insC x av) (show 3 < 8 by decide) rfl))) (fun e=>AR Tryz.func125 (by simp only[ltI,e,Out.bind]) Y5) (fun n' s' e1 L' hs'=>?_))<;>try refine Aa N3 ?_))
 rw[st] at hi_
 exact⟨_,Bo (by simp only[ltI,e1,Out.bind];rfl) ⟨rfl,L',hs',rfl⟩,hi_.pick (F:=F) (Take.join Y7 Y6) Y5⟩
theorem ilo_c {A B:List Value} {b:Nat} {x:InsM} {av:Value} {el:TypeId} (hf:ltI cd.κ .lo x s≠.full):
 SLF Tryz.prog S w0 F 122 [wkV cd,pv b A.length] (L++[⟨b,true,.cells (A++(insC x av++B)).toArray el (0,0)⟩]) (MoO (ltI cd.κ .lo x s) fun a v post=>v=unitV∧∃L',cd.St a.2 L'∧post=L'++[⟨b,true,.cells (A++(insC a.1 av++B)).toArray el (0,0)⟩]):=by
 refine AE fun w hi=>?_
 simp only[List.append_assoc,List.cons_append,List.nil_append] at hi
 have st:∀v,((A++(insC x av++B)).toArray).setIfInBounds (A.length+4) v=(A++((insC x av).set 4 v++B)).toArray:=BH (show 4 < 8 by decide)
 refine Ak Tryz.func122 rfl rfl (hi) ?_
 repeat' (first|refine Ag rfl ?_|refine Aj rfl ?_|refine Al ?_|refine An ?_|refine Bp Tryz.func122 rfl (fun w_ hi_=>?_)|refine Ab 0 ?_;try refine AL rfl rfl rfl rfl (fun b_ hb_=>?_);try refine Aa N3 ?_|refine Bg (id:=1) 7 rfl mixed Y1 ?_;try refine A4 (Ad Bd rfl) rfl rfl (A4 (Ac U111 rfl rfl Y0 Y4) rfl rfl ?_);try refine A4 (Ai rfl) rfl rfl (A4 (Ah rfl) rfl rfl (A4 (Ad fo73_4 rfl) rfl rfl (A4 (AX rfl) rfl rfl (A4 (Ai rfl) rfl rfl (Bf ?_)))));try((refine BT cd (sz:=4) Y7 Y6 rfl rfl (BD (j:=4) (R:=insC x av) (show 4 < 8 by decide) rfl) rfl rfl rfl (by repeat(first|exact hE|apply cd.envC|apply cd.envA)) hs Y9 (Out.nf hf) (fun e=>AR Tryz.func122 (by simp only[ltI,e,Out.bind]) Y5) (fun n' s' e1 L' hs'=>?_))<;>try refine Aa N3 ?_))
 rw[st] at hi_
 exact⟨_,Bo (by simp only[ltI,e1,Out.bind];rfl) ⟨rfl,L',hs',rfl⟩,hi_.pick (F:=F) (Take.join Y7 Y6) Y5⟩
theorem ihi_c {A B:List Value} {b:Nat} {x:InsM} {av:Value} {el:TypeId} (hf:ltI cd.κ .hi x s≠.full):
 SLF Tryz.prog S w0 F 124 [wkV cd,pv b A.length] (L++[⟨b,true,.cells (A++(insC x av++B)).toArray el (0,0)⟩]) (MoO (ltI cd.κ .hi x s) fun a v post=>v=unitV∧∃L',cd.St a.2 L'∧post=L'++[⟨b,true,.cells (A++(insC a.1 av++B)).toArray el (0,0)⟩]):=by
 refine AE fun w hi=>?_
 simp only[List.append_assoc,List.cons_append,List.nil_append] at hi
 have st:∀v,((A++(insC x av++B)).toArray).setIfInBounds (A.length+5) v=(A++((insC x av).set 5 v++B)).toArray:=BH (show 5 < 8 by decide)
 refine Ak Tryz.func124 rfl rfl (hi) ?_
 repeat' (first|refine Ag rfl ?_|refine Aj rfl ?_|refine Al ?_|refine An ?_|refine Bp Tryz.func124 rfl (fun w_ hi_=>?_)|refine Ab 0 ?_;try refine AL rfl rfl rfl rfl (fun b_ hb_=>?_);try refine Aa N3 ?_|refine Bg (id:=1) 7 rfl mixed Y1 ?_;try refine A4 (Ad Bd rfl) rfl rfl (A4 (Ac U111 rfl rfl Y0 Y4) rfl rfl ?_);try refine A4 (Ai rfl) rfl rfl (A4 (Ah rfl) rfl rfl (A4 (Ad fo73_5 rfl) rfl rfl (A4 (AX rfl) rfl rfl (A4 (Ai rfl) rfl rfl (Bf ?_)))));try((refine BT cd (sz:=4) Y7 Y6 rfl rfl (BD (j:=5) (R:=insC x av) (show 5 < 8 by decide) rfl) rfl rfl rfl (by repeat(first|exact hE|apply cd.envC|apply cd.envA)) hs Y9 (Out.nf hf) (fun e=>AR Tryz.func124 (by simp only[ltI,e,Out.bind]) Y5) (fun n' s' e1 L' hs'=>?_))<;>try refine Aa N3 ?_))
 rw[st] at hi_
 exact⟨_,Bo (by simp only[ltI,e1,Out.bind];rfl) ⟨rfl,L',hs',rfl⟩,hi_.pick (F:=F) (Take.join Y7 Y6) Y5⟩
theorem ish_c {A B:List Value} {b:Nat} {x:InsM} {av:Value} {el:TypeId} (hf:ltI cd.κ .sh x s≠.full):
 SLF Tryz.prog S w0 F 126 [wkV cd,pv b A.length] (L++[⟨b,true,.cells (A++(insC x av++B)).toArray el (0,0)⟩]) (MoO (ltI cd.κ .sh x s) fun a v post=>v=unitV∧∃L',cd.St a.2 L'∧post=L'++[⟨b,true,.cells (A++(insC a.1 av++B)).toArray el (0,0)⟩]):=by
 refine AE fun w hi=>?_
 simp only[List.append_assoc,List.cons_append,List.nil_append] at hi
 have st:∀v,((A++(insC x av++B)).toArray).setIfInBounds (A.length+6) v=(A++((insC x av).set 6 v++B)).toArray:=BH (show 6 < 8 by decide)
 refine Ak Tryz.func126 rfl rfl (hi) ?_
 repeat' (first|refine Ag rfl ?_|refine Aj rfl ?_|refine Al ?_|refine An ?_|refine Bp Tryz.func126 rfl (fun w_ hi_=>?_)|refine Ab 0 ?_;try refine AL rfl rfl rfl rfl (fun b_ hb_=>?_);try refine Aa N3 ?_|refine Bg (id:=1) 7 rfl mixed Y1 ?_;try refine A4 (Ad Bd rfl) rfl rfl (A4 (Ac U111 rfl rfl Y0 Y4) rfl rfl ?_);try refine A4 (Ai rfl) rfl rfl (A4 (Ah rfl) rfl rfl (A4 (Ad fo73_6 rfl) rfl rfl (A4 (AX rfl) rfl rfl (A4 (Ai rfl) rfl rfl (Bf ?_)))));try((refine wo_ref cd (q:=2) Y7 Y6 rfl rfl (BD (j:=6) (R:=insC x av) (show 6 < 8 by decide) rfl) rfl rfl rfl (by repeat(first|exact hE|apply cd.envC|apply cd.envA)) hs (Out.nf hf) (fun e=>AR Tryz.func126 (by simp only[ltI,e,Out.bind]) Y5) (fun n' s' e1 L' hs'=>?_))<;>try refine Aa N3 ?_))
 rw[st] at hi_
 exact⟨_,Bo (by simp only[ltI,e1,Out.bind];rfl) ⟨rfl,L',hs',rfl⟩,hi_.pick (F:=F) (Take.join Y7 Y6) Y5⟩
theorem ifi_c {A B:List Value} {b:Nat} {x:InsM} {av:Value} {el:TypeId} (hf:ltI cd.κ .fi x s≠.full):
 SLF Tryz.prog S w0 F 128 [wkV cd,pv b A.length] (L++[⟨b,true,.cells (A++(insC x av++B)).toArray el (0,0)⟩]) (MoO (ltI cd.κ .fi x s) fun a v post=>v=unitV∧∃L',cd.St a.2 L'∧post=L'++[⟨b,true,.cells (A++(insC a.1 av++B)).toArray el (0,0)⟩]):=by
 refine AE fun w hi=>?_
 simp only[List.append_assoc,List.cons_append,List.nil_append] at hi
 have st:∀v,((A++(insC x av++B)).toArray).setIfInBounds (A.length+6) v=(A++((insC x av).set 6 v++B)).toArray:=BH (show 6 < 8 by decide)
 refine Ak Tryz.func128 rfl rfl (hi) ?_
 repeat' (first|refine Ag rfl ?_|refine Aj rfl ?_|refine Al ?_|refine An ?_|refine Bp Tryz.func128 rfl (fun w_ hi_=>?_)|refine Ab 0 ?_;try refine AL rfl rfl rfl rfl (fun b_ hb_=>?_);try refine Aa N3 ?_|refine Bg (id:=1) 7 rfl mixed Y1 ?_;try refine A4 (Ad Bd rfl) rfl rfl (A4 (Ac U111 rfl rfl Y0 Y4) rfl rfl ?_);try refine A4 (Ai rfl) rfl rfl (A4 (Ah rfl) rfl rfl (A4 (Ad fo73_6 rfl) rfl rfl (A4 (AX rfl) rfl rfl (A4 (Ai rfl) rfl rfl (Bf ?_)))));try((refine wo_ref cd (q:=3) Y7 Y6 rfl rfl (BD (j:=6) (R:=insC x av) (show 6 < 8 by decide) rfl) rfl rfl rfl (by repeat(first|exact hE|apply cd.envC|apply cd.envA)) hs (Out.nf hf) (fun e=>AR Tryz.func128 (by simp only[ltI,e,Out.bind]) Y5) (fun n' s' e1 L' hs'=>?_))<;>try refine Aa N3 ?_))
 rw[st] at hi_
 exact⟨_,Bo (by simp only[ltI,e1,Out.bind];rfl) ⟨rfl,L',hs',rfl⟩,hi_.pick (F:=F) (Take.join Y7 Y6) Y5⟩
theorem ime_c {A B:List Value} {b:Nat} {x:InsM} {av:Value} {el:TypeId} (hf:ltI cd.κ .me x s≠.full):
 SLF Tryz.prog S w0 F 129 [wkV cd,pv b A.length] (L++[⟨b,true,.cells (A++(insC x av++B)).toArray el (0,0)⟩]) (MoO (ltI cd.κ .me x s) fun a v post=>v=unitV∧∃L',cd.St a.2 L'∧post=L'++[⟨b,true,.cells (A++(insC a.1 av++B)).toArray el (0,0)⟩]):=by
 refine AE fun w hi=>?_
 simp only[List.append_assoc,List.cons_append,List.nil_append] at hi
 have st:∀v,((A++(insC x av++B)).toArray).setIfInBounds (A.length+6) v=(A++((insC x av).set 6 v++B)).toArray:=BH (show 6 < 8 by decide)
 refine Ak Tryz.func129 rfl rfl (hi) ?_
 repeat' (first|refine Ag rfl ?_|refine Aj rfl ?_|refine Al ?_|refine An ?_|refine Bp Tryz.func129 rfl (fun w_ hi_=>?_)|refine Ab 0 ?_;try refine AL rfl rfl rfl rfl (fun b_ hb_=>?_);try refine Aa N3 ?_|refine Bg (id:=1) 7 rfl mixed Y1 ?_;try refine A4 (Ad Bd rfl) rfl rfl (A4 (Ac U111 rfl rfl Y0 Y4) rfl rfl ?_);try refine A4 (Ai rfl) rfl rfl (A4 (Ah rfl) rfl rfl (A4 (Ad fo73_6 rfl) rfl rfl (A4 (AX rfl) rfl rfl (A4 (Ai rfl) rfl rfl (Bf ?_)))));try((refine wo_ref cd (q:=4) Y7 Y6 rfl rfl (BD (j:=6) (R:=insC x av) (show 6 < 8 by decide) rfl) rfl rfl rfl (by repeat(first|exact hE|apply cd.envC|apply cd.envA)) hs (Out.nf hf) (fun e=>AR Tryz.func129 (by simp only[ltI,e,Out.bind]) Y5) (fun n' s' e1 L' hs'=>?_))<;>try refine Aa N3 ?_))
 rw[st] at hi_
 exact⟨_,Bo (by simp only[ltI,e1,Out.bind];rfl) ⟨rfl,L',hs',rfl⟩,hi_.pick (F:=F) (Take.join Y7 Y6) Y5⟩
theorem igl_c {A B:List Value} {b:Nat} {x:InsM} {av:Value} {el:TypeId} (hf:ltI cd.κ .gl x s≠.full):
 SLF Tryz.prog S w0 F 127 [wkV cd,pv b A.length] (L++[⟨b,true,.cells (A++(insC x av++B)).toArray el (0,0)⟩]) (MoO (ltI cd.κ .gl x s) fun a v post=>v=unitV∧∃L',cd.St a.2 L'∧post=L'++[⟨b,true,.cells (A++(insC a.1 av++B)).toArray el (0,0)⟩]):=by
 refine AE fun w hi=>?_
 simp only[List.append_assoc,List.cons_append,List.nil_append] at hi
 have st:∀v,((A++(insC x av++B)).toArray).setIfInBounds (A.length+6) v=(A++((insC x av).set 6 v++B)).toArray:=BH (show 6 < 8 by decide)
 refine Ak Tryz.func127 rfl rfl (hi) ?_
 repeat' (first|refine Ag rfl ?_|refine Aj rfl ?_|refine Al ?_|refine An ?_|refine Bp Tryz.func127 rfl (fun w_ hi_=>?_)|refine Ab 0 ?_;try refine AL rfl rfl rfl rfl (fun b_ hb_=>?_);try refine Aa N3 ?_|refine Bg (id:=1) 7 rfl mixed Y1 ?_;try refine A4 (Ad Bd rfl) rfl rfl (A4 (Ac U111 rfl rfl Y0 Y4) rfl rfl ?_);try refine A4 (Ai rfl) rfl rfl (A4 (Ah rfl) rfl rfl (A4 (Ad fo73_6 rfl) rfl rfl (A4 (AX rfl) rfl rfl (A4 (Ai rfl) rfl rfl (Bf ?_)))));try((refine wo_ref cd (q:=5) Y7 Y6 rfl rfl (BD (j:=6) (R:=insC x av) (show 6 < 8 by decide) rfl) rfl rfl rfl (by repeat(first|exact hE|apply cd.envC|apply cd.envA)) hs (Out.nf hf) (fun e=>AR Tryz.func127 (by simp only[ltI,e,Out.bind]) Y5) (fun n' s' e1 L' hs'=>?_))<;>try refine Aa N3 ?_))
 rw[st] at hi_
 exact⟨_,Bo (by simp only[ltI,e1,Out.bind];rfl) ⟨rfl,L',hs',rfl⟩,hi_.pick (F:=F) (Take.join Y7 Y6) Y5⟩
theorem etarget_c {A B:List Value} {b:Nat} {x:EndM} {av wv:Value} {el:TypeId} (hf:ltE cd.κ .target x s≠.full):
 SLF Tryz.prog S w0 F 131 [wkV cd,pv b A.length] (L++[⟨b,true,.cells (A++(endC x av wv++B)).toArray el (0,0)⟩]) (MoO (ltE cd.κ .target x s) fun a v post=>v=unitV∧∃L',cd.St a.2 L'∧post=L'++[⟨b,true,.cells (A++(endC a.1 av wv++B)).toArray el (0,0)⟩]):=by
 refine AE fun w hi=>?_
 simp only[List.append_assoc,List.cons_append,List.nil_append] at hi
 have st:∀v,((A++(endC x av wv++B)).toArray).setIfInBounds (A.length+3) v=(A++((endC x av wv).set 3 v++B)).toArray:=BH (show 3 < 9 by decide)
 refine Ak Tryz.func131 rfl rfl (hi) ?_
 repeat' (first|refine Ag rfl ?_|refine Aj rfl ?_|refine Al ?_|refine An ?_|refine Bp Tryz.func131 rfl (fun w_ hi_=>?_)|refine Ab 0 ?_;try refine AL rfl rfl rfl rfl (fun b_ hb_=>?_);try refine Aa N3 ?_|refine Bg (id:=1) 4 rfl mixed Y1 ?_;try refine A4 (AW U113 rfl BB rfl Y0 Y15) rfl rfl ?_;try refine A4 (Ai rfl) rfl rfl (A4 (Ah rfl) rfl rfl (A4 (Ad Dd rfl) rfl rfl (Bf ?_)));try((refine CJ cd (o:=A.length+3) (gv:=fun n=>.int .i64 n) Y7 Y6 (CallR.val rfl en147) rfl rfl (CA cd (by repeat(first|exact hE|apply cd.envC|apply cd.envA)) hs (Out.nf hf) (fun n' s' _=>.own _ _ _ (BD (j:=3) (R:=endC x av wv) (show 3 < 9 by decide) rfl))) (fun e=>AR Tryz.func131 (by simp only[ltE,e,Out.bind]) Y5) (fun n' s' e1 L' hs'=>?_))<;>try refine Aa N3 ?_))
 rw[st] at hi_
 exact⟨_,Bo (by simp only[ltE,e1,Out.bind];rfl) ⟨rfl,L',hs',rfl⟩,hi_.pick (F:=F) (Take.join Y7 Y6) Y5⟩
theorem eother_c {A B:List Value} {b:Nat} {x:EndM} {av wv:Value} {el:TypeId} (hf:ltE cd.κ .other x s≠.full):
 SLF Tryz.prog S w0 F 133 [wkV cd,pv b A.length] (L++[⟨b,true,.cells (A++(endC x av wv++B)).toArray el (0,0)⟩]) (MoO (ltE cd.κ .other x s) fun a v post=>v=unitV∧∃L',cd.St a.2 L'∧post=L'++[⟨b,true,.cells (A++(endC a.1 av wv++B)).toArray el (0,0)⟩]):=by
 refine AE fun w hi=>?_
 simp only[List.append_assoc,List.cons_append,List.nil_append] at hi
 have st:∀v,((A++(endC x av wv++B)).toArray).setIfInBounds (A.length+4) v=(A++((endC x av wv).set 4 v++B)).toArray:=BH (show 4 < 9 by decide)
 refine Ak Tryz.func133 rfl rfl (hi) ?_
 repeat' (first|refine Ag rfl ?_|refine Aj rfl ?_|refine Al ?_|refine An ?_|refine Bp Tryz.func133 rfl (fun w_ hi_=>?_)|refine Ab 0 ?_;try refine AL rfl rfl rfl rfl (fun b_ hb_=>?_);try refine Aa N3 ?_|refine Bg (id:=1) 4 rfl mixed Y1 ?_;try refine A4 (AW U113 rfl BB rfl Y0 Y15) rfl rfl ?_;try refine A4 (Ai rfl) rfl rfl (A4 (Ah rfl) rfl rfl (A4 (Ad fo68_4 rfl) rfl rfl (Bf ?_)));try((refine CJ cd (o:=A.length+4) (gv:=fun n=>.int .i64 n) Y7 Y6 (CallR.val rfl en147) rfl rfl (CA cd (by repeat(first|exact hE|apply cd.envC|apply cd.envA)) hs (Out.nf hf) (fun n' s' _=>.own _ _ _ (BD (j:=4) (R:=endC x av wv) (show 4 < 9 by decide) rfl))) (fun e=>AR Tryz.func133 (by simp only[ltE,e,Out.bind]) Y5) (fun n' s' e1 L' hs'=>?_))<;>try refine Aa N3 ?_))
 rw[st] at hi_
 exact⟨_,Bo (by simp only[ltE,e1,Out.bind];rfl) ⟨rfl,L',hs',rfl⟩,hi_.pick (F:=F) (Take.join Y7 Y6) Y5⟩
theorem efirst_c {A B:List Value} {b:Nat} {x:EndM} {av wv:Value} {el:TypeId} (hf:ltE cd.κ .first x s≠.full):
 SLF Tryz.prog S w0 F 132 [wkV cd,pv b A.length] (L++[⟨b,true,.cells (A++(endC x av wv++B)).toArray el (0,0)⟩]) (MoO (ltE cd.κ .first x s) fun a v post=>v=unitV∧∃L',cd.St a.2 L'∧post=L'++[⟨b,true,.cells (A++(endC a.1 av wv++B)).toArray el (0,0)⟩]):=by
 refine AE fun w hi=>?_
 simp only[List.append_assoc,List.cons_append,List.nil_append] at hi
 have st:∀v,((A++(endC x av wv++B)).toArray).setIfInBounds (A.length+1) v=(A++((endC x av wv).set 1 v++B)).toArray:=BH (show 1 < 9 by decide)
 refine Ak Tryz.func132 rfl rfl (hi) ?_
 repeat' (first|refine Ag rfl ?_|refine Aj rfl ?_|refine Al ?_|refine An ?_|refine Bp Tryz.func132 rfl (fun w_ hi_=>?_)|refine Ab 0 ?_;try refine AL rfl rfl rfl rfl (fun b_ hb_=>?_);try refine Aa N3 ?_|refine Bg (id:=1) 4 rfl mixed Y1 ?_;try refine A4 (AW U113 rfl BB rfl Y0 Y15) rfl rfl ?_;try refine A4 (Ai rfl) rfl rfl (A4 (Ah rfl) rfl rfl (A4 (Ad C6 rfl) rfl rfl (Bf ?_)));try((refine CJ cd (o:=A.length+1) (gv:=fun n=>.int .i64 n) Y7 Y6 (CallR.val rfl en147) rfl rfl (CA cd (by repeat(first|exact hE|apply cd.envC|apply cd.envA)) hs (Out.nf hf) (fun n' s' _=>.own _ _ _ (BD (j:=1) (R:=endC x av wv) (show 1 < 9 by decide) rfl))) (fun e=>AR Tryz.func132 (by simp only[ltE,e,Out.bind]) Y5) (fun n' s' e1 L' hs'=>?_))<;>try refine Aa N3 ?_))
 rw[st] at hi_
 exact⟨_,Bo (by simp only[ltE,e1,Out.bind];rfl) ⟨rfl,L',hs',rfl⟩,hi_.pick (F:=F) (Take.join Y7 Y6) Y5⟩
theorem esecond_c {A B:List Value} {b:Nat} {x:EndM} {av wv:Value} {el:TypeId} (hf:ltE cd.κ .second x s≠.full):
 SLF Tryz.prog S w0 F 139 [wkV cd,pv b A.length] (L++[⟨b,true,.cells (A++(endC x av wv++B)).toArray el (0,0)⟩]) (MoO (ltE cd.κ .second x s) fun a v post=>v=unitV∧∃L',cd.St a.2 L'∧post=L'++[⟨b,true,.cells (A++(endC a.1 av wv++B)).toArray el (0,0)⟩]):=by
 refine AE fun w hi=>?_
 simp only[List.append_assoc,List.cons_append,List.nil_append] at hi
 have st:∀v,((A++(endC x av wv++B)).toArray).setIfInBounds (A.length+2) v=(A++((endC x av wv).set 2 v++B)).toArray:=BH (show 2 < 9 by decide)
 refine Ak Tryz.func139 rfl rfl (hi) ?_
 repeat' (first|refine Ag rfl ?_|refine Aj rfl ?_|refine Al ?_|refine An ?_|refine Bp Tryz.func139 rfl (fun w_ hi_=>?_)|refine Ab 0 ?_;try refine AL rfl rfl rfl rfl (fun b_ hb_=>?_);try refine Aa N3 ?_|refine Bg (id:=1) 4 rfl mixed Y1 ?_;try refine A4 (AW U113 rfl BB rfl Y0 Y15) rfl rfl ?_;try refine A4 (Ai rfl) rfl rfl (A4 (Ah rfl) rfl rfl (A4 (Ad fo68_2 rfl) rfl rfl (Bf ?_)));try((refine CJ cd (o:=A.length+2) (gv:=fun n=>.int .i64 n) Y7 Y6 (CallR.val rfl en147) rfl rfl (CA cd (by repeat(first|exact hE|apply cd.envC|apply cd.envA)) hs (Out.nf hf) (fun n' s' _=>.own _ _ _ (BD (j:=2) (R:=endC x av wv) (show 2 < 9 by decide) rfl))) (fun e=>AR Tryz.func139 (by simp only[ltE,e,Out.bind]) Y5) (fun n' s' e1 L' hs'=>?_))<;>try refine Aa N3 ?_))
 rw[st] at hi_
 exact⟨_,Bo (by simp only[ltE,e1,Out.bind];rfl) ⟨rfl,L',hs',rfl⟩,hi_.pick (F:=F) (Take.join Y7 Y6) Y5⟩
theorem ecode_c {A B:List Value} {b:Nat} {x:EndM} {av wv:Value} {el:TypeId} (hf:ltE cd.κ .code x s≠.full):
 SLF Tryz.prog S w0 F 140 [wkV cd,pv b A.length] (L++[⟨b,true,.cells (A++(endC x av wv++B)).toArray el (0,0)⟩]) (MoO (ltE cd.κ .code x s) fun a v post=>v=unitV∧∃L',cd.St a.2 L'∧post=L'++[⟨b,true,.cells (A++(endC a.1 av wv++B)).toArray el (0,0)⟩]):=by
 refine AE fun w hi=>?_
 simp only[List.append_assoc,List.cons_append,List.nil_append] at hi
 have st:∀v,((A++(endC x av wv++B)).toArray).setIfInBounds (A.length+1) v=(A++((endC x av wv).set 1 v++B)).toArray:=BH (show 1 < 9 by decide)
 refine Ak Tryz.func140 rfl rfl (hi) ?_
 repeat' (first|refine Ag rfl ?_|refine Aj rfl ?_|refine Al ?_|refine An ?_|refine Bp Tryz.func140 rfl (fun w_ hi_=>?_)|refine Ab 0 ?_;try refine AL rfl rfl rfl rfl (fun b_ hb_=>?_);try refine Aa N3 ?_|refine Bg (id:=1) 7 rfl mixed Y1 ?_;try refine A4 (Ad Bd rfl) rfl rfl (A4 (Ac U111 rfl rfl Y0 Y4) rfl rfl ?_);try refine A4 (Ai rfl) rfl rfl (A4 (Ah rfl) rfl rfl (A4 (Ad C6 rfl) rfl rfl (A4 (AX rfl) rfl rfl (A4 (Ai rfl) rfl rfl (Bf ?_)))));try((refine BT cd (sz:=1) Y7 Y6 rfl rfl (BD (j:=1) (R:=endC x av wv) (show 1 < 9 by decide) rfl) rfl rfl rfl (by repeat(first|exact hE|apply cd.envC|apply cd.envA)) hs Y9 (Out.nf hf) (fun e=>AR Tryz.func140 (by simp only[ltE,e,Out.bind]) Y5) (fun n' s' e1 L' hs'=>?_))<;>try refine Aa N3 ?_))
 rw[st] at hi_
 exact⟨_,Bo (by simp only[ltE,e1,Out.bind];rfl) ⟨rfl,L',hs',rfl⟩,hi_.pick (F:=F) (Take.join Y7 Y6) Y5⟩
theorem eraised_c {A B:List Value} {b:Nat} {x:EndM} {av wv:Value} {el:TypeId} (hf:ltE cd.κ .raised x s≠.full):
 SLF Tryz.prog S w0 F 134 [wkV cd,pv b A.length] (L++[⟨b,true,.cells (A++(endC x av wv++B)).toArray el (0,0)⟩]) (MoO (ltE cd.κ .raised x s) fun a v post=>v=unitV∧∃L',cd.St a.2 L'∧post=L'++[⟨b,true,.cells (A++(endC a.1 av wv++B)).toArray el (0,0)⟩]):=by
 refine AE fun w hi=>?_
 simp only[List.append_assoc,List.cons_append,List.nil_append] at hi
 have st:∀v,((A++(endC x av wv++B)).toArray).setIfInBounds (A.length+5) v=(A++((endC x av wv).set 5 v++B)).toArray:=BH (show 5 < 9 by decide)
 refine Ak Tryz.func134 rfl rfl (hi) ?_
 repeat' (first|refine Ag rfl ?_|refine Aj rfl ?_|refine Al ?_|refine An ?_|refine Bp Tryz.func134 rfl (fun w_ hi_=>?_)|refine Ab 0 ?_;try refine AL rfl rfl rfl rfl (fun b_ hb_=>?_);try refine Aa N3 ?_|refine Bg (id:=1) 7 rfl mixed Y1 ?_;try refine A4 (Ad Bd rfl) rfl rfl (A4 (Ac U111 rfl rfl Y0 Y4) rfl rfl ?_);try refine A4 (Ai rfl) rfl rfl (A4 (Ah rfl) rfl rfl (A4 (Ad fo68_5 rfl) rfl rfl (A4 (AX rfl) rfl rfl (A4 (Ai rfl) rfl rfl (Bf ?_)))));try((refine wo_txt cd Y7 Y6 rfl rfl (BD (j:=5) (R:=endC x av wv) (show 5 < 9 by decide) rfl) rfl rfl rfl (by repeat(first|exact hE|apply cd.envC|apply cd.envA)) hs (Out.nf hf) (fun e=>AR Tryz.func134 (by simp only[ltE,e,Out.bind]) Y5) (fun n' s' e1 L' hs'=>?_))<;>try refine Aa N3 ?_))
 rw[st] at hi_
 exact⟨_,Bo (by simp only[ltE,e1,Out.bind];rfl) ⟨rfl,L',hs',rfl⟩,hi_.pick (F:=F) (Take.join Y7 Y6) Y5⟩
theorem ecalled_c {A B:List Value} {b:Nat} {x:EndM} {av wv:Value} {el:TypeId} (hf:ltE cd.κ .called x s≠.full):
 SLF Tryz.prog S w0 F 135 [wkV cd,pv b A.length] (L++[⟨b,true,.cells (A++(endC x av wv++B)).toArray el (0,0)⟩]) (MoO (ltE cd.κ .called x s) fun a v post=>v=unitV∧∃L',cd.St a.2 L'∧post=L'++[⟨b,true,.cells (A++(endC a.1 av wv++B)).toArray el (0,0)⟩]):=by
 refine AE fun w hi=>?_
 simp only[List.append_assoc,List.cons_append,List.nil_append] at hi
 have st:∀v,((A++(endC x av wv++B)).toArray).setIfInBounds (A.length+5) v=(A++((endC x av wv).set 5 v++B)).toArray:=BH (show 5 < 9 by decide)
 refine Ak Tryz.func135 rfl rfl (hi) ?_
 repeat' (first|refine Ag rfl ?_|refine Aj rfl ?_|refine Al ?_|refine An ?_|refine Bp Tryz.func135 rfl (fun w_ hi_=>?_)|refine Ab 0 ?_;try refine AL rfl rfl rfl rfl (fun b_ hb_=>?_);try refine Aa N3 ?_|refine Bg (id:=1) 7 rfl mixed Y1 ?_;try refine A4 (Ad Bd rfl) rfl rfl (A4 (Ac U111 rfl rfl Y0 Y4) rfl rfl ?_);try refine A4 (Ai rfl) rfl rfl (A4 (Ah rfl) rfl rfl (A4 (Ad fo68_5 rfl) rfl rfl (A4 (AX rfl) rfl rfl (A4 (Ai rfl) rfl rfl (Bf ?_)))));try((refine wo_ref cd (q:=1) Y7 Y6 rfl rfl (BD (j:=5) (R:=endC x av wv) (show 5 < 9 by decide) rfl) rfl rfl rfl (by repeat(first|exact hE|apply cd.envC|apply cd.envA)) hs (Out.nf hf) (fun e=>AR Tryz.func135 (by simp only[ltE,e,Out.bind]) Y5) (fun n' s' e1 L' hs'=>?_))<;>try refine Aa N3 ?_))
 rw[st] at hi_
 exact⟨_,Bo (by simp only[ltE,e1,Out.bind];rfl) ⟨rfl,L',hs',rfl⟩,hi_.pick (F:=F) (Take.join Y7 Y6) Y5⟩
theorem easked_c {A B:List Value} {b:Nat} {x:EndM} {av wv:Value} {el:TypeId} (hf:ltE cd.κ .asked x s≠.full):
 SLF Tryz.prog S w0 F 138 [wkV cd,pv b A.length] (L++[⟨b,true,.cells (A++(endC x av wv++B)).toArray el (0,0)⟩]) (MoO (ltE cd.κ .asked x s) fun a v post=>v=unitV∧∃L',cd.St a.2 L'∧post=L'++[⟨b,true,.cells (A++(endC a.1 av wv++B)).toArray el (0,0)⟩]):=by
 refine AE fun w hi=>?_
 simp only[List.append_assoc,List.cons_append,List.nil_append] at hi
 have st:∀v,((A++(endC x av wv++B)).toArray).setIfInBounds (A.length+5) v=(A++((endC x av wv).set 5 v++B)).toArray:=BH (show 5 < 9 by decide)
 refine Ak Tryz.func138 rfl rfl (hi) ?_
 repeat' (first|refine Ag rfl ?_|refine Aj rfl ?_|refine Al ?_|refine An ?_|refine Bp Tryz.func138 rfl (fun w_ hi_=>?_)|refine Ab 0 ?_;try refine AL rfl rfl rfl rfl (fun b_ hb_=>?_);try refine Aa N3 ?_|refine Bg (id:=1) 7 rfl mixed Y1 ?_;try refine A4 (Ad Bd rfl) rfl rfl (A4 (Ac U111 rfl rfl Y0 Y4) rfl rfl ?_);try refine A4 (Ai rfl) rfl rfl (A4 (Ah rfl) rfl rfl (A4 (Ad fo68_5 rfl) rfl rfl (A4 (AX rfl) rfl rfl (A4 (Ai rfl) rfl rfl (Bf ?_)))));try((refine wo_ref cd (q:=4) Y7 Y6 rfl rfl (BD (j:=5) (R:=endC x av wv) (show 5 < 9 by decide) rfl) rfl rfl rfl (by repeat(first|exact hE|apply cd.envC|apply cd.envA)) hs (Out.nf hf) (fun e=>AR Tryz.func138 (by simp only[ltE,e,Out.bind]) Y5) (fun n' s' e1 L' hs'=>?_))<;>try refine Aa N3 ?_))
 rw[st] at hi_
 exact⟨_,Bo (by simp only[ltE,e1,Out.bind];rfl) ⟨rfl,L',hs',rfl⟩,hi_.pick (F:=F) (Take.join Y7 Y6) Y5⟩
end
end Go.Sl
