/- Of the proof that this claim's last text ends. A walk over a frame's rest: known slots, known blocks; one law for each kind of operation. No condition. -/
import Derived.AtR
import Derived.Deep.Quiet
import Derived.Below
import Derived.KernelRfl
import Derived.Laws.Slices
import Derived.IntWalk
import Derived.Shelf.Abstract
import Derived.Laws.StructEq
import Derived.RangeFuncLeaves
import Derived.StillTail
import Derived.Test.YtlodkchnoapffaaGreatDoorProg
set_option linter.unusedSimpArgs false
set_option linter.unusedVariables false
namespace Go.Sl
open Go Go.RowKit

/-- One known block: its number, whether it may be written, what it holds. -/
structure Ent where
  b : Nat
  rw : Bool
  o : Obj

/-- From w0 to w: only blocks of S, or new ones, have turned. -/
structure Fr (S : Nat → Prop) (w0 w : World) : Prop where
  os : w.os = w0.os
  tape : w.tape = w0.tape
  output : w.output = w0.output
  size : w0.heap.size ≤ w.heap.size
  block : ∀ k, k < w0.heap.size → ¬ S k → w.heap[k]? = w0.heap[k]?

theorem Fr.refl (S : Nat → Prop) (w : World) : Fr S w w := ⟨rfl, rfl, rfl, Nat.le_refl _, fun _ _ _ => rfl⟩

structure Inv (S : Nat → Prop) (w0 : World) (H : List Ent) (w : World) : Prop where
  fr : Fr S w0 w
  nd : (H.map Ent.b).Nodup
  hb : ∀ e ∈ H, w.heap[e.b]? = some e.o
  wr : ∀ e ∈ H, e.rw = true → S e.b ∨ w0.heap.size ≤ e.b

def look : List (Nat × Value) → Nat → Option Value
  | [], _ => none
  | (k, v) :: r, t => bif Nat.beq k t then some v else look r t

def opv (E : List (Nat × Value)) : Operand → Option Value
  | .tmp t => look E t
  | .const v => some v
  | .global g => some (.pointer (some ⟨g, 0, none⟩))
  | .func f => some (.func (.func f) #[] #[])

structure Fits (E : List (Nat × Value)) (n : Nat) (tmps : Array Value) : Prop where
  sz : tmps.size = n
  lk : ∀ t v, look E t = some v → tmps[t]? = some v

theorem Fits.opv {E : List (Nat × Value)} {n : Nat} {tmps : Array Value} (h : Fits E n tmps) (D : List Deferred) {x : Operand} {v : Value} (hx : opv E x = some v) :
    ({ tmps := tmps, defers := D } : Act).eval x = v := by
  cases x with
  | tmp t =>
    have h1 := h.lk t v hx
    show tmps.getD t undef = v
    rw [Array.getD_eq_getD_getElem?, h1]; rfl
  | const u => cases hx; rfl
  | global g => cases hx; rfl
  | func f => cases hx; rfl

theorem look_cons (k : Nat) (v : Value) (r : List (Nat × Value)) (t : Nat) : look ((k, v) :: r) t = if k = t then some v else look r t := by
  simp only [look]
  cases h : Nat.beq k t with
  | true => rw [if_pos (Nat.eq_of_beq_eq_true h)]; rfl
  | false => rw [if_neg (Nat.ne_of_beq_eq_false h)]; rfl

theorem Fits.put {E : List (Nat × Value)} {n : Nat} {tmps : Array Value} (h : Fits E n tmps) {d : Nat} (hd : d < n) (v : Value) :
    Fits ((d, v) :: E) n (tmps.setIfInBounds d v) := by
  refine ⟨by simpa using h.sz, fun t u ht => ?_⟩
  rw [look_cons] at ht
  rw [Array.getElem?_setIfInBounds]
  by_cases e : d = t
  · subst e
    rw [if_pos rfl] at ht; cases ht
    rw [if_pos rfl, if_pos (by rw [h.sz]; exact hd)]
  · rw [if_neg e] at ht; rw [if_neg e]; exact h.lk t u ht

/-- A shorter list of slots says less. -/
def sub (E' E : List (Nat × Value)) : Prop := ∀ t v, look E' t = some v → look E t = some v

theorem Fits.sub {E E' : List (Nat × Value)} {n : Nat} {tmps : Array Value} (h : Fits E n tmps) (hs : sub E' E) : Fits E' n tmps := ⟨h.sz, fun t v e => h.lk t v (hs t v e)⟩

theorem sub_nil (E : List (Nat × Value)) : sub [] E := fun _ _ h => by cases h
theorem sub_cons {E E' : List (Nat × Value)} {k : Nat} {v : Value} (h : look E k = some v) (hs : sub E' E) : sub ((k, v) :: E') E := fun t u e => by
  rw [look_cons] at e
  by_cases he : k = t
  · subst he; rw [if_pos rfl] at e; cases e; exact h
  · rw [if_neg he] at e; exact hs t u e

/-- What stays fixed while a frame is walked. -/
structure Cx where
  P : Program
  b : Frame
  n : Nat
  T : List Frame → Machine → Prop

/-- The frame, with this left to do, comes to its end. -/
def Go1 (C : Cx) (k : List Item) (D : List Deferred) (E : List (Nat × Value)) (w : World) : Prop :=
  ∀ tmps, Fits E C.n tmps → ∀ cs, ∃ m, C.T cs m ∧ Steps C.P (lone (C.b.atR { tmps := tmps, defers := D } k) cs w) m

/-- The same where the frame panics. -/
def GoP (C : Cx) (chain : List PanicEntry) (D : List Deferred) (E : List (Nat × Value)) (w : World) : Prop :=
  ∀ tmps, Fits E C.n tmps → ∀ k cs, ∃ m, C.T cs m ∧ Steps C.P (lone { C.b.atR { tmps := tmps, defers := D } k with mode := .panicking chain } cs w) m

/-- The same where the frame returns. -/
def GoR (C : Cx) (D : List Deferred) (E : List (Nat × Value)) (w : World) : Prop :=
  ∀ tmps, Fits E C.n tmps → ∀ k cs, ∃ m, C.T cs m ∧ Steps C.P (lone { C.b.atR { tmps := tmps, defers := D } k with mode := .returning } cs w) m

def WF (C : Cx) (S : Nat → Prop) (w0 : World) (k : List Item) (D : List Deferred) (E : List (Nat × Value)) (H : List Ent) : Prop :=
  ∀ w, Inv S w0 H w → Go1 C k D E w

section
variable {C : Cx} {S : Nat → Prop} {w0 : World} {k : List Item} {D : List Deferred} {E : List (Nat × Value)} {H : List Ent}

theorem Go1.step {k' : List Item} {w w' : World} (hs : ∀ tmps cs, Fits E C.n tmps → step C.P (lone (C.b.atR { tmps := tmps, defers := D } k) cs w) = .next (lone (C.b.atR { tmps := tmps, defers := D } k') cs w'))
    (h : Go1 C k' D E w') : Go1 C k D E w := fun tmps hf cs =>
  let ⟨m, ht, hst⟩ := h tmps hf cs
  ⟨m, ht, (Steps.one (hs tmps cs hf)).trans hst⟩

theorem w_weak {E' : List (Nat × Value)} (hs : sub E' E) (h : WF C S w0 k D E' H) : WF C S w0 k D E H := fun w hi tmps hf cs => h w hi tmps (hf.sub hs) cs

theorem Inv.subset {H' : List Ent} {w : World} (hi : Inv S w0 H w) (hs : H'.Sublist H) : Inv S w0 H' w :=
  ⟨hi.fr, (hs.map Ent.b).nodup hi.nd, fun e he => hi.hb e (hs.subset he), fun e he => hi.wr e (hs.subset he)⟩

theorem Inv.perm {H' : List Ent} {w : World} (hi : Inv S w0 H w) (hs : H.Perm H') : Inv S w0 H' w :=
  ⟨hi.fr, (hs.map Ent.b).nodup_iff.1 hi.nd, fun e he => hi.hb e (hs.mem_iff.2 he), fun e he => hi.wr e (hs.mem_iff.2 he)⟩

theorem w_drop {H' : List Ent} (hs : H'.Sublist H) (h : WF C S w0 k D E H') : WF C S w0 k D E H := fun w hi => h w (hi.subset hs)
theorem w_perm {H' : List Ent} (hs : H.Perm H') (h : WF C S w0 k D E H') : WF C S w0 k D E H := fun w hi => h w (hi.perm hs)

theorem w_seq {x y : Code} (h : WF C S w0 (.code x :: .code y :: k) D E H) : WF C S w0 (.code (.seq x y) :: k) D E H := fun w hi => Go1.step (fun _ _ _ => stepR_seq) (h w hi)
theorem w_skip (h : WF C S w0 k D E H) : WF C S w0 (.code .skip :: k) D E H := fun w hi => Go1.step (fun _ _ _ => stepR_skip) (h w hi)
theorem w_label {l : Nat} (h : WF C S w0 k D E H) : WF C S w0 (.code (.label l) :: k) D E H := fun w hi => Go1.step (fun _ _ _ => stepR_label) (h w hi)
theorem w_inBlock {id : Nat} (h : WF C S w0 k D E H) : WF C S w0 (.inBlock id :: k) D E H := fun w hi => Go1.step (fun _ _ _ => stepR_inBlock) (h w hi)
theorem w_block {id : Nat} {c : Code} (h : WF C S w0 (.code c :: .inBlock id :: k) D E H) : WF C S w0 (.code (.block id c) :: k) D E H := fun w hi => Go1.step (fun _ _ _ => stepR_block) (h w hi)
theorem w_inLoop {c : Code} (h : WF C S w0 (.code c :: .inLoop c :: k) D E H) : WF C S w0 (.inLoop c :: k) D E H := fun w hi => Go1.step (fun _ _ _ => stepR_inLoop) (h w hi)
theorem w_loop' {c : Code} (h : WF C S w0 (.code c :: .inLoop c :: k) D E H) : WF C S w0 (.code (.loop c) :: k) D E H := fun w hi => Go1.step (fun _ _ _ => stepR_loop) (h w hi)
theorem w_exit {id : Nat} {k' : List Item} (hk : exitTo id k = some k') (h : WF C S w0 k' D E H) : WF C S w0 (.code (.exit id) :: k) D E H := fun w hi => Go1.step (fun _ _ _ => stepR_exit hk) (h w hi)
theorem w_goto {l : Nat} {k' : List Item} (hk : gotoIn l k = some k') (h : WF C S w0 k' D E H) : WF C S w0 (.code (.goto l) :: k) D E H := fun w hi => Go1.step (fun _ _ _ => stepR_goto hk) (h w hi)
theorem w_cond {c : Operand} {x y : Code} {t : Bool} (hc : opv E c = some (.bool t)) (ht : t = true → WF C S w0 (.code x :: k) D E H) (hf : t = false → WF C S w0 (.code y :: k) D E H) :
    WF C S w0 (.code (.cond c x y) :: k) D E H := fun w hi => by
  refine Go1.step (k' := .code (if t then x else y) :: k) (fun _ _ hfit => stepR_cond (hfit.opv D hc)) ?_
  cases t with
  | true => exact ht rfl w hi
  | false => exact hf rfl w hi
theorem w_region {id : Nat} {ops : Array Oper} (h : WF C S w0 (.inRegion ops (List.range ops.size) :: k) D E H) : WF C S w0 (.code (.region id ops false) :: k) D E H := fun w hi => Go1.step (fun _ _ _ => stepR_region) (h w hi)
theorem w_regEnd {ops : Array Oper} (h : WF C S w0 k D E H) : WF C S w0 (.inRegion ops [] :: k) D E H := fun w hi => Go1.step (fun _ _ _ => stepR_region_end) (h w hi)
end
end Go.Sl

namespace Go.Sl
open Go Go.RowKit

/-- The operation yields v, and the known blocks stay known. -/
def OpV (C : Cx) (S : Nat → Prop) (w0 : World) (H : List Ent) (D : List Deferred) (E : List (Nat × Value)) (o : Oper) (v : Value) : Prop :=
  ∀ tmps w, Fits E C.n tmps → Inv S w0 H w → o.quietAt C.P { tmps := tmps, defers := D } (Inv S w0 H) w v

def guardOk (E : List (Nat × Value)) (ops : Array Oper) (o : Oper) : Option Bool :=
  match o.guard with
  | none => some true
  | some (j, want) =>
    match (ops[j]?).bind (·.dst) with
    | some t => match look E t with
      | some (.bool b) => some (b == want)
      | some (.tuple _) => some false
      | _ => none
    | none => none

theorem guardOk_wanted {E : List (Nat × Value)} {n : Nat} {tmps : Array Value} (hf : Fits E n tmps) {ops : Array Oper} {o : Oper} {t : Bool} (h : guardOk E ops o = some t) :
    Region.wanted o (yielded ops tmps) = t := by
  unfold guardOk at h
  unfold Region.wanted
  cases hg : o.guard with
  | none => rw [hg] at h; simp at h; rw [← h]
  | some p =>
    obtain ⟨j, want⟩ := p
    rw [hg] at h
    simp only at h ⊢
    unfold yielded
    cases hd : (ops[j]?).bind (·.dst) with
    | none => rw [hd] at h; simp at h
    | some d =>
      rw [hd] at h
      simp only at h
      cases hl : look E d with
      | none => rw [hl] at h; simp at h
      | some v =>
        rw [hl] at h
        have := hf.lk d v hl
        cases v <;> simp at h
        · simp [this, ← h]
        · simp [this, ← h]

def putE (d : Option Nat) (v : Value) (E : List (Nat × Value)) : List (Nat × Value) :=
  match d with
  | some d => (d, v) :: E
  | none => E

theorem Fits.putE {E : List (Nat × Value)} {n : Nat} {tmps : Array Value} (h : Fits E n tmps) {d : Option Nat} (hd : ∀ t, d = some t → t < n) (v : Value) (D : List Deferred) :
    Fits (putE d v E) n ((({ tmps := tmps, defers := D } : Act).put d v)).tmps ∧ (({ tmps := tmps, defers := D } : Act).put d v).defers = D := by
  cases d with
  | none => exact ⟨h, rfl⟩
  | some t => exact ⟨h.put (hd t rfl) v, rfl⟩

theorem act_eta {a : Act} {D : List Deferred} (h : a.defers = D) : a = { tmps := a.tmps, defers := D } := by subst h; rfl

def dstOk (d : Option Nat) (n : Nat) : Bool :=
  match d with
  | some t => Nat.blt t n
  | none => true

theorem dstOk_lt {d : Option Nat} {n : Nat} (h : dstOk d n = true) : ∀ t, d = some t → t < n := by
  rintro t rfl
  simpa [dstOk] using h

/-- The rest of a region's operations. -/
def WO (C : Cx) (S : Nat → Prop) (w0 : World) (ops : Array Oper) (rest : List Oper) (k : List Item) (D : List Deferred) (E : List (Nat × Value)) (H : List Ent) : Prop :=
  ∀ pre, ops.toList.drop pre = rest → WF C S w0 (.inRegion ops (List.range' pre rest.length) :: k) D E H

/-- The same at one world. -/
def Go2 (C : Cx) (ops : Array Oper) (rest : List Oper) (k : List Item) (D : List Deferred) (E : List (Nat × Value)) (w : World) : Prop :=
  ∀ pre, ops.toList.drop pre = rest → Go1 C (.inRegion ops (List.range' pre rest.length) :: k) D E w

section
variable {C : Cx} {S : Nat → Prop} {w0 : World} {k : List Item} {D : List Deferred} {E : List (Nat × Value)} {H : List Ent}

theorem w_reg {id : Nat} {ops : Array Oper} (h : WO C S w0 ops ops.toList k D E H) : WF C S w0 (.code (.region id ops false) :: k) D E H := by
  refine w_region ?_
  have := h 0 (by simp)
  rw [Array.length_toList] at this
  rwa [List.range_eq_range']

theorem wo_nil {ops : Array Oper} (h : WF C S w0 k D E H) : WO C S w0 ops [] k D E H := fun _ _ => w_regEnd h

theorem drop_cons {α : Type} {l : List α} {n : Nat} {x : α} {rest : List α} (h : l.drop n = x :: rest) : l[n]? = some x ∧ l.drop (n + 1) = rest := by
  constructor
  · have := congrArg (·[0]?) h
    simpa using this
  · rw [← List.drop_drop, h]; rfl

/-- What is asked of one operation at one world. -/
def OpK (C : Cx) (D : List Deferred) (E : List (Nat × Value)) (d : Option Nat) (K : List Deferred → List (Nat × Value) → World → Prop) : Result Next → Prop
  | .ok (.value v) w' => K D (putE d v E) w'
  | .ok .skip w' => K D (putE d undef E) w'
  | .ok (.defer x) w' => C.b.roundOf = none ∧ K (x :: D) (putE d undef E) w'
  | .ok (.enter f args) w' => Calls C.P f args w' fun
      | .returned v, w'' => K D (putE d v E) w''
      | .panicked chain, w'' => GoP C chain D E w''
      | .outgrown, _ => False
  | .halt (.panic v) w' => GoP C [{ v, recovered := false }] D E w'
  | _ => False

theorem goRaise {fr : Frame} (hm : fr.mode = .run) (chain : List PanicEntry) : fr.raise chain = { fr with mode := .panicking chain } := by
  cases fr; simp only at hm; subst hm; rfl

/-- One operation at one world. -/
theorem go2_op {ops : Array Oper} {o : Oper} {rest : List Oper} {w : World} (hg : guardOk E ops o = some true) (hd : dstOk o.dst C.n = true)
    (h : ∀ tmps, Fits E C.n tmps → OpK C D E o.dst (fun D' E' w' => Go2 C ops rest k D' E' w') ((o.semAt C.b.roundOf ({ tmps := tmps, defers := D } : Act).eval).run C.P w)) :
    Go2 C ops (o :: rest) k D E w := by
  intro pre hpre tmps hf cs
  obtain ⟨h0, hrest⟩ := drop_cons hpre
  have ho : ops[pre]? = some o := by simpa using h0
  have hw := guardOk_wanted hf hg
  have hr := h tmps hf
  have hgo := stepGR_op (P := C.P) (b := C.b) (k := k) (cs := cs) (w := w) (a := { tmps := tmps, defers := D }) (rest := List.range' (pre + 1) rest.length) ho hw
  have hfin : ∀ v, (C.b.atR { tmps := tmps, defers := D } (.inRegion ops (pre :: List.range' (pre + 1) rest.length) :: k)).finish v = C.b.atR (({ tmps := tmps, defers := D } : Act).put o.dst v) (.inRegion ops (List.range' (pre + 1) rest.length) :: k) := by
    intro v; rw [Frame.finish_atR, ho]; rfl
  have hlen : List.range' pre (o :: rest).length = pre :: List.range' (pre + 1) rest.length := by simp [List.range'_succ]
  rw [hlen]
  generalize hR : (o.semAt C.b.roundOf ({ tmps := tmps, defers := D } : Act).eval).run C.P w = r at hr
  unfold OpK at hr
  have put2 : ∀ v, ∃ t', Fits (putE o.dst v E) C.n t' ∧ (({ tmps := tmps, defers := D } : Act).put o.dst v) = { tmps := t', defers := D } := by
    intro v
    obtain ⟨f1, f2⟩ := hf.putE (dstOk_lt hd) v D
    exact ⟨_, f1, act_eta f2⟩
  split at hr
  · rename_i v w'
    obtain ⟨t', f1, e1⟩ := put2 v
    obtain ⟨m, ht, hs⟩ := hr (pre + 1) hrest t' f1 cs
    refine ⟨m, ht, (Steps.one (step_lone_go ?_)).trans hs⟩
    rw [hgo, ← e1, ← hfin]; simp [stepG.apply, hR]
  · rename_i w'
    obtain ⟨t', f1, e1⟩ := put2 undef
    obtain ⟨m, ht, hs⟩ := hr (pre + 1) hrest t' f1 cs
    refine ⟨m, ht, (Steps.one (step_lone_go ?_)).trans hs⟩
    rw [hgo, ← e1, ← hfin]; simp [stepG.apply, hR]
  · rename_i x w'
    obtain ⟨hro, hr⟩ := hr
    obtain ⟨f1, f2⟩ := hf.putE (dstOk_lt hd) undef (x :: D)
    obtain ⟨m, ht, hs⟩ := hr (pre + 1) hrest _ f1 cs
    refine ⟨m, ht, (Steps.one (step_lone_go ?_)).trans hs⟩
    have e2 : ({ tmps := (({ tmps := tmps, defers := x :: D } : Act).put o.dst undef).tmps, defers := x :: D } : Act) = ({ tmps := tmps, defers := x :: D } : Act).put o.dst undef := (act_eta f2).symm
    have := Frame.finish_atR C.b { tmps := tmps, defers := x :: D } ops pre (List.range' (pre + 1) rest.length) k undef
    rw [ho] at this
    have this' : ({ C.b.atR { tmps := tmps, defers := D } (.inRegion ops (pre :: List.range' (pre + 1) rest.length) :: k) with defers := x :: D } : Frame).finish undef =
        C.b.atR (({ tmps := tmps, defers := x :: D } : Act).put o.dst undef) (.inRegion ops (List.range' (pre + 1) rest.length) :: k) := this
    rw [hgo, e2, ← this']
    simp [stepG.apply, hR, Frame.atR]
  · rename_i f args w'
    obtain ⟨e, w'', fr, hR2, hsteps, _, hleave⟩ := hr (C.b.atR { tmps := tmps, defers := D } (.inRegion ops (pre :: List.range' (pre + 1) rest.length) :: k) :: cs)
    have henter : step C.P (lone (C.b.atR { tmps := tmps, defers := D } (.inRegion ops (pre :: List.range' (pre + 1) rest.length) :: k)) cs w) =
        .next (lone (Frame.enter C.P f args .normal) (C.b.atR { tmps := tmps, defers := D } (.inRegion ops (pre :: List.range' (pre + 1) rest.length) :: k) :: cs) w') :=
      step_lone_go (by rw [hgo]; simp [stepG.apply, hR, Frame.atR])
    cases e with
    | returned v =>
      obtain ⟨t', f1, e1⟩ := put2 v
      obtain ⟨m, ht, hs⟩ := hR2 (pre + 1) hrest t' f1 cs
      refine ⟨m, ht, (Steps.one henter).trans (Steps.trans hsteps ((Steps.one ?_).trans hs))⟩
      rw [← e1, ← hfin]; exact step_leave_returned hleave
    | panicked chain =>
      obtain ⟨m, ht, hs⟩ := hR2 tmps hf (.inRegion ops (pre :: List.range' (pre + 1) rest.length) :: k) cs
      refine ⟨m, ht, (Steps.one henter).trans (Steps.trans hsteps ((Steps.one ?_).trans hs))⟩
      rw [← Frame.raise_atR]; exact step_leave_panicked hleave
    | outgrown => exact hR2.elim
  · rename_i v w'
    obtain ⟨m, ht, hs⟩ := hr tmps hf (.inRegion ops (pre :: List.range' (pre + 1) rest.length) :: k) cs
    refine ⟨m, ht, (Steps.one (step_lone_go ?_)).trans hs⟩
    rw [hgo, ← Frame.raise_atR]; simp [stepG.apply, hR]
  · exact hr.elim

theorem go2_skip {ops : Array Oper} {o : Oper} {rest : List Oper} {w : World} (hg : guardOk E ops o = some false) (hd : dstOk o.dst C.n = true)
    (h : Go2 C ops rest k D (putE o.dst undef E) w) : Go2 C ops (o :: rest) k D E w := by
  intro pre hpre tmps hf cs
  obtain ⟨h0, hrest⟩ := drop_cons hpre
  have ho : ops[pre]? = some o := by simpa using h0
  have hw := guardOk_wanted hf hg
  have hlen : List.range' pre (o :: rest).length = pre :: List.range' (pre + 1) rest.length := by simp [List.range'_succ]
  rw [hlen]
  obtain ⟨f1, f2⟩ := hf.putE (dstOk_lt hd) undef D
  obtain ⟨m, ht, hs⟩ := h (pre + 1) hrest _ f1 cs
  refine ⟨m, ht, (Steps.one ?_).trans hs⟩
  have := stepR_op_skip (P := C.P) (b := C.b) (k := k) (cs := cs) (w := w) (a := { tmps := tmps, defers := D }) (ops := ops) (i := pre) (rest := List.range' (pre + 1) rest.length) (by simp [ho, hw])
  rw [this, ho]
  simp only [Option.bind_some]
  have e2 : ({ tmps := (({ tmps := tmps, defers := D } : Act).put o.dst undef).tmps, defers := D } : Act) = ({ tmps := tmps, defers := D } : Act).put o.dst undef := (act_eta f2).symm
  rw [e2]

theorem wo_go2 {ops : Array Oper} {rest : List Oper} (h : ∀ w, Inv S w0 H w → Go2 C ops rest k D E w) : WO C S w0 ops rest k D E H := fun pre hpre w hi => h w hi pre hpre
theorem WO.go2 {ops : Array Oper} {rest : List Oper} (h : WO C S w0 ops rest k D E H) {w : World} (hi : Inv S w0 H w) : Go2 C ops rest k D E w := fun pre hpre => h pre hpre w hi

/-- One operation. -/
theorem wo_op {ops : Array Oper} {o : Oper} {rest : List Oper} (hg : guardOk E ops o = some true) (hd : dstOk o.dst C.n = true)
    (h : ∀ w, Inv S w0 H w → ∀ tmps, Fits E C.n tmps → OpK C D E o.dst (fun D' E' w' => Go2 C ops rest k D' E' w') ((o.semAt C.b.roundOf ({ tmps := tmps, defers := D } : Act).eval).run C.P w)) :
    WO C S w0 ops (o :: rest) k D E H := wo_go2 fun w hi => go2_op hg hd (h w hi)

theorem wo_skip {ops : Array Oper} {o : Oper} {rest : List Oper} (hg : guardOk E ops o = some false) (hd : dstOk o.dst C.n = true)
    (h : WO C S w0 ops rest k D (putE o.dst undef E) H) : WO C S w0 ops (o :: rest) k D E H := wo_go2 fun _ hi => go2_skip hg hd (h.go2 hi)

theorem semAt_nd (ro : Option Nat) (ρ : Operand → Value) (o : Oper) (h : ∀ c, o.op ≠ .defer c) : o.semAt ro ρ = execOp ρ o := Oper.semAt_eq ro ρ o h

/-- One operation that yields a value. -/
theorem wo_v {ops : Array Oper} {o : Oper} {rest : List Oper} {v : Value} (hv : OpV C S w0 H D E o v) (hg : guardOk E ops o = some true) (hd : dstOk o.dst C.n = true) (hnd : (match o.op with | .defer _ => false | _ => true) = true)
    (h : WO C S w0 ops rest k D (putE o.dst v E) H) : WO C S w0 ops (o :: rest) k D E H := by
  refine wo_op hg hd fun w hi tmps hf => ?_
  have hq := hv tmps w hf hi
  rw [semAt_nd _ _ _ (by intro c hc; rw [hc] at hnd; cases hnd)]
  unfold Oper.quietAt at hq
  generalize (execOp ({ tmps := tmps, defers := D } : Act).eval o).run C.P w = r at hq ⊢
  unfold Oper.quietUpon at hq
  split at hq
  · obtain ⟨rfl, rfl⟩ := hq; exact h.go2 hi
  · obtain ⟨rfl, rfl⟩ := hq; exact h.go2 hi
  · obtain ⟨rfl, hc⟩ := hq
    refine hc.mono ?_
    rintro e w'' ⟨rfl, hi'⟩
    exact h.go2 hi'
  · exact hq.elim
end
end Go.Sl

namespace Go.Sl
open Go Go.RowKit

theorem mem_at {H : List Ent} {e : Ent} (i : Nat) (h : H[i]? = some e) : e ∈ H := List.mem_of_getElem? h

section
variable {C : Cx} {S : Nat → Prop} {w0 : World} {k : List Item} {D : List Deferred} {E : List (Nat × Value)} {H : List Ent}

theorem Inv.cell {w : World} {b : Nat} {rw : Bool} {c : Array Value} {el : TypeId} {fz : Nat × Nat} {off : Nat} {v : Value} (hi : Inv S w0 H w) (hm : (⟨b, rw, .cells c el fz⟩ : Ent) ∈ H) (hc : c[off]? = some v) :
    w.cell? ⟨b, off, none⟩ = some v := by
  have := hi.hb _ hm
  simp only at this
  unfold World.cell?
  simp [this, hc]

theorem Inv.frozen {w : World} {b : Nat} {rw : Bool} {c : Array Value} {el : TypeId} {off : Nat} (hi : Inv S w0 H w) (hm : (⟨b, rw, .cells c el (0, 0)⟩ : Ent) ∈ H) :
    w.frozen? ⟨b, off, none⟩ = false := by
  have := hi.hb _ hm
  simp only at this
  unfold World.frozen?
  simp [this]

theorem opv_run {o : Oper} {v : Value} (h : ∀ tmps w, Fits E C.n tmps → Inv S w0 H w → (execOp ({ tmps := tmps, defers := D } : Act).eval o).run C.P w = .ok (.value v) w) : OpV C S w0 H D E o v := fun tmps w hf hi => by
  unfold Oper.quietAt
  rw [h tmps w hf hi]
  exact ⟨rfl, rfl⟩

variable {d : Option Tmp} {t t' : TypeId} {p : String} {af : Array Edge} {g : Option (Nat × Bool)} {x y z : Operand} {v u : Value}

theorem ov_move (hx : opv E x = some v) : OpV C S w0 H D E ⟨d, .move x, t, p, af, g⟩ v := opv_run fun tmps w hf _ => by simp [execOp, hf.opv D hx]
theorem ov_assign (hx : opv E x = some v) : OpV C S w0 H D E ⟨d, .assign x, t, p, af, g⟩ v := opv_run fun tmps w hf _ => by simp [execOp, hf.opv D hx]

theorem ov_pick {b : Bool} (hc : opv E x = some (.bool b)) (hx : opv E y = some v) (hy : opv E z = some u) : OpV C S w0 H D E ⟨d, .pick x y z, t, p, af, g⟩ (if b then v else u) := opv_run fun tmps w hf _ => by
  cases b <;> simp [execOp, hf.opv D hc, hf.opv D hx, hf.opv D hy, asBool]

def flatD : TypeDesc → Bool
  | .struct _ | .array _ _ => false
  | _ => true

theorem run_loadVar1 {P : Program} {w : World} {dd : TypeDesc} {a : Addr} (hu : P.underlying t' = some dd) (hd : flatD dd = true) (hc : w.cell? a = some v) : (loadVar t' a).run P w = .ok v w := by
  unfold loadVar isAgg
  simp [underlying, program, Sem.run, hu, Sem.run_bind]
  cases dd <;> simp_all [flatD]

theorem ov_load {dd : TypeDesc} {b off : Nat} {rw : Bool} {c : Array Value} {el : TypeId} {fz : Nat × Nat} (hu : C.P.underlying t' = some dd) (hd : flatD dd = true) (hx : opv E x = some (.pointer (some ⟨b, off, none⟩)))
    (hm : (⟨b, rw, .cells c el fz⟩ : Ent) ∈ H) (hc : c[off]? = some v) : OpV C S w0 H D E ⟨d, .load t' x, t, p, af, g⟩ v := opv_run fun tmps w hf hi => by
  simp [execOp, hf.opv D hx, Instr.loadAt, Instr.sureAddr, run_loadVar1 hu hd (hi.cell hm hc)]

theorem run_loadCellsFrom {P : Program} {w : World} {b off : Nat} {c : Array Value} (hc : ∀ j, off ≤ j → j < off + c.size → w.cell? ⟨b, j, none⟩ = c[j - off]?) :
    ∀ n i (acc : Array Value), i + n ≤ c.size → (loadCellsFrom ⟨b, off, none⟩ i n acc).run P w = .ok (acc ++ c.extract i (i + n)) w := by
  intro n
  induction n with
  | zero => intro i acc h; simp [loadCellsFrom]; omega
  | succ n ih =>
    intro i acc h
    have h1 : w.cell? ⟨b, off + i, none⟩ = some (c[i]'(by omega)) := by
      rw [hc (off + i) (by omega) (by omega)]
      rw [show off + i - off = i from by omega]
      exact Array.getElem?_eq_getElem (by omega)
    have h2 : (⟨b, off, none⟩ : Addr).add i = ⟨b, off + i, none⟩ := by
      unfold Addr.add; split
      · rename_i e; subst e; rfl
      · rfl
    simp only [loadCellsFrom, Sem.run_bind, h2, run_load, h1, Result.andThen_ok]
    rw [ih (i + 1) _ (by omega)]
    congr 1
    apply Array.ext'
    simp only [Array.toList_append, Array.toList_push, Array.toList_extract, List.append_assoc, List.extract_eq_take_drop]
    simp only [List.cons_append, List.nil_append]
    rw [show i + (n + 1) - i = n + 1 from by omega, show i + 1 + n - (i + 1) = n from by omega]
    have : c.toList.drop i = c[i]'(by omega) :: c.toList.drop (i + 1) := by
      rw [List.drop_eq_getElem_cons (by simp; omega)]; simp
    rw [this, List.take_succ_cons]

theorem run_loadVarA {P : Program} {w : World} {dd : TypeDesc} {ti : TypeInfo} {b off : Nat} {c : Array Value} (hu : P.underlying t' = some dd) (hd : flatD dd = false) (hi : P.info? t' = some ti) (hsz : ti.size = c.size)
    (hc : ∀ j, off ≤ j → j < off + c.size → w.cell? ⟨b, j, none⟩ = c[j - off]?) : (loadVar t' ⟨b, off, none⟩).run P w = .ok (.agg c) w := by
  unfold loadVar isAgg sizeOf typeInfo
  have h1 := run_loadCellsFrom (P := P) (w := w) hc c.size 0 #[] (by omega)
  simp at h1
  simp [underlying, program, Sem.run, hu, Sem.run_bind, hi]
  cases dd <;> simp_all [flatD, loadCells]

theorem ov_loadA {dd : TypeDesc} {ti : TypeInfo} {b off : Nat} {rw : Bool} {c cs : Array Value} {el : TypeId} {fz : Nat × Nat} (hu : C.P.underlying t' = some dd) (hd : flatD dd = false) (hti : C.P.info? t' = some ti)
    (hx : opv E x = some (.pointer (some ⟨b, off, none⟩))) (hm : (⟨b, rw, .cells c el fz⟩ : Ent) ∈ H) (hsz : ti.size = cs.size) (hle : off + cs.size ≤ c.size) (hc : ∀ j, j < cs.size → c[off + j]? = cs[j]?) :
    OpV C S w0 H D E ⟨d, .load t' x, t, p, af, g⟩ (.agg cs) := opv_run fun tmps w hf hi => by
  have := run_loadVarA (P := C.P) (w := w) (b := b) (off := off) (c := cs) hu hd hti hsz (fun j h1 h2 => by
    obtain ⟨i, rfl⟩ : ∃ i, j = off + i := ⟨j - off, by omega⟩
    have h3 : off + i - off = i := by omega
    rw [h3]
    have h4 := hc i (by omega)
    rw [← h4]
    have := hi.cell (off := off + i) (v := c[off + i]'(by omega)) hm (Array.getElem?_eq_getElem (by omega))
    rw [this, Array.getElem?_eq_getElem (by omega)])
  simp [execOp, hf.opv D hx, Instr.loadAt, Instr.sureAddr, this]

theorem ov_nilCheck {a : Addr} (hx : opv E x = some (.pointer (some a))) : OpV C S w0 H D E ⟨d, .nilCheck x, t, p, af, g⟩ (.pointer (some a)) := opv_run fun tmps w hf _ => by simp [execOp, hf.opv D hx]
theorem ov_nilCheckF {f : FuncId} {fs cs : Array Value} (hx : opv E x = some (.func (.func f) fs cs)) : OpV C S w0 H D E ⟨d, .nilCheck x, t, p, af, g⟩ (.func (.func f) fs cs) := opv_run fun tmps w hf _ => by simp [execOp, hf.opv D hx]
theorem ov_nilCheckY {f : Nat} {fs cs : Array Value} (hx : opv E x = some (.func (.yield f) fs cs)) : OpV C S w0 H D E ⟨d, .nilCheck x, t, p, af, g⟩ (.func (.yield f) fs cs) := opv_run fun tmps w hf _ => by simp [execOp, hf.opv D hx]
theorem ov_nilCheckI {f : Nat} {y : Value} (hx : opv E x = some (.iface f y)) : OpV C S w0 H D E ⟨d, .nilCheck x, t, p, af, g⟩ (.iface f y) := opv_run fun tmps w hf _ => by simp [execOp, hf.opv D hx]

/-- A field's place, where its type takes cells. -/
def fieldOff (P : Program) (s : TypeId) (f : Nat) : Option Nat :=
  match P.underlying s with
  | some (.struct fs) => match fs[f]? with
    | some fd => match P.info? fd.type with
      | some i => if i.size = 0 then none else some fd.offset
      | none => none
    | none => none
  | _ => none

theorem add_addr (b off n : Nat) : (⟨b, off, none⟩ : Addr).add n = ⟨b, off + n, none⟩ := by
  unfold Addr.add; split
  · rename_i e; subst e; rfl
  · rfl

theorem ov_fieldAddr {s f b off fo : Nat} (hf' : fieldOff C.P s f = some fo) (hx : opv E x = some (.pointer (some ⟨b, off, none⟩))) :
    OpV C S w0 H D E ⟨d, .fieldAddr s x f, t, p, af, g⟩ (.pointer (some ⟨b, off + fo, none⟩)) := opv_run fun tmps w hf _ => by
  unfold fieldOff at hf'
  cases hu : C.P.underlying s with
  | none => rw [hu] at hf'; simp at hf'
  | some dd =>
    rw [hu] at hf'
    cases dd <;> simp at hf'
    rename_i fs
    cases hq : fs[f]? with
    | none => rw [hq] at hf'; simp at hf'
    | some fd =>
      rw [hq] at hf'; simp at hf'
      cases hi : C.P.info? fd.type with
      | none => rw [hi] at hf'; simp at hf'
      | some i =>
        rw [hi] at hf'; simp at hf'
        obtain ⟨h0, h1⟩ := hf'
        simp [execOp, hf.opv D hx, Instr.fieldAt, Instr.sureAddr, underlying, program, Sem.run, hu, hq, fieldPlace, sizeOf, typeInfo, hi, h0, add_addr, h1]

/-- A field's place and its number of cells, and whether it is one value. -/
def fieldPart (P : Program) (s : TypeId) (f : Nat) : Option (Nat × Nat × Bool) :=
  match P.underlying s with
  | some (.struct fs) => match fs[f]? with
    | some fd => match P.info? fd.type, P.underlying fd.type with
      | some i, some dd => some (fd.offset, i.size, flatD dd)
      | _, _ => none
    | none => none
  | _ => none

theorem run_part1 {P : Program} {w : World} {dd : TypeDesc} {cs : Array Value} {off : Nat} (hu : P.underlying t' = some dd) (hd : flatD dd = true) (hc : cs[off]? = some v) : (part t' cs off).run P w = .ok v w := by
  unfold part isAgg
  simp [underlying, program, Sem.run, hu, Sem.run_bind]
  cases dd <;> simp_all [flatD]

theorem run_partA {P : Program} {w : World} {dd : TypeDesc} {ti : TypeInfo} {cs : Array Value} {off : Nat} (hu : P.underlying t' = some dd) (hd : flatD dd = false) (hi : P.info? t' = some ti) : (part t' cs off).run P w = .ok (.agg (cs.extract off (off + ti.size))) w := by
  unfold part isAgg sizeOf typeInfo
  simp [underlying, program, Sem.run, hu, Sem.run_bind, hi]
  cases dd <;> simp_all [flatD]

theorem fieldPart_spec {P : Program} {s f fo sz : Nat} {fl : Bool} (h : fieldPart P s f = some (fo, sz, fl)) :
    ∃ fs fd i dd, P.underlying s = some (.struct fs) ∧ fs[f]? = some fd ∧ P.info? fd.type = some i ∧ P.underlying fd.type = some dd ∧ fd.offset = fo ∧ i.size = sz ∧ flatD dd = fl := by
  unfold fieldPart at h
  cases hu : P.underlying s with
  | none => rw [hu] at h; simp at h
  | some dd =>
    rw [hu] at h
    cases dd <;> simp at h
    rename_i fs
    cases hq : fs[f]? with
    | none => rw [hq] at h; simp at h
    | some fd =>
      rw [hq] at h; simp at h
      cases hi : P.info? fd.type with
      | none => rw [hi] at h; simp at h
      | some i =>
        cases hu2 : P.underlying fd.type with
        | none => rw [hi, hu2] at h; simp at h
        | some d2 =>
          rw [hi, hu2] at h; simp at h
          exact ⟨fs, fd, i, d2, rfl, hq, hi, hu2, h.1, h.2.1, h.2.2⟩

theorem ov_field {s f fo sz : Nat} {cs : Array Value} (hp : fieldPart C.P s f = some (fo, sz, true)) (hx : opv E x = some (.agg cs)) (hc : cs[fo]? = some v) :
    OpV C S w0 H D E ⟨d, .field s x f, t, p, af, g⟩ v := opv_run fun tmps w hf _ => by
  obtain ⟨fs, fd, i, dd, h1, h2, h3, h4, rfl, h6, h7⟩ := fieldPart_spec hp
  simp [execOp, hf.opv D hx, Instr.field, underlying, program, Sem.run, h1, h2, asAgg, run_part1 h4 h7 hc]

theorem ov_fieldA {s f fo sz : Nat} {cs : Array Value} (hp : fieldPart C.P s f = some (fo, sz, false)) (hx : opv E x = some (.agg cs)) :
    OpV C S w0 H D E ⟨d, .field s x f, t, p, af, g⟩ (.agg (cs.extract fo (fo + sz))) := opv_run fun tmps w hf _ => by
  obtain ⟨fs, fd, i, dd, h1, h2, h3, h4, rfl, rfl, h7⟩ := fieldPart_spec hp
  simp [execOp, hf.opv D hx, Instr.field, underlying, program, Sem.run, h1, h2, asAgg, run_partA h4 h7 h3]

/-! ### Strings: bytes as a list -/
abbrev str (l : List UInt8) : Value := .string ⟨l.toArray⟩
def bt (l : List UInt8) (i : Int) : Int := ((l[i.toNat]?).getD 0).toNat

theorem ov_lenS {dd : TypeId} {l : List UInt8} {aty : Array TypeId} (hx : opv E x = some (str l)) (hu : C.P.underlying dd = some .string) (ha : aty = #[dd]) :
    OpV C S w0 H D E ⟨d, .call { callee := .builtin .len, args := #[x], argTypes := aty }, t, p, af, g⟩ (.int .i64 l.length) := opv_run fun tmps w hf _ => by
  subst ha
  simp [execOp, resolve, invoke, builtin, Builtin.len_, hf.opv D hx, underlying, program, Sem.run, hu, goInt]
  rfl
theorem ov_lenL {dd el : TypeId} {a : Option Addr} {n c : Nat} {aty : Array TypeId} (hx : opv E x = some (.slice a n c)) (hu : C.P.underlying dd = some (.slice el)) (ha : aty = #[dd]) :
    OpV C S w0 H D E ⟨d, .call { callee := .builtin .len, args := #[x], argTypes := aty }, t, p, af, g⟩ (.int .i64 n) := opv_run fun tmps w hf _ => by
  subst ha
  simp [execOp, resolve, invoke, builtin, Builtin.len_, hf.opv D hx, underlying, program, Sem.run, hu, goInt]
theorem ov_capL {dd el : TypeId} {a : Option Addr} {n c : Nat} {aty : Array TypeId} (hx : opv E x = some (.slice a n c)) (hu : C.P.underlying dd = some (.slice el)) (ha : aty = #[dd]) :
    OpV C S w0 H D E ⟨d, .call { callee := .builtin .cap, args := #[x], argTypes := aty }, t, p, af, g⟩ (.int .i64 c) := opv_run fun tmps w hf _ => by
  subst ha
  simp [execOp, resolve, invoke, builtin, Builtin.cap_, hf.opv D hx, underlying, program, Sem.run, hu, goInt]
theorem ov_lenA {dd el : TypeId} {n : Nat} {aty : Array TypeId} (hx : opv E x = some v) (hu : C.P.underlying dd = some (.array n el)) (ha : aty = #[dd]) :
    OpV C S w0 H D E ⟨d, .call { callee := .builtin .len, args := #[x], argTypes := aty }, t, p, af, g⟩ (.int .i64 n) := opv_run fun tmps w hf _ => by
  subst ha
  simp [execOp, resolve, invoke, builtin, Builtin.len_, hf.opv D hx, underlying, program, Sem.run, hu, goInt]

theorem ov_indexS {l : List UInt8} {i : Int} {kk : IntKind} (hu : C.P.underlying t' = some .string) (hx : opv E x = some (str l)) (hy : opv E y = some (.int kk i)) (h0 : 0 ≤ i) (h1 : i < l.length) :
    OpV C S w0 H D E ⟨d, .index t' x y, t, p, af, g⟩ (.int .u8 (bt l i)) := opv_run fun tmps w hf _ => by
  have hlt : i.toNat < l.length := by omega
  have he : (⟨l.toArray⟩ : ByteArray)[i.toNat]? = some l[i.toNat] := by
    have hsz : i.toNat < (⟨l.toArray⟩ : ByteArray).size := by show i.toNat < l.toArray.size; simpa using hlt
    rw [getElem?_pos (⟨l.toArray⟩ : ByteArray) i.toNat hsz]
    rfl
  simp [execOp, Instr.index, hf.opv D hx, hf.opv D hy, asIntOf, underlying, program, Sem.run, hu, h0, he, bt, List.getElem?_eq_getElem hlt]

theorem ext_list (l : List UInt8) (a b : Nat) : (⟨l.toArray⟩ : ByteArray).extract a b = ⟨((l.take b).drop a).toArray⟩ := by
  apply ByteArray.ext
  simp [ByteArray.data_extract, List.drop_take]
theorem size_list (l : List UInt8) : (⟨l.toArray⟩ : ByteArray).size = l.length := by show l.toArray.size = _; simp

def bnd (o : Option Value) (dflt : Nat) : Option Nat :=
  match o with
  | some (.int _ n) => if 0 ≤ n then some n.toNat else none
  | some _ => none
  | none => some dflt

/-- 's[lo:hi]' of a string. -/
theorem ov_sliceS {l : List UInt8} {lo hi : Option Operand} {a b : Nat} (hu : C.P.underlying t' = some .string) (hx : opv E x = some (str l))
    (hlo : (match lo with | none => a = 0 | some o => ∃ kk i, opv E o = some (.int kk i) ∧ 0 ≤ i ∧ i.toNat = a)) (hhi : (match hi with | none => b = l.length | some o => ∃ kk i, opv E o = some (.int kk i) ∧ 0 ≤ i ∧ i.toNat = b))
    (hab : a ≤ b) (hb : b ≤ l.length) :
    OpV C S w0 H D E ⟨d, .slice t' x lo hi none, t, p, af, g⟩ (str ((l.take b).drop a)) := opv_run fun tmps w hf _ => by
  have e1 : (Instr.sliceBounds false (⟨l.toArray⟩ : ByteArray).size (⟨l.toArray⟩ : ByteArray).size (lo.map ({ tmps := tmps, defers := D } : Act).eval) (hi.map ({ tmps := tmps, defers := D } : Act).eval) none).run C.P w = .ok (a, b, l.length) w := by
    unfold Instr.sliceBounds Instr.sliceBound
    rw [size_list]
    cases lo with
    | none =>
      simp only at hlo; subst hlo
      cases hi with
      | none => simp only at hhi; subst hhi; simp
      | some oh =>
        obtain ⟨kk, i, h1, h2, rfl⟩ := hhi
        simp [hf.opv D h1, asIntOf, h2, show i ≤ (l.length : Int) from by omega]
    | some ol =>
      obtain ⟨k2, i2, h3, h4, rfl⟩ := hlo
      cases hi with
      | none => simp only at hhi; subst hhi; simp [hf.opv D h3, asIntOf, h4, show i2 ≤ (l.length : Int) from by omega]
      | some oh =>
        obtain ⟨kk, i, h1, h2, rfl⟩ := hhi
        simp [hf.opv D h1, hf.opv D h3, asIntOf, h2, h4, show i ≤ (l.length : Int) from by omega, show i2 ≤ max i 0 from by omega]
  simp [execOp, Instr.sliceAt, Instr.slice, hf.opv D hx, underlying, program, Sem.run, hu, e1, ext_list]

/-! ### Integers -/
theorem ov_bin {op : BinOp} {xt yt : TypeId} (hx : opv E x = some v) (hy : opv E y = some u) {r : Value} (hg : op ≠ .eql ∧ op ≠ .neq) (h : ∀ w, (binOp op xt v u).run C.P w = .ok r w) : OpV C S w0 H D E ⟨d, .binOp op xt x y yt, t, p, af, g⟩ r := opv_run fun tmps w hf _ => by
  have : eqGuard op xt x y v u = pure () := by
    unfold eqGuard
    cases op <;> simp_all
  simp [execOp, hf.opv D hx, hf.opv D hy, this, h]

theorem ov_binE {op : BinOp} {xt yt : TypeId} (hx : opv E x = some v) (hy : opv E y = some u) {r : Value} (hgd : ∀ w, (eqGuard op xt x y v u).run C.P w = .ok () w) (h : ∀ w, (binOp op xt v u).run C.P w = .ok r w) : OpV C S w0 H D E ⟨d, .binOp op xt x y yt, t, p, af, g⟩ r := opv_run fun tmps w hf _ => by
  simp [execOp, hf.opv D hx, hf.opv D hy, hgd, h]

variable {a b : Int} {kk k2 : IntKind} {xt yt : TypeId}
theorem ov_add (hx : opv E x = some (.int kk a)) (hy : opv E y = some (.int kk b)) {r : Int} (h : kk.wrap (a + b) = r) : OpV C S w0 H D E ⟨d, .binOp .add xt x y yt, t, p, af, g⟩ (.int kk r) :=
  ov_bin hx hy ⟨by simp, by simp⟩ fun w => by simp [binOp, Op.intArith, h]
theorem ov_sub (hx : opv E x = some (.int kk a)) (hy : opv E y = some (.int kk b)) {r : Int} (h : kk.wrap (a - b) = r) : OpV C S w0 H D E ⟨d, .binOp .sub xt x y yt, t, p, af, g⟩ (.int kk r) :=
  ov_bin hx hy ⟨by simp, by simp⟩ fun w => by simp [binOp, Op.intArith, h]
theorem ov_mul (hx : opv E x = some (.int kk a)) (hy : opv E y = some (.int kk b)) {r : Int} (h : kk.wrap (a * b) = r) : OpV C S w0 H D E ⟨d, .binOp .mul xt x y yt, t, p, af, g⟩ (.int kk r) :=
  ov_bin hx hy ⟨by simp, by simp⟩ fun w => by simp [binOp, Op.intArith, h]
theorem ov_quo (hx : opv E x = some (.int kk a)) (hy : opv E y = some (.int kk b)) (h0 : b ≠ 0) {r : Int} (h : kk.wrap (a.tdiv b) = r) : OpV C S w0 H D E ⟨d, .binOp .quo xt x y yt, t, p, af, g⟩ (.int kk r) :=
  ov_bin hx hy ⟨by simp, by simp⟩ fun w => by simp [binOp, Op.intDiv, h0, h]
theorem ov_rem (hx : opv E x = some (.int kk a)) (hy : opv E y = some (.int kk b)) (h0 : b ≠ 0) {r : Int} (h : a.tmod b = r) : OpV C S w0 H D E ⟨d, .binOp .rem xt x y yt, t, p, af, g⟩ (.int kk r) :=
  ov_bin hx hy ⟨by simp, by simp⟩ fun w => by simp [binOp, Op.intDiv, h0, h]
theorem ov_lss (hx : opv E x = some (.int kk a)) (hy : opv E y = some (.int kk b)) : OpV C S w0 H D E ⟨d, .binOp .lss xt x y yt, t, p, af, g⟩ (.bool (decide (a < b))) :=
  ov_bin hx hy ⟨by simp, by simp⟩ fun w => by simp [binOp, Op.intCmp]
theorem ov_leq (hx : opv E x = some (.int kk a)) (hy : opv E y = some (.int kk b)) : OpV C S w0 H D E ⟨d, .binOp .leq xt x y yt, t, p, af, g⟩ (.bool (decide (a ≤ b))) :=
  ov_bin hx hy ⟨by simp, by simp⟩ fun w => by simp [binOp, Op.intCmp]
theorem ov_gtr (hx : opv E x = some (.int kk a)) (hy : opv E y = some (.int kk b)) : OpV C S w0 H D E ⟨d, .binOp .gtr xt x y yt, t, p, af, g⟩ (.bool (decide (b < a))) :=
  ov_bin hx hy ⟨by simp, by simp⟩ fun w => by simp [binOp, Op.intCmp]
theorem ov_geq (hx : opv E x = some (.int kk a)) (hy : opv E y = some (.int kk b)) : OpV C S w0 H D E ⟨d, .binOp .geq xt x y yt, t, p, af, g⟩ (.bool (decide (b ≤ a))) :=
  ov_bin hx hy ⟨by simp, by simp⟩ fun w => by simp [binOp, Op.intCmp]
theorem ov_eql (hx : opv E x = some (.int kk a)) (hy : opv E y = some (.int kk b)) : OpV C S w0 H D E ⟨d, .binOp .eql xt x y yt, t, p, af, g⟩ (.bool (decide (a = b))) :=
  ov_binE hx hy (fun w => by simp [eqGuard]) fun w => by simp [binOp, Op.intCmp]; rfl
theorem ov_neq (hx : opv E x = some (.int kk a)) (hy : opv E y = some (.int kk b)) : OpV C S w0 H D E ⟨d, .binOp .neq xt x y yt, t, p, af, g⟩ (.bool (!decide (a = b))) :=
  ov_binE hx hy (fun w => by simp [eqGuard]) fun w => by simp [binOp, Op.intCmp]; rfl
theorem ov_shl (hx : opv E x = some (.int kk a)) (hy : opv E y = some (.int k2 b)) (h0 : 0 ≤ b) {r : Int} (h : kk.wrap (a * 2 ^ (min b.toNat kk.bits)) = r) : OpV C S w0 H D E ⟨d, .binOp .shl xt x y yt, t, p, af, g⟩ (.int kk r) :=
  ov_bin hx hy ⟨by simp, by simp⟩ fun w => by simp [binOp, Op.shift, show ¬ b < 0 from by omega, h]
theorem ov_shr (hx : opv E x = some (.int kk a)) (hy : opv E y = some (.int k2 b)) (h0 : 0 ≤ b) {r : Int} (h : a.fdiv (2 ^ (min b.toNat kk.bits)) = r) : OpV C S w0 H D E ⟨d, .binOp .shr xt x y yt, t, p, af, g⟩ (.int kk r) :=
  ov_bin hx hy ⟨by simp, by simp⟩ fun w => by simp [binOp, Op.shift, show ¬ b < 0 from by omega, h]
theorem ov_and (hx : opv E x = some (.int kk a)) (hy : opv E y = some (.int kk b)) {r : Int} (h : kk.wrap (BitVec.ofInt kk.bits a &&& BitVec.ofInt kk.bits b).toNat = r) : OpV C S w0 H D E ⟨d, .binOp .and xt x y yt, t, p, af, g⟩ (.int kk r) :=
  ov_bin hx hy ⟨by simp, by simp⟩ fun w => by simp [binOp, Op.intBits]; simpa using h
theorem ov_or (hx : opv E x = some (.int kk a)) (hy : opv E y = some (.int kk b)) {r : Int} (h : kk.wrap (BitVec.ofInt kk.bits a ||| BitVec.ofInt kk.bits b).toNat = r) : OpV C S w0 H D E ⟨d, .binOp .or xt x y yt, t, p, af, g⟩ (.int kk r) :=
  ov_bin hx hy ⟨by simp, by simp⟩ fun w => by simp [binOp, Op.intBits]; simpa using h

/-! ### Strings compared and joined -/
theorem toList_list (l : List UInt8) : (⟨l.toArray⟩ : ByteArray).toList = l := by
  have h : ∀ (s : ByteArray) (i : Nat) (r : List UInt8), ByteArray.toList.loop s i r = r.reverse ++ s.data.toList.drop i := by
    intro s i r
    induction h : s.size - i generalizing i r with
    | zero =>
      rw [ByteArray.toList.loop, if_neg (by omega)]
      rw [List.drop_of_length_le (by show s.data.size ≤ i; have : s.size = s.data.size := rfl; omega)]; simp
    | succ n ih =>
      have hlt : i < s.size := by omega
      rw [ByteArray.toList.loop, if_pos hlt, ih (i + 1) _ (by omega)]
      rw [List.drop_eq_getElem_cons (l := s.data.toList) (i := i) (by simpa using hlt)]
      simp
      show s.data[i]! = _
      exact getElem!_pos s.data i hlt
  unfold ByteArray.toList
  rw [h]; simp
theorem ov_eqlS {l m : List UInt8} (hx : opv E x = some (str l)) (hy : opv E y = some (str m)) : OpV C S w0 H D E ⟨d, .binOp .eql xt x y yt, t, p, af, g⟩ (.bool (decide (l = m))) :=
  ov_binE hx hy (fun w => by simp [eqGuard]) fun w => by simp only [binOp, Op.stringOp, toList_list]; rw [show (l == m) = decide (l = m) from by rw [Bool.eq_iff_iff]; simp]; rfl
theorem ov_neqS {l m : List UInt8} (hx : opv E x = some (str l)) (hy : opv E y = some (str m)) : OpV C S w0 H D E ⟨d, .binOp .neq xt x y yt, t, p, af, g⟩ (.bool (!decide (l = m))) :=
  ov_binE hx hy (fun w => by simp [eqGuard]) fun w => by simp only [binOp, Op.stringOp, toList_list]; rw [show (l == m) = decide (l = m) from by rw [Bool.eq_iff_iff]; simp]; rfl
theorem ov_addS {l m : List UInt8} (hx : opv E x = some (str l)) (hy : opv E y = some (str m)) (h : l.length + m.length ≤ 9223372036854775807) : OpV C S w0 H D E ⟨d, .binOp .add xt x y yt, t, p, af, g⟩ (str (l ++ m)) :=
  ov_bin hx hy ⟨by simp, by simp⟩ fun w => by
    have h1 : ¬ (((⟨l.toArray⟩ : ByteArray).size + (⟨m.toArray⟩ : ByteArray).size : Nat) : Int) > IntKind.i64.max := by
      rw [size_list, size_list]
      have : IntKind.i64.max = 9223372036854775807 := by decide
      omega
    have h2 : (⟨l.toArray⟩ : ByteArray) ++ ⟨m.toArray⟩ = ⟨(l ++ m).toArray⟩ := by
      apply ByteArray.ext; simp
    simp only [binOp, Op.stringOp]
    rw [if_neg h1, h2]; rfl
theorem run_equal_bool {P : Program} {l m : Bool} (hu : P.underlying xt = some .bool) (w : World) : (Op.equal xt (.bool l) (.bool m)).run P w = .ok (l == m) w := by
  have : ∀ n, (Op.equalIn (n + 1) xt (.bool l) (.bool m)).run P w = .ok (l == m) w := fun n => by
    simp [Op.equalIn, underlying, program, Sem.run, hu]
  exact this 9999
theorem ov_eqlB {l m : Bool} (hu : C.P.underlying xt = some .bool) (hx : opv E x = some (.bool l)) (hy : opv E y = some (.bool m)) : OpV C S w0 H D E ⟨d, .binOp .eql xt x y yt, t, p, af, g⟩ (.bool (l == m)) :=
  ov_binE hx hy (fun w => by simp [eqGuard]) fun w => by simp [binOp, run_equal_bool hu]
theorem ov_neqB {l m : Bool} (hu : C.P.underlying xt = some .bool) (hx : opv E x = some (.bool l)) (hy : opv E y = some (.bool m)) : OpV C S w0 H D E ⟨d, .binOp .neq xt x y yt, t, p, af, g⟩ (.bool (!(l == m))) :=
  ov_binE hx hy (fun w => by simp [eqGuard]) fun w => by simp [binOp, run_equal_bool hu]

theorem ov_not {l : Bool} (hx : opv E x = some (.bool l)) : OpV C S w0 H D E ⟨d, .unOp .not xt x, t, p, af, g⟩ (.bool (!l)) := opv_run fun tmps w hf _ => by simp [execOp, hf.opv D hx, Op.unary]
theorem ov_neg (hx : opv E x = some (.int kk a)) {r : Int} (h : kk.wrap (0 - a) = r) : OpV C S w0 H D E ⟨d, .unOp .neg xt x, t, p, af, g⟩ (.int kk r) := opv_run fun tmps w hf _ => by
  simp [execOp, hf.opv D hx, Op.unary, Op.intArith]; simpa using h

theorem ov_convI {ds : TypeDesc} {k1 : IntKind} (hs : C.P.underlying xt = some ds) (hd : C.P.underlying yt = some (.int k1)) (hx : opv E x = some (.int kk a)) {r : Int} (h : k1.wrap a = r) : OpV C S w0 H D E ⟨d, .convert xt yt x, t, p, af, g⟩ (.int k1 r) := opv_run fun tmps w hf _ => by
  simp [execOp, hf.opv D hx, convert, underlying, program, Sem.run, hs, hd, Conv.intToInt, h]

theorem ov_iface {dd : TypeDesc} (hu : C.P.underlying xt = some dd) (hd : (match dd with | .interface _ => false | _ => true) = true) (hx : opv E x = some v) : OpV C S w0 H D E ⟨d, .makeInterface xt x, t, p, af, g⟩ (.iface xt v) := opv_run fun tmps w hf _ => by
  cases dd <;> simp_all [execOp, Instr.makeInterface, underlying, program, Sem.run, hf.opv D hx]

def opvs (E : List (Nat × Value)) : List Operand → Option (List Value)
  | [] => some []
  | x :: r => match opv E x, opvs E r with
    | some v, some vs => some (v :: vs)
    | _, _ => none

theorem Fits.opvs {n : Nat} {tmps : Array Value} (h : Fits E n tmps) : ∀ {xs : List Operand} {vs : List Value}, opvs E xs = some vs → xs.map ({ tmps := tmps, defers := D } : Act).eval = vs
  | [], _, e => by cases e; rfl
  | x :: r, vs, e => by
    simp only [Sl.opvs] at e
    cases h1 : Sl.opv E x with
    | none => rw [h1] at e; simp at e
    | some v =>
      cases h2 : Sl.opvs E r with
      | none => rw [h1, h2] at e; simp at e
      | some rs =>
        rw [h1, h2] at e; simp at e
        rw [List.map_cons, h.opv D h1, h.opvs h2, e]

theorem Fits.opvsA {n : Nat} {tmps : Array Value} (h : Fits E n tmps) {xs : Array Operand} {vs : List Value} (e : Sl.opvs E xs.toList = some vs) : xs.map ({ tmps := tmps, defers := D } : Act).eval = vs.toArray := by
  have := h.opvs (D := D) e
  apply Array.ext'
  simpa using this

theorem ov_makeFunc {f : Fn} {fs cs : Array Operand} {vs us : List Value} (h1 : opvs E fs.toList = some vs) (h2 : opvs E cs.toList = some us) : OpV C S w0 H D E ⟨d, .makeFunc f fs cs, t, p, af, g⟩ (.func f vs.toArray us.toArray) := opv_run fun tmps w hf _ => by
  simp [execOp, hf.opvsA h1, hf.opvsA h2, Instr.makeFunc]

theorem ov_extract {vs : Array Value} {i : Nat} (hx : opv E x = some (.tuple vs)) (h : vs[i]? = some v) : OpV C S w0 H D E ⟨d, .extract x i, t, p, af, g⟩ v := opv_run fun tmps w hf _ => by
  simp [execOp, hf.opv D hx, Instr.extract, h]
end
end Go.Sl

namespace Go.Sl
open Go Go.RowKit Go.Shelf Go.Proofs

/-- One writable block holds another thing. -/
inductive Upd (b : Nat) (o o' : Obj) : List Ent → List Ent → Prop
  | head (H : List Ent) : Upd b o o' (⟨b, true, o⟩ :: H) (⟨b, true, o'⟩ :: H)
  | tail (e : Ent) {H H' : List Ent} (h : Upd b o o' H H') : Upd b o o' (e :: H) (e :: H')

theorem Upd.mem {b : Nat} {o o' : Obj} {H H' : List Ent} (h : Upd b o o' H H') : (⟨b, true, o⟩ : Ent) ∈ H := by
  induction h with
  | head => exact .head _
  | tail e _ ih => exact .tail _ ih
theorem Upd.keys {b : Nat} {o o' : Obj} {H H' : List Ent} (h : Upd b o o' H H') : H'.map Ent.b = H.map Ent.b := by
  induction h with
  | head => rfl
  | tail e _ ih => simp [ih]
theorem Upd.old {b : Nat} {o o' : Obj} {H H' : List Ent} (h : Upd b o o' H H') (hn : (H.map Ent.b).Nodup) : ∀ e ∈ H', e = ⟨b, true, o'⟩ ∨ (e ∈ H ∧ e.b ≠ b) := by
  induction h with
  | head H =>
    intro e he
    cases he with
    | head => exact .inl rfl
    | tail _ he =>
      refine .inr ⟨.tail _ he, ?_⟩
      simp only [List.map_cons, List.nodup_cons, List.mem_map, not_exists, not_and] at hn
      exact hn.1 e he
  | tail e0 hu ih =>
    intro e he
    simp only [List.map_cons, List.nodup_cons, List.mem_map, not_exists, not_and] at hn
    cases he with
    | head => exact .inr ⟨.head _, fun hb => hn.1 _ hu.mem hb.symm⟩
    | tail _ he =>
      rcases ih hn.2 e he with h | ⟨h1, h2⟩
      · exact .inl h
      · exact .inr ⟨.tail _ h1, h2⟩

/-- A writable block is taken off the list. -/
inductive Del (b : Nat) : List Ent → List Ent → Prop
  | head (o : Obj) (H : List Ent) : Del b (⟨b, true, o⟩ :: H) H
  | tail (e : Ent) {H H' : List Ent} (h : Del b H H') : Del b (e :: H) (e :: H')

theorem Del.sub {b : Nat} {H H' : List Ent} (h : Del b H H') : H'.Sublist H := by
  induction h with
  | head o H => exact List.sublist_cons_self _ _
  | tail e _ ih => exact ih.cons_cons e
theorem Del.mem {b : Nat} {H H' : List Ent} (h : Del b H H') : ∃ o, (⟨b, true, o⟩ : Ent) ∈ H := by
  induction h with
  | head o H => exact ⟨o, .head _⟩
  | tail e _ ih => obtain ⟨o, h⟩ := ih; exact ⟨o, .tail _ h⟩
theorem Del.ne {b : Nat} {H H' : List Ent} (h : Del b H H') (hn : (H.map Ent.b).Nodup) : ∀ e ∈ H', e.b ≠ b := by
  induction h with
  | head o H =>
    simp only [List.map_cons, List.nodup_cons, List.mem_map, not_exists, not_and] at hn
    exact hn.1
  | tail e0 hd ih =>
    simp only [List.map_cons, List.nodup_cons, List.mem_map, not_exists, not_and] at hn
    intro e he
    cases he with
    | head => obtain ⟨o, hm⟩ := hd.mem; exact fun hb => hn.1 _ hm hb.symm
    | tail _ he => exact ih hn.2 e he

theorem Fr.trans {S : Nat → Prop} {a b c : World} (h : Fr S a b) (k : Fr S b c) : Fr S a c :=
  ⟨k.os.trans h.os, k.tape.trans h.tape, k.output.trans h.output, Nat.le_trans h.size k.size, fun i hi hS => (k.block i (Nat.lt_of_lt_of_le hi h.size) hS).trans (h.block i hi hS)⟩
theorem Fr.mono {S S' : Nat → Prop} {a b : World} (h : Fr S a b) (hs : ∀ k, S k → S' k) : Fr S' a b :=
  ⟨h.os, h.tape, h.output, h.size, fun i hi hS => h.block i hi fun h1 => hS (hs _ h1)⟩
abbrev none_ : Nat → Prop := fun _ => False
theorem Fr.of_below {a b : World} (h : Below a.heap.size a b) : Fr none_ a b := ⟨h.os, h.tape, h.output, h.size, fun k hk _ => h.block k hk⟩
theorem Fr.below {a b : World} (h : Fr none_ a b) : Below a.heap.size a b := ⟨h.os, h.tape, h.output, h.size, fun k hk => h.block k hk (fun h => h)⟩

theorem Inv.start (S : Nat → Prop) (w : World) : Inv S w [] w := ⟨Fr.refl S w, List.nodup_nil, fun _ h => (List.not_mem_nil h).elim, fun _ h => (List.not_mem_nil h).elim⟩

/-- One old block is known at the start. -/
theorem Inv.know {S : Nat → Prop} {w0 w : World} {H : List Ent} {b : Nat} {o : Obj} (hi : Inv S w0 H w) (h : w.heap[b]? = some o) (hn : ∀ e ∈ H, e.b ≠ b) : Inv S w0 (⟨b, false, o⟩ :: H) w :=
  ⟨hi.fr, by simp only [List.map_cons, List.nodup_cons, List.mem_map, not_exists, not_and]; exact ⟨hn, hi.nd⟩, fun e he => by
    cases he with
    | head => exact h
    | tail _ he => exact hi.hb e he, fun e he => by
    cases he with
    | head => intro h; cases h
    | tail _ he => exact hi.wr e he⟩
theorem Inv.own {S : Nat → Prop} {w0 w : World} {H : List Ent} {b : Nat} {o : Obj} (hi : Inv S w0 H w) (h : w.heap[b]? = some o) (hs : S b ∨ w0.heap.size ≤ b) (hn : ∀ e ∈ H, e.b ≠ b) : Inv S w0 (⟨b, true, o⟩ :: H) w :=
  ⟨hi.fr, by simp only [List.map_cons, List.nodup_cons, List.mem_map, not_exists, not_and]; exact ⟨hn, hi.nd⟩, fun e he => by
    cases he with
    | head => exact h
    | tail _ he => exact hi.hb e he, fun e he => by
    cases he with
    | head => intro _; exact hs
    | tail _ he => exact hi.wr e he⟩

theorem Inv.lt {S : Nat → Prop} {w0 w : World} {H : List Ent} (hi : Inv S w0 H w) {e : Ent} (he : e ∈ H) : e.b < w.heap.size := by
  have := hi.hb e he
  exact (Array.getElem?_eq_some_iff.1 this).1

theorem Inv.new {S : Nat → Prop} {w0 w : World} {H : List Ent} (hi : Inv S w0 H w) (o : Obj) : Inv S w0 (⟨w.heap.size, true, o⟩ :: H) { w with heap := w.heap.push o } := by
  have hold : ∀ k, k < w.heap.size → (w.heap.push o)[k]? = w.heap[k]? := fun k hk => by rw [Array.getElem?_push, if_neg (by omega)]
  refine ⟨⟨hi.fr.os, hi.fr.tape, hi.fr.output, by simp; exact Nat.le_succ_of_le hi.fr.size, fun k hk hS => ?_⟩, ?_, ?_, ?_⟩
  · show (w.heap.push o)[k]? = _
    rw [hold k (Nat.lt_of_lt_of_le hk hi.fr.size)]; exact hi.fr.block k hk hS
  · simp only [List.map_cons, List.nodup_cons, List.mem_map, not_exists, not_and]
    exact ⟨fun e he h => by have := hi.lt he; omega, hi.nd⟩
  · intro e he
    cases he with
    | head => show (w.heap.push o)[w.heap.size]? = _; simp
    | tail _ he => show (w.heap.push o)[e.b]? = _; rw [hold _ (hi.lt he)]; exact hi.hb e he
  · intro e he h
    cases he with
    | head => exact .inr hi.fr.size
    | tail _ he => exact hi.wr e he h

theorem Inv.drew {S : Nat → Prop} {w0 w : World} {H : List Ent} (hi : Inv S w0 H w) : Inv S w0 H { w with drawn := w.drawn + 1 } :=
  ⟨⟨hi.fr.os, hi.fr.tape, hi.fr.output, hi.fr.size, hi.fr.block⟩, hi.nd, hi.hb, hi.wr⟩

/-- A world in which one writable block holds another thing. -/
theorem Inv.upd {S : Nat → Prop} {w0 w w' : World} {H H' : List Ent} {b : Nat} {o o' : Obj} (hi : Inv S w0 H w) (hu : Upd b o o' H H') (h1 : w'.os = w.os) (h2 : w'.tape = w.tape) (h3 : w'.output = w.output)
    (h4 : w'.heap.size = w.heap.size) (h5 : ∀ k, k ≠ b → w'.heap[k]? = w.heap[k]?) (h6 : w'.heap[b]? = some o') : Inv S w0 H' w' := by
  have hb := hi.wr _ hu.mem rfl
  refine ⟨⟨h1.trans hi.fr.os, h2.trans hi.fr.tape, h3.trans hi.fr.output, by rw [h4]; exact hi.fr.size, fun k hk hS => ?_⟩, by rw [hu.keys]; exact hi.nd, ?_, ?_⟩
  · rw [h5 k (by rintro rfl; rcases hb with h | h; exact hS h; simp only at h; omega)]; exact hi.fr.block k hk hS
  · intro e he
    rcases hu.old hi.nd e he with rfl | ⟨h, hne⟩
    · exact h6
    · rw [h5 _ hne]; exact hi.hb e h
  · intro e he hr
    rcases hu.old hi.nd e he with rfl | ⟨h, hne⟩
    · exact hb
    · exact hi.wr e h hr

/-- Behind a call that has written blocks of S' alone, and laid Hn. -/
theorem Inv.call {S S' : Nat → Prop} {w0 w w' : World} {H Hr Hn : List Ent} (hi : Inv S w0 H w) (hn : Inv S' w Hn w') (hrw : ∀ e ∈ Hn, e.rw = true) (hS : ∀ k, S' k → S k ∨ w0.heap.size ≤ k)
    (hsub : Hr.Sublist H) (hne : ∀ e ∈ Hr, ¬ S' e.b) : Inv S w0 (Hn ++ Hr) w' := by
  have hi' := hi.subset hsub
  refine ⟨⟨hn.fr.os.trans hi.fr.os, hn.fr.tape.trans hi.fr.tape, hn.fr.output.trans hi.fr.output, Nat.le_trans hi.fr.size hn.fr.size, fun k hk hk2 => ?_⟩, ?_, ?_, ?_⟩
  · rw [hn.fr.block k (Nat.lt_of_lt_of_le hk hi.fr.size) (fun h => by rcases hS k h with h | h; exact hk2 h; omega)]; exact hi.fr.block k hk hk2
  · rw [List.map_append, List.nodup_append]
    refine ⟨hn.nd, hi'.nd, ?_⟩
    intro a ha b hb
    obtain ⟨e, he, rfl⟩ := List.mem_map.1 ha
    obtain ⟨f, hf, rfl⟩ := List.mem_map.1 hb
    intro heq
    rcases hn.wr e he (hrw e he) with h | h
    · exact hne f hf (heq ▸ h)
    · have := hi'.lt hf; omega
  · intro e he
    rcases List.mem_append.1 he with h | h
    · exact hn.hb e h
    · rw [hn.fr.block _ (hi'.lt h) (hne e h)]; exact hi'.hb e h
  · intro e he hr
    rcases List.mem_append.1 he with h | h
    · rcases hn.wr e h (hrw e h) with h | h
      · exact hS _ h
      · exact .inr (Nat.le_trans hi.fr.size h)
    · exact hi'.wr e h hr

theorem Inv.quiet {S : Nat → Prop} {w0 w w' : World} {H : List Ent} (hi : Inv S w0 H w) (h : Fr none_ w w') : Inv S w0 H w' := by
  have := Inv.call (Hn := []) hi (S' := none_) ⟨h, List.nodup_nil, fun _ h => (List.not_mem_nil h).elim, fun _ h => (List.not_mem_nil h).elim⟩ (fun _ h => (List.not_mem_nil h).elim) (fun _ h => h.elim) (List.Sublist.refl H) (fun _ _ h => h)
  simpa using this

section
variable {C : Cx} {S : Nat → Prop} {w0 : World} {k : List Item} {D : List Deferred} {E : List (Nat × Value)} {H H' : List Ent}
variable {d : Option Tmp} {t t' : TypeId} {p : String} {af : Array Edge} {g : Option (Nat × Bool)} {x y z : Operand} {v u : Value} {ops : Array Oper} {rest : List Oper}

theorem nd_of {o : Oper} (h : (match o.op with | .defer _ => false | _ => true) = true) : ∀ c, o.op ≠ .defer c := by
  intro c hc; rw [hc] at h; cases h

theorem notfz {S : Nat → Prop} {w : World} {b off : Nat} {rw : Bool} {c : Array Value} {el : TypeId} {lo hi' : Nat} (hi : Inv S w0 H w) (hm : (⟨b, rw, .cells c el (lo, hi')⟩ : Ent) ∈ H) (hf : off < lo ∨ hi' ≤ off) : w.frozen? ⟨b, off, none⟩ = false := by
  have := hi.hb _ hm
  simp only at this
  unfold World.frozen?
  simp only [this]
  simp; omega

/-- A store of one value. -/
theorem wo_store {b off lo hi' : Nat} {c : Array Value} {el : TypeId} (hx : opv E x = some (.pointer (some ⟨b, off, none⟩))) (hy : opv E y = some v) (hv : (match v with | .agg _ | .tuple _ => false | _ => true) = true)
    (hs : (C.P.info? t').map (·.size) = some 1) (hu : Upd b (.cells c el (lo, hi')) (.cells (c.setIfInBounds off v) el (lo, hi')) H H') (hlt : off < c.size) (hf : off < lo ∨ hi' ≤ off)
    (hg : guardOk E ops ⟨d, .store t' x y, t, p, af, g⟩ = some true) (hd : dstOk d C.n = true) (h : WO C S w0 ops rest k D (putE d undef E) H') : WO C S w0 ops (⟨d, .store t' x y, t, p, af, g⟩ :: rest) k D E H := by
  refine wo_op hg hd fun w hi tmps hft => ?_
  rw [semAt_nd _ _ _ (nd_of rfl)]
  have hc : w.cell? ⟨b, off, none⟩ = some (c[off]'hlt) := hi.cell hu.mem (Array.getElem?_eq_getElem hlt)
  have hfz := notfz (S := S) hi hu.mem hf
  have hvc : v.cells = #[v] := by cases v <;> simp_all [Value.cells]
  cases hti : C.P.info? t' with
  | none => rw [hti] at hs; simp at hs
  | some ti =>
    rw [hti] at hs; simp at hs
    have hrun : (execOp ({ tmps := tmps, defers := D } : Act).eval (⟨d, .store t' x y, t, p, af, g⟩ : Oper)).run C.P w = .ok .skip (w.setCell ⟨b, off, none⟩ v) := by
      have e2 : (⟨b, off, none⟩ : Addr).add 0 = ⟨b, off, none⟩ := rfl
      have hst : (store ⟨b, off, none⟩ v).run C.P w = .ok () (w.setCell ⟨b, off, none⟩ v) := by
        cases v <;> simp_all [store, Sem.run]
      simp [execOp, hft.opv D hx, hft.opv D hy, Instr.storeAt, Instr.sureAddr, storeVar, sizeOf, typeInfo, program, Sem.run, hti, hs, hvc, storeCells, e2, hst]
    rw [hrun]
    refine h.go2 (hi.upd hu rfl rfl rfl (by simp [World.setCell]) (fun j hj => ?_) ?_)
    · simp only [World.setCell, Array.getElem?_modify]; rw [if_neg (by omega)]
    · have hb := hi.hb _ hu.mem
      simp only at hb
      simp only [World.setCell, Array.getElem?_modify, if_true, hb]
      simp

/-- A store into a variable of one cell. -/
theorem wo_storeB {b : Nat} {c0 : Value} {el : TypeId} (hx : opv E x = some (.pointer (some ⟨b, 0, none⟩))) (hy : opv E y = some v) (hv : (match v with | .agg _ | .tuple _ => false | _ => true) = true)
    (hs : (C.P.info? t').map (·.size) = some 1) (hu : Upd b (.cells #[c0] el (0, 0)) (.cells #[v] el (0, 0)) H H')
    (hg : guardOk E ops ⟨d, .store t' x y, t, p, af, g⟩ = some true) (hd : dstOk d C.n = true) (h : WO C S w0 ops rest k D (putE d undef E) H') : WO C S w0 ops (⟨d, .store t' x y, t, p, af, g⟩ :: rest) k D E H :=
  wo_store (c := #[c0]) hx hy hv hs (by exact hu) (by simp) (.inr (by simp)) hg hd h

theorem run_storeCells {P : Program} (b : Nat) : ∀ (vs : List Value) (off i : Nat) (w : World), (∀ v ∈ vs, (match v with | .agg _ | .tuple _ => false | _ => true) = true) →
    (∀ j, j < vs.length → (w.cell? ⟨b, off + i + j, none⟩).isSome ∧ w.frozen? ⟨b, off + i + j, none⟩ = false) →
    ∃ w', (storeCells ⟨b, off, none⟩ vs i).run P w = .ok () w' ∧ w'.os = w.os ∧ w'.tape = w.tape ∧ w'.output = w.output ∧ w'.heap.size = w.heap.size ∧ (∀ q, q ≠ b → w'.heap[q]? = w.heap[q]?) ∧
      ∀ c el fz, w.heap[b]? = some (.cells c el fz) → w'.heap[b]? = some (.cells ((vs.zipIdx (off + i)).foldl (fun c (p : Value × Nat) => c.setIfInBounds p.2 p.1) c) el fz)
  | [], off, i, w, _, _ => ⟨w, rfl, rfl, rfl, rfl, rfl, fun _ _ => rfl, fun c el fz h => by simpa using h⟩
  | v :: vs, off, i, w, hv, hc => by
    obtain ⟨h1, h2⟩ := hc 0 (by simp)
    obtain ⟨c0, hc0⟩ := Option.isSome_iff_exists.1 h1
    simp only [Nat.add_zero] at hc0 h2
    have hst : (store ⟨b, off + i, none⟩ v).run P w = .ok () (w.setCell ⟨b, off + i, none⟩ v) := by
      have hv1 := hv v (.head _)
      cases v <;> simp_all [store, Sem.run]
    obtain ⟨w', g1, g2, g3, g4, g5, g6, g7⟩ := run_storeCells (P := P) b vs off (i + 1) (w.setCell ⟨b, off + i, none⟩ v) (fun u hu => hv u (.tail _ hu)) (fun j hj => by
      obtain ⟨k1, k2⟩ := hc (j + 1) (by simp; omega)
      have e : off + (i + 1) + j = off + i + (j + 1) := by omega
      rw [e]
      constructor
      · unfold World.cell? at k1 ⊢
        simp only [World.setCell, Array.getElem?_modify, if_true]
        cases hb : w.heap[b]? with
        | none => simp [hb] at k1
        | some o =>
          cases o <;> simp_all
      · unfold World.frozen? at k2 ⊢
        simp only [World.setCell, Array.getElem?_modify, if_true]
        cases hb : w.heap[b]? with
        | none => simp
        | some o =>
          cases o <;> simp_all)
    refine ⟨w', ?_, g2, g3, g4, g5.trans (by simp [World.setCell]), fun q hq => (g6 q hq).trans ?_, fun c el fz hb => ?_⟩
    · simp only [storeCells, Sem.run_bind, add_addr, hst, Result.andThen_ok]
      exact g1
    · simp only [World.setCell, Array.getElem?_modify]; rw [if_neg (by omega)]
    · have := g7 (c.setIfInBounds (off + i) v) el fz (by simp [World.setCell, Array.getElem?_modify, hb])
      rw [this]
      simp [List.zipIdx_cons]
      rfl

/-- A store of a struct or an array. -/
theorem wo_storeA {b off lo hi' : Nat} {c cs c' : Array Value} {el : TypeId} (hx : opv E x = some (.pointer (some ⟨b, off, none⟩))) (hy : opv E y = some (.agg cs)) (hv : ∀ v ∈ cs.toList, (match v with | .agg _ | .tuple _ => false | _ => true) = true)
    (hs : (C.P.info? t').map (·.size) = some cs.size) (hc' : (cs.toList.zipIdx off).foldl (fun c (p : Value × Nat) => c.setIfInBounds p.2 p.1) c = c') (hu : Upd b (.cells c el (lo, hi')) (.cells c' el (lo, hi')) H H') (hlt : off + cs.size ≤ c.size) (hf : off + cs.size ≤ lo ∨ hi' ≤ off)
    (hg : guardOk E ops ⟨d, .store t' x y, t, p, af, g⟩ = some true) (hd : dstOk d C.n = true) (h : WO C S w0 ops rest k D (putE d undef E) H') : WO C S w0 ops (⟨d, .store t' x y, t, p, af, g⟩ :: rest) k D E H := by
  refine wo_op hg hd fun w hi tmps hft => ?_
  rw [semAt_nd _ _ _ (nd_of rfl)]
  obtain ⟨w', g1, g2, g3, g4, g5, g6, g7⟩ := run_storeCells (P := C.P) b cs.toList off 0 w hv (fun j hj => by
    have hj' : j < cs.size := by simpa using hj
    refine ⟨?_, notfz (S := S) hi hu.mem (by omega)⟩
    rw [hi.cell (off := off + 0 + j) hu.mem (Array.getElem?_eq_getElem (by omega))]; rfl)
  cases hti : C.P.info? t' with
  | none => rw [hti] at hs; simp at hs
  | some ti =>
    rw [hti] at hs; simp at hs
    have hrun : (execOp ({ tmps := tmps, defers := D } : Act).eval (⟨d, .store t' x y, t, p, af, g⟩ : Oper)).run C.P w = .ok .skip w' := by
      simp [execOp, hft.opv D hx, hft.opv D hy, Instr.storeAt, Instr.sureAddr, storeVar, sizeOf, typeInfo, program, Sem.run, hti, hs, Value.cells, g1]
    rw [hrun]
    refine h.go2 (hi.upd hu g2 g3 g4 g5 g6 ?_)
    rw [g7 c el (lo, hi') (hi.hb _ hu.mem), ← hc']
    simp

/-- A new variable of a type. -/
theorem wo_alloc {ti : TypeInfo} {zv : Value} {cs : Array Value} (hi : C.P.info? t' = some ti) (hz : ti.zero = some zv) (hcs : zv.cells = cs) (hg : guardOk E ops ⟨d, .alloc t', t, p, af, g⟩ = some true) (hd : dstOk d C.n = true)
    (h : ∀ b, w0.heap.size ≤ b → WO C S w0 ops rest k D (putE d (.pointer (some ⟨b, 0, none⟩)) E) (⟨b, true, .cells cs t' (0, 0)⟩ :: H)) : WO C S w0 ops (⟨d, .alloc t', t, p, af, g⟩ :: rest) k D E H := by
  refine wo_op hg hd fun w hiv tmps hft => ?_
  rw [semAt_nd _ _ _ (nd_of rfl)]
  have hrun : (execOp ({ tmps := tmps, defers := D } : Act).eval (⟨d, .alloc t', t, p, af, g⟩ : Oper)).run C.P w = .ok (.value (.pointer (some ⟨w.heap.size, 0, none⟩))) { w with heap := w.heap.push (.cells cs t' (0, 0)) } := by
    simp [execOp, Instr.alloc, zeroValue, typeInfo, program, Sem.run, hi, hz, newVar, newRow, hcs]
  rw [hrun]
  exact (h _ hiv.fr.size).go2 (hiv.new _)

/-- A new variable that holds a value. -/
theorem wo_box {cs : Array Value} (hx : opv E x = some v) (hcs : v.cells = cs) (hg : guardOk E ops ⟨d, .box t' x, t, p, af, g⟩ = some true) (hd : dstOk d C.n = true)
    (h : ∀ b, w0.heap.size ≤ b → WO C S w0 ops rest k D (putE d (.pointer (some ⟨b, 0, none⟩)) E) (⟨b, true, .cells cs t' (0, 0)⟩ :: H)) : WO C S w0 ops (⟨d, .box t' x, t, p, af, g⟩ :: rest) k D E H := by
  refine wo_op hg hd fun w hiv tmps hft => ?_
  rw [semAt_nd _ _ _ (nd_of rfl)]
  have hrun : (execOp ({ tmps := tmps, defers := D } : Act).eval (⟨d, .box t' x, t, p, af, g⟩ : Oper)).run C.P w = .ok (.value (.pointer (some ⟨w.heap.size, 0, none⟩))) { w with heap := w.heap.push (.cells cs t' (0, 0)) } := by
    simp [execOp, hft.opv D hx, Instr.box, newVar, newRow, hcs]
  rw [hrun]
  exact (h _ hiv.fr.size).go2 (hiv.new _)

/-! ### Calls -/
/-- To which function, with which arguments, a call goes. -/
def callTo (E : List (Nat × Value)) (c : Call) : Option (FuncId × List Value) :=
  match c.callee with
  | .value f => match opv E f, opvs E c.args.toList with
    | some (.func (.func f) first captured), some vs => some (f, first.toList ++ vs ++ captured.toList)
    | _, _ => none
  | _ => none

theorem run_call {tmps : Array Value} {c : Call} {f : FuncId} {vs : List Value} {w : World} (hft : Fits E C.n tmps) (hc : callTo E c = some (f, vs)) (he : Enters C.P f) :
    (execOp ({ tmps := tmps, defers := D } : Act).eval (⟨d, .call c, t, p, af, g⟩ : Oper)).run C.P w = .ok (.enter f vs.toArray) w := by
  unfold callTo at hc
  split at hc
  · rename_i fo hfo
    split at hc
    · rename_i f' fs cs us h1 h2
      simp at hc
      obtain ⟨rfl, rfl⟩ := hc
      have h3 := hft.opvsA (D := D) h2
      simp [execOp, resolve, hfo, hft.opv D h1, Deferred.ofValue, h3, invoke]
      have := he (fs ++ us.toArray ++ cs) w
      have e2 : fs ++ us.toArray ++ cs = (fs.toList ++ (us ++ cs.toList)).toArray := by apply Array.ext'; simp
      rw [e2] at this
      have e3 : fs ++ (us.toArray ++ cs) = (fs.toList ++ (us ++ cs.toList)).toArray := by apply Array.ext'; simp
      first
        | exact this
        | (rw [e3]; exact this)
        | (rw [e2]; exact this)
    · cases hc
  · cases hc

/-- A call that hands back one value and turns nothing that is known. -/
theorem ov_call {c : Call} {f : FuncId} {vs : List Value} (hc : callTo E c = some (f, vs)) (he : Enters C.P f)
    (h : ∀ w, Inv S w0 H w → Calls C.P f vs.toArray w fun e w' => e = .returned v ∧ Fr none_ w w') : OpV C S w0 H D E ⟨d, .call c, t, p, af, g⟩ v := fun tmps w hft hi => by
  unfold Oper.quietAt
  rw [run_call hft hc he]
  exact ⟨rfl, (h w hi).mono fun e w' ⟨h1, h2⟩ => ⟨h1, hi.quiet h2⟩⟩

/-- A call, by whatever contract. -/
theorem wo_call {c : Call} {f : FuncId} {vs : List Value} {R : World → Ending → World → Prop} (hc : callTo E c = some (f, vs)) (he : Enters C.P f) (hg : guardOk E ops ⟨d, .call c, t, p, af, g⟩ = some true) (hd : dstOk d C.n = true)
    (h : ∀ w, Inv S w0 H w → Calls C.P f vs.toArray w (R w))
    (hk : ∀ w e w', Inv S w0 H w → R w e w' → match e with
      | .returned v => Go2 C ops rest k D (putE d v E) w'
      | .panicked chain => GoP C chain D E w'
      | .outgrown => False) : WO C S w0 ops (⟨d, .call c, t, p, af, g⟩ :: rest) k D E H := by
  refine wo_op hg hd fun w hiv tmps hft => ?_
  rw [semAt_nd _ _ _ (nd_of rfl), run_call hft hc he]
  refine (h w hiv).mono fun e w' hR => ?_
  have := hk w e w' hiv hR
  cases e <;> exact this

/-- What a function that returns leaves: a value, and blocks that are new or of S. -/
def Ret (S : Nat → Prop) (w : World) (Q : Value → List Ent → Prop) : Ending → World → Prop := fun e w' =>
  ∃ v Hn, e = .returned v ∧ Q v Hn ∧ Inv S w Hn w' ∧ ∀ e ∈ Hn, e.rw = true

/-- A call that writes no old block, and lays new ones. -/
theorem wo_call0 {c : Call} {f : FuncId} {vs : List Value} {Q : Value → List Ent → Prop} (hc : callTo E c = some (f, vs)) (he : Enters C.P f) (hg : guardOk E ops ⟨d, .call c, t, p, af, g⟩ = some true) (hd : dstOk d C.n = true)
    (h : ∀ w, Inv S w0 H w → Calls C.P f vs.toArray w (Ret none_ w Q)) (hk : ∀ v Hn, Q v Hn → WO C S w0 ops rest k D (putE d v E) (Hn ++ H)) : WO C S w0 ops (⟨d, .call c, t, p, af, g⟩ :: rest) k D E H := by
  refine wo_call (R := fun w => Ret none_ w Q) hc he hg hd h ?_
  rintro w e w' hi ⟨v, Hn, rfl, hq, hn, hrw⟩
  exact (hk v Hn hq).go2 (hi.call hn hrw (fun _ h => h.elim) (List.Sublist.refl H) (fun _ _ h => h))

/-- A call that writes one old block. -/
theorem wo_call1 {b : Nat} {c : Call} {f : FuncId} {vs : List Value} {Q : Value → List Ent → Prop} (hb : Del b H H') (hc : callTo E c = some (f, vs)) (he : Enters C.P f) (hg : guardOk E ops ⟨d, .call c, t, p, af, g⟩ = some true) (hd : dstOk d C.n = true)
    (h : ∀ w, Inv S w0 H w → Calls C.P f vs.toArray w (Ret (· = b) w Q)) (hk : ∀ v Hn, Q v Hn → WO C S w0 ops rest k D (putE d v E) (Hn ++ H')) : WO C S w0 ops (⟨d, .call c, t, p, af, g⟩ :: rest) k D E H := by
  refine wo_call (R := fun w => Ret (· = b) w Q) hc he hg hd h ?_
  rintro w e w' hi ⟨v, Hn, rfl, hq, hn, hrw⟩
  refine (hk v Hn hq).go2 (hi.call hn hrw (fun k h => ?_) hb.sub (fun e he => hb.ne hi.nd e he))
  obtain ⟨o, hm⟩ := hb.mem
  exact h ▸ hi.wr _ hm rfl

/-! ### The two ends of a function -/
def TCall (P : Program) (f : FuncId) (R : Ending → World → Prop) : List Frame → Machine → Prop := fun cs m =>
  ∃ e w' fr, R e w' ∧ e ≠ .outgrown ∧ m = lone fr cs w' ∧ fr.fn = f ∧ fr.leaving P w' e

def cxOf (P : Program) (f : FuncId) (fn : Func) (R : Ending → World → Prop) : Cx := { P := P, b := { (default : Frame) with fn := f, kind := .normal }, n := fn.ntmps, T := TCall P f R }

def args0 : Nat → List Value → List (Nat × Value)
  | _, [] => []
  | i, v :: vs => (i, v) :: args0 (i + 1) vs

theorem look_args0 : ∀ (i : Nat) (vs : List Value) (t : Nat) (v : Value), look (args0 i vs) t = some v → i ≤ t ∧ vs[t - i]? = some v
  | i, [], t, v, h => by cases h
  | i, u :: vs, t, v, h => by
    simp only [args0] at h
    rw [look_cons] at h
    by_cases e : i = t
    · subst e; rw [if_pos rfl] at h; cases h; simp
    · rw [if_neg e] at h
      obtain ⟨h1, h2⟩ := look_args0 (i + 1) vs t v h
      refine ⟨by omega, ?_⟩
      rw [show t - i = (t - (i + 1)) + 1 from by omega]; simpa using h2

theorem calls_of_WF {P : Program} {f : FuncId} {fn : Func} {c : Code} {vs : List Value} {w : World} {R : Ending → World → Prop} {S : Nat → Prop} {H : List Ent} (hf : P.funcs[f]? = some fn) (hb : fn.body = some c) (hn : Nat.ble vs.length fn.ntmps = true)
    (hi : Inv S w H w) (h : WF (cxOf P f fn R) S w [.code c] [] (args0 0 vs) H) : Calls P f vs.toArray w R := by
  intro cs
  have hn' : vs.length ≤ fn.ntmps := by simpa using hn
  have henter : Frame.enter P f vs.toArray .normal = (cxOf P f fn R).b.atR { tmps := vs.toArray ++ Array.replicate (fn.ntmps - vs.length) undef, defers := [] } [.code c] := by
    simp [Frame.enter, Frame.atR, hf, hb, cxOf]
    rfl
  obtain ⟨m, ⟨e, w', fr, hR, hne, rfl, hfn, hl⟩, hs⟩ := h w hi (vs.toArray ++ Array.replicate (fn.ntmps - vs.length) undef) ⟨by simp [cxOf]; omega, fun t v hv => by
    obtain ⟨_, h2⟩ := look_args0 0 vs t v hv
    simp only [Nat.sub_zero] at h2
    have hlt : t < vs.length := by
      rcases Nat.lt_or_ge t vs.length with h | h
      · exact h
      · rw [List.getElem?_eq_none h] at h2; cases h2
    rw [Array.getElem?_append_left (by simpa using hlt)]; simpa using h2⟩ cs
  refine ⟨e, w', fr, hR, ?_, hfn, hl⟩
  rw [henter]
  cases e with
  | returned v => exact hs
  | panicked ch => exact hs
  | outgrown => exact absurd rfl hne

variable {P : Program} {f : FuncId} {fn : Func} {R : Ending → World → Prop}

/-- The results, where each is a slot. -/
def resv (E : List (Nat × Value)) : List ResultVar → Option (List Value)
  | [] => some []
  | .tmp t :: r => match look E t, resv E r with
    | some v, some vs => some (v :: vs)
    | _, _ => none
  | _ :: _ => none

def tup (vs : List Value) : Value :=
  match vs with
  | [v] => v
  | vs => .tuple vs.toArray

theorem run_results {tmps : Array Value} {vs : List Value} {w : World} {n : Nat} (hft : Fits E n tmps) (h : resv E fn.results.toList = some vs) : (results fn tmps).run P w = .ok (tup vs) w := by
  have hm : ∀ (g : ResultVar → Sem Value) (_ : ∀ t, g (.tmp t) = pure (tmps.getD t undef)) (rs : List ResultVar) (vs : List Value), resv E rs = some vs → rs.mapM g = pure vs := by
    intro g hg rs
    induction rs with
    | nil => intro vs h; cases h; rfl
    | cons r rs ih =>
      intro vs h
      cases r with
      | cell a t => simp [resv] at h
      | tmp t =>
        simp only [resv] at h
        cases h1 : look E t with
        | none => rw [h1] at h; simp at h
        | some v =>
          cases h2 : resv E rs with
          | none => rw [h1, h2] at h; simp at h
          | some us =>
            rw [h1, h2] at h; simp at h; subst h
            have h3 := hft.lk t v h1
            simp only [List.mapM_cons, ih us h2, hg, pure_bind]
            rw [Array.getD_eq_getD_getElem?, h3]; rfl
  unfold results
  rw [Array.mapM_eq_mapM_toList, hm _ (fun _ => rfl) _ _ h]
  simp only [map_pure, pure_bind, Sem.run_pure, tup]
  split
  · rename_i hsz
    cases vs with
    | nil => simp at hsz
    | cons v r =>
      cases r with
      | nil => rfl
      | cons _ _ => simp at hsz
  · rename_i hsz
    cases vs with
    | nil => rfl
    | cons v r =>
      cases r with
      | nil => simp at hsz
      | cons _ _ => rfl

theorem goR_ret {w : World} (hf : P.funcs[f]? = some fn) (hr : ∀ tmps, Fits E fn.ntmps tmps → (results fn tmps).run P w = .ok v w) (hR : R (.returned v) w) : GoR (cxOf P f fn R) [] E w :=
  fun tmps hft k cs => ⟨_, ⟨.returned v, w, _, hR, by simp, rfl, rfl, ⟨rfl, rfl, rfl, fn, hf, hr tmps hft⟩⟩, Steps.refl _ _⟩

theorem w_retR (hro : C.b.roundOf = none) (h : ∀ w, Inv S w0 H w → GoR C D E w) : WF C S w0 (.code .ret :: k) D E H := fun w hi tmps hft cs =>
  let ⟨m, ht, hs⟩ := h w hi tmps hft (.code .ret :: k) cs
  ⟨m, ht, (Steps.one (stepR_ret hro)).trans hs⟩
theorem w_endR (hro : C.b.roundOf = none) (h : ∀ w, Inv S w0 H w → GoR C D E w) : WF C S w0 [] D E H := fun w hi tmps hft cs =>
  let ⟨m, ht, hs⟩ := h w hi tmps hft [] cs
  ⟨m, ht, (Steps.one (stepR_end hro)).trans hs⟩

/-- 'return', no deferred calls, the results in slots. -/
theorem w_ret {vs : List Value} (hf : P.funcs[f]? = some fn) (hr : resv E fn.results.toList = some vs) (hR : ∀ w, Inv S w0 H w → R (.returned (tup vs)) w) : WF (cxOf P f fn R) S w0 (.code .ret :: k) [] E H :=
  w_retR rfl fun w hi => goR_ret hf (fun _ hft => run_results hft hr) (hR w hi)
theorem w_end {vs : List Value} (hf : P.funcs[f]? = some fn) (hr : resv E fn.results.toList = some vs) (hR : ∀ w, Inv S w0 H w → R (.returned (tup vs)) w) : WF (cxOf P f fn R) S w0 [] [] E H :=
  w_endR rfl fun w hi => goR_ret hf (fun _ hft => run_results hft hr) (hR w hi)

/-- A panic, no deferred calls. -/
theorem goP_leave {chain : List PanicEntry} {w : World} (hf : P.funcs[f]? = some fn) (hR : R (.panicked chain) w) : GoP (cxOf P f fn R) chain [] E w := fun tmps hft k cs =>
  ⟨_, ⟨.panicked chain, w, _, hR, by simp, rfl, rfl, ⟨rfl, rfl, fn, hf⟩⟩, Steps.refl _ _⟩

/-- A loop, by a measure. -/
theorem w_while {α : Type} (I : α → Prop) (μ : α → Nat) (EE : α → List (Nat × Value)) (HH : α → List Ent) {c : Code}
    (body : ∀ a, I a → (∀ a', I a' → μ a' < μ a → WF C S w0 (.inLoop c :: k) D (EE a') (HH a')) → WF C S w0 (.code c :: .inLoop c :: k) D (EE a) (HH a)) :
    ∀ a, I a → WF C S w0 (.code (.loop c) :: k) D (EE a) (HH a) := by
  have : ∀ n a, μ a ≤ n → I a → WF C S w0 (.code c :: .inLoop c :: k) D (EE a) (HH a) := by
    intro n
    induction n with
    | zero => intro a hn ha; exact body a ha fun a' _ h => absurd h (by omega)
    | succ n ih => intro a hn ha; exact body a ha fun a' ha' h => w_inLoop (ih a' (by omega) ha')
  exact fun a ha => w_loop' (this _ a (Nat.le_refl _) ha)
end
end Go.Sl

namespace Go.Sl
open Go Go.RowKit Go.Proofs
section
variable {C : Cx} {S : Nat → Prop} {w0 : World} {k : List Item} {D : List Deferred} {E : List (Nat × Value)} {H : List Ent} {d : Option Tmp} {t t' : TypeId} {p : String} {af : Array Edge} {g : Option (Nat × Bool)} {x y z : Operand} {v u : Value} {ops : Array Oper} {rest : List Oper} {a b : Int} {kk k2 : IntKind} {xt yt : TypeId}
theorem ov_lssT (hx : opv E x = some (.int kk a)) (hy : opv E y = some (.int kk b)) (h : a < b) : OpV C S w0 H D E ⟨d, .binOp .lss xt x y yt, t, p, af, g⟩ (.bool true) := by
  have := ov_lss (C := C) (S := S) (w0 := w0) (H := H) (D := D) (d := d) (t := t) (p := p) (af := af) (g := g) (xt := xt) (yt := yt) hx hy
  rwa [decide_eq_true h] at this
theorem ov_lssF (hx : opv E x = some (.int kk a)) (hy : opv E y = some (.int kk b)) (h : ¬ (a < b)) : OpV C S w0 H D E ⟨d, .binOp .lss xt x y yt, t, p, af, g⟩ (.bool false) := by
  have := ov_lss (C := C) (S := S) (w0 := w0) (H := H) (D := D) (d := d) (t := t) (p := p) (af := af) (g := g) (xt := xt) (yt := yt) hx hy
  rwa [decide_eq_false h] at this
theorem ov_leqT (hx : opv E x = some (.int kk a)) (hy : opv E y = some (.int kk b)) (h : a ≤ b) : OpV C S w0 H D E ⟨d, .binOp .leq xt x y yt, t, p, af, g⟩ (.bool true) := by
  have := ov_leq (C := C) (S := S) (w0 := w0) (H := H) (D := D) (d := d) (t := t) (p := p) (af := af) (g := g) (xt := xt) (yt := yt) hx hy
  rwa [decide_eq_true h] at this
theorem ov_leqF (hx : opv E x = some (.int kk a)) (hy : opv E y = some (.int kk b)) (h : ¬ (a ≤ b)) : OpV C S w0 H D E ⟨d, .binOp .leq xt x y yt, t, p, af, g⟩ (.bool false) := by
  have := ov_leq (C := C) (S := S) (w0 := w0) (H := H) (D := D) (d := d) (t := t) (p := p) (af := af) (g := g) (xt := xt) (yt := yt) hx hy
  rwa [decide_eq_false h] at this
theorem ov_gtrT (hx : opv E x = some (.int kk a)) (hy : opv E y = some (.int kk b)) (h : b < a) : OpV C S w0 H D E ⟨d, .binOp .gtr xt x y yt, t, p, af, g⟩ (.bool true) := by
  have := ov_gtr (C := C) (S := S) (w0 := w0) (H := H) (D := D) (d := d) (t := t) (p := p) (af := af) (g := g) (xt := xt) (yt := yt) hx hy
  rwa [decide_eq_true h] at this
theorem ov_gtrF (hx : opv E x = some (.int kk a)) (hy : opv E y = some (.int kk b)) (h : ¬ (b < a)) : OpV C S w0 H D E ⟨d, .binOp .gtr xt x y yt, t, p, af, g⟩ (.bool false) := by
  have := ov_gtr (C := C) (S := S) (w0 := w0) (H := H) (D := D) (d := d) (t := t) (p := p) (af := af) (g := g) (xt := xt) (yt := yt) hx hy
  rwa [decide_eq_false h] at this
theorem ov_geqT (hx : opv E x = some (.int kk a)) (hy : opv E y = some (.int kk b)) (h : b ≤ a) : OpV C S w0 H D E ⟨d, .binOp .geq xt x y yt, t, p, af, g⟩ (.bool true) := by
  have := ov_geq (C := C) (S := S) (w0 := w0) (H := H) (D := D) (d := d) (t := t) (p := p) (af := af) (g := g) (xt := xt) (yt := yt) hx hy
  rwa [decide_eq_true h] at this
theorem ov_geqF (hx : opv E x = some (.int kk a)) (hy : opv E y = some (.int kk b)) (h : ¬ (b ≤ a)) : OpV C S w0 H D E ⟨d, .binOp .geq xt x y yt, t, p, af, g⟩ (.bool false) := by
  have := ov_geq (C := C) (S := S) (w0 := w0) (H := H) (D := D) (d := d) (t := t) (p := p) (af := af) (g := g) (xt := xt) (yt := yt) hx hy
  rwa [decide_eq_false h] at this
theorem ov_eqlT (hx : opv E x = some (.int kk a)) (hy : opv E y = some (.int kk b)) (h : a = b) : OpV C S w0 H D E ⟨d, .binOp .eql xt x y yt, t, p, af, g⟩ (.bool true) := by
  have := ov_eql (C := C) (S := S) (w0 := w0) (H := H) (D := D) (d := d) (t := t) (p := p) (af := af) (g := g) (xt := xt) (yt := yt) hx hy
  rwa [decide_eq_true h] at this
theorem ov_eqlF (hx : opv E x = some (.int kk a)) (hy : opv E y = some (.int kk b)) (h : ¬ (a = b)) : OpV C S w0 H D E ⟨d, .binOp .eql xt x y yt, t, p, af, g⟩ (.bool false) := by
  have := ov_eql (C := C) (S := S) (w0 := w0) (H := H) (D := D) (d := d) (t := t) (p := p) (af := af) (g := g) (xt := xt) (yt := yt) hx hy
  rwa [decide_eq_false h] at this
theorem ov_neqT (hx : opv E x = some (.int kk a)) (hy : opv E y = some (.int kk b)) (h : ¬ a = b) : OpV C S w0 H D E ⟨d, .binOp .neq xt x y yt, t, p, af, g⟩ (.bool true) := by
  have := ov_neq (C := C) (S := S) (w0 := w0) (H := H) (D := D) (d := d) (t := t) (p := p) (af := af) (g := g) (xt := xt) (yt := yt) hx hy
  rwa [decide_eq_false h] at this
theorem ov_neqF (hx : opv E x = some (.int kk a)) (hy : opv E y = some (.int kk b)) (h : a = b) : OpV C S w0 H D E ⟨d, .binOp .neq xt x y yt, t, p, af, g⟩ (.bool false) := by
  have := ov_neq (C := C) (S := S) (w0 := w0) (H := H) (D := D) (d := d) (t := t) (p := p) (af := af) (g := g) (xt := xt) (yt := yt) hx hy
  rwa [decide_eq_true h] at this
theorem ov_eqlST {l m : List UInt8} (hx : opv E x = some (str l)) (hy : opv E y = some (str m)) (h : l = m) : OpV C S w0 H D E ⟨d, .binOp .eql xt x y yt, t, p, af, g⟩ (.bool true) := by
  have := ov_eqlS (C := C) (S := S) (w0 := w0) (H := H) (D := D) (d := d) (t := t) (p := p) (af := af) (g := g) (xt := xt) (yt := yt) hx hy
  rwa [decide_eq_true h] at this
theorem ov_eqlSF {l m : List UInt8} (hx : opv E x = some (str l)) (hy : opv E y = some (str m)) (h : ¬ l = m) : OpV C S w0 H D E ⟨d, .binOp .eql xt x y yt, t, p, af, g⟩ (.bool false) := by
  have := ov_eqlS (C := C) (S := S) (w0 := w0) (H := H) (D := D) (d := d) (t := t) (p := p) (af := af) (g := g) (xt := xt) (yt := yt) hx hy
  rwa [decide_eq_false h] at this
theorem ov_neqST {l m : List UInt8} (hx : opv E x = some (str l)) (hy : opv E y = some (str m)) (h : ¬ l = m) : OpV C S w0 H D E ⟨d, .binOp .neq xt x y yt, t, p, af, g⟩ (.bool true) := by
  have := ov_neqS (C := C) (S := S) (w0 := w0) (H := H) (D := D) (d := d) (t := t) (p := p) (af := af) (g := g) (xt := xt) (yt := yt) hx hy
  rwa [decide_eq_false h] at this
theorem ov_neqSF {l m : List UInt8} (hx : opv E x = some (str l)) (hy : opv E y = some (str m)) (h : l = m) : OpV C S w0 H D E ⟨d, .binOp .neq xt x y yt, t, p, af, g⟩ (.bool false) := by
  have := ov_neqS (C := C) (S := S) (w0 := w0) (H := H) (D := D) (d := d) (t := t) (p := p) (af := af) (g := g) (xt := xt) (yt := yt) hx hy
  rwa [decide_eq_true h] at this
theorem wrap_i64_in {n : Int} (h1 : -9223372036854775808 ≤ n) (h2 : n ≤ 9223372036854775807) : IntKind.i64.wrap n = n := by
  have hb : (2 : Int) ^ IntKind.i64.bits = 18446744073709551616 := by decide
  have hs : IntKind.i64.signed = true := rfl
  have hc : (2 : Int) ^ (IntKind.i64.bits - 1) = 9223372036854775808 := by decide
  simp only [IntKind.wrap, hb, hc, hs]
  simp only [Bool.true_and, Bool.false_and, decide_eq_true_eq, Bool.false_eq_true, if_false]
  omega
theorem ov_add_i64 (hx : opv E x = some (.int .i64 a)) (hy : opv E y = some (.int .i64 b)) (h1 : -9223372036854775808 ≤ a + b) (h2 : a + b ≤ 9223372036854775807) : OpV C S w0 H D E ⟨d, .binOp .add xt x y yt, t, p, af, g⟩ (.int .i64 (a + b)) := ov_add hx hy (wrap_i64_in h1 h2)
theorem ov_sub_i64 (hx : opv E x = some (.int .i64 a)) (hy : opv E y = some (.int .i64 b)) (h1 : -9223372036854775808 ≤ a - b) (h2 : a - b ≤ 9223372036854775807) : OpV C S w0 H D E ⟨d, .binOp .sub xt x y yt, t, p, af, g⟩ (.int .i64 (a - b)) := ov_sub hx hy (wrap_i64_in h1 h2)
theorem ov_mul_i64 (hx : opv E x = some (.int .i64 a)) (hy : opv E y = some (.int .i64 b)) (h1 : -9223372036854775808 ≤ a * b) (h2 : a * b ≤ 9223372036854775807) : OpV C S w0 H D E ⟨d, .binOp .mul xt x y yt, t, p, af, g⟩ (.int .i64 (a * b)) := ov_mul hx hy (wrap_i64_in h1 h2)
theorem ov_conv_i64 {ds : TypeDesc} (hs : C.P.underlying xt = some ds) (hd : C.P.underlying yt = some (.int .i64)) (hx : opv E x = some (.int kk a)) (h1 : -9223372036854775808 ≤ a) (h2 : a ≤ 9223372036854775807) : OpV C S w0 H D E ⟨d, .convert xt yt x, t, p, af, g⟩ (.int .i64 a) := ov_convI hs hd hx (wrap_i64_in h1 h2)
theorem wrap_i32_in {n : Int} (h1 : -2147483648 ≤ n) (h2 : n ≤ 2147483647) : IntKind.i32.wrap n = n := by
  have hb : (2 : Int) ^ IntKind.i32.bits = 4294967296 := by decide
  have hs : IntKind.i32.signed = true := rfl
  have hc : (2 : Int) ^ (IntKind.i32.bits - 1) = 2147483648 := by decide
  simp only [IntKind.wrap, hb, hc, hs]
  simp only [Bool.true_and, Bool.false_and, decide_eq_true_eq, Bool.false_eq_true, if_false]
  omega
theorem ov_add_i32 (hx : opv E x = some (.int .i32 a)) (hy : opv E y = some (.int .i32 b)) (h1 : -2147483648 ≤ a + b) (h2 : a + b ≤ 2147483647) : OpV C S w0 H D E ⟨d, .binOp .add xt x y yt, t, p, af, g⟩ (.int .i32 (a + b)) := ov_add hx hy (wrap_i32_in h1 h2)
theorem ov_sub_i32 (hx : opv E x = some (.int .i32 a)) (hy : opv E y = some (.int .i32 b)) (h1 : -2147483648 ≤ a - b) (h2 : a - b ≤ 2147483647) : OpV C S w0 H D E ⟨d, .binOp .sub xt x y yt, t, p, af, g⟩ (.int .i32 (a - b)) := ov_sub hx hy (wrap_i32_in h1 h2)
theorem ov_mul_i32 (hx : opv E x = some (.int .i32 a)) (hy : opv E y = some (.int .i32 b)) (h1 : -2147483648 ≤ a * b) (h2 : a * b ≤ 2147483647) : OpV C S w0 H D E ⟨d, .binOp .mul xt x y yt, t, p, af, g⟩ (.int .i32 (a * b)) := ov_mul hx hy (wrap_i32_in h1 h2)
theorem ov_conv_i32 {ds : TypeDesc} (hs : C.P.underlying xt = some ds) (hd : C.P.underlying yt = some (.int .i32)) (hx : opv E x = some (.int kk a)) (h1 : -2147483648 ≤ a) (h2 : a ≤ 2147483647) : OpV C S w0 H D E ⟨d, .convert xt yt x, t, p, af, g⟩ (.int .i32 a) := ov_convI hs hd hx (wrap_i32_in h1 h2)
theorem wrap_u8_in {n : Int} (h1 : 0 ≤ n) (h2 : n ≤ 255) : IntKind.u8.wrap n = n := by
  have hb : (2 : Int) ^ IntKind.u8.bits = 256 := by decide
  have hs : IntKind.u8.signed = false := rfl
  have hc : (2 : Int) ^ (IntKind.u8.bits - 1) = 128 := by decide
  simp only [IntKind.wrap, hb, hc, hs]
  simp only [Bool.true_and, Bool.false_and, decide_eq_true_eq, Bool.false_eq_true, if_false]
  omega
theorem ov_add_u8 (hx : opv E x = some (.int .u8 a)) (hy : opv E y = some (.int .u8 b)) (h1 : 0 ≤ a + b) (h2 : a + b ≤ 255) : OpV C S w0 H D E ⟨d, .binOp .add xt x y yt, t, p, af, g⟩ (.int .u8 (a + b)) := ov_add hx hy (wrap_u8_in h1 h2)
theorem ov_sub_u8 (hx : opv E x = some (.int .u8 a)) (hy : opv E y = some (.int .u8 b)) (h1 : 0 ≤ a - b) (h2 : a - b ≤ 255) : OpV C S w0 H D E ⟨d, .binOp .sub xt x y yt, t, p, af, g⟩ (.int .u8 (a - b)) := ov_sub hx hy (wrap_u8_in h1 h2)
theorem ov_mul_u8 (hx : opv E x = some (.int .u8 a)) (hy : opv E y = some (.int .u8 b)) (h1 : 0 ≤ a * b) (h2 : a * b ≤ 255) : OpV C S w0 H D E ⟨d, .binOp .mul xt x y yt, t, p, af, g⟩ (.int .u8 (a * b)) := ov_mul hx hy (wrap_u8_in h1 h2)
theorem ov_conv_u8 {ds : TypeDesc} (hs : C.P.underlying xt = some ds) (hd : C.P.underlying yt = some (.int .u8)) (hx : opv E x = some (.int kk a)) (h1 : 0 ≤ a) (h2 : a ≤ 255) : OpV C S w0 H D E ⟨d, .convert xt yt x, t, p, af, g⟩ (.int .u8 a) := ov_convI hs hd hx (wrap_u8_in h1 h2)
theorem wrap_u64_in {n : Int} (h1 : 0 ≤ n) (h2 : n ≤ 18446744073709551615) : IntKind.u64.wrap n = n := by
  have hb : (2 : Int) ^ IntKind.u64.bits = 18446744073709551616 := by decide
  have hs : IntKind.u64.signed = false := rfl
  have hc : (2 : Int) ^ (IntKind.u64.bits - 1) = 9223372036854775808 := by decide
  simp only [IntKind.wrap, hb, hc, hs]
  simp only [Bool.true_and, Bool.false_and, decide_eq_true_eq, Bool.false_eq_true, if_false]
  omega
theorem ov_add_u64 (hx : opv E x = some (.int .u64 a)) (hy : opv E y = some (.int .u64 b)) (h1 : 0 ≤ a + b) (h2 : a + b ≤ 18446744073709551615) : OpV C S w0 H D E ⟨d, .binOp .add xt x y yt, t, p, af, g⟩ (.int .u64 (a + b)) := ov_add hx hy (wrap_u64_in h1 h2)
theorem ov_sub_u64 (hx : opv E x = some (.int .u64 a)) (hy : opv E y = some (.int .u64 b)) (h1 : 0 ≤ a - b) (h2 : a - b ≤ 18446744073709551615) : OpV C S w0 H D E ⟨d, .binOp .sub xt x y yt, t, p, af, g⟩ (.int .u64 (a - b)) := ov_sub hx hy (wrap_u64_in h1 h2)
theorem ov_mul_u64 (hx : opv E x = some (.int .u64 a)) (hy : opv E y = some (.int .u64 b)) (h1 : 0 ≤ a * b) (h2 : a * b ≤ 18446744073709551615) : OpV C S w0 H D E ⟨d, .binOp .mul xt x y yt, t, p, af, g⟩ (.int .u64 (a * b)) := ov_mul hx hy (wrap_u64_in h1 h2)
theorem ov_conv_u64 {ds : TypeDesc} (hs : C.P.underlying xt = some ds) (hd : C.P.underlying yt = some (.int .u64)) (hx : opv E x = some (.int kk a)) (h1 : 0 ≤ a) (h2 : a ≤ 18446744073709551615) : OpV C S w0 H D E ⟨d, .convert xt yt x, t, p, af, g⟩ (.int .u64 a) := ov_convI hs hd hx (wrap_u64_in h1 h2)
theorem wrap_u32_in {n : Int} (h1 : 0 ≤ n) (h2 : n ≤ 4294967295) : IntKind.u32.wrap n = n := by
  have hb : (2 : Int) ^ IntKind.u32.bits = 4294967296 := by decide
  have hs : IntKind.u32.signed = false := rfl
  have hc : (2 : Int) ^ (IntKind.u32.bits - 1) = 2147483648 := by decide
  simp only [IntKind.wrap, hb, hc, hs]
  simp only [Bool.true_and, Bool.false_and, decide_eq_true_eq, Bool.false_eq_true, if_false]
  omega
theorem ov_add_u32 (hx : opv E x = some (.int .u32 a)) (hy : opv E y = some (.int .u32 b)) (h1 : 0 ≤ a + b) (h2 : a + b ≤ 4294967295) : OpV C S w0 H D E ⟨d, .binOp .add xt x y yt, t, p, af, g⟩ (.int .u32 (a + b)) := ov_add hx hy (wrap_u32_in h1 h2)
theorem ov_sub_u32 (hx : opv E x = some (.int .u32 a)) (hy : opv E y = some (.int .u32 b)) (h1 : 0 ≤ a - b) (h2 : a - b ≤ 4294967295) : OpV C S w0 H D E ⟨d, .binOp .sub xt x y yt, t, p, af, g⟩ (.int .u32 (a - b)) := ov_sub hx hy (wrap_u32_in h1 h2)
theorem ov_mul_u32 (hx : opv E x = some (.int .u32 a)) (hy : opv E y = some (.int .u32 b)) (h1 : 0 ≤ a * b) (h2 : a * b ≤ 4294967295) : OpV C S w0 H D E ⟨d, .binOp .mul xt x y yt, t, p, af, g⟩ (.int .u32 (a * b)) := ov_mul hx hy (wrap_u32_in h1 h2)
theorem ov_conv_u32 {ds : TypeDesc} (hs : C.P.underlying xt = some ds) (hd : C.P.underlying yt = some (.int .u32)) (hx : opv E x = some (.int kk a)) (h1 : 0 ≤ a) (h2 : a ≤ 4294967295) : OpV C S w0 H D E ⟨d, .convert xt yt x, t, p, af, g⟩ (.int .u32 a) := ov_convI hs hd hx (wrap_u32_in h1 h2)
theorem wrap_u16_in {n : Int} (h1 : 0 ≤ n) (h2 : n ≤ 65535) : IntKind.u16.wrap n = n := by
  have hb : (2 : Int) ^ IntKind.u16.bits = 65536 := by decide
  have hs : IntKind.u16.signed = false := rfl
  have hc : (2 : Int) ^ (IntKind.u16.bits - 1) = 32768 := by decide
  simp only [IntKind.wrap, hb, hc, hs]
  simp only [Bool.true_and, Bool.false_and, decide_eq_true_eq, Bool.false_eq_true, if_false]
  omega
theorem ov_add_u16 (hx : opv E x = some (.int .u16 a)) (hy : opv E y = some (.int .u16 b)) (h1 : 0 ≤ a + b) (h2 : a + b ≤ 65535) : OpV C S w0 H D E ⟨d, .binOp .add xt x y yt, t, p, af, g⟩ (.int .u16 (a + b)) := ov_add hx hy (wrap_u16_in h1 h2)
theorem ov_sub_u16 (hx : opv E x = some (.int .u16 a)) (hy : opv E y = some (.int .u16 b)) (h1 : 0 ≤ a - b) (h2 : a - b ≤ 65535) : OpV C S w0 H D E ⟨d, .binOp .sub xt x y yt, t, p, af, g⟩ (.int .u16 (a - b)) := ov_sub hx hy (wrap_u16_in h1 h2)
theorem ov_mul_u16 (hx : opv E x = some (.int .u16 a)) (hy : opv E y = some (.int .u16 b)) (h1 : 0 ≤ a * b) (h2 : a * b ≤ 65535) : OpV C S w0 H D E ⟨d, .binOp .mul xt x y yt, t, p, af, g⟩ (.int .u16 (a * b)) := ov_mul hx hy (wrap_u16_in h1 h2)
theorem ov_conv_u16 {ds : TypeDesc} (hs : C.P.underlying xt = some ds) (hd : C.P.underlying yt = some (.int .u16)) (hx : opv E x = some (.int kk a)) (h1 : 0 ≤ a) (h2 : a ≤ 65535) : OpV C S w0 H D E ⟨d, .convert xt yt x, t, p, af, g⟩ (.int .u16 a) := ov_convI hs hd hx (wrap_u16_in h1 h2)
theorem ov_pickT (hc : opv E x = some (.bool true)) (hx : opv E y = some v) : OpV C S w0 H D E ⟨d, .pick x y z, t, p, af, g⟩ v := opv_run fun tmps w hf _ => by
  simp [execOp, hf.opv D hc, hf.opv D hx, asBool]
theorem ov_pickF (hc : opv E x = some (.bool false)) (hy : opv E z = some v) : OpV C S w0 H D E ⟨d, .pick x y z, t, p, af, g⟩ v := opv_run fun tmps w hf _ => by
  simp [execOp, hf.opv D hc, hf.opv D hy, asBool]
theorem ov_notT (hx : opv E x = some (.bool true)) : OpV C S w0 H D E ⟨d, .unOp .not xt x, t, p, af, g⟩ (.bool false) := ov_not hx
theorem ov_notF (hx : opv E x = some (.bool false)) : OpV C S w0 H D E ⟨d, .unOp .not xt x, t, p, af, g⟩ (.bool true) := ov_not hx

/-- A guard that is not decided parts the walk. -/
theorem wo_split {tt : Nat} {bb : Bool} (hl : look E tt = some (.bool bb)) (ht : bb = true → WO C S w0 ops rest k D ((tt, .bool true) :: E) H) (hf : bb = false → WO C S w0 ops rest k D ((tt, .bool false) :: E) H) : WO C S w0 ops rest k D E H := by
  have hs : ∀ v, look E tt = some v → sub ((tt, v) :: E) E := fun v hv s u e => by
    rw [look_cons] at e
    by_cases he : tt = s
    · subst he; rw [if_pos rfl] at e; cases e; exact hv
    · rw [if_neg he] at e; exact e
  cases bb with
  | true => exact fun pre hp => w_weak (hs _ hl) (ht rfl pre hp)
  | false => exact fun pre hp => w_weak (hs _ hl) (hf rfl pre hp)
theorem wo_gs {o1 : Op} {j : Nat} {want : Bool} {tt : Nat} {q : Prop} {_i : Decidable q} (hj : (ops[j]?).bind (·.dst) = some tt) (hl : look E tt = some (.bool (decide q)))
    (ht : q → WO C S w0 ops (⟨d, o1, t, p, af, some (j, want)⟩ :: rest) k D ((tt, .bool true) :: E) H) (hf : ¬ q → WO C S w0 ops (⟨d, o1, t, p, af, some (j, want)⟩ :: rest) k D ((tt, .bool false) :: E) H) :
    WO C S w0 ops (⟨d, o1, t, p, af, some (j, want)⟩ :: rest) k D E H := wo_split hl (fun h => ht (of_decide_eq_true h)) (fun h => hf (of_decide_eq_false h))
theorem wo_gsN {o1 : Op} {j : Nat} {want : Bool} {tt : Nat} {q : Prop} {_i : Decidable q} (hj : (ops[j]?).bind (·.dst) = some tt) (hl : look E tt = some (.bool (!decide q)))
    (ht : ¬ q → WO C S w0 ops (⟨d, o1, t, p, af, some (j, want)⟩ :: rest) k D ((tt, .bool true) :: E) H) (hf : q → WO C S w0 ops (⟨d, o1, t, p, af, some (j, want)⟩ :: rest) k D ((tt, .bool false) :: E) H) :
    WO C S w0 ops (⟨d, o1, t, p, af, some (j, want)⟩ :: rest) k D E H := wo_split hl (fun h => ht (of_decide_eq_false (by simpa using h))) (fun h => hf (of_decide_eq_true (by simpa using h)))
/-- A pick that is not decided parts the walk. -/
theorem wo_ps {tt : Nat} {q : Prop} {_i : Decidable q} (hl : look E tt = some (.bool (decide q)))
    (ht : q → WO C S w0 ops (⟨d, .pick (.tmp tt) y z, t, p, af, g⟩ :: rest) k D ((tt, .bool true) :: E) H) (hf : ¬ q → WO C S w0 ops (⟨d, .pick (.tmp tt) y z, t, p, af, g⟩ :: rest) k D ((tt, .bool false) :: E) H) :
    WO C S w0 ops (⟨d, .pick (.tmp tt) y z, t, p, af, g⟩ :: rest) k D E H := wo_split hl (fun h => ht (of_decide_eq_true h)) (fun h => hf (of_decide_eq_false h))

variable {c : Operand} {c1 c2 : Code}
theorem w_condT (hc : opv E c = some (.bool true)) (h : WF C S w0 (.code c1 :: k) D E H) : WF C S w0 (.code (.cond c c1 c2) :: k) D E H := w_cond hc (fun _ => h) (fun e => by cases e)
theorem w_condF (hc : opv E c = some (.bool false)) (h : WF C S w0 (.code c2 :: k) D E H) : WF C S w0 (.code (.cond c c1 c2) :: k) D E H := w_cond hc (fun e => by cases e) (fun _ => h)
theorem w_condD {q : Prop} {_i : Decidable q} (hc : opv E c = some (.bool (decide q))) (ht : q → WF C S w0 (.code c1 :: k) D E H) (hf : ¬ q → WF C S w0 (.code c2 :: k) D E H) : WF C S w0 (.code (.cond c c1 c2) :: k) D E H :=
  w_cond hc (fun e => ht (of_decide_eq_true e)) (fun e => hf (of_decide_eq_false e))
theorem w_condN {q : Prop} {_i : Decidable q} (hc : opv E c = some (.bool (!decide q))) (ht : ¬ q → WF C S w0 (.code c1 :: k) D E H) (hf : q → WF C S w0 (.code c2 :: k) D E H) : WF C S w0 (.code (.cond c c1 c2) :: k) D E H :=
  w_cond hc (fun e => ht (of_decide_eq_false (by simpa using e))) (fun e => hf (of_decide_eq_true (by simpa using e)))
end
end Go.Sl

namespace Go.Sl
open Go Go.RowKit Go.Shelf Go.Proofs

section
variable {C : Cx} {S : Nat → Prop} {w0 : World} {k : List Item} {D : List Deferred} {E : List (Nat × Value)} {H H' : List Ent} {d : Option Tmp} {t t' : TypeId} {p : String} {af : Array Edge} {g : Option (Nat × Bool)} {x y z : Operand} {v u : Value} {ops : Array Oper} {rest : List Oper} {a b : Int} {kk k2 : IntKind} {xt yt : TypeId}

theorem run_underlying {P : Program} {w : World} {dd : TypeDesc} (h : P.underlying t' = some dd) : (underlying t').run P w = .ok dd w := by
  simp [underlying, program, Sem.run, h]
theorem run_typeInfo {P : Program} {w : World} {ti : TypeInfo} (h : P.info? t' = some ti) : (typeInfo t').run P w = .ok ti w := by
  simp [typeInfo, program, Sem.run, h]
theorem run_sizeOf {P : Program} {w : World} {n : Nat} (h : (P.info? t').map (·.size) = some n) : (sizeOf t').run P w = .ok n w := by
  cases hi : P.info? t' with
  | none => rw [hi] at h; simp at h
  | some ti => rw [hi] at h; simp at h; simp [sizeOf, run_typeInfo hi, h]

/-- '&xs[i]' of a slice. -/
theorem ov_indexAddr {el bb off len cap sz : Nat} {i : Int} (hu : C.P.underlying t' = some (.slice el)) (hs : (C.P.info? el).map (·.size) = some sz) (hx : opv E x = some (.slice (some ⟨bb, off, none⟩) len cap)) (hy : opv E y = some (.int kk i)) (h0 : 0 ≤ i) (h1 : i < len) :
    OpV C S w0 H D E ⟨d, .indexAddr t' x y, t, p, af, g⟩ (.pointer (some ⟨bb, off + i.toNat * sz, none⟩)) := opv_run fun tmps w hf _ => by
  simp [execOp, Instr.indexAt, hf.opv D hx, hf.opv D hy, asIntOf, run_underlying hu, run_sizeOf hs, h0, h1, add_addr]

/-- '&xs[i]' of an array in a block. -/
theorem ov_indexAddrA {el bb off len sz : Nat} {i : Int} (hu : C.P.underlying t' = some (.array len el)) (hs : (C.P.info? el).map (·.size) = some sz) (hx : opv E x = some (.pointer (some ⟨bb, off, none⟩))) (hy : opv E y = some (.int kk i)) (h0 : 0 ≤ i) (h1 : i < len) :
    OpV C S w0 H D E ⟨d, .indexAddr t' x y, t, p, af, g⟩ (.pointer (some ⟨bb, off + i.toNat * sz, none⟩)) := opv_run fun tmps w hf _ => by
  simp [execOp, Instr.indexAt, Instr.sureAddr, hf.opv D hx, hf.opv D hy, asIntOf, run_underlying hu, run_sizeOf hs, h0, h1, add_addr]

/-- 'arr[i]' of an array value. -/
theorem ov_indexV {el len sz : Nat} {cs : Array Value} {dd : TypeDesc} {i : Int} (hu : C.P.underlying t' = some (.array len el)) (hs : (C.P.info? el).map (·.size) = some sz) (hd : C.P.underlying el = some dd) (hfl : flatD dd = true)
    (hx : opv E x = some (.agg cs)) (hy : opv E y = some (.int kk i)) (h0 : 0 ≤ i) (h1 : i < len) (hc : cs[i.toNat * sz]? = some v) :
    OpV C S w0 H D E ⟨d, .index t' x y, t, p, af, g⟩ v := opv_run fun tmps w hf _ => by
  simp [execOp, Instr.index, hf.opv D hx, hf.opv D hy, asIntOf, run_underlying hu, run_sizeOf hs, h0, h1, run_part1 hd hfl hc]

theorem run_sliceBounds {P : Program} {w : World} {tmps : Array Value} {n : Nat} (hf : Fits E n tmps) {sl : Bool} {len cap : Nat} {lo hi : Option Operand} {a b : Nat}
    (hlo : (match lo with | none => a = 0 | some o => ∃ kk i, opv E o = some (.int kk i) ∧ 0 ≤ i ∧ i.toNat = a)) (hhi : (match hi with | none => b = len | some o => ∃ kk i, opv E o = some (.int kk i) ∧ 0 ≤ i ∧ i.toNat = b)) (hab : a ≤ b) (hb : b ≤ cap) :
    (Instr.sliceBounds sl len cap (lo.map ({ tmps := tmps, defers := D } : Act).eval) (hi.map ({ tmps := tmps, defers := D } : Act).eval) none).run P w = .ok (a, b, cap) w := by
  unfold Instr.sliceBounds Instr.sliceBound
  cases lo with
  | none =>
    simp only at hlo; subst hlo
    cases hi with
    | none => simp only at hhi; subst hhi; simp
    | some oh =>
      obtain ⟨kk, i, h1, h2, rfl⟩ := hhi
      simp [hf.opv D h1, asIntOf, h2, show i ≤ (cap : Int) from by omega]
  | some ol =>
    obtain ⟨k2, i2, h3, h4, rfl⟩ := hlo
    cases hi with
    | none => simp only at hhi; subst hhi; simp [hf.opv D h3, asIntOf, h4, show i2 ≤ (b : Int) from by omega]
    | some oh =>
      obtain ⟨kk, i, h1, h2, rfl⟩ := hhi
      simp [hf.opv D h1, hf.opv D h3, asIntOf, h2, h4, show i ≤ (cap : Int) from by omega, show i2 ≤ max i 0 from by omega]

/-- 'xs[lo:hi]' of a slice; where nothing is left of its capacity the address stays. -/
theorem ov_sliceL {el bb off len cap sz : Nat} {lo hi : Option Operand} {a b : Nat} (hu : C.P.underlying t' = some (.slice el)) (hs : (C.P.info? el).map (·.size) = some sz) (hx : opv E x = some (.slice (some ⟨bb, off, none⟩) len cap))
    (hlo : (match lo with | none => a = 0 | some o => ∃ kk i, opv E o = some (.int kk i) ∧ 0 ≤ i ∧ i.toNat = a)) (hhi : (match hi with | none => b = len | some o => ∃ kk i, opv E o = some (.int kk i) ∧ 0 ≤ i ∧ i.toNat = b)) (hab : a ≤ b) (hb : b ≤ cap) :
    OpV C S w0 H D E ⟨d, .slice t' x lo hi none, t, p, af, g⟩ (.slice (some ⟨bb, if cap = a then off else off + a * sz, none⟩) (b - a) (cap - a)) := opv_run fun tmps w hf _ => by
  simp [execOp, Instr.sliceAt, Instr.slice, hf.opv D hx, run_underlying hu, run_sliceBounds (P := C.P) (w := w) (D := D) hf hlo hhi hab hb, run_sizeOf hs, add_addr]
  split <;> rfl
theorem ov_sliceLlt {el bb off len cap sz : Nat} {lo hi : Option Operand} {a b : Nat} (hu : C.P.underlying t' = some (.slice el)) (hs : (C.P.info? el).map (·.size) = some sz) (hx : opv E x = some (.slice (some ⟨bb, off, none⟩) len cap))
    (hlo : (match lo with | none => a = 0 | some o => ∃ kk i, opv E o = some (.int kk i) ∧ 0 ≤ i ∧ i.toNat = a)) (hhi : (match hi with | none => b = len | some o => ∃ kk i, opv E o = some (.int kk i) ∧ 0 ≤ i ∧ i.toNat = b)) (hab : a ≤ b) (hb : b ≤ cap) (hne : a < cap) :
    OpV C S w0 H D E ⟨d, .slice t' x lo hi none, t, p, af, g⟩ (.slice (some ⟨bb, off + a * sz, none⟩) (b - a) (cap - a)) := by
  have := ov_sliceL (C := C) (S := S) (w0 := w0) (H := H) (D := D) (d := d) (t := t) (p := p) (af := af) (g := g) hu hs hx hlo hhi hab hb
  rwa [if_neg (by omega)] at this
/-- The nil slice stays nil. -/
theorem ov_sliceN {el sz : Nat} {lo hi : Option Operand} (hu : C.P.underlying t' = some (.slice el)) (hs : (C.P.info? el).map (·.size) = some sz) (hx : opv E x = some (.slice none 0 0))
    (hlo : (match lo with | none => True | some o => ∃ kk, opv E o = some (.int kk 0))) (hhi : (match hi with | none => True | some o => ∃ kk, opv E o = some (.int kk 0))) :
    OpV C S w0 H D E ⟨d, .slice t' x lo hi none, t, p, af, g⟩ (.slice none 0 0) := opv_run fun tmps w hf _ => by
  have := run_sliceBounds (P := C.P) (w := w) (D := D) (sl := true) (len := 0) (cap := 0) (a := 0) (b := 0) hf (lo := lo) (hi := hi) (by
    cases lo with
    | none => rfl
    | some o => obtain ⟨kk, h⟩ := hlo; exact ⟨kk, 0, h, by omega, rfl⟩) (by
    cases hi with
    | none => rfl
    | some o => obtain ⟨kk, h⟩ := hhi; exact ⟨kk, 0, h, by omega, rfl⟩) (by omega) (by omega)
  simp [execOp, Instr.sliceAt, Instr.slice, hf.opv D hx, run_underlying hu, this, run_sizeOf hs]
/-- 'arr[lo:hi]' of an array in a block. -/
theorem ov_sliceA {el bb off n sz : Nat} {lo hi : Option Operand} {a b : Nat} (hu : C.P.underlying t' = some (.array n el)) (hs : (C.P.info? el).map (·.size) = some sz) (hx : opv E x = some (.pointer (some ⟨bb, off, none⟩)))
    (hlo : (match lo with | none => a = 0 | some o => ∃ kk i, opv E o = some (.int kk i) ∧ 0 ≤ i ∧ i.toNat = a)) (hhi : (match hi with | none => b = n | some o => ∃ kk i, opv E o = some (.int kk i) ∧ 0 ≤ i ∧ i.toNat = b)) (hab : a ≤ b) (hb : b ≤ n) (hne : a < n) :
    OpV C S w0 H D E ⟨d, .slice t' x lo hi none, t, p, af, g⟩ (.slice (some ⟨bb, off + a * sz, none⟩) (b - a) (n - a)) := opv_run fun tmps w hf _ => by
  simp [execOp, Instr.sliceAt, Instr.sureAddr, hf.opv D hx, run_underlying hu, run_sliceBounds (P := C.P) (w := w) (D := D) hf hlo hhi hab hb, run_sizeOf hs, add_addr, show ¬ n = a from by omega]

theorem ov_min (hx : opv E x = some (.int kk a)) (hy : opv E y = some (.int k2 b)) {aty : Array TypeId} : OpV C S w0 H D E ⟨d, .call { callee := .builtin .min, args := #[x, y], argTypes := aty }, t, p, af, g⟩ (.int kk (if b < a then b else a)) := opv_run fun tmps w hf _ => by
  simp [execOp, resolve, invoke, builtin, Builtin.min_, Builtin.min2, hf.opv D hx, hf.opv D hy]

/-! ### Struct literals -/
def placesOf (P : Program) (t : TypeId) : Option (Array (Nat × Nat)) :=
  match P.underlying t with
  | some (.struct fs) => fs.mapM fun f => (P.info? f.type).map fun i => (f.offset, i.size)
  | _ => none

theorem run_places {P : Program} {w : World} : ∀ (l : List Field) (r : List (Nat × Nat)), (l.mapM fun f => (P.info? f.type).map fun i => (f.offset, i.size)) = some r →
    (l.mapM (m := Sem) fun f => do pure (f.offset, ← sizeOf f.type)).run P w = .ok r w
  | [], r, h => by simp at h; subst h; rfl
  | f :: l, r, h => by
    simp only [List.mapM_cons] at h
    cases hi : P.info? f.type with
    | none => rw [hi] at h; simp at h
    | some i =>
      cases hl : l.mapM (fun f => (P.info? f.type).map fun i => (f.offset, i.size)) with
      | none => rw [hi, hl] at h; simp at h
      | some rs =>
        rw [hi, hl] at h; simp at h; subst h
        have := run_places (P := P) (w := w) l rs hl
        simp at this
        have h5 := run_sizeOf (t' := f.type) (P := P) (w := w) (n := i.size) (by rw [hi]; rfl)
        simp [List.mapM_cons, h5, this]

def partv (E : List (Nat × Value)) : List (Nat × Operand) → Option (List (Nat × Value))
  | [] => some []
  | (i, x) :: r => match opv E x, partv E r with
    | some v, some vs => some ((i, v) :: vs)
    | _, _ => none

theorem Fits.partv {n : Nat} {tmps : Array Value} (h : Fits E n tmps) : ∀ {xs : List (Nat × Operand)} {vs : List (Nat × Value)}, Sl.partv E xs = some vs → xs.map (fun p => (p.1, ({ tmps := tmps, defers := D } : Act).eval p.2)) = vs
  | [], _, e => by cases e; rfl
  | (i, x) :: r, vs, e => by
    simp only [Sl.partv] at e
    cases h1 : Sl.opv E x with
    | none => rw [h1] at e; simp at e
    | some v =>
      cases h2 : Sl.partv E r with
      | none => rw [h1, h2] at e; simp at e
      | some rs =>
        rw [h1, h2] at e; simp at e
        rw [List.map_cons, h.partv h2, h.opv D h1, e]

theorem ov_build {pl : Array (Nat × Nat)} {ti : TypeInfo} {zs cs : Array Value} {vs : List (Nat × Value)} {parts : Array (Nat × Operand)} (hpl : placesOf C.P t' = some pl) (hti : C.P.info? t' = some ti) (hz : ti.zero = some (.agg zs)) (hp : partv E parts.toList = some vs)
    (hfill : Instr.fill (pl[·]?) zs vs = some cs) : OpV C S w0 H D E ⟨d, .build t' parts, t, p, af, g⟩ (.agg cs) := opv_run fun tmps w hf _ => by
  unfold placesOf at hpl
  cases hu : C.P.underlying t' with
  | none => rw [hu] at hpl; simp at hpl
  | some dd =>
    rw [hu] at hpl
    cases dd <;> simp at hpl
    rename_i fs
    have hv := hf.partv (D := D) hp
    have h1 : (zeroValue t').run C.P w = .ok (.agg zs) w := by simp [zeroValue, run_typeInfo hti, hz]
    rw [Array.mapM_eq_mapM_toList] at hpl
    cases hl : fs.toList.mapM (fun f => (C.P.info? f.type).map fun i => (f.offset, i.size)) with
    | none => rw [hl] at hpl; simp at hpl
    | some rs =>
      rw [hl] at hpl; simp at hpl; subst hpl
      have h2 : (fs.mapM (m := Sem) fun f => do pure (f.offset, ← sizeOf f.type)).run C.P w = .ok rs.toArray w := by
        rw [Array.mapM_eq_mapM_toList]
        have := run_places (P := C.P) (w := w) fs.toList rs hl
        simp at this
        simp [this]
      simp at h2
      have h3 : (parts.map (fun (i, x) => (i, ({ tmps := tmps, defers := D } : Act).eval x))).toList = vs := by
        rw [← hv]; simp
      have h4 : Instr.fill (rs.toArray[·]?) zs (parts.map (fun (i, x) => (i, ({ tmps := tmps, defers := D } : Act).eval x))).toList = some cs := by rw [h3]; exact hfill
      simp at h4
      simp [execOp, Instr.build, h1, Value.cells, run_underlying hu, h2, h4]

/-! ### Bytes and strings -/
def byv (l : List UInt8) : List Value := l.map fun b => .int .u8 b.toNat

theorem Inv.freeze {w : World} {bb n m : Nat} {c : Array Value} {el : TypeId} (hi : Inv S w0 H w) (hu : Upd bb (.cells c el (0, 0)) (.cells c el (n, n + m)) H H') (hm : m ≠ 0) : Inv S w0 H' (w.freeze ⟨bb, n, none⟩ m) := by
  unfold World.freeze
  rw [if_neg hm]
  refine hi.upd hu rfl rfl rfl (by simp) (fun q hq => ?_) ?_
  · simp only [Array.getElem?_modify]; rw [if_neg (by omega)]
  · have := hi.hb _ hu.mem
    simp only at this
    simp [Array.getElem?_modify, this]

/-- '[]byte(s)': a new block; what lies behind the bytes is not to be written. -/
theorem wo_bytes {el : TypeId} {l : List UInt8} (hxs : C.P.underlying xt = some .string) (hys : C.P.underlying yt = some (.slice el)) (hel : C.P.underlying el = some (.int .u8)) (hx : opv E x = some (str l))
    (hg : guardOk E ops ⟨d, .convert xt yt x, t, p, af, g⟩ = some true) (hd : dstOk d C.n = true)
    (h : ∀ bb cap, w0.heap.size ≤ bb → l.length ≤ cap → WO C S w0 ops rest k D (putE d (.slice (some ⟨bb, 0, none⟩) l.length cap) E) (⟨bb, true, .cells ((byv l ++ List.replicate (cap - l.length) (Value.int .u8 0)).toArray) el (cap, cap + 1)⟩ :: H)) :
    WO C S w0 ops (⟨d, .convert xt yt x, t, p, af, g⟩ :: rest) k D E H := by
  refine wo_op hg hd fun w hi tmps hft => ?_
  rw [semAt_nd _ _ _ (nd_of rfl)]
  have hcut : l.length ≤ Question.cut (.appendCap l.length 0 el) (w.tape w.drawn (.appendCap l.length 0 el)) := by
    simp [Question.cut]
  generalize hcap : Question.cut (.appendCap l.length 0 el) (w.tape w.drawn (.appendCap l.length 0 el)) = cap at hcut
  have hcells : ((⟨l.toArray⟩ : ByteArray).data.map (fun b => Value.int .u8 b.toNat) ++ Array.replicate (cap - l.length) (Value.int .u8 0)) = (byv l ++ List.replicate (cap - l.length) (Value.int .u8 0)).toArray := by
    apply Array.ext'; simp [byv]
  have hlen : ((byv l ++ List.replicate (cap - l.length) (Value.int .u8 0)).toArray).size = cap := by simp [byv]; omega
  have hi2 := (hi.drew).new (.cells ((byv l ++ List.replicate (cap - l.length) (Value.int .u8 0)).toArray) el)
  have hi3 := Inv.freeze (n := cap) (m := 1) hi2 (.head _) (by omega)
  have hrun : (execOp ({ tmps := tmps, defers := D } : Act).eval (⟨d, .convert xt yt x, t, p, af, g⟩ : Oper)).run C.P w = .ok (.value (.slice (some ⟨w.heap.size, 0, none⟩) l.length cap))
      (World.freeze { w with drawn := w.drawn + 1, heap := w.heap.push (.cells ((byv l ++ List.replicate (cap - l.length) (Value.int .u8 0)).toArray) el) } ⟨w.heap.size, cap, none⟩ 1) := by
    have e1 : (choose (.appendCap (⟨l.toArray⟩ : ByteArray).size 0 el)).run C.P w = .ok cap { w with drawn := w.drawn + 1 } := by
      rw [size_list]
      simp [choose, Sem.run, Question.forced, hcap]
    have e2 : (markStringish ⟨w.heap.size, 0, none⟩).run C.P { w with drawn := w.drawn + 1, heap := w.heap.push (.cells ((byv l ++ List.replicate (cap - l.length) (Value.int .u8 0)).toArray) el) } = .ok () (World.freeze { w with drawn := w.drawn + 1, heap := w.heap.push (.cells ((byv l ++ List.replicate (cap - l.length) (Value.int .u8 0)).toArray) el) } ⟨w.heap.size, cap, none⟩ 1) := by
      simp only [markStringish, shape, Sem.run_bind, Sem.run, World.shape?, Array.getElem?_push_size, Result.andThen_ok]
      rw [hlen]
      rfl
    simp only [execOp, convert, hft.opv D hx, Sem.run_bind, run_underlying hxs, run_underlying hys, Result.andThen_ok, run_underlying hel, Conv.stringToBytes, newRow, newObj]
    rw [size_list] at e1 ⊢
    simp only [e1, Result.andThen_ok]
    rw [hcells]
    simp only [Sem.run, Sem.run_bind, Sem.run_pure, Result.andThen_ok, e2]
  rw [hrun]
  exact (h _ cap hi.fr.size hcut).go2 hi3
end
end Go.Sl

namespace Go.Sl
open Go Go.RowKit Go.Shelf Go.Proofs

section
variable {C : Cx} {S : Nat → Prop} {w0 : World} {k : List Item} {D : List Deferred} {E : List (Nat × Value)} {H H' : List Ent} {d : Option Tmp} {t t' : TypeId} {p : String} {af : Array Edge} {g : Option (Nat × Bool)} {x y z : Operand} {v u : Value} {ops : Array Oper} {rest : List Oper} {a b : Int} {kk k2 : IntKind} {xt yt : TypeId}

/-- The results of a function, slots and memory. -/
inductive Res (P : Program) (E : List (Nat × Value)) (H : List Ent) : List ResultVar → List Value → Prop
  | nil : Res P E H [] []
  | tmp {t : Nat} {v : Value} {rs : List ResultVar} {vs : List Value} (h : look E t = some v) (r : Res P E H rs vs) : Res P E H (.tmp t :: rs) (v :: vs)
  | cell {a t : Nat} {dd : TypeDesc} {b off : Nat} {rw : Bool} {c : Array Value} {el : TypeId} {fz : Nat × Nat} {v : Value} {rs : List ResultVar} {vs : List Value} (h : look E a = some (.pointer (some ⟨b, off, none⟩))) (hu : P.underlying t = some dd) (hd : flatD dd = true)
      (hm : (⟨b, rw, .cells c el fz⟩ : Ent) ∈ H) (hc : c[off]? = some v) (r : Res P E H rs vs) : Res P E H (.cell a t :: rs) (v :: vs)
  | cellA {a t : Nat} {dd : TypeDesc} {ti : TypeInfo} {b : Nat} {rw : Bool} {c : Array Value} {el : TypeId} {fz : Nat × Nat} {rs : List ResultVar} {vs : List Value} (h : look E a = some (.pointer (some ⟨b, 0, none⟩))) (hu : P.underlying t = some dd) (hd : flatD dd = false) (hti : P.info? t = some ti)
      (hm : (⟨b, rw, .cells c el fz⟩ : Ent) ∈ H) (hsz : ti.size = c.size) (r : Res P E H rs vs) : Res P E H (.cell a t :: rs) (.agg c :: vs)

theorem res_mapM {P : Program} {w : World} {n : Nat} {tmps : Array Value} (hi : Inv S w0 H w) (hft : Fits E n tmps) (gg : ResultVar → Sem Value) (h1 : ∀ t, gg (.tmp t) = pure (tmps.getD t undef))
    (h2 : ∀ a t, gg (.cell a t) = (do loadVar t (← asAddr (tmps.getD a undef)))) {rs : List ResultVar} {vs : List Value} (h : Res P E H rs vs) : (rs.mapM gg).run P w = .ok vs w := by
  have hget : ∀ t v, look E t = some v → tmps.getD t undef = v := fun t v hv => by
    rw [Array.getD_eq_getD_getElem?, hft.lk t v hv]; rfl
  induction h with
  | nil => rfl
  | tmp h r ih => simp [List.mapM_cons, h1, hget _ _ h, ih]
  | cell h hu hd hm hc r ih => simp [List.mapM_cons, h2, hget _ _ h, asAddr, run_loadVar1 hu hd (hi.cell hm hc), ih]
  | cellA h hu hd hti hm hsz r ih =>
    rename_i a t dd ti b rw c el fz rs vs
    have := run_loadVarA (P := P) (w := w) (b := b) (off := 0) (c := c) hu hd hti hsz (fun j _ hj => by
      have hj' : j < c.size := by omega
      rw [hi.cell hm (Array.getElem?_eq_getElem hj')]; simp [Array.getElem?_eq_getElem hj'])
    simp [List.mapM_cons, h2, hget _ _ h, asAddr, this, ih]

theorem run_resultsM {P : Program} {fn : Func} {w : World} {n : Nat} {tmps : Array Value} {vs : List Value} (hi : Inv S w0 H w) (hft : Fits E n tmps) (h : Res P E H fn.results.toList vs) : (results fn tmps).run P w = .ok (tup vs) w := by
  unfold results
  rw [Array.mapM_eq_mapM_toList]
  simp only [map_eq_pure_bind, bind_assoc, pure_bind, Sem.run_bind]
  rw [res_mapM hi hft _ (fun _ => rfl) (fun _ _ => rfl) h]
  simp only [Result.andThen_ok, Sem.run_pure, tup]
  congr 1
  split
  · rename_i hsz
    cases vs with
    | nil => simp at hsz
    | cons v r =>
      cases r with
      | nil => rfl
      | cons _ _ => simp at hsz
  · rename_i hsz
    cases vs with
    | nil => rfl
    | cons v r =>
      cases r with
      | nil => simp at hsz
      | cons _ _ => rfl

variable {P : Program} {f : FuncId} {fn : Func} {R : Ending → World → Prop}
theorem w_retM {vs : List Value} (hf : P.funcs[f]? = some fn) (hr : Res P E H fn.results.toList vs) (hR : ∀ w, Inv S w0 H w → R (.returned (tup vs)) w) : WF (cxOf P f fn R) S w0 (.code .ret :: k) [] E H :=
  w_retR rfl fun w hi => goR_ret hf (fun _ hft => run_resultsM hi hft hr) (hR w hi)
theorem w_endM {vs : List Value} (hf : P.funcs[f]? = some fn) (hr : Res P E H fn.results.toList vs) (hR : ∀ w, Inv S w0 H w → R (.returned (tup vs)) w) : WF (cxOf P f fn R) S w0 [] [] E H :=
  w_endR rfl fun w hi => goR_ret hf (fun _ hft => run_resultsM hi hft hr) (hR w hi)

/-- '[]T{..}'. -/
theorem wo_buildSlice {el n sz : Nat} {zv : Value} {ti : TypeInfo} {vs : List (Nat × Value)} {parts : Array (Nat × Operand)} {cs : Array Value} (hu : C.P.underlying t' = some (.slice el)) (hti : C.P.info? el = some ti) (hsz : ti.size = sz) (hz : ti.zero = some zv) (hpos : Nat.blt 0 (n * sz) = true) (hle : Nat.ble (n * sz) 16777216 = true)
    (hp : partv E parts.toList = some vs) (hfill : Instr.fill (fun i => some (i * sz, sz)) ((Array.range (n * sz)).map (zv.cells[· % zv.cells.size]!)) vs = some cs) (hg : guardOk E ops ⟨d, .buildSlice t' n parts, t, p, af, g⟩ = some true) (hd : dstOk d C.n = true)
    (h : ∀ bb, w0.heap.size ≤ bb → WO C S w0 ops rest k D (putE d (.slice (some ⟨bb, 0, none⟩) n n) E) (⟨bb, true, .cells cs el (0, 0)⟩ :: H)) : WO C S w0 ops (⟨d, .buildSlice t' n parts, t, p, af, g⟩ :: rest) k D E H := by
  refine wo_op hg hd fun w hi tmps hft => ?_
  rw [semAt_nd _ _ _ (nd_of rfl)]
  have h1 : 0 < n * sz := by simpa using hpos
  have h2 : n * sz ≤ 16777216 := by simpa using hle
  have h3 : (parts.map (fun (i, x) => (i, ({ tmps := tmps, defers := D } : Act).eval x))).toList = vs := by
    rw [← hft.partv (D := D) hp]; simp
  simp at h3
  have hrun : (execOp ({ tmps := tmps, defers := D } : Act).eval (⟨d, .buildSlice t' n parts, t, p, af, g⟩ : Oper)).run C.P w = .ok (.value (.slice (some ⟨w.heap.size, 0, none⟩) n n)) { w with heap := w.heap.push (.cells cs el (0, 0)) } := by
    have hs0 := run_sizeOf (t' := el) (P := C.P) (w := w) (n := sz) (by rw [hti, ← hsz]; rfl)
    have hz0 : (zeroValue el).run C.P w = .ok zv w := by simp [zeroValue, run_typeInfo hti, hz]
    have e1 : ¬ (n * sz > 2 ^ 24) := by have : (2 : Nat) ^ 24 = 16777216 := by decide
                                        omega
    have e2 : ¬ (n * sz = 0) := by omega
    simp only [execOp, Instr.buildSlice, Sem.run_bind, run_underlying hu, Result.andThen_ok, hs0]
    rw [if_neg e1]
    simp only [Sem.run_bind, Sem.run_pure, Result.andThen_ok, if_neg e2, hz0, Array.toList_map, h3, hfill, newRow, newObj, Sem.run]
  rw [hrun]
  exact (h _ hi.fr.size).go2 (hi.new _)

/-! ### append -/
theorem growBy_le (m : Nat) : ∀ (r c : Nat), c < m → Builtin.growBy m r c ≤ 2 * m + 192
  | 0, c, h => by unfold Builtin.growBy; omega
  | r + 1, c, h => by
    unfold Builtin.growBy
    split
    · omega
    · by_cases h2 : c + (c + 768) / 4 < m
      · exact growBy_le m r _ h2
      · have : ∀ r c, m ≤ c → Builtin.growBy m r c = c := by
          intro r c hc
          cases r with
          | zero => rfl
          | succ r => unfold Builtin.growBy; rw [if_pos (by omega)]
        rw [this _ _ (by omega)]; omega

theorem nextcap_le (m o : Nat) (h : o < m) : Builtin.nextslicecap m o ≤ 2 * m + 192 := by
  unfold Builtin.nextslicecap
  split
  · omega
  · split
    · omega
    · exact growBy_le m 4 o h

def RowAt (H H' : List Ent) (el : TypeId) (xs rst : List Value) (cap : Nat) : Option Nat → Prop
  | none => cap = 0 ∧ H' = H
  | some b => (⟨b, true, .cells (xs ++ rst).toArray el (0, 0)⟩ : Ent) ∈ H ∧ Del b H H'

def okCell (v : Value) : Bool := match v with | .agg _ | .tuple _ => false | _ => true

theorem foldl_set (c : List Value) : ∀ (new : List Value) (pre : List Value) (rst : List Value), new.length ≤ rst.length → c = pre ++ rst →
    ((new.zipIdx pre.length).foldl (fun (c : Array Value) (p : Value × Nat) => c.setIfInBounds p.2 p.1) c.toArray) = (pre ++ new ++ rst.drop new.length).toArray
  | [], pre, rst, _, h => by simp [h]
  | v :: new, pre, r :: rst, hl, h => by
    subst h
    have := foldl_set (pre ++ [v] ++ rst) new (pre ++ [v]) rst (by simpa using hl) rfl
    simp only [List.zipIdx_cons, List.foldl_cons]
    have e : ((pre ++ r :: rst).toArray.setIfInBounds pre.length v) = (pre ++ [v] ++ rst).toArray := by
      apply Array.ext'; simp
    rw [e]
    simp only [List.length_append, List.length_cons, List.length_nil] at this
    rw [this]; simp
  | v :: new, pre, [], hl, _ => by simp at hl

/-- What an append makes of a slice's value and of the known blocks. -/
theorem run_append {el sz n cap kn : Nat} {ti : TypeInfo} {zv : Value} {base : Option Nat} {xs rst new : List Value} {sv xv : Value} {sT xT : TypeId} {dx : TypeDesc} {w : World} {aT : Array TypeId}
    (hi : Inv S w0 H w) (hu : C.P.underlying sT = some (.slice el)) (hux : C.P.underlying xT = some dx) (hdx : (∃ e2, dx = .slice e2) ∨ dx = .string) (haT : aT = #[sT, xT]) (hti : C.P.info? el = some ti) (hsz : ti.size = sz) (hpos : 0 < sz) (hz : ti.zero = some zv) (hzs : zv.cells.size = sz)
    (hs : sv = .slice (base.map fun b => ⟨b, 0, none⟩) n cap) (hxs : xs.length = n * sz) (hcap : xs.length + rst.length = cap * sz)
    (hb : RowAt H H' el xs rst cap base)
    (hlen : (Builtin.lenOf xv).run C.P w = .ok kn w) (hnew : ∀ w', (∀ (b : Nat) (c : Array Value) (e : TypeId) (f : Nat × Nat), w.heap[b]? = some (Obj.cells c e f) → w'.heap[b]? = some (Obj.cells c e f)) → (Builtin.firstCells sz kn xv).run C.P w' = .ok new.toArray w') (hnl : new.length = kn * sz) (hok : ∀ v ∈ new, okCell v = true)
    (hroom : (2 * (n + kn) + 192) * ti.bytes ≤ 281474976710656) (hmax : n + kn ≤ 4611686018427387904) (hk : 0 < kn) :
    ∃ b' cap' rst' w', (Builtin.append_ aT t #[sv, xv]).run C.P w = .ok (.slice (some ⟨b', 0, none⟩) (n + kn) cap') w' ∧ (xs ++ new).length + rst'.length = cap' * sz ∧ n + kn ≤ cap' ∧ Inv S w0 (⟨b', true, .cells (xs ++ new ++ rst').toArray el (0, 0)⟩ :: H') w' := by
  subst haT hs
  have hs0 : ∀ w, (sizeOf el).run C.P w = .ok sz w := fun w => run_sizeOf (by rw [hti, ← hsz]; rfl)
  rcases hdx with ⟨e2, rfl⟩ | rfl
  all_goals
    by_cases hfit : n + kn ≤ cap
    · cases base with
      | none => have := hb.1; omega
      | some b =>
        obtain ⟨hm, hdel⟩ := hb
        obtain ⟨w', g1, g2, g3, g4, g5, g6, g7⟩ := run_storeCells (P := C.P) b new (n * sz) 0 w (fun v hv => by have := hok v hv; unfold okCell at this; cases v <;> simp_all) (fun j hj => by
          have hlt : n * sz + 0 + j < (xs ++ rst).toArray.size := by
            simp only [List.size_toArray, List.length_append, hcap]
            have : (n + kn) * sz ≤ cap * sz := Nat.mul_le_mul_right _ hfit
            rw [Nat.add_mul] at this; omega
          refine ⟨?_, hi.frozen hm⟩
          rw [hi.cell hm (Array.getElem?_eq_getElem hlt)]; rfl)
        have hrl : new.length ≤ rst.length := by
          have : (n + kn) * sz ≤ cap * sz := Nat.mul_le_mul_right _ hfit
          rw [Nat.add_mul] at this; omega
        have hcell : w'.heap[b]? = some (.cells (xs ++ new ++ rst.drop new.length).toArray el (0, 0)) := by
          have := g7 _ _ _ (hi.hb _ hm)
          rw [this]
          have := foldl_set (xs ++ rst) new xs rst hrl rfl
          rw [hxs] at this
          simp only [Nat.add_zero]
          rw [this]
        refine ⟨b, cap, rst.drop new.length, w', ?_, by simp only [List.length_append, List.length_drop]; omega, hfit, ?_⟩
        · have e1 : ((⟨b, 0, none⟩ : Addr).add (n * sz)) = ⟨b, n * sz, none⟩ := by rw [add_addr]; simp
          simp only [Builtin.append_, Sem.run_bind, run_underlying hu, run_underlying hux, Result.andThen_ok, hs0, Option.map_some, List.getElem?_toArray, List.getElem?_cons_zero, List.getElem?_cons_succ, Sem.run_pure]
          simp only [Bool.false_eq_true, if_false, hlen, Result.andThen_ok, Sem.run_bind]
          rw [if_pos hfit]
          simp only [Sem.run_bind, Bool.not_false, if_true, hnew w (fun _ _ _ _ h => h), Result.andThen_ok, e1, List.toList_toArray, g1, Sem.run_pure]
        · have hbw := hi.wr _ hm rfl
          refine ⟨⟨g2.trans hi.fr.os, g3.trans hi.fr.tape, g4.trans hi.fr.output, by rw [g5]; exact hi.fr.size, fun q hq hS => ?_⟩, ?_, ?_, ?_⟩
          · rw [g6 q (by rintro rfl; rcases hbw with h | h; exact hS h; simp only at h; omega)]; exact hi.fr.block q hq hS
          · simp only [List.map_cons, List.nodup_cons, List.mem_map, not_exists, not_and]
            exact ⟨fun e he => hdel.ne hi.nd e he, (hdel.sub.map Ent.b).nodup hi.nd⟩
          · intro e he
            cases he with
            | head => exact hcell
            | tail _ he => rw [g6 _ (hdel.ne hi.nd e he)]; exact hi.hb e (hdel.sub.subset he)
          · intro e he hr
            cases he with
            | head => exact hbw
            | tail _ he => exact hi.wr e (hdel.sub.subset he) hr
    · have hcut : n + kn ≤ Question.cut (.appendCap (n + kn) cap el) (w.tape w.drawn (.appendCap (n + kn) cap el)) := by simp [Question.cut]
      generalize hcap' : Question.cut (.appendCap (n + kn) cap el) (w.tape w.drawn (.appendCap (n + kn) cap el)) = cap' at hcut
      have hold : (Builtin.firstCells sz n (.slice (base.map fun b => ⟨b, 0, none⟩) n cap)).run C.P { w with drawn := w.drawn + 1 } = .ok xs.toArray { w with drawn := w.drawn + 1 } := by
        cases base with
        | none =>
          have : xs = [] := by
            cases xs with
            | nil => rfl
            | cons _ _ => simp [hb.1] at hcap
          subst this
          simp [Builtin.firstCells]
        | some b =>
          obtain ⟨hm, hdel⟩ := hb
          have h1 := run_loadCellsFrom (P := C.P) (w := { w with drawn := w.drawn + 1 }) (b := b) (off := 0) (c := (xs ++ rst).toArray) (fun j _ hj => by
            have := hi.drew.cell (off := j) hm (Array.getElem?_eq_getElem (by simpa using hj))
            rw [this]; simp) (n * sz) 0 #[] (by simp; omega)
          simp only [Builtin.firstCells, Option.map_some, loadCells]
          rw [h1]
          congr 1
          apply Array.ext'
          simp [← hxs]
      have hzl : (Builtin.zeroCells zv.cells (cap' - (n + kn))).toList.length = (cap' - (n + kn)) * sz := by simp [Builtin.zeroCells, hzs]
      refine ⟨w.heap.size, cap', (Builtin.zeroCells zv.cells (cap' - (n + kn))).toList, { w with drawn := w.drawn + 1, heap := w.heap.push (.cells (xs ++ new ++ (Builtin.zeroCells zv.cells (cap' - (n + kn))).toList).toArray el (0, 0)) }, ?_, ?_, hcut, ?_⟩
      · have hnc := nextcap_le (n + kn) cap (by omega)
        have hnr : ¬ (Builtin.nextslicecap (n + kn) cap * ti.bytes > 2 ^ 48) := by
          have : Builtin.nextslicecap (n + kn) cap * ti.bytes ≤ (2 * (n + kn) + 192) * ti.bytes := Nat.mul_le_mul_right _ hnc
          have h48 : (2 : Nat) ^ 48 = 281474976710656 := by decide
          omega
        have hmx : ¬ (((n + kn : Nat) : Int) > IntKind.i64.max ∧ (False ∨ ti.bytes = 0)) := by
          have : IntKind.i64.max = 9223372036854775807 := by decide
          rintro ⟨h, _⟩; omega
        simp only [Builtin.append_, Sem.run_bind, run_underlying hu, run_underlying hux, Result.andThen_ok, hs0, List.getElem?_toArray, List.getElem?_cons_zero, List.getElem?_cons_succ, Sem.run_pure]
        simp only [Bool.false_eq_true, if_false, hlen, Result.andThen_ok, Sem.run_bind]
        rw [if_neg hfit]
        simp only [Sem.run_bind, run_typeInfo hti, Result.andThen_ok]
        rw [if_neg hmx]
        simp only [Sem.run_bind, Sem.run_pure, Result.andThen_ok, run_typeInfo hti]
        rw [if_neg hnr]
        have e1 : (choose (.appendCap (n + kn) cap el)).run C.P w = .ok cap' { w with drawn := w.drawn + 1 } := by
          simp [choose, Sem.run, Question.forced, hcap']
        have e2 : ∀ w q, (askRoom q).run C.P w = .ok () w := by
          intro w q; unfold askRoom; split <;> rfl
        have e3 : ∀ w, (zeroValue el).run C.P w = .ok zv w := fun w => by simp [zeroValue, run_typeInfo hti, hz]
        have hn2 := hnew { w with drawn := w.drawn + 1 } (fun _ _ _ _ h => h)
        simp only [Sem.run_bind, Sem.run_pure, Result.andThen_ok, e1, run_typeInfo hti, e2, hold, Bool.not_false, if_true, hn2, e3, newRow, newObj, Sem.run]
        congr 4
        apply Array.ext'; simp
      · rw [hzl, List.length_append, hxs, hnl, Nat.sub_mul, Nat.add_mul]
        have : (n + kn) * sz ≤ cap' * sz := Nat.mul_le_mul_right _ hcut
        rw [Nat.add_mul] at this; omega
      · have hsub : H'.Sublist H := by
          cases base with
          | none => rw [hb.2]; exact List.Sublist.refl _
          | some b => exact hb.2.sub
        exact (hi.drew.new _).subset (hsub.cons_cons _)
/-- 'append(s, t...)', t a slice of a known block. -/
theorem wo_append {el sz n cap kn : Nat} {ti : TypeInfo} {zv : Value} {base : Option Nat} {xs rst new : List Value} {sT xT : TypeId} {aT : Array TypeId} {e2 : TypeId} {b2 o2 c2 : Nat} {rw2 : Bool} {cc : Array Value} {el2 : TypeId} {fz2 : Nat × Nat}
    (hx : opv E x = some (.slice (base.map fun b => ⟨b, 0, none⟩) n cap)) (hy : opv E y = some (.slice (some ⟨b2, o2, none⟩) kn c2)) (hu : C.P.underlying sT = some (.slice el)) (hux : C.P.underlying xT = some (.slice e2)) (haT : aT = #[sT, xT]) (hti : C.P.info? el = some ti) (hsz : ti.size = sz) (hpos : 0 < sz)
    (hz : ti.zero = some zv) (hzs : zv.cells.size = sz) (hxs : xs.length = n * sz) (hcap : xs.length + rst.length = cap * sz) (hb : RowAt H H' el xs rst cap base)
    (hm : (⟨b2, rw2, .cells cc el2 fz2⟩ : Ent) ∈ H) (hnew : (cc.extract o2 (o2 + kn * sz)).toList = new) (hle : o2 + kn * sz ≤ cc.size) (hok : ∀ v ∈ new, okCell v = true)
    (hroom : (2 * (n + kn) + 192) * ti.bytes ≤ 281474976710656) (hmax : n + kn ≤ 4611686018427387904) (hk : 0 < kn) (hg : guardOk E ops ⟨d, .call { callee := .builtin .append, args := #[x, y], argTypes := aT }, t, p, af, g⟩ = some true) (hd : dstOk d C.n = true)
    (h : ∀ b' cap' rst', (xs ++ new).length + rst'.length = cap' * sz → n + kn ≤ cap' → WO C S w0 ops rest k D (putE d (.slice (some ⟨b', 0, none⟩) (n + kn) cap') E) (⟨b', true, .cells (xs ++ new ++ rst').toArray el (0, 0)⟩ :: H')) :
    WO C S w0 ops (⟨d, .call { callee := .builtin .append, args := #[x, y], argTypes := aT }, t, p, af, g⟩ :: rest) k D E H := by
  refine wo_op hg hd fun w hi tmps hft => ?_
  rw [semAt_nd _ _ _ (nd_of rfl)]
  have hnl : new.length = kn * sz := by rw [← hnew]; simp; omega
  obtain ⟨b', cap', rst', w', r1, r2, r3, r4⟩ := run_append (t := t) (w := w) (sv := .slice (base.map fun b => ⟨b, 0, none⟩) n cap) (xv := .slice (some ⟨b2, o2, none⟩) kn c2) hi hu hux (.inl ⟨e2, rfl⟩) haT hti hsz hpos hz hzs rfl hxs hcap hb (by simp [Builtin.lenOf]) (fun w' hw' => by
    have h1 := run_loadCellsFrom (P := C.P) (w := w') (b := b2) (off := o2) (c := cc.extract o2 (o2 + kn * sz)) (fun j h1 h2 => by
      have h3 : j - o2 < kn * sz := by simp at h2; omega
      have hjc : j < cc.size := by omega
      have hb2 := hw' _ _ _ _ (hi.hb _ hm)
      have : w'.cell? ⟨b2, j, none⟩ = cc[j]? := by
        unfold World.cell?
        simp [hb2]
      rw [this, Array.getElem?_extract]
      rw [if_pos (by omega)]
      congr 1; omega) (kn * sz) 0 #[] (by simp; omega)
    simp only [Builtin.firstCells, loadCells]
    rw [h1, ← hnew]
    congr 1
    apply Array.ext'
    simp) hnl hok hroom hmax hk
  have hrun : (execOp ({ tmps := tmps, defers := D } : Act).eval (⟨d, .call { callee := .builtin .append, args := #[x, y], argTypes := aT }, t, p, af, g⟩ : Oper)).run C.P w = .ok (.value (.slice (some ⟨b', 0, none⟩) (n + kn) cap')) w' := by
    simp [execOp, resolve, invoke, builtin, hft.opv D hx, hft.opv D hy, r1]
  rw [hrun]
  exact (h b' cap' rst' r2 r3).go2 r4

/-- 'append(b, s...)', s a string. -/
theorem wo_appendS {el n cap : Nat} {ti : TypeInfo} {zv : Value} {base : Option Nat} {xs rst : List Value} {sT xT : TypeId} {aT : Array TypeId} {l : List UInt8}
    (hx : opv E x = some (.slice (base.map fun b => ⟨b, 0, none⟩) n cap)) (hy : opv E y = some (str l)) (hu : C.P.underlying sT = some (.slice el)) (hux : C.P.underlying xT = some .string) (haT : aT = #[sT, xT]) (hti : C.P.info? el = some ti) (hsz : ti.size = 1)
    (hz : ti.zero = some zv) (hzs : zv.cells.size = 1) (hxs : xs.length = n) (hcap : xs.length + rst.length = cap) (hb : RowAt H H' el xs rst cap base)
    (hroom : (2 * (n + l.length) + 192) * ti.bytes ≤ 281474976710656) (hmax : n + l.length ≤ 4611686018427387904) (hk : 0 < l.length) (hg : guardOk E ops ⟨d, .call { callee := .builtin .append, args := #[x, y], argTypes := aT }, t, p, af, g⟩ = some true) (hd : dstOk d C.n = true)
    (h : ∀ b' cap' rst', (xs ++ byv l).length + rst'.length = cap' → n + l.length ≤ cap' → WO C S w0 ops rest k D (putE d (.slice (some ⟨b', 0, none⟩) (n + l.length) cap') E) (⟨b', true, .cells (xs ++ byv l ++ rst').toArray el (0, 0)⟩ :: H')) :
    WO C S w0 ops (⟨d, .call { callee := .builtin .append, args := #[x, y], argTypes := aT }, t, p, af, g⟩ :: rest) k D E H := by
  refine wo_op hg hd fun w hi tmps hft => ?_
  rw [semAt_nd _ _ _ (nd_of rfl)]
  obtain ⟨b', cap', rst', w', r1, r2, r3, r4⟩ := run_append (t := t) (w := w) (kn := l.length) (new := byv l) (sv := .slice (base.map fun b => ⟨b, 0, none⟩) n cap) (xv := str l) hi hu hux (.inr rfl) haT hti hsz (by omega) hz hzs rfl (by omega) (by omega) hb (by simp [Builtin.lenOf, size_list]) (fun w' _ => by
    simp only [Builtin.firstCells, ext_list, Sem.run_pure]
    congr 1
    apply Array.ext'
    simp [byv]) (by simp [byv]) (by simp [byv, okCell]) hroom hmax hk
  have hrun : (execOp ({ tmps := tmps, defers := D } : Act).eval (⟨d, .call { callee := .builtin .append, args := #[x, y], argTypes := aT }, t, p, af, g⟩ : Oper)).run C.P w = .ok (.value (.slice (some ⟨b', 0, none⟩) (n + l.length) cap')) w' := by
    simp [execOp, resolve, invoke, builtin, hft.opv D hx, hft.opv D hy, r1]
  rw [hrun]
  exact (h b' cap' rst' (by omega) r3).go2 r4
end
end Go.Sl

namespace Go.Sl
open Go Go.RowKit Go.Shelf Go.Proofs

/-- The rest of a region that draws, walked in the order of the text. -/
def WQ (C : Cx) (S : Nat → Prop) (w0 : World) (ops : Array Oper) (rest : List Oper) (k : List Item) (D : List Deferred) (E : List (Nat × Value)) (H : List Ent) : Prop :=
  ∀ tmps, Fits E C.n tmps → wpQuiet C.P ops (Inv S w0 H) (fun a' => a'.defers = D ∧ ∃ E', Fits E' C.n a'.tmps ∧ WF C S w0 k D E' H) rest { tmps := tmps, defers := D }

section
variable {C : Cx} {S : Nat → Prop} {w0 : World} {k : List Item} {D : List Deferred} {E : List (Nat × Value)} {H H' : List Ent} {d : Option Tmp} {t t' : TypeId} {p : String} {af : Array Edge} {g : Option (Nat × Bool)} {x y z : Operand} {v u : Value} {ops : Array Oper} {rest : List Oper}

theorem w_regQ {id : Nat} (hro : C.b.roundOf = none) (hm : C.P.follows .mixedOrders = true) (hB : Region.lexB .any ops = true) (h : WQ C S w0 ops ops.toList k D E H) : WF C S w0 (.code (.region id ops true) :: k) D E H := by
  intro w hi tmps hf cs
  have hw := wp_region_quiet (C := Inv S w0 H) (id := id) (Q := fun e a' w' => e = .normal ∧ a'.defers = D ∧ Inv S w0 H w' ∧ ∃ E', Fits E' C.n a'.tmps ∧ WF C S w0 k D E' H) (a := { tmps := tmps, defers := D }) (w := w) hm hB hi.drew (by
    have h1 := h tmps hf
    have mono : ∀ (l : List Oper) (a : Act) (Q Q' : Act → Prop), (∀ a, Q a → Q' a) → wpQuiet C.P ops (Inv S w0 H) Q l a → wpQuiet C.P ops (Inv S w0 H) Q' l a := by
      intro l
      induction l with
      | nil => exact fun a Q Q' hq h => hq a h
      | cons o l ih =>
        intro a Q Q' hq h
        unfold wpQuiet at h ⊢
        split
        · rename_i hw; rw [if_pos hw] at h; exact Oper.quiet_mono (fun a => ih a Q Q' hq) h
        · rename_i hw; rw [if_neg hw] at h; exact ih _ Q Q' hq h
    exact mono _ _ _ _ (fun a ha w' hw' => ⟨rfl, ha.1, hw', ha.2⟩) h1)
  obtain ⟨e, a', w', ⟨rfl, hd, hi', E', hf', hk⟩, harr⟩ := hw C.b k cs
  obtain ⟨tm, df⟩ := a'
  simp only at hd hf'
  subst hd
  obtain ⟨m, ht, hs⟩ := hk w' hi' tm hf' cs
  refine ⟨m, ht, ?_⟩
  rw [Frame.atR_of_none hro] at hs ⊢
  exact Steps.trans harr hs

theorem wq_nil (h : WF C S w0 k D E H) : WQ C S w0 ops [] k D E H := fun tmps hf => ⟨rfl, E, hf, h⟩

theorem wq_v {o : Oper} (hv : OpV C S w0 H D E o v) (hg : guardOk E ops o = some true) (hd : dstOk o.dst C.n = true) (h : WQ C S w0 ops rest k D (putE o.dst v E) H) : WQ C S w0 ops (o :: rest) k D E H := fun tmps hf => by
  unfold wpQuiet
  rw [if_pos (guardOk_wanted hf hg)]
  obtain ⟨f1, f2⟩ := hf.putE (dstOk_lt hd) v D
  refine ⟨v, fun w hw => hv tmps w hf hw, ?_⟩
  rw [act_eta f2]
  exact h _ f1

theorem wq_skip {o : Oper} (hg : guardOk E ops o = some false) (hd : dstOk o.dst C.n = true) (h : WQ C S w0 ops rest k D (putE o.dst undef E) H) : WQ C S w0 ops (o :: rest) k D E H := fun tmps hf => by
  unfold wpQuiet
  rw [if_neg (by rw [guardOk_wanted hf hg]; simp)]
  obtain ⟨f1, f2⟩ := hf.putE (dstOk_lt hd) undef D
  rw [act_eta f2]
  exact h _ f1

theorem wq_weak {E' : List (Nat × Value)} (hs : sub E' E) (h : WQ C S w0 ops rest k D E' H) : WQ C S w0 ops rest k D E H := fun tmps hf => h tmps (hf.sub hs)

theorem wq_split {tt : Nat} {bb : Bool} (hl : look E tt = some (.bool bb)) (ht : bb = true → WQ C S w0 ops rest k D ((tt, .bool true) :: E) H) (hf : bb = false → WQ C S w0 ops rest k D ((tt, .bool false) :: E) H) : WQ C S w0 ops rest k D E H := by
  have hs : ∀ v, look E tt = some v → sub ((tt, v) :: E) E := fun v hv s u e => by
    rw [look_cons] at e
    by_cases he : tt = s
    · subst he; rw [if_pos rfl] at e; cases e; exact hv
    · rw [if_neg he] at e; exact e
  cases bb with
  | true => exact wq_weak (hs _ hl) (ht rfl)
  | false => exact wq_weak (hs _ hl) (hf rfl)
theorem wq_gs {o1 : Op} {j : Nat} {want : Bool} {tt : Nat} {q : Prop} {_i : Decidable q} (hj : (ops[j]?).bind (·.dst) = some tt) (hl : look E tt = some (.bool (decide q)))
    (ht : q → WQ C S w0 ops (⟨d, o1, t, p, af, some (j, want)⟩ :: rest) k D ((tt, .bool true) :: E) H) (hf : ¬ q → WQ C S w0 ops (⟨d, o1, t, p, af, some (j, want)⟩ :: rest) k D ((tt, .bool false) :: E) H) :
    WQ C S w0 ops (⟨d, o1, t, p, af, some (j, want)⟩ :: rest) k D E H := wq_split hl (fun h => ht (of_decide_eq_true h)) (fun h => hf (of_decide_eq_false h))
theorem wq_gsN {o1 : Op} {j : Nat} {want : Bool} {tt : Nat} {q : Prop} {_i : Decidable q} (hj : (ops[j]?).bind (·.dst) = some tt) (hl : look E tt = some (.bool (!decide q)))
    (ht : ¬ q → WQ C S w0 ops (⟨d, o1, t, p, af, some (j, want)⟩ :: rest) k D ((tt, .bool true) :: E) H) (hf : q → WQ C S w0 ops (⟨d, o1, t, p, af, some (j, want)⟩ :: rest) k D ((tt, .bool false) :: E) H) :
    WQ C S w0 ops (⟨d, o1, t, p, af, some (j, want)⟩ :: rest) k D E H := wq_split hl (fun h => ht (of_decide_eq_false (by simpa using h))) (fun h => hf (of_decide_eq_true (by simpa using h)))
theorem wq_ps {tt : Nat} {q : Prop} {_i : Decidable q} (hl : look E tt = some (.bool (decide q)))
    (ht : q → WQ C S w0 ops (⟨d, .pick (.tmp tt) y z, t, p, af, g⟩ :: rest) k D ((tt, .bool true) :: E) H) (hf : ¬ q → WQ C S w0 ops (⟨d, .pick (.tmp tt) y z, t, p, af, g⟩ :: rest) k D ((tt, .bool false) :: E) H) :
    WQ C S w0 ops (⟨d, .pick (.tmp tt) y z, t, p, af, g⟩ :: rest) k D E H := wq_split hl (fun h => ht (of_decide_eq_true h)) (fun h => hf (of_decide_eq_false h))
variable {kk k2 : IntKind} {a b : Int} {xt yt : TypeId}
/-- Which slots are kept behind a region: those of G, each in its last state. -/
def clean (G : List Nat) (rest : List (Nat × Value)) : List (Nat × Value) := rest.filter fun p => G.contains p.1
def PF (C : Cx) (S : Nat → Prop) (w0 : World) (G : List Nat) (k : List Item) (D : List Deferred) (acc rest : List (Nat × Value)) (H : List Ent) : Prop := WF C S w0 k D (acc ++ clean G rest) H

theorem look_append (l m : List (Nat × Value)) (t : Nat) : look (l ++ m) t = match look l t with | some v => some v | none => look m t := by
  induction l with
  | nil => rfl
  | cons p l ih =>
    obtain ⟨k, v⟩ := p
    rw [List.cons_append, look_cons, look_cons, ih]
    split <;> rfl
theorem look_clean (G : List Nat) (rest : List (Nat × Value)) (t : Nat) (u : Value) (h : look (clean G rest) t = some u) : look rest t = some u := by
  induction rest with
  | nil => exact h
  | cons p rest ih =>
    obtain ⟨q, v⟩ := p
    unfold clean at h ih
    rw [List.filter_cons] at h
    rw [look_cons]
    by_cases hg : G.contains q = true
    · rw [if_pos hg, look_cons] at h
      split
      · rename_i e; rw [if_pos e] at h; exact h
      · rename_i e; rw [if_neg e] at h; exact ih h
    · rw [if_neg hg] at h
      by_cases e : q = t
      · subst e
        exfalso
        have : ∀ l : List (Nat × Value), look (l.filter fun p => G.contains p.1) q = none := by
          intro l
          induction l with
          | nil => rfl
          | cons p l ih2 =>
            obtain ⟨r, v2⟩ := p
            rw [List.filter_cons]
            split
            · rename_i hr; rw [look_cons, if_neg (by rintro rfl; exact hg hr)]; exact ih2
            · exact ih2
        rw [this] at h; cases h
      · rw [if_neg e]; exact ih h
def isFree (acc : List (Nat × Value)) (k : Nat) : Bool := match look acc k with | some _ => false | none => true
theorem wo_nilP (G : List Nat) (h : PF C S w0 G k D [] E H) : WO C S w0 ops [] k D E H := wo_nil (w_weak (fun t u e => look_clean G E t u e) h)
theorem wq_nilP (G : List Nat) (h : PF C S w0 G k D [] E H) : WQ C S w0 ops [] k D E H := wq_nil (w_weak (fun t u e => look_clean G E t u e) h)
theorem w_regI (n : Nat) (h : WO C S w0 ops ops.toList k D E H) : WF C S w0 (.code (.region n ops false) :: k) D E H := w_reg h
theorem w_regQI (n : Nat) (hro : C.b.roundOf = none) (hm : C.P.follows .mixedOrders = true) (hB : Region.lexB .any ops = true) (h : WQ C S w0 ops ops.toList k D E H) : WF C S w0 (.code (.region n ops true) :: k) D E H := w_regQ hro hm hB h
theorem pf_nil {G : List Nat} {acc : List (Nat × Value)} (h : WF C S w0 k D acc H) : PF C S w0 G k D acc [] H := by unfold PF; rwa [show clean G [] = [] from rfl, List.append_nil]
theorem pf_keep {G : List Nat} {acc rest : List (Nat × Value)} {q : Nat} {v : Value} (hc : (G.contains q && isFree acc q) = true) (h : PF C S w0 G k D ((q, v) :: acc) rest H) : PF C S w0 G k D acc ((q, v) :: rest) H := by
  unfold PF at *
  refine w_weak (fun t u e => ?_) h
  simp only [Bool.and_eq_true, isFree] at hc
  rw [List.cons_append, look_cons, look_append] at e
  rw [look_append, clean, List.filter_cons, if_pos hc.1, look_cons]
  by_cases he : q = t
  · subst he
    rw [if_pos rfl] at e ⊢
    cases hl : look acc q with
    | none => exact e
    | some _ => rw [hl] at hc; simp at hc
  · rw [if_neg he] at e ⊢; exact e
theorem pf_drop {G : List Nat} {acc rest : List (Nat × Value)} {q : Nat} {v : Value} (hc : (G.contains q && isFree acc q) = false) (h : PF C S w0 G k D acc rest H) : PF C S w0 G k D acc ((q, v) :: rest) H := by
  unfold PF at *
  refine w_weak (fun t u e => ?_) h
  rw [look_append] at e ⊢
  rw [clean, List.filter_cons]
  by_cases hg : G.contains q = true
  · rw [if_pos hg, look_cons]
    rw [hg] at hc
    simp only [Bool.true_and, isFree] at hc
    by_cases he : q = t
    · subst he
      cases hl : look acc q with
      | none => rw [hl] at hc; simp at hc
      | some _ => rw [hl] at e; exact e
    · rw [if_neg he]; exact e
  · rw [if_neg hg]; exact e

theorem ov_lss3 (hx : opv E x = some (.int kk a)) (hy : opv E y = some (.int kk b)) {r : Bool} (h : decide (a < b) = r) : OpV C S w0 H D E ⟨d, .binOp .lss xt x y yt, t, p, af, g⟩ (.bool r) := h ▸ ov_lss hx hy
theorem ov_leq3 (hx : opv E x = some (.int kk a)) (hy : opv E y = some (.int kk b)) {r : Bool} (h : decide (a ≤ b) = r) : OpV C S w0 H D E ⟨d, .binOp .leq xt x y yt, t, p, af, g⟩ (.bool r) := h ▸ ov_leq hx hy
theorem ov_gtr3 (hx : opv E x = some (.int kk a)) (hy : opv E y = some (.int kk b)) {r : Bool} (h : decide (b < a) = r) : OpV C S w0 H D E ⟨d, .binOp .gtr xt x y yt, t, p, af, g⟩ (.bool r) := h ▸ ov_gtr hx hy
theorem ov_geq3 (hx : opv E x = some (.int kk a)) (hy : opv E y = some (.int kk b)) {r : Bool} (h : decide (b ≤ a) = r) : OpV C S w0 H D E ⟨d, .binOp .geq xt x y yt, t, p, af, g⟩ (.bool r) := h ▸ ov_geq hx hy
theorem ov_eql3 (hx : opv E x = some (.int kk a)) (hy : opv E y = some (.int kk b)) {r : Bool} (h : decide (a = b) = r) : OpV C S w0 H D E ⟨d, .binOp .eql xt x y yt, t, p, af, g⟩ (.bool r) := h ▸ ov_eql hx hy
theorem ov_neq3 (hx : opv E x = some (.int kk a)) (hy : opv E y = some (.int kk b)) {r : Bool} (h : (!decide (a = b)) = r) : OpV C S w0 H D E ⟨d, .binOp .neq xt x y yt, t, p, af, g⟩ (.bool r) := h ▸ ov_neq hx hy
theorem ov_eqlS3 {l m : List UInt8} (hx : opv E x = some (str l)) (hy : opv E y = some (str m)) {r : Bool} (h : decide (l = m) = r) : OpV C S w0 H D E ⟨d, .binOp .eql xt x y yt, t, p, af, g⟩ (.bool r) := h ▸ ov_eqlS hx hy
theorem ov_neqS3 {l m : List UInt8} (hx : opv E x = some (str l)) (hy : opv E y = some (str m)) {r : Bool} (h : (!decide (l = m)) = r) : OpV C S w0 H D E ⟨d, .binOp .neq xt x y yt, t, p, af, g⟩ (.bool r) := h ▸ ov_neqS hx hy
theorem not_dec_true {q : Prop} {_i : Decidable q} (h : ¬ q) : (!decide q) = true := by simp [h]
theorem not_dec_false {q : Prop} {_i : Decidable q} (h : q) : (!decide q) = false := by simp [h]
theorem ov_not3 {l r : Bool} (hx : opv E x = some (.bool l)) (h : (!l) = r) : OpV C S w0 H D E ⟨d, .unOp .not xt x, t, p, af, g⟩ (.bool r) := h ▸ ov_not hx

/-- Strings cut, in the plainest spelling. -/
theorem ov_cutLo {l : List UInt8} {lo : Operand} {a : Nat} (hu : C.P.underlying t' = some .string) (hx : opv E x = some (str l)) (hlo : opv E lo = some (.int kk (a : Int))) (hb : a ≤ l.length) : OpV C S w0 H D E ⟨d, .slice t' x (some lo) none none, t, p, af, g⟩ (str (l.drop a)) := by
  have := ov_sliceS (C := C) (S := S) (w0 := w0) (H := H) (D := D) (d := d) (t := t) (p := p) (af := af) (g := g) (lo := some lo) (hi := none) (a := a) (b := l.length) hu hx ⟨kk, _, hlo, by omega, by omega⟩ rfl hb (Nat.le_refl _)
  rwa [List.take_length] at this
theorem ov_cutHi {l : List UInt8} {hi : Operand} {b : Nat} (hu : C.P.underlying t' = some .string) (hx : opv E x = some (str l)) (hhi : opv E hi = some (.int kk (b : Int))) (hb : b ≤ l.length) : OpV C S w0 H D E ⟨d, .slice t' x none (some hi) none, t, p, af, g⟩ (str (l.take b)) := by
  have := ov_sliceS (C := C) (S := S) (w0 := w0) (H := H) (D := D) (d := d) (t := t) (p := p) (af := af) (g := g) (lo := none) (hi := some hi) (a := 0) (b := b) hu hx rfl ⟨kk, _, hhi, by omega, by omega⟩ (by omega) hb
  rwa [List.drop_zero] at this
theorem ov_cutLoI {l : List UInt8} {lo : Operand} {i : Int} (hu : C.P.underlying t' = some .string) (hx : opv E x = some (str l)) (hlo : opv E lo = some (.int kk i)) (h0 : 0 ≤ i) (hb : i ≤ l.length) : OpV C S w0 H D E ⟨d, .slice t' x (some lo) none none, t, p, af, g⟩ (str (l.drop i.toNat)) := by
  have := ov_sliceS (C := C) (S := S) (w0 := w0) (H := H) (D := D) (d := d) (t := t) (p := p) (af := af) (g := g) (lo := some lo) (hi := none) (a := i.toNat) (b := l.length) hu hx ⟨kk, _, hlo, h0, rfl⟩ rfl (by omega) (Nat.le_refl _)
  rwa [List.take_length] at this
theorem ov_cutHiI {l : List UInt8} {hi : Operand} {i : Int} (hu : C.P.underlying t' = some .string) (hx : opv E x = some (str l)) (hhi : opv E hi = some (.int kk i)) (h0 : 0 ≤ i) (hb : i ≤ l.length) : OpV C S w0 H D E ⟨d, .slice t' x none (some hi) none, t, p, af, g⟩ (str (l.take i.toNat)) := by
  have := ov_sliceS (C := C) (S := S) (w0 := w0) (H := H) (D := D) (d := d) (t := t) (p := p) (af := af) (g := g) (lo := none) (hi := some hi) (a := 0) (b := i.toNat) hu hx rfl ⟨kk, _, hhi, h0, rfl⟩ (by omega) (by omega)
  rwa [List.drop_zero] at this
theorem ov_cutLH {l : List UInt8} {lo hi : Operand} {a b : Nat} (hu : C.P.underlying t' = some .string) (hx : opv E x = some (str l)) (hlo : opv E lo = some (.int kk (a : Int))) (hhi : opv E hi = some (.int k2 (b : Int))) (hab : a ≤ b) (hb : b ≤ l.length) : OpV C S w0 H D E ⟨d, .slice t' x (some lo) (some hi) none, t, p, af, g⟩ (str ((l.take b).drop a)) :=
  ov_sliceS (lo := some lo) (hi := some hi) (a := a) (b := b) hu hx ⟨kk, _, hlo, by omega, by omega⟩ ⟨k2, _, hhi, by omega, by omega⟩ hab hb
end
end Go.Sl

namespace Go.Sl
open Go Go.RowKit Go.Shelf Go.Proofs

def QA (C : Cx) (k : List Item) (D : List Deferred) : Exit → Act → World → Prop
  | .normal, a, w => a.defers = D ∧ ∃ E, Fits E C.n a.tmps ∧ Go1 C k D E w
  | .panic chain, a, w => a.defers = D ∧ a.tmps.size = C.n ∧ GoP C chain D [] w
  | _, _, _ => False

def Go3 (C : Cx) (ops : Array Oper) (fuel : Nat) (listed : Array Bool) (k : List Item) (D : List Deferred) (E : List (Nat × Value)) (w : World) : Prop :=
  ∀ tmps, Fits E C.n tmps → wpAny C.P .any ops (QA C k D) fuel listed { tmps := tmps, defers := D } w

def WA (C : Cx) (S : Nat → Prop) (w0 : World) (ops : Array Oper) (fuel : Nat) (listed : Array Bool) (k : List Item) (D : List Deferred) (E : List (Nat × Value)) (H : List Ent) : Prop :=
  ∀ w, Inv S w0 H w → Go3 C ops fuel listed k D E w

section
variable {C : Cx} {S : Nat → Prop} {w0 : World} {k : List Item} {D : List Deferred} {E : List (Nat × Value)} {H H' : List Ent} {d : Option Tmp} {t t' : TypeId} {p : String} {af : Array Edge} {g : Option (Nat × Bool)} {x y z : Operand} {v u : Value} {ops : Array Oper} {fuel : Nat} {listed listed' : Array Bool}

theorem w_regA (n : Nat) (hro : C.b.roundOf = none) (hm : C.P.follows .mixedOrders = true) {m : Nat} (hsz : ops.size = m) (h : WA C S w0 ops m (Array.replicate m false) k D E H) : WF C S w0 (.code (.region n ops true) :: k) D E H := by
  subst hsz
  intro w hi tmps hf cs
  have hw := wp_region_any (id := n) (Q := QA C k D) (a := { tmps := tmps, defers := D }) (w := w) hm (h _ hi.drew tmps hf)
  obtain ⟨e, a', w', hq, harr⟩ := hw C.b k cs
  cases e with
  | normal =>
    obtain ⟨hd, E', hf', hg⟩ := hq
    obtain ⟨tm, df⟩ := a'
    simp only at hd hf'
    subst hd
    obtain ⟨m, ht, hs⟩ := hg tm hf' cs
    refine ⟨m, ht, ?_⟩
    rw [Frame.atR_of_none hro] at hs ⊢
    exact Steps.trans harr hs
  | panic chain =>
    obtain ⟨hd, hsz, hg⟩ := hq
    obtain ⟨tm, df⟩ := a'
    simp only at hd hsz
    subst hd
    obtain ⟨todo, hst⟩ := harr
    obtain ⟨m, ht, hs⟩ := hg tm ⟨hsz, fun _ _ h => by cases h⟩ todo cs
    refine ⟨m, ht, ?_⟩
    rw [Frame.atR_of_none hro] at hs ⊢
    exact Steps.trans hst hs
  | exit _ => exact hq.elim
  | goto _ => exact hq.elim
  | ret => exact hq.elim
  | outgrown => exact hq.elim

theorem wa_done (G : List Nat) (hr : Region.ready .any ops listed = []) (h : PF C S w0 G k D [] E H) : WA C S w0 ops fuel listed k D E H := fun w hi tmps hf =>
  wpAny_done hr ⟨rfl, E, hf, (w_weak (fun t u e => look_clean G E t u e) h : WF C S w0 k D E H) w hi⟩ fuel

theorem qa_panic {o : Oper} {v : Value} : ∀ c (a : Act) w, QA C k D (.panic c) (a.put o.dst v) w → QA C k D (.panic c) a w := by
  rintro c a w ⟨h1, h2, h3⟩
  refine ⟨?_, ?_, h3⟩
  · cases hd : o.dst <;> rw [hd] at h1 <;> exact h1
  · cases hd : o.dst <;> rw [hd] at h2
    · exact h2
    · simpa [Act.put] using h2

theorem run_val {P : Program} {w w' : World} {n : Next} (s : Sem Value) (h : (s >>= fun a => pure (Next.value a)).run P w = .ok n w') : ∃ a, n = .value a := by
  rw [Sem.run_bind] at h
  cases hs : s.run P w with
  | ok a w3 => rw [hs] at h; simp at h; exact ⟨a, h.1.symm⟩
  | halt _ _ => rw [hs] at h; simp at h

def plainOp : Op → Bool
  | .move _ | .assign _ | .pick .. | .binOp .. | .unOp .. | .convert .. | .makeInterface .. | .makeFunc .. | .slice .. | .fieldAddr .. | .field .. | .indexAddr .. | .index .. | .extract .. | .build .. => true
  | .call { callee := .builtin .len, .. } => true
  | _ => false

theorem run_plain {P : Program} {w w' : World} {n : Next} {ρ : Operand → Value} {o : Oper} (hp : plainOp o.op = true) (h : (execOp ρ o).run P w = .ok n w') : ∃ a, n = .value a := by
  unfold execOp at h
  cases ho : o.op <;> rw [ho] at hp h <;> simp only [plainOp] at hp <;> first
    | (simp only [Sem.run_pure, Result.ok.injEq] at h; exact ⟨_, h.1.symm⟩)
    | exact run_val _ h
    | (cases hp; done)
    | skip
  · simp only [Sem.run_bind] at h
    rename_i c a b
    cases hs : (asBool (ρ c)).run P w with
    | ok a w3 => rw [hs] at h; simp at h; exact ⟨_, h.1.symm⟩
    | halt _ _ => rw [hs] at h; simp at h
  · rename_i c
    obtain ⟨ce, args, tys⟩ := c
    cases ce with
    | value _ => simp at hp
    | invoke _ _ => simp at hp
    | builtin b =>
      cases b <;> simp at hp
      simp only [resolve, Sem.run_bind, Sem.run_pure, Result.andThen_ok, invoke, builtin] at h
      exact run_val _ (by rw [Sem.run_bind]; exact h)

/-- A plain operation that is free goes first. -/
theorem wa_take (i : Nat) {o : Oper} (hi : ops[i]? = some o) (hv : ∀ w1, OpV C none_ w1 [] D E o v) (hs : Region.noSelect ops = true) (hf : Region.free .any ops listed i = true) (hr : (Region.ready .any ops listed).contains i = true)
    (hg : guardOk E ops o = some true) (hd : dstOk o.dst C.n = true) (hnc : plainOp o.op = true) (hl : listed.setIfInBounds i true = listed')
    (h : WA C S w0 ops fuel listed' k D (putE o.dst v E) H) : WA C S w0 ops (fuel + 1) listed k D E H := fun w hiv tmps hft => by
  obtain ⟨f1, f2⟩ := hft.putE (dstOk_lt hd) v D
  refine wpAny_take (v := v) hi hs hf hr qa_panic (.inl ⟨guardOk_wanted hft hg, fun w1 => ?_⟩) ?_
  · have hq := hv w1 tmps w1 hft (Inv.start none_ w1)
    unfold Oper.quietAt at hq
    cases hR : (execOp ({ tmps := tmps, defers := D } : Act).eval o).run C.P w1 with
    | halt _ _ => rw [hR] at hq; exact hq.elim
    | ok n w2 =>
      obtain ⟨a, rfl⟩ := run_plain hnc hR
      rw [hR] at hq
      obtain ⟨rfl, rfl⟩ := hq
      rfl
  · rw [hl, act_eta f2]; exact h w hiv _ f1
theorem wa_takeSkip (i : Nat) {o : Oper} (hi : ops[i]? = some o) (hs : Region.noSelect ops = true) (hf : Region.free .any ops listed i = true) (hr : (Region.ready .any ops listed).contains i = true)
    (hg : guardOk E ops o = some false) (hd : dstOk o.dst C.n = true) (hl : listed.setIfInBounds i true = listed')
    (h : WA C S w0 ops fuel listed' k D (putE o.dst undef E) H) : WA C S w0 ops (fuel + 1) listed k D E H := fun w hiv tmps hft => by
  obtain ⟨f1, f2⟩ := hft.putE (dstOk_lt hd) undef D
  refine wpAny_take (v := undef) hi hs hf hr qa_panic (.inr ⟨guardOk_wanted hft hg, rfl⟩) ?_
  rw [hl, act_eta f2]; exact h w hiv _ f1

/-- One operation out of those that are ready. -/
def WI (C : Cx) (S : Nat → Prop) (w0 : World) (ops : Array Oper) (fuel : Nat) (listed : Array Bool) (i : Nat) (k : List Item) (D : List Deferred) (E : List (Nat × Value)) (H : List Ent) : Prop :=
  ∀ w, Inv S w0 H w → ∀ tmps, Fits E C.n tmps → wpOp C.P ops (QA C k D) i (wpAny C.P .any ops (QA C k D) fuel (listed.setIfInBounds i true)) { tmps := tmps, defers := D } w

theorem wa_one (i : Nat) (hr : Region.ready .any ops listed = [i]) (h : WI C S w0 ops fuel listed i k D E H) : WA C S w0 ops (fuel + 1) listed k D E H := fun w hi tmps hf =>
  wpAny_all hr (by simp) fun j hj => by simp at hj; subst hj; exact h w hi tmps hf
theorem wa_two (i j : Nat) (hr : Region.ready .any ops listed = [i, j]) (h : WI C S w0 ops fuel listed i k D E H) (h2 : WI C S w0 ops fuel listed j k D E H) : WA C S w0 ops (fuel + 1) listed k D E H := fun w hi tmps hf =>
  wpAny_all hr (by simp) fun q hq => by simp at hq; rcases hq with rfl | rfl; exact h w hi tmps hf; exact h2 w hi tmps hf
theorem wa_three (i j l : Nat) (hr : Region.ready .any ops listed = [i, j, l]) (h : WI C S w0 ops fuel listed i k D E H) (h2 : WI C S w0 ops fuel listed j k D E H) (h3 : WI C S w0 ops fuel listed l k D E H) : WA C S w0 ops (fuel + 1) listed k D E H := fun w hi tmps hf =>
  wpAny_all hr (by simp) fun q hq => by simp at hq; rcases hq with rfl | rfl | rfl; exact h w hi tmps hf; exact h2 w hi tmps hf; exact h3 w hi tmps hf

/-- What is asked of one operation at one world; a panic's way out leans on no slot. -/
def OpKA (C : Cx) (D : List Deferred) (E : List (Nat × Value)) (d : Option Nat) (K : List (Nat × Value) → World → Prop) : Result Next → Prop
  | .ok (.value v) w' => K (putE d v E) w'
  | .ok .skip w' => K (putE d undef E) w'
  | .ok (.enter f args) w' => Calls C.P f args w' fun
      | .returned v, w'' => K (putE d v E) w''
      | .panicked chain, w'' => GoP C chain D [] w''
      | .outgrown, _ => False
  | .halt (.panic v) w' => GoP C [{ v, recovered := false }] D [] w'
  | _ => False

theorem wi_op {i : Nat} {o : Oper} (hi : ops[i]? = some o) (hg : guardOk E ops o = some true) (hd : dstOk o.dst C.n = true) (hl : listed.setIfInBounds i true = listed')
    (h : ∀ w, Inv S w0 H w → ∀ tmps, Fits E C.n tmps → OpKA C D E o.dst (fun E' w' => Go3 C ops fuel listed' k D E' w') ((execOp ({ tmps := tmps, defers := D } : Act).eval o).run C.P w)) : WI C S w0 ops fuel listed i k D E H := fun w hiv tmps hft => by
  unfold wpOp
  rw [hi]
  simp only
  rw [if_pos (guardOk_wanted hft hg), hl]
  left
  have hr := h w hiv tmps hft
  unfold Oper.wp
  generalize (execOp ({ tmps := tmps, defers := D } : Act).eval o).run C.P w = r at hr
  have put2 : ∀ v, ∃ t', Fits (putE o.dst v E) C.n t' ∧ (({ tmps := tmps, defers := D } : Act).put o.dst v) = { tmps := t', defers := D } := by
    intro v
    obtain ⟨f1, f2⟩ := hft.putE (dstOk_lt hd) v D
    exact ⟨_, f1, act_eta f2⟩
  unfold OpKA at hr
  split at hr
  · rename_i v w'
    obtain ⟨t', f1, e1⟩ := put2 v
    simp only [Oper.upon]; rw [e1]; exact hr t' f1
  · obtain ⟨t', f1, e1⟩ := put2 undef
    simp only [Oper.upon]; rw [e1]; exact hr t' f1
  · simp only [Oper.upon]
    refine Calls.mono hr fun e w'' he => ?_
    cases e with
    | returned v => obtain ⟨t', f1, e1⟩ := put2 v; simp only; rw [e1]; exact he t' f1
    | panicked chain => exact ⟨rfl, hft.sz, he⟩
    | outgrown => exact he.elim
  · simp only [Oper.upon]
    exact ⟨rfl, hft.sz, hr⟩
  · exact hr.elim

theorem WA.go3 (h : WA C S w0 ops fuel listed k D E H) {w : World} (hi : Inv S w0 H w) : Go3 C ops fuel listed k D E w := h w hi

theorem wi_v {i : Nat} {o : Oper} (hi : ops[i]? = some o) (hv : OpV C S w0 H D E o v) (hg : guardOk E ops o = some true) (hd : dstOk o.dst C.n = true) (hl : listed.setIfInBounds i true = listed')
    (h : WA C S w0 ops fuel listed' k D (putE o.dst v E) H) : WI C S w0 ops fuel listed i k D E H := wi_op hi hg hd hl fun w hiv tmps hft => by
  have hq := hv tmps w hft hiv
  unfold Oper.quietAt at hq
  generalize (execOp ({ tmps := tmps, defers := D } : Act).eval o).run C.P w = r at hq ⊢
  unfold Oper.quietUpon at hq
  split at hq
  · obtain ⟨rfl, rfl⟩ := hq; exact h.go3 hiv
  · obtain ⟨rfl, rfl⟩ := hq; exact h.go3 hiv
  · obtain ⟨rfl, hc⟩ := hq
    refine hc.mono ?_
    rintro e w'' ⟨rfl, hi'⟩
    exact h.go3 hi'
  · exact hq.elim
theorem wi_skip {i : Nat} {o : Oper} (hi : ops[i]? = some o) (hg : guardOk E ops o = some false) (hd : dstOk o.dst C.n = true) (hl : listed.setIfInBounds i true = listed')
    (h : WA C S w0 ops fuel listed' k D (putE o.dst undef E) H) : WI C S w0 ops fuel listed i k D E H := fun w hiv tmps hft => by
  unfold wpOp
  rw [hi]
  simp only
  rw [if_neg (by rw [guardOk_wanted hft hg]; simp), hl]
  obtain ⟨f1, f2⟩ := hft.putE (dstOk_lt hd) undef D
  rw [act_eta f2]; exact h w hiv _ f1

theorem wi_call0 {i : Nat} {c : Call} {f : FuncId} {vs : List Value} {Q : Value → List Ent → Prop} (hi : ops[i]? = some ⟨d, .call c, t, p, af, g⟩) (hc : callTo E c = some (f, vs)) (he : Enters C.P f) (hg : guardOk E ops ⟨d, .call c, t, p, af, g⟩ = some true) (hd : dstOk d C.n = true) (hl : listed.setIfInBounds i true = listed')
    (h : ∀ w, Inv S w0 H w → Calls C.P f vs.toArray w (Ret none_ w Q)) (hk : ∀ v Hn, Q v Hn → WA C S w0 ops fuel listed' k D (putE d v E) (Hn ++ H)) : WI C S w0 ops fuel listed i k D E H := wi_op hi hg hd hl fun w hiv tmps hft => by
  rw [run_call hft hc he]
  refine (h w hiv).mono ?_
  rintro e w' ⟨v, Hn, rfl, hq, hn, hrw⟩
  exact (hk v Hn hq).go3 (hiv.call hn hrw (fun _ h => h.elim) (List.Sublist.refl H) (fun _ _ h => h))

theorem wa_split {tt : Nat} {bb : Bool} (hl : look E tt = some (.bool bb)) (ht : bb = true → WA C S w0 ops fuel listed k D ((tt, .bool true) :: E) H) (hf : bb = false → WA C S w0 ops fuel listed k D ((tt, .bool false) :: E) H) : WA C S w0 ops fuel listed k D E H := by
  have hs : ∀ v, look E tt = some v → sub ((tt, v) :: E) E := fun v hv s u e => by
    rw [look_cons] at e
    by_cases he : tt = s
    · subst he; rw [if_pos rfl] at e; cases e; exact hv
    · rw [if_neg he] at e; exact e
  cases bb with
  | true => exact fun w hi tmps hft => ht rfl w hi tmps (hft.sub (hs _ hl))
  | false => exact fun w hi tmps hft => hf rfl w hi tmps (hft.sub (hs _ hl))
theorem wa_gs (tt : Nat) {q : Prop} {_i : Decidable q} (hl : look E tt = some (.bool (decide q))) (ht : q → WA C S w0 ops fuel listed k D ((tt, .bool true) :: E) H) (hf : ¬ q → WA C S w0 ops fuel listed k D ((tt, .bool false) :: E) H) : WA C S w0 ops fuel listed k D E H :=
  wa_split hl (fun h => ht (of_decide_eq_true h)) (fun h => hf (of_decide_eq_false h))
end
end Go.Sl

namespace Go.Sl
open Go Go.RowKit Go.Shelf Go.Proofs
section
variable {C : Cx} {S : Nat → Prop} {w0 : World} {k : List Item} {D : List Deferred} {E : List (Nat × Value)} {H H' : List Ent} {d : Option Tmp} {t t' : TypeId} {p : String} {af : Array Edge} {g : Option (Nat × Bool)} {x y z : Operand} {v u : Value} {ops : Array Oper} {rest : List Oper}

theorem cells1 {v : Value} (h : okCell v = true) : v.cells = #[v] := by
  cases v <;> simp [okCell] at h <;> rfl

theorem ov_bldZ {pl : Array (Nat × Nat)} {ti : TypeInfo} {zs : Array Value} (hpl : placesOf C.P t' = some pl) (hti : C.P.info? t' = some ti) (hz : ti.zero = some (.agg zs)) : OpV C S w0 H D E ⟨d, .build t' #[], t, p, af, g⟩ (.agg zs) :=
  ov_build (vs := []) hpl hti hz rfl rfl
theorem ov_bldA {ti : TypeInfo} {z0 z1 : Value} (hpl : placesOf C.P t' = some #[(0, 1), (1, 1)]) (hti : C.P.info? t' = some ti) (hz : ti.zero = some (.agg #[z0, z1])) (hx : opv E x = some v) (hv : okCell v = true) : OpV C S w0 H D E ⟨d, .build t' #[(0, x)], t, p, af, g⟩ (.agg #[v, z1]) :=
  ov_build (vs := [(0, v)]) hpl hti hz (by simp [partv, hx]) (by simp [Instr.fill, cells1 hv])
theorem ov_bldB {ti : TypeInfo} {z0 z1 : Value} (hpl : placesOf C.P t' = some #[(0, 1), (1, 1)]) (hti : C.P.info? t' = some ti) (hz : ti.zero = some (.agg #[z0, z1])) (hx : opv E x = some v) (hy : opv E y = some u) (hv : okCell v = true) (hu : okCell u = true) : OpV C S w0 H D E ⟨d, .build t' #[(0, x), (1, y)], t, p, af, g⟩ (.agg #[v, u]) :=
  ov_build (vs := [(0, v), (1, u)]) hpl hti hz (by simp [partv, hx, hy]) (by simp [Instr.fill, cells1 hv, cells1 hu])
theorem ov_bldC {ti : TypeInfo} {z0 z1 z2 q : Value} (hpl : placesOf C.P t' = some #[(0, 1), (1, 1), (2, 1)]) (hti : C.P.info? t' = some ti) (hz : ti.zero = some (.agg #[z0, z1, z2])) (hx : opv E x = some v) (hy : opv E y = some u) (hzz : opv E z = some q) (hv : okCell v = true) (hu : okCell u = true) (hq : okCell q = true) : OpV C S w0 H D E ⟨d, .build t' #[(0, x), (1, y), (2, z)], t, p, af, g⟩ (.agg #[v, u, q]) :=
  ov_build (vs := [(0, v), (1, u), (2, q)]) hpl hti hz (by simp [partv, hx, hy, hzz]) (by simp [Instr.fill, cells1 hv, cells1 hu, cells1 hq])

theorem rng1 : Array.range 1 = #[0] := by decide
theorem rng2 : Array.range 2 = #[0, 1] := by decide
theorem rng3 : Array.range 3 = #[0, 1, 2] := by decide
/-- '[]T{v}', a struct. -/
theorem wo_bsA2 {el : Nat} {z0 z1 a b : Value} {ti : TypeInfo} (hu : C.P.underlying t' = some (.slice el)) (hti : C.P.info? el = some ti) (hsz : ti.size = 2) (hz : ti.zero = some (.agg #[z0, z1])) (hx : opv E x = some (.agg #[a, b]))
    (hg : guardOk E ops ⟨d, .buildSlice t' 1 #[(0, x)], t, p, af, g⟩ = some true) (hd : dstOk d C.n = true)
    (h : ∀ bb, w0.heap.size ≤ bb → WO C S w0 ops rest k D (putE d (.slice (some ⟨bb, 0, none⟩) 1 1) E) (⟨bb, true, .cells #[a, b] el (0, 0)⟩ :: H)) : WO C S w0 ops (⟨d, .buildSlice t' 1 #[(0, x)], t, p, af, g⟩ :: rest) k D E H :=
  wo_buildSlice (sz := 2) (vs := [(0, .agg #[a, b])]) (cs := #[a, b]) hu hti hsz hz rfl rfl (by simp [partv, hx]) (by simp [Instr.fill, Value.cells, rng1, rng2, rng3]) hg hd h
theorem wo_bsA3 {el : Nat} {z0 z1 z2 a b c : Value} {ti : TypeInfo} (hu : C.P.underlying t' = some (.slice el)) (hti : C.P.info? el = some ti) (hsz : ti.size = 3) (hz : ti.zero = some (.agg #[z0, z1, z2])) (hx : opv E x = some (.agg #[a, b, c]))
    (hg : guardOk E ops ⟨d, .buildSlice t' 1 #[(0, x)], t, p, af, g⟩ = some true) (hd : dstOk d C.n = true)
    (h : ∀ bb, w0.heap.size ≤ bb → WO C S w0 ops rest k D (putE d (.slice (some ⟨bb, 0, none⟩) 1 1) E) (⟨bb, true, .cells #[a, b, c] el (0, 0)⟩ :: H)) : WO C S w0 ops (⟨d, .buildSlice t' 1 #[(0, x)], t, p, af, g⟩ :: rest) k D E H :=
  wo_buildSlice (sz := 3) (vs := [(0, .agg #[a, b, c])]) (cs := #[a, b, c]) hu hti hsz hz rfl rfl (by simp [partv, hx]) (by simp [Instr.fill, Value.cells, rng1, rng2, rng3]) hg hd h
theorem wo_bs1 {el : Nat} {zv a : Value} {ti : TypeInfo} (hu : C.P.underlying t' = some (.slice el)) (hti : C.P.info? el = some ti) (hsz : ti.size = 1) (hz : ti.zero = some zv) (hx : opv E x = some a) (ha : okCell a = true)
    (hg : guardOk E ops ⟨d, .buildSlice t' 1 #[(0, x)], t, p, af, g⟩ = some true) (hd : dstOk d C.n = true)
    (h : ∀ bb, w0.heap.size ≤ bb → WO C S w0 ops rest k D (putE d (.slice (some ⟨bb, 0, none⟩) 1 1) E) (⟨bb, true, .cells #[a] el (0, 0)⟩ :: H)) : WO C S w0 ops (⟨d, .buildSlice t' 1 #[(0, x)], t, p, af, g⟩ :: rest) k D E H :=
  wo_buildSlice (sz := 1) (vs := [(0, a)]) (cs := #[a]) hu hti hsz hz rfl rfl (by simp [partv, hx]) (by simp [Instr.fill, cells1 ha, rng1, rng2, rng3]) hg hd h

/-! ### Rows of records -/
def rowE (b : Option Nat) (xs rst : List Value) (el : TypeId) : List Ent := match b with | none => [] | some b => [⟨b, true, .cells (xs ++ rst).toArray el (0, 0)⟩]

theorem rowAt_rowE {A B : List Ent} {b : Option Nat} {xs rst : List Value} {el cap : Nat} (h : b = none → cap = 0) : RowAt (A ++ (rowE b xs rst el ++ B)) (A ++ B) el xs rst cap b := by
  cases b with
  | none => exact ⟨h rfl, rfl⟩
  | some b =>
    refine ⟨by simp [rowE], ?_⟩
    induction A with
    | nil => exact .head _ _
    | cons a A ih => exact .tail _ ih
theorem rowAt0 {B : List Ent} {b : Option Nat} {xs rst : List Value} {el cap : Nat} (h : b = none → cap = 0) : RowAt (rowE b xs rst el ++ B) B el xs rst cap b := rowAt_rowE (A := []) h
theorem rowAt1 {e : Ent} {B : List Ent} {b : Option Nat} {xs rst : List Value} {el cap : Nat} (h : b = none → cap = 0) : RowAt (e :: (rowE b xs rst el ++ B)) (e :: B) el xs rst cap b := rowAt_rowE (A := [e]) h
theorem Upd.app {b : Nat} {o o' : Obj} (A : List Ent) {H H' : List Ent} (h : Upd b o o' H H') : Upd b o o' (A ++ H) (A ++ H') := by
  induction A with
  | nil => exact h
  | cons a A ih => exact .tail _ ih
theorem all_ok {cs : Array Value} (h : cs.toList.all okCell = true) : ∀ v ∈ cs.toList, (match v with | .agg _ | .tuple _ => false | _ => true) = true := List.all_eq_true.1 h
theorem wo_storeD {b off lo hi' : Nat} {c cs c' : Array Value} {el : TypeId} (hx : opv E x = some (.pointer (some ⟨b, off, none⟩))) (hy : opv E y = some (.agg cs)) (hv : cs.toList.all okCell = true)
    (hs : (C.P.info? t').map (·.size) = some cs.size) (hc' : (cs.toList.zipIdx off).foldl (fun c (p : Value × Nat) => c.setIfInBounds p.2 p.1) c = c') (hu : Upd b (.cells c el (lo, hi')) (.cells c' el (lo, hi')) H H') (hlt : off + cs.size ≤ c.size) (hf : off + cs.size ≤ lo ∨ hi' ≤ off)
    (hg : guardOk E ops ⟨d, .store t' x y, t, p, af, g⟩ = some true) (hd : dstOk d C.n = true) (h : WO C S w0 ops rest k D (putE d undef E) H') : WO C S w0 ops (⟨d, .store t' x y, t, p, af, g⟩ :: rest) k D E H :=
  wo_storeA hx hy (all_ok hv) hs hc' hu hlt hf hg hd h
/-- A whole variable of a struct type. -/
theorem wo_storeC {b : Nat} {c cs : Array Value} {el : TypeId} (hx : opv E x = some (.pointer (some ⟨b, 0, none⟩))) (hy : opv E y = some (.agg cs)) (hv : cs.toList.all okCell = true)
    (hs : (C.P.info? t').map (·.size) = some cs.size) (hu : Upd b (.cells c el (0, 0)) (.cells cs el (0, 0)) H H') (hlt : cs.size = c.size)
    (hg : guardOk E ops ⟨d, .store t' x y, t, p, af, g⟩ = some true) (hd : dstOk d C.n = true) (h : WO C S w0 ops rest k D (putE d undef E) H') : WO C S w0 ops (⟨d, .store t' x y, t, p, af, g⟩ :: rest) k D E H :=
  wo_storeA hx hy (all_ok hv) hs (by
    have := foldl_set c.toList cs.toList [] c.toList (by simp; omega) rfl
    simp only [List.length_nil, List.nil_append] at this
    rw [show c = c.toList.toArray from rfl]
    rw [this, List.drop_eq_nil_of_le (by simp; omega)]; simp) hu (by omega) (.inr (by omega)) hg hd h
theorem mem_rowE {b : Nat} {xs rst : List Value} {el : TypeId} : (⟨b, true, .cells (xs ++ rst).toArray el (0, 0)⟩ : Ent) ∈ rowE (some b) xs rst el := .head _

section
variable {α : Type} (f : α → List Value)
def rowV (ps : List α) : List Value := ps.flatMap f
theorem rowV_len {m : Nat} (hf : ∀ a, (f a).length = m) : ∀ ps : List α, (rowV f ps).length = ps.length * m
  | [] => by simp [rowV]
  | a :: ps => by
    have := rowV_len hf ps
    simp only [rowV] at this ⊢
    rw [List.flatMap_cons, List.length_append, this, hf, List.length_cons, Nat.succ_mul, Nat.add_comm]
theorem rowV_at {m : Nat} (hf : ∀ a, (f a).length = m) : ∀ (ps : List α) (j i : Nat) (hj : j < ps.length), i < m → (rowV f ps)[j * m + i]? = (f ps[j])[i]?
  | a :: ps, 0, i, hj, hi => by
    simp only [rowV, List.flatMap_cons, Nat.zero_mul, Nat.zero_add, List.getElem_cons_zero]
    rw [List.getElem?_append_left (by rw [hf]; exact hi)]
  | a :: ps, j + 1, i, hj, hi => by
    have := rowV_at hf ps j i (by simp at hj; omega) hi
    simp only [rowV, List.flatMap_cons, List.getElem_cons_succ] at this ⊢
    rw [List.getElem?_append_right (by rw [hf, Nat.succ_mul]; omega), hf, show (j + 1) * m + i - m = j * m + i from by rw [Nat.succ_mul]; omega, this]
theorem rowV_snoc (ps : List α) (a : α) : rowV f (ps ++ [a]) = rowV f ps ++ f a := by simp [rowV]
theorem row_at {m : Nat} (hf : ∀ a, (f a).length = m) {ps : List α} {rst : List Value} {j i o : Nat} (hj : j < ps.length) (hi : i < m) (ho : o = j * m + i) : ((rowV f ps ++ rst).toArray)[o]? = (f ps[j])[i]? := by
  subst ho
  rw [List.getElem?_toArray, List.getElem?_append_left, rowV_at f hf ps j i hj hi]
  rw [rowV_len f hf]
  have : j * m + m ≤ ps.length * m := by rw [← Nat.succ_mul]; exact Nat.mul_le_mul_right _ hj
  omega
end

/-! ### Structs compared -/
structure EqC (P : Program) (t : TypeId) (v u : Value) (r : Bool) : Prop where
  flat : ∃ dd, P.underlying t = some dd ∧ flatD dd = true
  run : ∀ d w, (Op.equalIn (d + 1) t v u).run P w = .ok r w
theorem eqc_int {P : Program} {kk k2 : IntKind} {a b : Int} (h : P.underlying t = some (.int k2)) : EqC P t (.int kk a) (.int kk b) (decide (a = b)) :=
  ⟨⟨_, h, rfl⟩, fun d w => by rw [run_equalIn_int w d t kk k2 a b h]; congr 1⟩
theorem eqc_str {P : Program} {a b : List UInt8} (h : P.underlying t = some .string) : EqC P t (str a) (str b) (decide (a = b)) :=
  ⟨⟨_, h, rfl⟩, fun d w => by
    rw [show str a = .string ⟨a.toArray⟩ from rfl, show str b = .string ⟨b.toArray⟩ from rfl, run_equalIn_string w d t _ _ h, toList_list, toList_list]
    congr 1
    rw [Bool.eq_iff_iff]; simp⟩
theorem eqc_bool {P : Program} {a b : Bool} (h : P.underlying t = some .bool) : EqC P t (.bool a) (.bool b) (a == b) :=
  ⟨⟨_, h, rfl⟩, fun d w => run_equalIn_bool' w d t a b h⟩

inductive EqFs (P : Program) (xs ys : Array Value) : List Field → List Bool → Prop
  | nil : EqFs P xs ys [] []
  | cons {f : Field} {fs : List Field} {v u : Value} {r : Bool} {rs : List Bool} (hn : f.name ≠ "_") (h1 : xs[f.offset]? = some v) (h2 : ys[f.offset]? = some u) (he : EqC P f.type v u r) (hs : EqFs P xs ys fs rs) : EqFs P xs ys (f :: fs) (r :: rs)

theorem run_eqFs {P : Program} {xs ys : Array Value} {w : World} (d : Nat) : ∀ (fs : List Field) (rs : List Bool), EqFs P xs ys fs rs →
    (Op.eqFields (d + 1) xs ys fs).run P w = .ok (rs.all id) w
  | [], _, h => by cases h; simp [Op.eqFields]
  | f :: fs, _, .cons (r := r) (rs := rs) hn h1 h2 he hs => by
    obtain ⟨dd, h3, h4⟩ := he.flat
    have ih := run_eqFs (w := w) d fs rs hs
    simp only [Op.eqFields, hn, ne_eq, not_false_eq_true, if_true, Sem.run_bind, run_part1 h3 h4 h1, run_part1 h3 h4 h2, Result.andThen_ok, he.run d w]
    cases r
    · simp
    · simpa using ih

theorem ov_eqlR {xt yt : TypeId} {xs ys : Array Value} {rs : List Bool} (hfs : C.P.underlying xt = some (.struct (C.P.fieldsOf xt))) (hh : C.P.stoodInHeld xt = false) (hm : C.P.eqGuardType C.P.depth xt = false) (hx : opv E x = some (.agg xs)) (hy : opv E y = some (.agg ys))
    (hr : EqFs C.P xs ys (C.P.fieldsOf xt).toList rs) : OpV C S w0 H D E ⟨d, .binOp .eql xt x y yt, t, p, af, g⟩ (.bool (rs.all id)) :=
  ov_binE hx hy (fun w => run_eqGuard_agg w _ _ _ _ _ _ hm) fun w => by rw [run_eql_struct, run_equalIn_agg w _ _ _ _ hfs hh, run_eqFs _ _ _ hr]; rfl
theorem ov_neqR {xt yt : TypeId} {xs ys : Array Value} {rs : List Bool} (hfs : C.P.underlying xt = some (.struct (C.P.fieldsOf xt))) (hh : C.P.stoodInHeld xt = false) (hm : C.P.eqGuardType C.P.depth xt = false) (hx : opv E x = some (.agg xs)) (hy : opv E y = some (.agg ys))
    (hr : EqFs C.P xs ys (C.P.fieldsOf xt).toList rs) : OpV C S w0 H D E ⟨d, .binOp .neq xt x y yt, t, p, af, g⟩ (.bool (!rs.all id)) :=
  ov_binE hx hy (fun w => run_eqGuard_agg w _ _ _ _ _ _ hm) fun w => by rw [run_neq_struct, run_equalIn_agg w _ _ _ _ hfs hh, run_eqFs _ _ _ hr]; rfl

/-! ### Bytes to a string -/
theorem run_pushes {P : Program} {w : World} (f : Value → ByteArray → Sem (ForInStep ByteArray)) (hf : ∀ n s, f (.int .u8 n) s = pure (ForInStep.yield (s.push (UInt8.ofNat n.toNat)))) (l : List UInt8) : ∀ s : ByteArray, (forIn (byv l) s f).run P w = .ok ⟨(s.data.toList ++ l).toArray⟩ w := by
  induction l with
  | nil => intro s; simp [byv]
  | cons c l ih =>
    intro s
    simp only [byv, List.map_cons] at ih ⊢
    rw [List.forIn_cons, hf]
    simp only [Sem.run_bind, Sem.run_pure, Result.andThen_ok]
    rw [ih]
    simp [ByteArray.push]

theorem run_forArr {P : Program} {w : World} (f : Value → ByteArray → Sem (ForInStep ByteArray)) (hf : ∀ n s, f (.int .u8 n) s = pure (ForInStep.yield (s.push (UInt8.ofNat n.toNat)))) (l : List UInt8) : (forIn (byv l).toArray ByteArray.empty f).run P w = .ok ⟨l.toArray⟩ w := by
  rw [List.forIn_toArray, run_pushes f hf]
  rfl

/-- 'string(b)': a row of bytes that starts at its block's head. -/
theorem ov_ofBytes {el bb cap : Nat} {rw_ : Bool} {l : List UInt8} {rst : List Value} {el2 : TypeId} {fz : Nat × Nat} {xt yt : TypeId} (hxs : C.P.underlying xt = some (.slice el)) (hys : C.P.underlying yt = some .string) (hel : C.P.underlying el = some (.int .u8)) (hx : opv E x = some (.slice (some ⟨bb, 0, none⟩) l.length cap))
    (hm : (⟨bb, rw_, .cells (byv l ++ rst).toArray el2 fz⟩ : Ent) ∈ H) : OpV C S w0 H D E ⟨d, .convert xt yt x, t, p, af, g⟩ (str l) := opv_run fun tmps w hf hi => by
  have hl : (loadCells ⟨bb, 0, none⟩ l.length).run C.P w = .ok (byv l).toArray w := by
    have hc : ∀ j, 0 ≤ j → j < 0 + (byv l ++ rst).toArray.size → w.cell? ⟨bb, j, none⟩ = (byv l ++ rst).toArray[j - 0]? := fun j _ hj => by
      have := hi.cell (off := j) (v := (byv l ++ rst).toArray[j]'(by omega)) hm (Array.getElem?_eq_getElem (by omega))
      rw [this, Nat.sub_zero]; exact (Array.getElem?_eq_getElem (by omega)).symm
    have := run_loadCellsFrom (P := C.P) hc l.length 0 #[] (by simp [byv])
    unfold loadCells
    rw [this]
    congr 1
    apply Array.ext'
    simp [byv]
  simp only [execOp, convert, hf.opv D hx, Sem.run_bind, run_underlying hxs, run_underlying hys, Result.andThen_ok, run_underlying hel, Conv.bytesToString, hl]
  rw [run_forArr _ (fun _ _ => rfl)]
  simp
/-- 'string(b)', 'b' nil. -/
theorem ov_ofBytes0 {el n cap : Nat} {xt yt : TypeId} (hxs : C.P.underlying xt = some (.slice el)) (hys : C.P.underlying yt = some .string) (hel : C.P.underlying el = some (.int .u8)) (hx : opv E x = some (.slice none n cap)) : OpV C S w0 H D E ⟨d, .convert xt yt x, t, p, af, g⟩ (str []) := opv_run fun tmps w hf hi => by
  simp only [execOp, convert, hf.opv D hx, Sem.run_bind, run_underlying hxs, run_underlying hys, Result.andThen_ok, run_underlying hel, Conv.bytesToString]
  simp
  rfl
/-- Either: a row that grows, nil at first. -/
theorem ov_ofRow {el n cap : Nat} {b : Option Nat} {l : List UInt8} {rst : List Value} {el2 : TypeId} {xt yt : TypeId} (hxs : C.P.underlying xt = some (.slice el)) (hys : C.P.underlying yt = some .string) (hel : C.P.underlying el = some (.int .u8)) (hx : opv E x = some (.slice (b.map fun b => ⟨b, 0, none⟩) n cap))
    (hn : n = l.length) (h0 : b = none → l = []) (hm : ∀ e ∈ rowE b (byv l) rst el2, e ∈ H) : OpV C S w0 H D E ⟨d, .convert xt yt x, t, p, af, g⟩ (str l) := by
  subst hn
  cases b with
  | none => rw [h0 rfl] at hx ⊢; exact ov_ofBytes0 hxs hys hel hx
  | some b => exact ov_ofBytes hxs hys hel hx (hm _ mem_rowE)
end
end Go.Sl

namespace Go.Sl
open Go Go.RowKit Go.Shelf Go.Proofs
section
variable {C : Cx} {S : Nat → Prop} {w0 : World} {k : List Item} {D : List Deferred} {E : List (Nat × Value)} {H H' : List Ent} {d : Option Tmp} {t t' : TypeId} {p : String} {af : Array Edge} {g : Option (Nat × Bool)} {x y z : Operand} {v u : Value} {ops : Array Oper} {fuel : Nat} {listed listed' : Array Bool} {i : Nat}

theorem wi_store {b off lo hi' : Nat} {c : Array Value} {el : TypeId} 
    (hop : ops[i]? = some ⟨d, .store t' x y, t, p, af, g⟩) (hx : opv E x = some (.pointer (some ⟨b, off, none⟩))) (hy : opv E y = some v) (hv : (match v with | .agg _ | .tuple _ => false | _ => true) = true)
    (hs : (C.P.info? t').map (·.size) = some 1) (hu : Upd b (.cells c el (lo, hi')) (.cells (c.setIfInBounds off v) el (lo, hi')) H H') (hlt : off < c.size) (hf : off < lo ∨ hi' ≤ off)
    (hg : guardOk E ops ⟨d, .store t' x y, t, p, af, g⟩ = some true) (hd : dstOk d C.n = true) (hl : listed.setIfInBounds i true = listed') (h : WA C S w0 ops fuel listed' k D (putE d undef E) H') : WI C S w0 ops fuel listed i k D E H := by
  refine wi_op hop hg hd hl fun w hi tmps hft => ?_
  have hc : w.cell? ⟨b, off, none⟩ = some (c[off]'hlt) := hi.cell hu.mem (Array.getElem?_eq_getElem hlt)
  have hfz := notfz (S := S) hi hu.mem hf
  have hvc : v.cells = #[v] := by cases v <;> simp_all [Value.cells]
  cases hti : C.P.info? t' with
  | none => rw [hti] at hs; simp at hs
  | some ti =>
    rw [hti] at hs; simp at hs
    have hrun : (execOp ({ tmps := tmps, defers := D } : Act).eval (⟨d, .store t' x y, t, p, af, g⟩ : Oper)).run C.P w = .ok .skip (w.setCell ⟨b, off, none⟩ v) := by
      have e2 : (⟨b, off, none⟩ : Addr).add 0 = ⟨b, off, none⟩ := rfl
      have hst : (store ⟨b, off, none⟩ v).run C.P w = .ok () (w.setCell ⟨b, off, none⟩ v) := by
        cases v <;> simp_all [store, Sem.run]
      simp [execOp, hft.opv D hx, hft.opv D hy, Instr.storeAt, Instr.sureAddr, storeVar, sizeOf, typeInfo, program, Sem.run, hti, hs, hvc, storeCells, e2, hst]
    rw [hrun]
    refine h.go3 (hi.upd hu rfl rfl rfl (by simp [World.setCell]) (fun j hj => ?_) ?_)
    · simp only [World.setCell, Array.getElem?_modify]; rw [if_neg (by omega)]
    · have hb := hi.hb _ hu.mem
      simp only at hb
      simp only [World.setCell, Array.getElem?_modify, if_true, hb]
      simp

theorem wi_storeB {b : Nat} {c0 : Value} {el : TypeId} 
    (hop : ops[i]? = some ⟨d, .store t' x y, t, p, af, g⟩) (hx : opv E x = some (.pointer (some ⟨b, 0, none⟩))) (hy : opv E y = some v) (hv : (match v with | .agg _ | .tuple _ => false | _ => true) = true)
    (hs : (C.P.info? t').map (·.size) = some 1) (hu : Upd b (.cells #[c0] el (0, 0)) (.cells #[v] el (0, 0)) H H')
    (hg : guardOk E ops ⟨d, .store t' x y, t, p, af, g⟩ = some true) (hd : dstOk d C.n = true) (hl : listed.setIfInBounds i true = listed') (h : WA C S w0 ops fuel listed' k D (putE d undef E) H') : WI C S w0 ops fuel listed i k D E H :=
  wi_store (c := #[c0]) hop hx hy hv hs (by exact hu) (by simp) (.inr (by simp)) hg hd hl h

theorem wi_storeA {b off lo hi' : Nat} {c cs c' : Array Value} {el : TypeId} 
    (hop : ops[i]? = some ⟨d, .store t' x y, t, p, af, g⟩) (hx : opv E x = some (.pointer (some ⟨b, off, none⟩))) (hy : opv E y = some (.agg cs)) (hv : ∀ v ∈ cs.toList, (match v with | .agg _ | .tuple _ => false | _ => true) = true)
    (hs : (C.P.info? t').map (·.size) = some cs.size) (hc' : (cs.toList.zipIdx off).foldl (fun c (p : Value × Nat) => c.setIfInBounds p.2 p.1) c = c') (hu : Upd b (.cells c el (lo, hi')) (.cells c' el (lo, hi')) H H') (hlt : off + cs.size ≤ c.size) (hf : off + cs.size ≤ lo ∨ hi' ≤ off)
    (hg : guardOk E ops ⟨d, .store t' x y, t, p, af, g⟩ = some true) (hd : dstOk d C.n = true) (hl : listed.setIfInBounds i true = listed') (h : WA C S w0 ops fuel listed' k D (putE d undef E) H') : WI C S w0 ops fuel listed i k D E H := by
  refine wi_op hop hg hd hl fun w hi tmps hft => ?_
  obtain ⟨w', g1, g2, g3, g4, g5, g6, g7⟩ := run_storeCells (P := C.P) b cs.toList off 0 w hv (fun j hj => by
    have hj' : j < cs.size := by simpa using hj
    refine ⟨?_, notfz (S := S) hi hu.mem (by omega)⟩
    rw [hi.cell (off := off + 0 + j) hu.mem (Array.getElem?_eq_getElem (by omega))]; rfl)
  cases hti : C.P.info? t' with
  | none => rw [hti] at hs; simp at hs
  | some ti =>
    rw [hti] at hs; simp at hs
    have hrun : (execOp ({ tmps := tmps, defers := D } : Act).eval (⟨d, .store t' x y, t, p, af, g⟩ : Oper)).run C.P w = .ok .skip w' := by
      simp [execOp, hft.opv D hx, hft.opv D hy, Instr.storeAt, Instr.sureAddr, storeVar, sizeOf, typeInfo, program, Sem.run, hti, hs, Value.cells, g1]
    rw [hrun]
    refine h.go3 (hi.upd hu g2 g3 g4 g5 g6 ?_)
    rw [g7 c el (lo, hi') (hi.hb _ hu.mem), ← hc']
    simp

theorem wi_storeD {b off lo hi' : Nat} {c cs c' : Array Value} {el : TypeId} 
    (hop : ops[i]? = some ⟨d, .store t' x y, t, p, af, g⟩) (hx : opv E x = some (.pointer (some ⟨b, off, none⟩))) (hy : opv E y = some (.agg cs)) (hv : cs.toList.all okCell = true)
    (hs : (C.P.info? t').map (·.size) = some cs.size) (hc' : (cs.toList.zipIdx off).foldl (fun c (p : Value × Nat) => c.setIfInBounds p.2 p.1) c = c') (hu : Upd b (.cells c el (lo, hi')) (.cells c' el (lo, hi')) H H') (hlt : off + cs.size ≤ c.size) (hf : off + cs.size ≤ lo ∨ hi' ≤ off)
    (hg : guardOk E ops ⟨d, .store t' x y, t, p, af, g⟩ = some true) (hd : dstOk d C.n = true) (hl : listed.setIfInBounds i true = listed') (h : WA C S w0 ops fuel listed' k D (putE d undef E) H') : WI C S w0 ops fuel listed i k D E H :=
  wi_storeA hop hx hy (all_ok hv) hs hc' hu hlt hf hg hd hl h

theorem wi_storeC {b : Nat} {c cs : Array Value} {el : TypeId} 
    (hop : ops[i]? = some ⟨d, .store t' x y, t, p, af, g⟩) (hx : opv E x = some (.pointer (some ⟨b, 0, none⟩))) (hy : opv E y = some (.agg cs)) (hv : cs.toList.all okCell = true)
    (hs : (C.P.info? t').map (·.size) = some cs.size) (hu : Upd b (.cells c el (0, 0)) (.cells cs el (0, 0)) H H') (hlt : cs.size = c.size)
    (hg : guardOk E ops ⟨d, .store t' x y, t, p, af, g⟩ = some true) (hd : dstOk d C.n = true) (hl : listed.setIfInBounds i true = listed') (h : WA C S w0 ops fuel listed' k D (putE d undef E) H') : WI C S w0 ops fuel listed i k D E H :=
  wi_storeA hop hx hy (all_ok hv) hs (by
    have := foldl_set c.toList cs.toList [] c.toList (by simp; omega) rfl
    simp only [List.length_nil, List.nil_append] at this
    rw [show c = c.toList.toArray from rfl]
    rw [this, List.drop_eq_nil_of_le (by simp; omega)]; simp) hu (by omega) (.inr (by omega)) hg hd hl h

theorem wi_alloc {ti : TypeInfo} {zv : Value} {cs : Array Value} 
    (hop : ops[i]? = some ⟨d, .alloc t', t, p, af, g⟩) (hinf : C.P.info? t' = some ti) (hz : ti.zero = some zv) (hcs : zv.cells = cs) (hg : guardOk E ops ⟨d, .alloc t', t, p, af, g⟩ = some true) (hd : dstOk d C.n = true) (hl : listed.setIfInBounds i true = listed')
    (h : ∀ b, w0.heap.size ≤ b → WA C S w0 ops fuel listed' k D (putE d (.pointer (some ⟨b, 0, none⟩)) E) (⟨b, true, .cells cs t' (0, 0)⟩ :: H)) : WI C S w0 ops fuel listed i k D E H := by
  refine wi_op hop hg hd hl fun w hiv tmps hft => ?_
  have hrun : (execOp ({ tmps := tmps, defers := D } : Act).eval (⟨d, .alloc t', t, p, af, g⟩ : Oper)).run C.P w = .ok (.value (.pointer (some ⟨w.heap.size, 0, none⟩))) { w with heap := w.heap.push (.cells cs t' (0, 0)) } := by
    simp [execOp, Instr.alloc, zeroValue, typeInfo, program, Sem.run, hinf, hz, newVar, newRow, hcs]
  rw [hrun]
  exact (h _ hiv.fr.size).go3 (hiv.new _)

theorem wi_box {cs : Array Value} 
    (hop : ops[i]? = some ⟨d, .box t' x, t, p, af, g⟩) (hx : opv E x = some v) (hcs : v.cells = cs) (hg : guardOk E ops ⟨d, .box t' x, t, p, af, g⟩ = some true) (hd : dstOk d C.n = true) (hl : listed.setIfInBounds i true = listed')
    (h : ∀ b, w0.heap.size ≤ b → WA C S w0 ops fuel listed' k D (putE d (.pointer (some ⟨b, 0, none⟩)) E) (⟨b, true, .cells cs t' (0, 0)⟩ :: H)) : WI C S w0 ops fuel listed i k D E H := by
  refine wi_op hop hg hd hl fun w hiv tmps hft => ?_
  have hrun : (execOp ({ tmps := tmps, defers := D } : Act).eval (⟨d, .box t' x, t, p, af, g⟩ : Oper)).run C.P w = .ok (.value (.pointer (some ⟨w.heap.size, 0, none⟩))) { w with heap := w.heap.push (.cells cs t' (0, 0)) } := by
    simp [execOp, hft.opv D hx, Instr.box, newVar, newRow, hcs]
  rw [hrun]
  exact (h _ hiv.fr.size).go3 (hiv.new _)

/-! ### Calls -/

theorem wi_buildSlice {el n sz : Nat} {zv : Value} {ti : TypeInfo} {vs : List (Nat × Value)} {parts : Array (Nat × Operand)} {cs : Array Value} 
    (hop : ops[i]? = some ⟨d, .buildSlice t' n parts, t, p, af, g⟩) (hu : C.P.underlying t' = some (.slice el)) (hti : C.P.info? el = some ti) (hsz : ti.size = sz) (hz : ti.zero = some zv) (hpos : Nat.blt 0 (n * sz) = true) (hle : Nat.ble (n * sz) 16777216 = true)
    (hp : partv E parts.toList = some vs) (hfill : Instr.fill (fun i => some (i * sz, sz)) ((Array.range (n * sz)).map (zv.cells[· % zv.cells.size]!)) vs = some cs) (hg : guardOk E ops ⟨d, .buildSlice t' n parts, t, p, af, g⟩ = some true) (hd : dstOk d C.n = true) (hl : listed.setIfInBounds i true = listed')
    (h : ∀ bb, w0.heap.size ≤ bb → WA C S w0 ops fuel listed' k D (putE d (.slice (some ⟨bb, 0, none⟩) n n) E) (⟨bb, true, .cells cs el (0, 0)⟩ :: H)) : WI C S w0 ops fuel listed i k D E H := by
  refine wi_op hop hg hd hl fun w hi tmps hft => ?_
  have h1 : 0 < n * sz := by simpa using hpos
  have h2 : n * sz ≤ 16777216 := by simpa using hle
  have h3 : (parts.map (fun (i, x) => (i, ({ tmps := tmps, defers := D } : Act).eval x))).toList = vs := by
    rw [← hft.partv (D := D) hp]; simp
  simp at h3
  have hrun : (execOp ({ tmps := tmps, defers := D } : Act).eval (⟨d, .buildSlice t' n parts, t, p, af, g⟩ : Oper)).run C.P w = .ok (.value (.slice (some ⟨w.heap.size, 0, none⟩) n n)) { w with heap := w.heap.push (.cells cs el (0, 0)) } := by
    have hs0 := run_sizeOf (t' := el) (P := C.P) (w := w) (n := sz) (by rw [hti, ← hsz]; rfl)
    have hz0 : (zeroValue el).run C.P w = .ok zv w := by simp [zeroValue, run_typeInfo hti, hz]
    have e1 : ¬ (n * sz > 2 ^ 24) := by have : (2 : Nat) ^ 24 = 16777216 := by decide
                                        omega
    have e2 : ¬ (n * sz = 0) := by omega
    simp only [execOp, Instr.buildSlice, Sem.run_bind, run_underlying hu, Result.andThen_ok, hs0]
    rw [if_neg e1]
    simp only [Sem.run_bind, Sem.run_pure, Result.andThen_ok, if_neg e2, hz0, Array.toList_map, h3, hfill, newRow, newObj, Sem.run]
  rw [hrun]
  exact (h _ hi.fr.size).go3 (hi.new _)

/-! ### append -/

theorem wi_bsA2 {el : Nat} {z0 z1 a b : Value} {ti : TypeInfo} 
    (hop : ops[i]? = some ⟨d, .buildSlice t' 1 #[(0, x)], t, p, af, g⟩) (hu : C.P.underlying t' = some (.slice el)) (hti : C.P.info? el = some ti) (hsz : ti.size = 2) (hz : ti.zero = some (.agg #[z0, z1])) (hx : opv E x = some (.agg #[a, b]))
    (hg : guardOk E ops ⟨d, .buildSlice t' 1 #[(0, x)], t, p, af, g⟩ = some true) (hd : dstOk d C.n = true) (hl : listed.setIfInBounds i true = listed')
    (h : ∀ bb, w0.heap.size ≤ bb → WA C S w0 ops fuel listed' k D (putE d (.slice (some ⟨bb, 0, none⟩) 1 1) E) (⟨bb, true, .cells #[a, b] el (0, 0)⟩ :: H)) : WI C S w0 ops fuel listed i k D E H :=
  wi_buildSlice (sz := 2) (vs := [(0, .agg #[a, b])]) (cs := #[a, b]) hop hu hti hsz hz rfl rfl (by simp [partv, hx]) (by simp [Instr.fill, Value.cells, rng1, rng2, rng3]) hg hd hl h

theorem wi_bsA3 {el : Nat} {z0 z1 z2 a b c : Value} {ti : TypeInfo} 
    (hop : ops[i]? = some ⟨d, .buildSlice t' 1 #[(0, x)], t, p, af, g⟩) (hu : C.P.underlying t' = some (.slice el)) (hti : C.P.info? el = some ti) (hsz : ti.size = 3) (hz : ti.zero = some (.agg #[z0, z1, z2])) (hx : opv E x = some (.agg #[a, b, c]))
    (hg : guardOk E ops ⟨d, .buildSlice t' 1 #[(0, x)], t, p, af, g⟩ = some true) (hd : dstOk d C.n = true) (hl : listed.setIfInBounds i true = listed')
    (h : ∀ bb, w0.heap.size ≤ bb → WA C S w0 ops fuel listed' k D (putE d (.slice (some ⟨bb, 0, none⟩) 1 1) E) (⟨bb, true, .cells #[a, b, c] el (0, 0)⟩ :: H)) : WI C S w0 ops fuel listed i k D E H :=
  wi_buildSlice (sz := 3) (vs := [(0, .agg #[a, b, c])]) (cs := #[a, b, c]) hop hu hti hsz hz rfl rfl (by simp [partv, hx]) (by simp [Instr.fill, Value.cells, rng1, rng2, rng3]) hg hd hl h

theorem wi_bs1 {el : Nat} {zv a : Value} {ti : TypeInfo} 
    (hop : ops[i]? = some ⟨d, .buildSlice t' 1 #[(0, x)], t, p, af, g⟩) (hu : C.P.underlying t' = some (.slice el)) (hti : C.P.info? el = some ti) (hsz : ti.size = 1) (hz : ti.zero = some zv) (hx : opv E x = some a) (ha : okCell a = true)
    (hg : guardOk E ops ⟨d, .buildSlice t' 1 #[(0, x)], t, p, af, g⟩ = some true) (hd : dstOk d C.n = true) (hl : listed.setIfInBounds i true = listed')
    (h : ∀ bb, w0.heap.size ≤ bb → WA C S w0 ops fuel listed' k D (putE d (.slice (some ⟨bb, 0, none⟩) 1 1) E) (⟨bb, true, .cells #[a] el (0, 0)⟩ :: H)) : WI C S w0 ops fuel listed i k D E H :=
  wi_buildSlice (sz := 1) (vs := [(0, a)]) (cs := #[a]) hop hu hti hsz hz rfl rfl (by simp [partv, hx]) (by simp [Instr.fill, cells1 ha, rng1, rng2, rng3]) hg hd hl h

/-! ### Rows of records -/

theorem wi_append {el sz n cap kn : Nat} {ti : TypeInfo} {zv : Value} {base : Option Nat} {xs rst new : List Value} {sT xT : TypeId} {aT : Array TypeId} {e2 : TypeId} {b2 o2 c2 : Nat} {rw2 : Bool} {cc : Array Value} {el2 : TypeId} {fz2 : Nat × Nat}
    (hop : ops[i]? = some ⟨d, .call { callee := .builtin .append, args := #[x, y], argTypes := aT }, t, p, af, g⟩) 
    (hx : opv E x = some (.slice (base.map fun b => ⟨b, 0, none⟩) n cap)) (hy : opv E y = some (.slice (some ⟨b2, o2, none⟩) kn c2)) (hu : C.P.underlying sT = some (.slice el)) (hux : C.P.underlying xT = some (.slice e2)) (haT : aT = #[sT, xT]) (hti : C.P.info? el = some ti) (hsz : ti.size = sz) (hpos : 0 < sz)
    (hz : ti.zero = some zv) (hzs : zv.cells.size = sz) (hxs : xs.length = n * sz) (hcap : xs.length + rst.length = cap * sz) (hb : RowAt H H' el xs rst cap base)
    (hm : (⟨b2, rw2, .cells cc el2 fz2⟩ : Ent) ∈ H) (hnew : (cc.extract o2 (o2 + kn * sz)).toList = new) (hle : o2 + kn * sz ≤ cc.size) (hok : ∀ v ∈ new, okCell v = true)
    (hroom : (2 * (n + kn) + 192) * ti.bytes ≤ 281474976710656) (hmax : n + kn ≤ 4611686018427387904) (hk : 0 < kn) (hg : guardOk E ops ⟨d, .call { callee := .builtin .append, args := #[x, y], argTypes := aT }, t, p, af, g⟩ = some true) (hd : dstOk d C.n = true) (hl : listed.setIfInBounds i true = listed')
    (h : ∀ b' cap' rst', (xs ++ new).length + rst'.length = cap' * sz → n + kn ≤ cap' → WA C S w0 ops fuel listed' k D (putE d (.slice (some ⟨b', 0, none⟩) (n + kn) cap') E) (⟨b', true, .cells (xs ++ new ++ rst').toArray el (0, 0)⟩ :: H')) :
    WI C S w0 ops fuel listed i k D E H := by
  refine wi_op hop hg hd hl fun w hi tmps hft => ?_
  have hnl : new.length = kn * sz := by rw [← hnew]; simp; omega
  obtain ⟨b', cap', rst', w', r1, r2, r3, r4⟩ := run_append (t := t) (w := w) (sv := .slice (base.map fun b => ⟨b, 0, none⟩) n cap) (xv := .slice (some ⟨b2, o2, none⟩) kn c2) hi hu hux (.inl ⟨e2, rfl⟩) haT hti hsz hpos hz hzs rfl hxs hcap hb (by simp [Builtin.lenOf]) (fun w' hw' => by
    have h1 := run_loadCellsFrom (P := C.P) (w := w') (b := b2) (off := o2) (c := cc.extract o2 (o2 + kn * sz)) (fun j h1 h2 => by
      have h3 : j - o2 < kn * sz := by simp at h2; omega
      have hjc : j < cc.size := by omega
      have hb2 := hw' _ _ _ _ (hi.hb _ hm)
      have : w'.cell? ⟨b2, j, none⟩ = cc[j]? := by
        unfold World.cell?
        simp [hb2]
      rw [this, Array.getElem?_extract]
      rw [if_pos (by omega)]
      congr 1; omega) (kn * sz) 0 #[] (by simp; omega)
    simp only [Builtin.firstCells, loadCells]
    rw [h1, ← hnew]
    congr 1
    apply Array.ext'
    simp) hnl hok hroom hmax hk
  have hrun : (execOp ({ tmps := tmps, defers := D } : Act).eval (⟨d, .call { callee := .builtin .append, args := #[x, y], argTypes := aT }, t, p, af, g⟩ : Oper)).run C.P w = .ok (.value (.slice (some ⟨b', 0, none⟩) (n + kn) cap')) w' := by
    simp [execOp, resolve, invoke, builtin, hft.opv D hx, hft.opv D hy, r1]
  rw [hrun]
  exact (h b' cap' rst' r2 r3).go3 r4

end
end Go.Sl

namespace Go.Sl
open Go Go.RowKit Go.Shelf Go.Proofs

/-- One block is taken off the list. -/
inductive Del1 (e : Ent) : List Ent → List Ent → Prop
  | head (H : List Ent) : Del1 e (e :: H) H
  | tail (x : Ent) {H H' : List Ent} (h : Del1 e H H') : Del1 e (x :: H) (x :: H')
  | app (A : List Ent) {H H' : List Ent} (h : Del1 e H H') : Del1 e (A ++ H) (A ++ H')

theorem Del1.perm {e : Ent} {H H' : List Ent} (h : Del1 e H H') : H.Perm (e :: H') := by
  induction h with
  | head H => exact List.Perm.refl _
  | tail x _ ih => exact (ih.cons x).trans (List.Perm.swap _ _ _)
  | app A _ ih => exact (ih.append_left A).trans (List.perm_middle)

/-- Blocks are taken off the list, one by one. -/
inductive Take : List Ent → List Ent → List Ent → Prop
  | nil (H : List Ent) : Take H [] H
  | cons {e : Ent} {H H1 F : List Ent} {ps : List Ent} (h : Del1 e H H1) (t : Take H1 ps F) : Take H (e :: ps) F

theorem Take.perm {H ps F : List Ent} (h : Take H ps F) : H.Perm (ps ++ F) := by
  induction h with
  | nil H => exact List.Perm.refl _
  | cons h _ ih => exact h.perm.trans (ih.cons _)

theorem Inv.take {S : Nat → Prop} {w0 w : World} {H ps F : List Ent} (hi : Inv S w0 H w) (h : Take H ps F) : Inv S w0 (ps ++ F) w := hi.perm h.perm
theorem Inv.untake {S : Nat → Prop} {w0 w : World} {H ps F : List Ent} (hi : Inv S w0 (ps ++ F) w) (h : Take H ps F) : Inv S w0 H w := hi.perm h.perm.symm
/-- The same, and what is left but for F goes. -/
theorem Inv.pick {S : Nat → Prop} {w0 w : World} {H ps R F : List Ent} (hi : Inv S w0 H w) (h : Take H ps R) (hs : F.Sublist R) : Inv S w0 (ps ++ F) w := (hi.take h).subset (List.Sublist.append (List.Sublist.refl _) hs)

/-- A contract that carries the rest along. -/
def SL (P : Program) (f : FuncId) (vs : List Value) (pre : List Ent) (Q : Ending → List Ent → Prop) : Prop :=
  ∀ (S : Nat → Prop) (w0 : World) (F : List Ent) (w : World), Inv S w0 (pre ++ F) w → Calls P f vs.toArray w fun e w' => ∃ post, Q e post ∧ Inv S w0 (post ++ F) w'

theorem SL.mono {P : Program} {f : FuncId} {vs : List Value} {pre : List Ent} {Q Q' : Ending → List Ent → Prop} (h : SL P f vs pre Q) (hq : ∀ e post, Q e post → Q' e post) : SL P f vs pre Q' :=
  fun S w0 F w hi => (h S w0 F w hi).mono fun _ _ ⟨post, h1, h2⟩ => ⟨post, hq _ _ h1, h2⟩

theorem SL.of_quiet {P : Program} {f : FuncId} {vs : List Value} {v : Value} (h : ∀ w, Calls P f vs.toArray w fun e w' => e = .returned v ∧ Fr none_ w w') : SL P f vs [] fun e post => e = .returned v ∧ post = [] :=
  fun S w0 F w hi => (h w).mono fun e w' ⟨h1, h2⟩ => ⟨[], ⟨h1, rfl⟩, hi.quiet h2⟩
theorem SL.of_ret {P : Program} {f : FuncId} {vs : List Value} {Q : Value → List Ent → Prop} (h : ∀ w, Calls P f vs.toArray w (Ret none_ w Q)) : SL P f vs [] fun e post => ∃ v, e = .returned v ∧ Q v post :=
  fun S w0 F w hi => (h w).mono fun e w' ⟨v, Hn, h1, h2, h3, h4⟩ => ⟨Hn, ⟨v, h1, h2⟩, hi.call h3 h4 (fun _ h => h.elim) (List.Sublist.refl _) (fun _ _ h => h)⟩

/-- The walk of a frame that panics. -/
def WP (C : Cx) (S : Nat → Prop) (w0 : World) (chain : List PanicEntry) (D : List Deferred) (E : List (Nat × Value)) (H : List Ent) : Prop := ∀ w, Inv S w0 H w → GoP C chain D E w
/-- The walk of a frame that returns. -/
def WR (C : Cx) (S : Nat → Prop) (w0 : World) (D : List Deferred) (E : List (Nat × Value)) (H : List Ent) : Prop := ∀ w, Inv S w0 H w → GoR C D E w

section
variable {C : Cx} {S : Nat → Prop} {w0 : World} {k : List Item} {D : List Deferred} {E : List (Nat × Value)} {H H' : List Ent} {d : Option Tmp} {t t' : TypeId} {p : String} {af : Array Edge} {g : Option (Nat × Bool)} {x y z : Operand} {v u : Value} {ops : Array Oper} {rest : List Oper} {a b : Int} {kk k2 : IntKind} {xt yt : TypeId}

theorem wo_take {ps F : List Ent} (h : Take H ps F) (hk : WO C S w0 ops rest k D E (ps ++ F)) : WO C S w0 ops rest k D E H := fun pre hp w hi => hk pre hp w (hi.take h)
theorem w_take {ps F : List Ent} (h : Take H ps F) (hk : WF C S w0 k D E (ps ++ F)) : WF C S w0 k D E H := fun w hi => hk w (hi.take h)
theorem w_pick {ps R F : List Ent} (h : Take H ps R) (hs : F.Sublist R) (hk : WF C S w0 k D E (ps ++ F)) : WF C S w0 k D E H := fun w hi => hk w (hi.pick h hs)

/-- A call by a contract that carries the rest along. -/
theorem wo_callS {c : Call} {f : FuncId} {vs : List Value} {pre F : List Ent} {Q : Ending → List Ent → Prop} (hp : Take H pre F) (hc : callTo E c = some (f, vs)) (he : Enters C.P f) (hg : guardOk E ops ⟨d, .call c, t, p, af, g⟩ = some true) (hd : dstOk d C.n = true)
    (h : SL C.P f vs pre Q)
    (hk : ∀ e post, Q e post → match e with
      | .returned v => WO C S w0 ops rest k D (putE d v E) (post ++ F)
      | .panicked chain => WP C S w0 chain D E (post ++ F)
      | .outgrown => False) : WO C S w0 ops (⟨d, .call c, t, p, af, g⟩ :: rest) k D E H := by
  refine wo_call (R := fun _ e w' => ∃ post, Q e post ∧ Inv S w0 (post ++ F) w') hc he hg hd (fun w hi => h S w0 F w (hi.take hp)) ?_
  rintro w e w' _ ⟨post, hq, hi⟩
  have := hk e post hq
  cases e with
  | returned v => exact this.go2 hi
  | panicked chain => exact this w' hi
  | outgrown => exact this

/-- The same of a call that returns alone. -/
theorem wo_callR {c : Call} {f : FuncId} {vs : List Value} {pre F : List Ent} {Q : Value → List Ent → Prop} (hp : Take H pre F) (hc : callTo E c = some (f, vs)) (he : Enters C.P f) (hg : guardOk E ops ⟨d, .call c, t, p, af, g⟩ = some true) (hd : dstOk d C.n = true)
    (h : SL C.P f vs pre fun e post => ∃ v, e = .returned v ∧ Q v post)
    (hk : ∀ v post, Q v post → WO C S w0 ops rest k D (putE d v E) (post ++ F)) : WO C S w0 ops (⟨d, .call c, t, p, af, g⟩ :: rest) k D E H :=
  wo_callS hp hc he hg hd h fun e post hq => by obtain ⟨v, rfl, hq⟩ := hq; exact hk v post hq

theorem calls_of_WFS {P : Program} {f : FuncId} {fn : Func} {c : Code} {vs : List Value} {w : World} {R : Ending → World → Prop} (hf : P.funcs[f]? = some fn) (hb : fn.body = some c) (hn : Nat.ble vs.length fn.ntmps = true)
    (hi : Inv S w0 H w) (h : WF (cxOf P f fn R) S w0 [.code c] [] (args0 0 vs) H) : Calls P f vs.toArray w R := by
  intro cs
  have hn' : vs.length ≤ fn.ntmps := by simpa using hn
  have henter : Frame.enter P f vs.toArray .normal = (cxOf P f fn R).b.atR { tmps := vs.toArray ++ Array.replicate (fn.ntmps - vs.length) undef, defers := [] } [.code c] := by
    simp [Frame.enter, Frame.atR, hf, hb, cxOf]
    rfl
  obtain ⟨m, ⟨e, w', fr, hR, hne, rfl, hfn, hl⟩, hs⟩ := h w hi (vs.toArray ++ Array.replicate (fn.ntmps - vs.length) undef) ⟨by simp [cxOf]; omega, fun t v hv => by
    obtain ⟨_, h2⟩ := look_args0 0 vs t v hv
    simp only [Nat.sub_zero] at h2
    have hlt : t < vs.length := by
      rcases Nat.lt_or_ge t vs.length with h | h
      · exact h
      · rw [List.getElem?_eq_none h] at h2; cases h2
    rw [Array.getElem?_append_left (by simpa using hlt)]; simpa using h2⟩ cs
  refine ⟨e, w', fr, hR, ?_, hfn, hl⟩
  rw [henter]
  cases e with
  | returned v => exact hs
  | panicked ch => exact hs
  | outgrown => exact absurd rfl hne

/-- 'panic(x)' of an interface value. -/
theorem wo_panic {it : TypeId} {iv : Value} (hx : opv E x = some (.iface it iv)) (hg : guardOk E ops ⟨d, .panic x, t, p, af, g⟩ = some true) (hd : dstOk d C.n = true)
    (h : WP C S w0 [{ v := .iface it iv, recovered := false }] D E H) : WO C S w0 ops (⟨d, .panic x, t, p, af, g⟩ :: rest) k D E H := by
  refine wo_op hg hd fun w hi tmps hft => ?_
  rw [semAt_nd _ _ _ (nd_of rfl)]
  have : (execOp ({ tmps := tmps, defers := D } : Act).eval (⟨d, .panic x, t, p, af, g⟩ : Oper)).run C.P w = .halt (.panic (.iface it iv)) w := by
    simp [execOp, hft.opv D hx, Instr.panic, goPanic, Sem.run]
  rw [this]
  exact h w hi

/-- A frame that panics and has no deferred call leaves. -/
theorem wp_leave {P : Program} {f : FuncId} {fn : Func} {R : Ending → World → Prop} {chain : List PanicEntry} (hf : P.funcs[f]? = some fn) (hR : ∀ w, Inv S w0 H w → R (.panicked chain) w) : WP (cxOf P f fn R) S w0 chain [] E H := fun w hi => goP_leave hf (hR w hi)

/-- 'x.(T)' with its second result, where the type is the one asked for. -/
theorem ov_assertT {dd : TypeDesc} (hu : C.P.underlying yt = some dd) (hd : (match dd with | .interface _ => false | _ => true) = true) (hx : opv E x = some (.iface yt v)) :
    OpV C S w0 H D E ⟨d, .typeAssert x xt yt true, t, p, af, g⟩ (.tuple #[v, .bool true]) := opv_run fun tmps w hf _ => by
  cases dd <;> simp_all [execOp, Instr.typeAssert, underlying, program, Sem.run, hf.opv D hx]

theorem ov_neqNil {ms : Array (String × TypeId)} {it : TypeId} (hu : C.P.underlying xt = some (.interface ms)) (hx : opv E x = some (.iface it v)) (hy : opv E y = some .nilIface) :
    OpV C S w0 H D E ⟨d, .binOp .neq xt x y yt, t, p, af, g⟩ (.bool true) :=
  ov_binE hx hy (fun w => by simp [eqGuard]) fun w => by
    have : ∀ n, (Op.equalIn (n + 1) xt (.iface it v) .nilIface).run C.P w = .ok false w := fun n => by simp [Op.equalIn, underlying, program, Sem.run, hu]
    have h2 : (Op.equal xt (.iface it v) .nilIface).run C.P w = .ok false w := this 9999
    simp [binOp, h2]
theorem ov_neqNilF {ms : Array (String × TypeId)} {it : TypeId} (hu : C.P.underlying xt = some (.interface ms)) (hx : opv E x = some .nilIface) :
    OpV C S w0 H D E ⟨d, .binOp .neq xt x (.const .nilIface) yt, t, p, af, g⟩ (.bool false) :=
  ov_binE hx rfl (fun w => by simp [eqGuard]) fun w => by
    have : ∀ n, (Op.equalIn (n + 1) xt .nilIface .nilIface).run C.P w = .ok true w := fun n => by simp [Op.equalIn, underlying, program, Sem.run, hu]
    have h2 : (Op.equal xt .nilIface .nilIface).run C.P w = .ok true w := this 9999
    simp [binOp, h2]
end
end Go.Sl

namespace Go.Sl
open Go Go.RowKit Go.Shelf Go.Proofs

section
variable {C : Cx} {S : Nat → Prop} {w0 : World} {k : List Item} {D : List Deferred} {E : List (Nat × Value)} {H H' : List Ent} {d : Option Tmp} {t t' : TypeId} {p : String} {af : Array Edge} {g : Option (Nat × Bool)} {x y z : Operand} {v u : Value} {ops : Array Oper} {rest : List Oper} {a b : Int} {kk k2 : IntKind} {xt yt : TypeId}

/-- 'defer f()' of a function value, outside a round. -/
theorem wo_defer {f : FuncId} {fs cs : Array Value} {us : List Value} {aty : Array TypeId} {xs : Array Operand} (hro : C.b.roundOf = none) (hx : opv E x = some (.func (.func f) fs cs)) (hxs : opvs E xs.toList = some us)
    (hg : guardOk E ops ⟨d, .defer { callee := .value x, args := xs, argTypes := aty }, t, p, af, g⟩ = some true) (hd : dstOk d C.n = true)
    (h : WO C S w0 ops rest k ({ target := .fn (.func f) cs, args := fs ++ us.toArray } :: D) (putE d undef E) H) : WO C S w0 ops (⟨d, .defer { callee := .value x, args := xs, argTypes := aty }, t, p, af, g⟩ :: rest) k D E H := by
  refine wo_op hg hd fun w hi tmps hft => ?_
  have h3 := hft.opvsA (D := D) hxs
  have : ((⟨d, .defer { callee := .value x, args := xs, argTypes := aty }, t, p, af, g⟩ : Oper).semAt C.b.roundOf ({ tmps := tmps, defers := D } : Act).eval).run C.P w = .ok (.defer { target := .fn (.func f) cs, args := fs ++ us.toArray }) w := by
    rw [hro, Oper.semAt_none]
    simp [execOp, resolve, hft.opv D hx, Deferred.ofValue, h3]
  rw [this]
  exact ⟨hro, h.go2 hi⟩

/-! ### The way out -/

/-- What stands behind a deferred call. -/
def After (C : Cx) (D : List Deferred) (E : List (Nat × Value)) (w : World) : FrameMode → Prop
  | .returning => GoR C D E w
  | .panicking chain => GoP C chain D E w
  | .run => False

theorem goR_defer {f' : FuncId} {f : Fn} {cap dargs args : Array Value} {w : World} (hinv : (invoke (.fn f cap) dargs).run C.P w = .ok (.enter f' args) w)
    (h : CallsD C.P f' args .returning w fun e u' w' => match e with
      | .returned _ => After C D E w' (settle u')
      | .panicked ch => After C D E w' (raised u' ch)
      | .outgrown => False) : GoR C ({ target := .fn f cap, args := dargs } :: D) E w := by
  intro tmps hf k cs
  have h1 := step_defer (P := C.P) (fr := { C.b.atR { tmps := tmps, defers := { target := .fn f cap, args := dargs } :: D } k with mode := .returning }) (cs := cs) (w := w) (by simp) rfl rfl hinv
  obtain ⟨e, u', w', fr, hR, hs, hk, hgo⟩ := h { C.b.atR { tmps := tmps, defers := D } k with mode := .returning } cs rfl
  cases e with
  | outgrown => exact hR.elim
  | returned v =>
    have h2 := step_going_returned (c := { C.b.atR { tmps := tmps, defers := D } k with mode := u' }) (cs := cs) hk hgo
    revert hR h2
    simp only
    cases settle u' with
    | run => exact fun hR _ => hR.elim
    | returning => exact fun hR h2 => by obtain ⟨m, ht, hs2⟩ := hR tmps hf k cs; exact ⟨m, ht, .head h1 (Steps.trans hs (.head h2 hs2))⟩
    | panicking chain => exact fun hR h2 => by obtain ⟨m, ht, hs2⟩ := hR tmps hf k cs; exact ⟨m, ht, .head h1 (Steps.trans hs (.head h2 hs2))⟩
  | panicked ch =>
    have h2 := step_going_panicked (c := { C.b.atR { tmps := tmps, defers := D } k with mode := u' }) (cs := cs) hgo
    revert hR h2
    simp only
    cases raised u' ch with
    | run => exact fun hR _ => hR.elim
    | returning => exact fun hR h2 => by obtain ⟨m, ht, hs2⟩ := hR tmps hf k cs; exact ⟨m, ht, .head h1 (Steps.trans hs (.head h2 hs2))⟩
    | panicking chain => exact fun hR h2 => by obtain ⟨m, ht, hs2⟩ := hR tmps hf k cs; exact ⟨m, ht, .head h1 (Steps.trans hs (.head h2 hs2))⟩

theorem goP_defer {f' : FuncId} {f : Fn} {cap dargs args : Array Value} {ch0 : List PanicEntry} {w : World} (hinv : (invoke (.fn f cap) dargs).run C.P w = .ok (.enter f' args) w)
    (h : CallsD C.P f' args (.panicking ch0) w fun e u' w' => match e with
      | .returned _ => After C D E w' (settle u')
      | .panicked ch => After C D E w' (raised u' ch)
      | .outgrown => False) : GoP C ch0 ({ target := .fn f cap, args := dargs } :: D) E w := by
  intro tmps hf k cs
  have h1 := step_defer (P := C.P) (fr := { C.b.atR { tmps := tmps, defers := { target := .fn f cap, args := dargs } :: D } k with mode := .panicking ch0 }) (cs := cs) (w := w) (by simp) rfl rfl hinv
  obtain ⟨e, u', w', fr, hR, hs, hk, hgo⟩ := h { C.b.atR { tmps := tmps, defers := D } k with mode := .panicking ch0 } cs rfl
  cases e with
  | outgrown => exact hR.elim
  | returned v =>
    have h2 := step_going_returned (c := { C.b.atR { tmps := tmps, defers := D } k with mode := u' }) (cs := cs) hk hgo
    revert hR h2
    simp only
    cases settle u' with
    | run => exact fun hR _ => hR.elim
    | returning => exact fun hR h2 => by obtain ⟨m, ht, hs2⟩ := hR tmps hf k cs; exact ⟨m, ht, .head h1 (Steps.trans hs (.head h2 hs2))⟩
    | panicking chain => exact fun hR h2 => by obtain ⟨m, ht, hs2⟩ := hR tmps hf k cs; exact ⟨m, ht, .head h1 (Steps.trans hs (.head h2 hs2))⟩
  | panicked ch =>
    have h2 := step_going_panicked (c := { C.b.atR { tmps := tmps, defers := D } k with mode := u' }) (cs := cs) hgo
    revert hR h2
    simp only
    cases raised u' ch with
    | run => exact fun hR _ => hR.elim
    | returning => exact fun hR h2 => by obtain ⟨m, ht, hs2⟩ := hR tmps hf k cs; exact ⟨m, ht, .head h1 (Steps.trans hs (.head h2 hs2))⟩
    | panicking chain => exact fun hR h2 => by obtain ⟨m, ht, hs2⟩ := hR tmps hf k cs; exact ⟨m, ht, .head h1 (Steps.trans hs (.head h2 hs2))⟩

theorem run_takeDeferred {P : Program} {w : World} {r : Nat} (h : w.heap[r]? = some (.deferred (some []))) : (Instr.takeDeferred r).run P w = .ok [] { w with heap := w.heap.setIfInBounds r (.deferred none) } := by
  simp [Instr.takeDeferred, getObj, setObj, Sem.run, Sem.run_bind, h]

theorem Inv.put {S : Nat → Prop} {w0 w : World} {H H' : List Ent} {r : Nat} {o o' : Obj} (hi : Inv S w0 H w) (hu : Upd r o o' H H') : Inv S w0 H' { w with heap := w.heap.setIfInBounds r o' } := by
  have hlt : r < w.heap.size := hi.lt hu.mem
  refine hi.upd hu rfl rfl rfl (by simp) (fun q hq => ?_) ?_
  · simp only [Array.getElem?_setIfInBounds]; rw [if_neg (by omega)]
  · simp [Array.getElem?_setIfInBounds, hlt]

/-- The mark of a loop is passed on the way out. -/
theorem wr_mark {r : Nat} {dargs : Array Value} (hu : Upd r (.deferred (some [])) (.deferred none) H H') (h : WR C S w0 D E H') : WR C S w0 ({ target := .collected r, args := dargs } :: D) E H := by
  intro w hi tmps hf k cs
  obtain ⟨m, ht, hs⟩ := h _ (hi.put hu) tmps hf k cs
  exact ⟨m, ht, .head (step_collected (by simp) rfl rfl (run_takeDeferred (hi.hb _ hu.mem))) hs⟩
theorem wp_mark {r : Nat} {chain : List PanicEntry} {dargs : Array Value} (hu : Upd r (.deferred (some [])) (.deferred none) H H') (h : WP C S w0 chain D E H') : WP C S w0 chain ({ target := .collected r, args := dargs } :: D) E H := by
  intro w hi tmps hf k cs
  obtain ⟨m, ht, hs⟩ := h _ (hi.put hu) tmps hf k cs
  exact ⟨m, ht, .head (step_collected (by simp) rfl rfl (run_takeDeferred (hi.hb _ hu.mem))) hs⟩

theorem wr_leave {P : Program} {f : FuncId} {fn : Func} {R : Ending → World → Prop} {vs : List Value} (hf : P.funcs[f]? = some fn) (hr : Res P E H fn.results.toList vs) (hR : ∀ w, Inv S w0 H w → R (.returned (tup vs)) w) : WR (cxOf P f fn R) S w0 [] E H :=
  fun w hi => goR_ret hf (fun tmps hft => run_resultsM hi hft hr) (hR w hi)
theorem w_retW (hro : C.b.roundOf = none) (h : WR C S w0 D E H) : WF C S w0 (.code .ret :: k) D E H := w_retR hro h
theorem w_endW (hro : C.b.roundOf = none) (h : WR C S w0 D E H) : WF C S w0 [] D E H := w_endR hro h

/-! ### recover -/
/-- Where a deferred function ends. -/
def TDef (P : Program) (R : Ending → World → Prop) : List Frame → Machine → Prop := fun cs m => ∃ e w' fr, R e w' ∧ e ≠ .outgrown ∧ m = lone fr cs w' ∧ fr.kind = .deferred ∧ fr.going P w' e
/-- The frame that is on its way out ahead of 'recover' and behind it. -/
def TPre (u u' : FrameMode) (T : List Frame → Machine → Prop) : List Frame → Machine → Prop := fun cs m => ∀ c r, cs = c :: r → c.mode = u → T ({ c with mode := u' } :: r) m
def cxD (P : Program) (f : FuncId) (fn : Func) (T : List Frame → Machine → Prop) : Cx := { P := P, b := { (default : Frame) with fn := f, kind := .deferred }, n := fn.ntmps, T := T }

theorem dfl_round : (default : Frame).roundOf = none := rfl
theorem go2_recover {P : Program} {f : FuncId} {fn : Func} {T : List Frame → Machine → Prop} {older : List PanicEntry} {aty : Array TypeId} {w : World}
    (hg : guardOk E ops ⟨d, .call { callee := .builtin .recover, args := #[], argTypes := aty }, t, p, af, g⟩ = some true) (hd : dstOk d fn.ntmps = true)
    (h : Go2 (cxD P f fn T) ops rest k D (putE d v E) w) :
    Go2 (cxD P f fn (TPre (.panicking ({ v := v, recovered := false } :: older)) (.panicking ({ v := v, recovered := true } :: older)) T)) ops (⟨d, .call { callee := .builtin .recover, args := #[], argTypes := aty }, t, p, af, g⟩ :: rest) k D E w := by
  intro pre hpre tmps hf cs
  obtain ⟨h0, hrest⟩ := drop_cons hpre
  have ho : ops[pre]? = some ⟨d, .call { callee := .builtin .recover, args := #[], argTypes := aty }, t, p, af, g⟩ := by simpa using h0
  have hw := guardOk_wanted hf hg
  have hlen : List.range' pre ((⟨d, .call { callee := .builtin .recover, args := #[], argTypes := aty }, t, p, af, g⟩ : Oper) :: rest).length = pre :: List.range' (pre + 1) rest.length := by simp [List.range'_succ]
  rw [hlen]
  by_cases hcs : ∃ c r, cs = c :: r ∧ c.mode = .panicking ({ v := v, recovered := false } :: older)
  · obtain ⟨c, r, rfl, hc⟩ := hcs
    obtain ⟨f1, f2⟩ := hf.putE (dstOk_lt hd) v D
    obtain ⟨m, ht, hs⟩ := h (pre + 1) hrest _ f1 ({ c with mode := .panicking ({ v := v, recovered := true } :: older) } :: r)
    refine ⟨m, ?_, .head (step_lone_go ?_) hs⟩
    · rintro c' r' e _; cases e; exact ht
    · have hfin := Frame.finish_atR (cxD P f fn T).b { tmps := tmps, defers := D } ops pre (List.range' (pre + 1) rest.length) k v
      rw [ho] at hfin
      have e2 := act_eta f2
      rw [← e2]
      simp only [Option.bind_some] at hfin
      have hfin' : (({ fn := f, tmps := tmps, todo := .inRegion ops (pre :: List.range' (pre + 1) rest.length) :: k, defers := D, mode := .run, kind := .deferred, roundOf := none } : Frame).finish v) = (cxD P f fn T).b.atR (({ tmps := tmps, defers := D } : Act).put d v) (.inRegion ops (List.range' (pre + 1) rest.length) :: k) := hfin
      rw [← hfin']
      have hw' : ((ops[pre]?).map (Region.wanted · (yielded ops tmps))).getD false = true := by rw [ho]; simpa using hw
      simp [stepG, stepG.exec, stepG.oper, stepG.apply, Frame.atR, cxD, Frame.oper?, ho, hw, execOp, resolve, invoke, builtin, tryRecover, hc, Sem.runT_eq, GStep.bare_after, dfl_round]
  · exact ⟨_, fun c r e hm => absurd ⟨c, r, e, hm⟩ hcs, Steps.refl _ _⟩

theorem go2_recoverR {P : Program} {f : FuncId} {fn : Func} {T : List Frame → Machine → Prop} {aty : Array TypeId} {w : World}
    (hg : guardOk E ops ⟨d, .call { callee := .builtin .recover, args := #[], argTypes := aty }, t, p, af, g⟩ = some true) (hd : dstOk d fn.ntmps = true)
    (h : Go2 (cxD P f fn T) ops rest k D (putE d .nilIface E) w) :
    Go2 (cxD P f fn (TPre .returning .returning T)) ops (⟨d, .call { callee := .builtin .recover, args := #[], argTypes := aty }, t, p, af, g⟩ :: rest) k D E w := by
  intro pre hpre tmps hf cs
  obtain ⟨h0, hrest⟩ := drop_cons hpre
  have ho : ops[pre]? = some ⟨d, .call { callee := .builtin .recover, args := #[], argTypes := aty }, t, p, af, g⟩ := by simpa using h0
  have hw := guardOk_wanted hf hg
  have hlen : List.range' pre ((⟨d, .call { callee := .builtin .recover, args := #[], argTypes := aty }, t, p, af, g⟩ : Oper) :: rest).length = pre :: List.range' (pre + 1) rest.length := by simp [List.range'_succ]
  rw [hlen]
  by_cases hcs : ∃ c r, cs = c :: r ∧ c.mode = .returning
  · obtain ⟨c, r, rfl, hc⟩ := hcs
    obtain ⟨f1, f2⟩ := hf.putE (dstOk_lt hd) .nilIface D
    obtain ⟨m, ht, hs⟩ := h (pre + 1) hrest _ f1 (c :: r)
    refine ⟨m, ?_, .head (step_lone_go ?_) hs⟩
    · rintro c' r' e _; cases e
      have : ({ c with mode := .returning } : Frame) = c := by rw [← hc]
      rwa [this]
    · have hfin := Frame.finish_atR (cxD P f fn T).b { tmps := tmps, defers := D } ops pre (List.range' (pre + 1) rest.length) k .nilIface
      rw [ho] at hfin
      have e2 := act_eta f2
      rw [← e2]
      simp only [Option.bind_some] at hfin
      have hfin' : (({ fn := f, tmps := tmps, todo := .inRegion ops (pre :: List.range' (pre + 1) rest.length) :: k, defers := D, mode := .run, kind := .deferred, roundOf := none } : Frame).finish .nilIface) = (cxD P f fn T).b.atR (({ tmps := tmps, defers := D } : Act).put d .nilIface) (.inRegion ops (List.range' (pre + 1) rest.length) :: k) := hfin
      rw [← hfin']
      simp [stepG, stepG.exec, stepG.oper, stepG.apply, Frame.atR, cxD, Frame.oper?, ho, hw, execOp, resolve, invoke, builtin, tryRecover, hc, Sem.runT_eq, GStep.bare_after, dfl_round]
  · exact ⟨_, fun c r e hm => absurd ⟨c, r, e, hm⟩ hcs, Steps.refl _ _⟩
end
end Go.Sl

namespace Go.Sl
open Go Go.RowKit Go.Shelf Go.Proofs

section
variable {P : Program} {ops : Array Oper} {md : Region.Mode} {K : World → Prop}

/-- Whatever order the head is picked in, L holds behind it. -/
def headQ (P : Program) (md : Region.Mode) (ops : Array Oper) (K : World → Prop) (n : Nat) (L : Array Bool → Act → Prop) : Nat → Array Bool → Act → Prop
  | 0, listed, a => L listed a
  | f + 1, listed, a => Region.ready md ops listed ≠ [] ∧ ∀ i ∈ Region.ready md ops listed, i < n ∧ qOp P ops K i (headQ P md ops K n L f (listed.setIfInBounds i true)) a

theorem headQ_first {n i : Nat} {oi : Oper} {v : Value} {L : Array Bool → Act → Prop} (hi : ops[i]? = some oi) (hsel : ∀ (j : Nat) (o : Oper) cs b, ops[j]? = some o → o.op ≠ .select cs b)
    (hs : Region.sinkB md ops n = true) (hc : Region.chainB md ops n = true) (hn : n < ops.size) (hin : i < n) (hdone : ∀ listed a, L listed a → ∀ j ∈ Region.ready md ops listed, n ≤ j) :
    ∀ (f : Nat) (listed : Array Bool) (a : Act), HeadInv md ops n listed →
      (∀ j oj, ops[j]? = some oj → j ≠ i → listed.getD j true = false → (∀ e ∈ oj.after, Region.binds md e = true → e.on ≠ i) → oi.apart ops oj = true) →
      i ∈ Region.ready md ops listed → YieldsIn P ops K oi v a →
      headQ P md ops K n L f (listed.setIfInBounds i true) (a.put oi.dst v) → headQ P md ops K n L (f + 1) listed a
  | f, listed, a, inv, hfree, hr, hy, H => by
    have hun := (mem_ready.1 hr).1
    refine ⟨fun h => (by rw [h] at hr; cases hr), fun j hj => ?_⟩
    have hjn : j < n := (Nat.lt_or_ge j n).elim id fun h => absurd hj (tail_waits hs hc hn inv _ i rfl hin hun j h)
    refine ⟨hjn, ?_⟩
    by_cases hji : j = i
    · subst hji; exact hy.qOp hi H
    · match f, H with
      | 0, H => have := hdone _ _ H j (ready_mono hj hji); omega
      | f + 1, H =>
        have h1 := (H.2 j (ready_mono hj hji)).2
        obtain ⟨hjun, oj, hoj, hall⟩ := mem_ready.1 hj
        have hnot : ∀ e ∈ oj.after, Region.binds md e = true → e.on ≠ i := fun e he hb heq => by
          have h1 := hall e he hb
          rw [heq, getD_both hun] at h1
          cases h1
        have h2 := qOp_put hoj (hfree j oj hoj hji hjun hnot) (fun cs b => hsel i oi cs b hi) (fun cs b => hsel j oj cs b hoj) hy h1
        have hfree' : ∀ k ok, ops[k]? = some ok → k ≠ i → (listed.setIfInBounds j true).getD k true = false → (∀ e ∈ ok.after, Region.binds md e = true → e.on ≠ i) → oi.apart ops ok = true := fun k ok hk hki hun hno => by
          refine hfree k ok hk hki ?_ hno
          by_cases hjk : j = k
          · subst hjk; exact hjun
          · rw [getD_set_ne true hjk] at hun; exact hun
        refine qOp_mono (fun a' h3 => headQ_first hi hsel hs hc hn hin hdone f (listed.setIfInBounds j true) a' (inv.set hj hjn) hfree' (ready_mono hr (Ne.symm hji)) h3.1 ?_) h2
        rw [Array.setIfInBounds_comm _ _ hji]
        exact h3.2

theorem headQ_lex {n g : Nat} {Lq : Act → Prop} (hsel : Region.noSelect ops = true) (hs : Region.sinkB md ops n = true) (hc : Region.chainB md ops n = true) (hn : n < ops.size) :
    ∀ (l : List Oper) (k : Nat) (listed : Array Bool) (a : Act), (∀ j, j < l.length → l[j]? = ops[k + j]?) → k + l.length = n → HeadInv md ops n listed →
    Region.lexHead md ops g l.length k listed = true → wpQuiet P ops K Lq l a → headQ P md ops K n (fun listed' a' => Region.seqB md ops g n listed' = true ∧ Lq a') l.length listed a
  | [], k, listed, a, _, hk, _, hB, h => by
    have : k = n := by simpa using hk
    subst this
    exact ⟨by simpa [Region.lexHead] using hB, h⟩
  | o :: l, k, listed, a, hl, hk, inv, hB, h => by
    have h0 : ops[k]? = some o := by simpa using (hl 0 (by simp)).symm
    simp only [List.length_cons, Region.lexHead, Bool.and_eq_true] at hB
    obtain ⟨⟨hr, hf⟩, hB'⟩ := hB
    have hkn : k < n := by simp only [List.length_cons] at hk; omega
    have hr' : k ∈ Region.ready md ops listed := by simpa using hr
    have hst : qOp P ops K k (wpQuiet P ops K Lq l) a := by unfold qOp; simp only [h0]; exact h
    obtain ⟨v, hy, hK⟩ := yieldsIn_of_qOp h0 hst
    refine headQ_first h0 (Region.noSelect_spec hsel) hs hc hn hkn (fun listed' a' hL => seqB_ready hL.1) l.length listed a inv (Region.free_spec h0 hf) hr' hy ?_
    exact headQ_lex hsel hs hc hn l (k + 1) _ _ (fun j hj => by have := hl (j + 1) (by simpa using hj); simpa [Nat.add_assoc, Nat.add_comm 1 j] using this) (by simp only [List.length_cons] at hk; omega) (inv.set hr' hkn) hB' hK

theorem linGo_step (fuel t : Nat) (listed : Array Bool) : (Region.ready md ops listed = [] ∧ Region.linearise.go md ops (fuel + 1) t listed [] = []) ∨
    ∃ i t', i ∈ Region.ready md ops listed ∧ Region.linearise.go md ops (fuel + 1) t listed [] = i :: Region.linearise.go md ops fuel t' (listed.setIfInBounds i true) [] := by
  simp only [Region.linearise.go]
  change (_ ∧ (match (Region.ready md ops listed)[t % (Region.ready md ops listed).length]? with
      | some i => Region.linearise.go md ops fuel (t / (Region.ready md ops listed).length) (listed.setIfInBounds i true) [i]
      | none => [].reverse) = []) ∨ ∃ i t', i ∈ Region.ready md ops listed ∧ (match (Region.ready md ops listed)[t % (Region.ready md ops listed).length]? with
      | some i => Region.linearise.go md ops fuel (t / (Region.ready md ops listed).length) (listed.setIfInBounds i true) [i]
      | none => [].reverse) = i :: Region.linearise.go md ops fuel t' (listed.setIfInBounds i true) []
  cases hi : (Region.ready md ops listed)[t % (Region.ready md ops listed).length]? with
  | none =>
    left
    refine ⟨?_, rfl⟩
    cases hr : Region.ready md ops listed with
    | nil => rfl
    | cons x xs =>
      rw [hr] at hi
      have hlt : t % (x :: xs).length < (x :: xs).length := Nat.mod_lt _ (by simp)
      simp at hi
      simp at hlt
      omega
  | some i =>
    right
    refine ⟨i, t / (Region.ready md ops listed).length, List.mem_of_getElem? hi, ?_⟩
    simp only []
    rw [linearise_go_acc, List.reverse_singleton, List.singleton_append]

theorem linGo_seq : ∀ (g k t : Nat) (listed : Array Bool), Region.seqB md ops g k listed = true → Region.linearise.go md ops g t listed [] = List.range' k g
  | 0, _, _, _, _ => rfl
  | g + 1, k, t, listed, h => by
    simp only [Region.seqB, Bool.and_eq_true, decide_eq_true_eq] at h
    rcases linGo_step (md := md) (ops := ops) g t listed with ⟨h1, _⟩ | ⟨i, t', h1, h2⟩
    · rw [h.1] at h1; cases h1
    · rw [h.1] at h1
      have : i = k := by simpa using h1
      subst this
      rw [h2, linGo_seq g (i + 1) t' _ h.2]; simp [List.range'_succ]
end

section
variable {C : Cx} {S : Nat → Prop} {w0 : World} {k : List Item} {D : List Deferred} {E : List (Nat × Value)} {H H' : List Ent} {d : Option Tmp} {t t' : TypeId} {p : String} {af : Array Edge} {g : Option (Nat × Bool)} {x y z : Operand} {v u : Value} {ops : Array Oper} {rest tl : List Oper}

/-- The same as 'Go1', at one state of the slots. -/
def GoA (C : Cx) (k : List Item) (a : Act) (w : World) : Prop := ∀ cs, ∃ m, C.T cs m ∧ Steps C.P (lone (C.b.atR a k) cs w) m

theorem goA_quiet {K : World → Prop} {i : Nat} {is : List Nat} {a : Act} {w : World} {N : Act → Prop} (hro : C.b.roundOf = none) (hw : K w) (hq : qOp C.P ops K i N a) (hr : i < ops.size) (hN : ∀ a w, K w → N a → GoA C (.inRegion ops is :: k) a w) : GoA C (.inRegion ops (i :: is) :: k) a w := by
  obtain ⟨o, ho⟩ : ∃ o, ops[i]? = some o := ⟨ops[i], Array.getElem?_eq_getElem hr⟩
  unfold qOp at hq
  simp only [ho] at hq
  intro cs
  have hfin : ∀ v, (C.b.atR a (.inRegion ops (i :: is) :: k)).finish v = C.b.atR (a.put o.dst v) (.inRegion ops is :: k) := by
    intro v; rw [Frame.finish_atR, ho]; rfl
  split at hq
  · rename_i hwt
    obtain ⟨v, h1, h2⟩ := hq
    have h3 := h1 w hw
    unfold Oper.quietAt at h3
    have hgo := stepGR_op (P := C.P) (b := C.b) (k := k) (cs := cs) (w := w) (a := a) (rest := is) ho hwt
    have hnd : o.semAt C.b.roundOf a.eval = execOp a.eval o := by rw [hro, Oper.semAt_none]
    rw [hnd] at hgo
    generalize hR : (execOp a.eval o).run C.P w = r at h3
    cases r with
    | halt x w' => simp only [Oper.quietUpon] at h3
    | ok n w' =>
      cases n <;> simp only [Oper.quietUpon] at h3
      case value u =>
        obtain ⟨rfl, rfl⟩ := h3
        obtain ⟨m, ht, hs⟩ := hN _ _ hw h2 cs
        refine ⟨m, ht, (Steps.one (step_lone_go ?_)).trans hs⟩
        rw [hgo, ← hfin]; simp [stepG.apply, hR]
      case skip =>
        obtain ⟨rfl, rfl⟩ := h3
        obtain ⟨m, ht, hs⟩ := hN _ _ hw h2 cs
        refine ⟨m, ht, (Steps.one (step_lone_go ?_)).trans hs⟩
        rw [hgo, ← hfin]; simp [stepG.apply, hR]
      case enter f args =>
        obtain ⟨rfl, hc⟩ := h3
        obtain ⟨e, w'', fr, ⟨rfl, hK⟩, hsteps, _, hleave⟩ := hc (C.b.atR a (.inRegion ops (i :: is) :: k) :: cs)
        obtain ⟨m, ht, hs⟩ := hN _ _ hK h2 cs
        have henter : step C.P (lone (C.b.atR a (.inRegion ops (i :: is) :: k)) cs w') = .next (lone (Frame.enter C.P f args .normal) (C.b.atR a (.inRegion ops (i :: is) :: k) :: cs) w') :=
          step_lone_go (by rw [hgo]; simp [stepG.apply, hR, Frame.atR])
        refine ⟨m, ht, (Steps.one henter).trans (Steps.trans hsteps ((Steps.one ?_).trans hs))⟩
        rw [← hfin]; exact step_leave_returned hleave
  · rename_i hwt
    have hs0 := stepR_op_skip (P := C.P) (b := C.b) (k := k) (cs := cs) (w := w) (a := a) (ops := ops) (i := i) (rest := is) (by simp [ho, hwt])
    obtain ⟨m, ht, hs⟩ := hN _ _ hw hq cs
    refine ⟨m, ht, (Steps.one ?_).trans hs⟩
    rw [hs0, ho]; rfl

theorem goA_head {K : World → Prop} {n g : Nat} {L : Array Bool → Act → Prop} (hro : C.b.roundOf = none) (hL : ∀ listed a w t, K w → L listed a → GoA C (.inRegion ops (Region.linearise.go .any ops g t listed []) :: k) a w) :
    ∀ (f : Nat) (listed : Array Bool) (a : Act) (w : World) (t : Nat), K w → n ≤ ops.size → headQ C.P .any ops K n L f listed a → GoA C (.inRegion ops (Region.linearise.go .any ops (f + g) t listed []) :: k) a w
  | 0, listed, a, w, t, hw, _, h => by rw [Nat.zero_add]; exact hL _ _ _ _ hw h
  | f + 1, listed, a, w, t, hw, hn, h => by
    rw [show f + 1 + g = (f + g) + 1 by omega]
    rcases linGo_step (md := .any) (ops := ops) (f + g) t listed with ⟨h1, _⟩ | ⟨i, t', h1, h2⟩
    · exact absurd h1 h.1
    · rw [h2]
      obtain ⟨h3, h4⟩ := h.2 i h1
      exact goA_quiet hro hw h4 (by omega) fun a w hw h => goA_head hro hL f _ a w t' hw hn h

/-- The head of a region that draws, walked in the order of the text; 'tl' waits behind it. -/
def WT (C : Cx) (S : Nat → Prop) (w0 : World) (ops : Array Oper) (rest tl : List Oper) (k : List Item) (D : List Deferred) (E : List (Nat × Value)) (H : List Ent) : Prop :=
  ∀ tmps, Fits E C.n tmps → wpQuiet C.P ops (Inv S w0 H) (fun a' => a'.defers = D ∧ ∃ E', Fits E' C.n a'.tmps ∧ WO C S w0 ops tl k D E' H) rest { tmps := tmps, defers := D }

theorem w_regT {id : Nat} (n : Nat) (hro : C.b.roundOf = none) (hm : C.P.follows .mixedOrders = true) (hB : Region.lexTailB .any ops n = true) (h : WT C S w0 ops (ops.toList.take n) (ops.toList.drop n) k D E H) : WF C S w0 (.code (.region id ops true) :: k) D E H := by
  intro w hi tmps hf cs
  unfold Region.lexTailB at hB
  simp only [Bool.and_eq_true, decide_eq_true_eq] at hB
  obtain ⟨⟨⟨⟨h1, h2⟩, h3⟩, h4⟩, h5⟩ := hB
  have hlen : (ops.toList.take n).length = n := by simp; omega
  have hq := headQ_lex (P := C.P) (K := Inv S w0 H) (g := ops.size - n) (Lq := fun a' => a'.defers = D ∧ ∃ E', Fits E' C.n a'.tmps ∧ WO C S w0 ops (ops.toList.drop n) k D E' H) h1 h3 h4 h2 (ops.toList.take n) 0 (Array.replicate ops.size false) { tmps := tmps, defers := D }
    (fun j hj => by rw [hlen] at hj; rw [Nat.zero_add, List.getElem?_take, if_pos hj]; simp) (by rw [hlen]; omega)
    ⟨by simp, fun j oj _ hl => (by rw [getD_replicate_false] at hl; cases hl), fun q hq1 hq2 => by simp [hq2]⟩ (by rw [hlen]; exact h5) (h tmps hf)
  rw [hlen] at hq
  have hgo := goA_head (C := C) (k := k) (g := ops.size - n) hro (fun listed a w t hw hL => by
    obtain ⟨hs, hd, E', hf', hk⟩ := hL
    rw [linGo_seq _ _ _ _ hs]
    obtain ⟨tm, df⟩ := a
    simp only at hd hf'
    subst hd
    intro cs
    have hl2 : (ops.toList.drop n).length = ops.size - n := by simp
    have := hk n rfl w hw tm hf' cs
    rw [hl2] at this
    exact this) n _ _ { w with drawn := w.drawn + 1 } (w.tape w.drawn (.order C.b.fn id)) hi.drew (by omega) hq cs
  obtain ⟨m, ht, hs⟩ := hgo
  refine ⟨m, ht, (Steps.one ?_).trans hs⟩
  rw [stepR_region_draw]
  simp only [Region.schedule, hm, Bool.true_or, if_true, Region.linearise]
  rw [show n + (ops.size - n) = ops.size by omega]

theorem wt_nil (h : WO C S w0 ops tl k D E H) : WT C S w0 ops [] tl k D E H := fun tmps hf => ⟨rfl, E, hf, h⟩
theorem wt_v {o : Oper} (hv : OpV C S w0 H D E o v) (hg : guardOk E ops o = some true) (hd : dstOk o.dst C.n = true) (h : WT C S w0 ops rest tl k D (putE o.dst v E) H) : WT C S w0 ops (o :: rest) tl k D E H := fun tmps hf => by
  unfold wpQuiet
  rw [if_pos (guardOk_wanted hf hg)]
  obtain ⟨f1, f2⟩ := hf.putE (dstOk_lt hd) v D
  refine ⟨v, fun w hw => hv tmps w hf hw, ?_⟩
  rw [act_eta f2]
  exact h _ f1
theorem wt_skip {o : Oper} (hg : guardOk E ops o = some false) (hd : dstOk o.dst C.n = true) (h : WT C S w0 ops rest tl k D (putE o.dst undef E) H) : WT C S w0 ops (o :: rest) tl k D E H := fun tmps hf => by
  unfold wpQuiet
  rw [if_neg (by rw [guardOk_wanted hf hg]; simp)]
  obtain ⟨f1, f2⟩ := hf.putE (dstOk_lt hd) undef D
  rw [act_eta f2]
  exact h _ f1
theorem wt_split {tt : Nat} {bb : Bool} (hl : look E tt = some (.bool bb)) (ht : bb = true → WT C S w0 ops rest tl k D ((tt, .bool true) :: E) H) (hf : bb = false → WT C S w0 ops rest tl k D ((tt, .bool false) :: E) H) : WT C S w0 ops rest tl k D E H := by
  have hs : ∀ v, look E tt = some v → sub ((tt, v) :: E) E := fun v hv s u e => by
    rw [look_cons] at e
    by_cases he : tt = s
    · subst he; rw [if_pos rfl] at e; cases e; exact hv
    · rw [if_neg he] at e; exact e
  cases bb with
  | true => exact fun tmps hft => ht rfl tmps (hft.sub (hs _ hl))
  | false => exact fun tmps hft => hf rfl tmps (hft.sub (hs _ hl))
theorem wt_gs {o1 : Op} {j : Nat} {want : Bool} {tt : Nat} {q : Prop} {_i : Decidable q} (hj : (ops[j]?).bind (·.dst) = some tt) (hl : look E tt = some (.bool (decide q)))
    (ht : q → WT C S w0 ops (⟨d, o1, t, p, af, some (j, want)⟩ :: rest) tl k D ((tt, .bool true) :: E) H) (hf : ¬ q → WT C S w0 ops (⟨d, o1, t, p, af, some (j, want)⟩ :: rest) tl k D ((tt, .bool false) :: E) H) :
    WT C S w0 ops (⟨d, o1, t, p, af, some (j, want)⟩ :: rest) tl k D E H := wt_split hl (fun h => ht (of_decide_eq_true h)) (fun h => hf (of_decide_eq_false h))
theorem wt_gsN {o1 : Op} {j : Nat} {want : Bool} {tt : Nat} {q : Prop} {_i : Decidable q} (hj : (ops[j]?).bind (·.dst) = some tt) (hl : look E tt = some (.bool (!decide q)))
    (ht : ¬ q → WT C S w0 ops (⟨d, o1, t, p, af, some (j, want)⟩ :: rest) tl k D ((tt, .bool true) :: E) H) (hf : q → WT C S w0 ops (⟨d, o1, t, p, af, some (j, want)⟩ :: rest) tl k D ((tt, .bool false) :: E) H) :
    WT C S w0 ops (⟨d, o1, t, p, af, some (j, want)⟩ :: rest) tl k D E H := wt_split hl (fun h => ht (of_decide_eq_false (by simpa using h))) (fun h => hf (of_decide_eq_true (by simpa using h)))
theorem wt_ps {tt : Nat} {q : Prop} {_i : Decidable q} (hl : look E tt = some (.bool (decide q)))
    (ht : q → WT C S w0 ops (⟨d, .pick (.tmp tt) y z, t, p, af, g⟩ :: rest) tl k D ((tt, .bool true) :: E) H) (hf : ¬ q → WT C S w0 ops (⟨d, .pick (.tmp tt) y z, t, p, af, g⟩ :: rest) tl k D ((tt, .bool false) :: E) H) :
    WT C S w0 ops (⟨d, .pick (.tmp tt) y z, t, p, af, g⟩ :: rest) tl k D E H := wt_split hl (fun h => ht (of_decide_eq_true h)) (fun h => hf (of_decide_eq_false h))
end
end Go.Sl

namespace Go.Sl
open Go Go.RowKit Go.Shelf Go.Proofs

section
variable {C : Cx} {S : Nat → Prop} {w0 : World} {k : List Item} {D : List Deferred} {E : List (Nat × Value)} {H H' : List Ent} {d : Option Tmp} {t t' : TypeId} {p : String} {af : Array Edge} {g : Option (Nat × Bool)} {x y z : Operand} {v u : Value} {ops : Array Oper} {rest : List Oper} {a b : Int} {kk k2 : IntKind} {xt yt : TypeId}

/-! ### A deferred function -/
theorem callsD_of_WF {P : Program} {f : FuncId} {fn : Func} {c : Code} {vs : List Value} {w : World} {R : Ending → World → Prop} {md md' : FrameMode} (hf : P.funcs[f]? = some fn) (hb : fn.body = some c) (hn : Nat.ble vs.length fn.ntmps = true)
    (hi : Inv S w0 H w) (h : WF (cxD P f fn (TPre md md' (TDef P R))) S w0 [.code c] [] (args0 0 vs) H) : CallsD P f vs.toArray md w fun e u' w' => u' = md' ∧ e ≠ .outgrown ∧ R e w' := by
  intro c0 cs hc
  have hn' : vs.length ≤ fn.ntmps := by simpa using hn
  have henter : Frame.enter P f vs.toArray .deferred = (cxD P f fn (TPre md md' (TDef P R))).b.atR { tmps := vs.toArray ++ Array.replicate (fn.ntmps - vs.length) undef, defers := [] } [.code c] := by
    simp [Frame.enter, Frame.atR, hf, hb, cxD]
    rfl
  obtain ⟨m, ht, hs⟩ := h w hi (vs.toArray ++ Array.replicate (fn.ntmps - vs.length) undef) ⟨by simp [cxD]; omega, fun t v hv => by
    obtain ⟨_, h2⟩ := look_args0 0 vs t v hv
    simp only [Nat.sub_zero] at h2
    have hlt : t < vs.length := by
      rcases Nat.lt_or_ge t vs.length with h | h
      · exact h
      · rw [List.getElem?_eq_none h] at h2; cases h2
    rw [Array.getElem?_append_left (by simpa using hlt)]; simpa using h2⟩ (c0 :: cs)
  obtain ⟨e, w', fr, hR, hne, rfl, hk, hg⟩ := ht c0 cs rfl hc
  refine ⟨e, md', w', fr, ⟨rfl, hne, hR⟩, ?_, hk, hg⟩
  rw [henter]
  cases e with
  | returned v => exact hs
  | panicked ch => exact hs
  | outgrown => exact absurd rfl hne

theorem wo_recover {P : Program} {f : FuncId} {fn : Func} {T : List Frame → Machine → Prop} {older : List PanicEntry} {aty : Array TypeId}
    (hg : guardOk E ops ⟨d, .call { callee := .builtin .recover, args := #[], argTypes := aty }, t, p, af, g⟩ = some true) (hd : dstOk d fn.ntmps = true)
    (h : WO (cxD P f fn T) S w0 ops rest k D (putE d v E) H) :
    WO (cxD P f fn (TPre (.panicking ({ v := v, recovered := false } :: older)) (.panicking ({ v := v, recovered := true } :: older)) T)) S w0 ops (⟨d, .call { callee := .builtin .recover, args := #[], argTypes := aty }, t, p, af, g⟩ :: rest) k D E H :=
  wo_go2 fun _ hi => go2_recover hg hd (h.go2 hi)
theorem wo_recoverR {P : Program} {f : FuncId} {fn : Func} {T : List Frame → Machine → Prop} {aty : Array TypeId}
    (hg : guardOk E ops ⟨d, .call { callee := .builtin .recover, args := #[], argTypes := aty }, t, p, af, g⟩ = some true) (hd : dstOk d fn.ntmps = true)
    (h : WO (cxD P f fn T) S w0 ops rest k D (putE d .nilIface E) H) :
    WO (cxD P f fn (TPre .returning .returning T)) S w0 ops (⟨d, .call { callee := .builtin .recover, args := #[], argTypes := aty }, t, p, af, g⟩ :: rest) k D E H :=
  wo_go2 fun _ hi => go2_recoverR hg hd (h.go2 hi)
/-- Ahead of 'recover' nothing asks for it. -/
theorem w_pre {P : Program} {f : FuncId} {fn : Func} {T : List Frame → Machine → Prop} {md md' : FrameMode} (h : ∀ w, Inv S w0 H w → ∀ tmps, Fits E fn.ntmps tmps → ∀ c cs, c.mode = md → ∃ m, T ({ c with mode := md' } :: cs) m ∧ Steps P (lone ((cxD P f fn T).b.atR { tmps := tmps, defers := D } k) (c :: cs) w) m) : WF (cxD P f fn (TPre md md' T)) S w0 k D E H := by
  intro w hi tmps hf cs
  by_cases hcs : ∃ c r, cs = c :: r ∧ c.mode = md
  · obtain ⟨c, r, rfl, hc⟩ := hcs
    obtain ⟨m, ht, hs⟩ := h w hi tmps hf c r hc
    exact ⟨m, fun c' r' e _ => by cases e; exact ht, hs⟩
  · exact ⟨_, fun c r e hm => absurd ⟨c, r, e, hm⟩ hcs, Steps.refl _ _⟩

theorem goR_retD {P : Program} {f : FuncId} {fn : Func} {R : Ending → World → Prop} {w : World} (hf : P.funcs[f]? = some fn) (hr : ∀ tmps, Fits E fn.ntmps tmps → (results fn tmps).run P w = .ok v w) (hR : R (.returned v) w) : GoR (cxD P f fn (TDef P R)) [] E w :=
  fun tmps hft _ _ => ⟨_, ⟨.returned v, w, _, hR, by simp, rfl, rfl, ⟨rfl, rfl, fn, hf, hr tmps hft⟩⟩, Steps.refl _ _⟩
theorem w_endD {P : Program} {f : FuncId} {fn : Func} {R : Ending → World → Prop} {vs : List Value} (hf : P.funcs[f]? = some fn) (hr : resv E fn.results.toList = some vs) (hR : ∀ w, Inv S w0 H w → R (.returned (tup vs)) w) : WF (cxD P f fn (TDef P R)) S w0 [] [] E H :=
  w_endR rfl fun w hi => goR_retD hf (fun _ hft => run_results hft hr) (hR w hi)
theorem w_retD {P : Program} {f : FuncId} {fn : Func} {R : Ending → World → Prop} {vs : List Value} (hf : P.funcs[f]? = some fn) (hr : resv E fn.results.toList = some vs) (hR : ∀ w, Inv S w0 H w → R (.returned (tup vs)) w) : WF (cxD P f fn (TDef P R)) S w0 (.code .ret :: k) [] E H :=
  w_retR rfl fun w hi => goR_retD hf (fun _ hft => run_results hft hr) (hR w hi)

/-! ### Rounds -/
/-- What one round of a loop does, where it goes on. -/
def Round (P : Program) (l : Nat) (lp : Loop) (vs : List Value) (pre : List Ent) (Q : List Ent → Prop) : Prop :=
  ∀ (S : Nat → Prop) (w0 : World) (F : List Ent) (w : World), Inv S w0 (pre ++ F) w → ∀ c cs, ∃ post w', Q post ∧ Inv S w0 (post ++ F) w' ∧
    Steps P (lone (Frame.round l lp.fn ((lp.params.zip vs.toArray).foldl (fun tmps (t, a) => tmps.setIfInBounds t a) lp.tmps) lp.assign lp.body .normal) (c :: cs) w) (lone (c.finish (.bool true)) cs w')

theorem run_yield {P : Program} {l : Nat} {lp : Loop} {vs : Array Value} {w : World} (h : w.heap[l]? = some (.loop lp)) (hn : lp.params.size = vs.size) :
    (Instr.yield l vs).run P w = .ok (.round l lp.fn ((lp.params.zip vs).foldl (fun tmps (t, a) => tmps.setIfInBounds t a) lp.tmps) lp.assign lp.body) w := by
  simp [Instr.yield, Instr.getLoop, getObj, Sem.run, Sem.run_bind, h, hn]

theorem wo_yield {l : Nat} {lp : Loop} {vs : List Value} {pre F : List Ent} {Q : List Ent → Prop} {xs : Array Operand} {aty : Array TypeId} (hro : C.b.roundOf = none) (hx : opv E x = some (.func (.yield l) #[] #[])) (hvs : opvs E xs.toList = some vs) (hp : Take H pre F)
    (hm : ∃ rw, (⟨l, rw, .loop lp⟩ : Ent) ∈ H) (hn : lp.params.size = vs.length) (hg : guardOk E ops ⟨d, .call { callee := .value x, args := xs, argTypes := aty }, t, p, af, g⟩ = some true) (hd : dstOk d C.n = true)
    (h : Round C.P l lp vs pre Q) (hk : ∀ post, Q post → WO C S w0 ops rest k D (putE d (.bool true) E) (post ++ F)) :
    WO C S w0 ops (⟨d, .call { callee := .value x, args := xs, argTypes := aty }, t, p, af, g⟩ :: rest) k D E H := by
  intro pre' hpre w hi tmps hf cs
  obtain ⟨h0, hrest⟩ := drop_cons hpre
  have ho : ops[pre']? = some ⟨d, .call { callee := .value x, args := xs, argTypes := aty }, t, p, af, g⟩ := by simpa using h0
  have hw := guardOk_wanted hf hg
  obtain ⟨rw', hm⟩ := hm
  have hlp := hi.hb _ hm
  have h3 := hf.opvsA (D := D) hvs
  have hgo := stepGR_op (P := C.P) (b := C.b) (k := k) (cs := cs) (w := w) (a := { tmps := tmps, defers := D }) (rest := List.range' (pre' + 1) rest.length) ho hw
  have hnd : (⟨d, .call { callee := .value x, args := xs, argTypes := aty }, t, p, af, g⟩ : Oper).semAt C.b.roundOf ({ tmps := tmps, defers := D } : Act).eval = execOp ({ tmps := tmps, defers := D } : Act).eval (⟨d, .call { callee := .value x, args := xs, argTypes := aty }, t, p, af, g⟩ : Oper) := by rw [hro, Oper.semAt_none]
  have hR : (execOp ({ tmps := tmps, defers := D } : Act).eval (⟨d, .call { callee := .value x, args := xs, argTypes := aty }, t, p, af, g⟩ : Oper)).run C.P w = .ok (.round l lp.fn ((lp.params.zip vs.toArray).foldl (fun tmps (t, a) => tmps.setIfInBounds t a) lp.tmps) lp.assign lp.body) w := by
    have hy := run_yield (P := C.P) (w := w) (vs := vs.toArray) hlp (by simpa using hn)
    simp [execOp, resolve, hf.opv D hx, Deferred.ofValue, h3, invoke]
    simpa using hy
  have hlen : List.range' pre' ((⟨d, .call { callee := .value x, args := xs, argTypes := aty }, t, p, af, g⟩ : Oper) :: rest).length = pre' :: List.range' (pre' + 1) rest.length := by simp [List.range'_succ]
  rw [hlen]
  obtain ⟨post, w', hq, hi', hsteps⟩ := h S w0 F w (hi.take hp) (C.b.atR { tmps := tmps, defers := D } (.inRegion ops (pre' :: List.range' (pre' + 1) rest.length) :: k)) cs
  obtain ⟨f1, f2⟩ := hf.putE (dstOk_lt hd) (.bool true) D
  obtain ⟨m, ht, hs⟩ := hk post hq (pre' + 1) hrest w' hi' _ f1 cs
  refine ⟨m, ht, (Steps.one ?_).trans (Steps.trans hsteps ?_)⟩
  · refine step_lone_go ?_
    rw [hgo, hnd]
    simp [stepG.apply, hR, Frame.atR]
  · rw [Frame.finish_atR, ho]
    simp only [Option.bind_some]
    rw [act_eta f2]
    exact hs

/-- Where a round ends that goes on. -/
def TRnd (S : Nat → Prop) (w0 : World) (F : List Ent) (Q : List Ent → Prop) : List Frame → Machine → Prop := fun cs m => ∀ c r, cs = c :: r → ∃ post w', Q post ∧ Inv S w0 (post ++ F) w' ∧ m = lone (c.finish (.bool true)) r w'
def cxR (P : Program) (f : FuncId) (n l : Nat) (T : List Frame → Machine → Prop) : Cx := { P := P, b := { (default : Frame) with fn := f, kind := .normal, roundOf := some l }, n := n, T := T }

/-- A round's contract out of the walk of its code. -/
theorem round_of_WF {P : Program} {l : Nat} {lp : Loop} {vs : List Value} {pre : List Ent} {Q : List Ent → Prop} {n : Nat} (hsz : lp.tmps.size = n) (hfit : ∀ S w0 F, Fits E n ((lp.params.zip vs.toArray).foldl (fun tmps (t, a) => tmps.setIfInBounds t a) lp.tmps) ∧
    WF (cxR P lp.fn n l (TRnd S w0 F Q)) S w0 [.code lp.assign, .beginRound, .code lp.body] [] E (pre ++ F)) : Round P l lp vs pre Q := by
  intro S w0 F w hi c cs
  obtain ⟨hf, h⟩ := hfit S w0 F
  obtain ⟨m, ht, hs⟩ := h w hi _ hf (c :: cs)
  obtain ⟨post, w', hq, hi', rfl⟩ := ht c cs rfl
  exact ⟨post, w', hq, hi', hs⟩

theorem run_beginRound {P : Program} {l : Nat} {lp : Loop} {w : World} (h : w.heap[l]? = some (.loop lp)) (hs : lp.state = .ready) : (Instr.beginRound l).run P w = .ok () { w with heap := w.heap.setIfInBounds l (.loop { lp with state := .busy }) } := by
  simp [Instr.beginRound, Instr.getLoop, getObj, setObj, Sem.run, Sem.run_bind, h, hs]
theorem run_endRound {P : Program} {l : Nat} {lp : Loop} {w : World} (h : w.heap[l]? = some (.loop lp)) : (Instr.endRound l none).run P w = .ok (.bool true) { w with heap := w.heap.setIfInBounds l (.loop { lp with state := .ready, pending := none }) } := by
  simp [Instr.endRound, Instr.getLoop, getObj, setObj, Sem.run, Sem.run_bind, h]

theorem w_beginRound {l : Nat} {lp : Loop} (hro : C.b.roundOf = some l) (hst : lp.state = .ready) (hu : Upd l (.loop lp) (.loop { lp with state := .busy }) H H') (h : WF C S w0 k D E H') : WF C S w0 (.beginRound :: k) D E H := by
  intro w hi tmps hf cs
  obtain ⟨m, ht, hs⟩ := h _ (hi.put hu) tmps hf cs
  refine ⟨m, ht, .head (step_lone_go ?_) hs⟩
  have hr := run_beginRound (P := C.P) (hi.hb _ hu.mem) hst
  simp [stepG, stepG.exec, stepG.apply, Frame.atR, hro, hr, Frame.finish]

theorem w_endRound {P : Program} {f n l : Nat} {lp : Loop} {Q : List Ent → Prop} {F post : List Ent} (hu : Upd l (.loop lp) (.loop { lp with state := .ready, pending := none }) H H') (hq : Q post) (hp : ∀ w, Inv S w0 H' w → Inv S w0 (post ++ F) w) : WF (cxR P f n l (TRnd S w0 F Q)) S w0 [] D E H := by
  intro w hi tmps hf cs
  have hr := run_endRound (P := P) (hi.hb _ hu.mem)
  by_cases hcs : ∃ c r, cs = c :: r
  · obtain ⟨c, r, rfl⟩ := hcs
    refine ⟨_, ?_, .one (step_lone_go (fr' := c.finish (.bool true)) (cs' := r) (w' := { w with heap := w.heap.setIfInBounds l (.loop { lp with state := .ready, pending := none }) }) ?_)⟩
    · intro c' r' e; cases e; exact ⟨post, _, hq, hp _ (hi.put hu), rfl⟩
    · simp [stepG, stepG.exec, doReturn, Frame.atR, cxR, Sem.runT_eq, hr, GStep.bare_after]
  · exact ⟨_, fun c r e => absurd ⟨c, r, e⟩ hcs, Steps.refl _ _⟩

/-! ### The loop -/
def loop0 (C : Cx) (tmps : Array Value) (params : Array Tmp) (assign body : Code) (r : Nat) : Loop := { state := .ready, pending := none, fn := C.b.fn, tmps := tmps, params := params, assign := assign, body := body, defers := r }
def markD (r : Nat) : Deferred := { target := .collected r, args := #[] }

theorem w_rangeFunc {f : Operand} {params : Array Tmp} {assign body : Code} {ff : FuncId} {fs cs : Array Value} (hro : C.b.roundOf = none) (hx : opv E f = some (.func (.func ff) fs cs)) (he : Enters C.P ff)
    (h : ∀ r l tmps, w0.heap.size ≤ r → w0.heap.size ≤ l → Fits E C.n tmps → ∃ pre F Q, Take (⟨l, true, .loop (loop0 C tmps params assign body r)⟩ :: ⟨r, true, .deferred (some [])⟩ :: H) pre F ∧
      SL C.P ff (fs.toList ++ [.func (.yield l) #[] #[]] ++ cs.toList) pre Q ∧ ∀ e post, Q e post → match e with
        | .returned _ => ∃ lp H2, Take (post ++ F) [⟨l, true, .loop lp⟩] H2 ∧ lp.state ≠ .busy ∧ lp.pending = none ∧ WF C S w0 k (markD r :: D) E (⟨l, true, .loop { lp with state := .exhausted }⟩ :: H2)
        | .panicked chain => WP C S w0 chain (markD r :: D) E (post ++ F)
        | .outgrown => False) : WF C S w0 (.code (.rangeFunc f params assign body) :: k) D E H := by
  intro w hi tmps hf cs0
  have hi2 := (hi.new (.deferred (some []))).new (.loop (loop0 C tmps params assign body w.heap.size))
  have hsz : (w.heap.push (.deferred (some []))).size = w.heap.size + 1 := by simp
  simp only [hsz] at hi2
  obtain ⟨pre, F, Q, htk, hsl, hk⟩ := h w.heap.size (w.heap.size + 1) tmps hi.fr.size (Nat.le_succ_of_le hi.fr.size) hf
  have hent : (Instr.enterLoop C.b.fn tmps params assign body none).run C.P w = .ok (w.heap.size + 1, [markD w.heap.size]) { w with heap := (w.heap.push (.deferred (some []))).push (.loop (loop0 C tmps params assign body w.heap.size)) } := by
    simp [Instr.enterLoop, newObj, Sem.run, Sem.run_bind, loop0, markD]
    rfl
  generalize hW : ({ w with heap := (w.heap.push (.deferred (some []))).push (.loop (loop0 C tmps params assign body w.heap.size)) } : World) = w2 at *
  have hargs : (fs.toList ++ [Value.func (.yield (w.heap.size + 1)) #[] #[]] ++ cs.toList).toArray = fs ++ #[Value.func (.yield (w.heap.size + 1)) #[] #[]] ++ cs := by apply Array.ext'; simp
  have hcall := hsl S w0 F w2 (hi2.take htk)
  rw [hargs] at hcall
  obtain ⟨e, w', fr, ⟨post, hq, hi'⟩, hsteps, _, hleave⟩ := hcall (C.b.atR { tmps := tmps, defers := markD w.heap.size :: D } (.inRangeFunc (w.heap.size + 1) :: k) :: cs0)
  have hinv := he (fs ++ #[Value.func (.yield (w.heap.size + 1)) #[] #[]] ++ cs) w2
  have h1 : step C.P (lone (C.b.atR { tmps := tmps, defers := D } (.code (.rangeFunc f params assign body) :: k)) cs0 w) =
      .next (lone (Frame.enter C.P ff (fs ++ #[Value.func (.yield (w.heap.size + 1)) #[] #[]] ++ cs) .normal) (C.b.atR { tmps := tmps, defers := markD w.heap.size :: D } (.inRangeFunc (w.heap.size + 1) :: k) :: cs0) w2) := by
    refine step_lone_go ?_
    have hev : ∀ (a : Act) (kk : List Item) , a.tmps = tmps → (C.b.atR a kk).eval f = .func (.func ff) fs cs := by
      intro a kk ha
      rw [Frame.eval_atR]
      have := hf.opv D hx
      unfold Act.eval at this ⊢
      rw [ha]; exact this
    have hev2 := hev { tmps := tmps, defers := [markD w.heap.size] ++ D } (.inRangeFunc (w.heap.size + 1) :: k) rfl
    simp only [Frame.atR] at hev2
    have hpush : fs ++ #[Value.func (.yield (w.heap.size + 1)) #[] #[]] ++ cs = fs.push (Value.func (.yield (w.heap.size + 1)) #[] #[]) ++ cs := by simp
    rw [hpush] at hinv
    rw [hpush]
    have hcf : (callFunc ff (fs.push (Value.func (.yield (w.heap.size + 1)) #[] #[]) ++ cs)).run C.P w2 = .ok (.enter ff (fs.push (Value.func (.yield (w.heap.size + 1)) #[] #[]) ++ cs)) w2 := hinv
    have hcst : ∀ (fr : Frame) (v : Value), fr.eval (.const v) = v := fun _ _ => rfl
    simp [stepG, stepG.exec, stepG.apply, Frame.atR, hro, Sem.runT_eq, hent, GStep.bare_after, resolve, Deferred.ofValue, invoke] at hev2 ⊢
    simp [hev2, hcst, Deferred.ofValue, invoke, hcf, GStep.bare_after]
  have hres := hk e post hq
  cases e with
  | outgrown => exact hres.elim
  | panicked chain =>
    obtain ⟨m, ht, hs⟩ := hres w' hi' tmps hf (.inRangeFunc (w.heap.size + 1) :: k) cs0
    refine ⟨m, ht, .head h1 (Steps.trans hsteps (.head ?_ hs))⟩
    rw [← Frame.raise_atR]; exact step_leave_panicked hleave
  | returned v =>
    obtain ⟨lp, H2, ht2, hst, hpe, hWF⟩ := hres
    have hi3 := hi'.take ht2
    have hlp := hi3.hb _ (.head _)
    simp only at hlp
    have hi4 := hi3.put (r := w.heap.size + 1) (o := .loop lp) (o' := .loop { lp with state := .exhausted }) (.head _)
    obtain ⟨m, ht, hs⟩ := hWF _ hi4 tmps hf cs0
    have hend : (Instr.endLoop (w.heap.size + 1)).run C.P w' = .ok none { w' with heap := w'.heap.setIfInBounds (w.heap.size + 1) (.loop { lp with state := .exhausted }) } := by
      have : (lp.state == LoopState.busy) = false := by cases hq : lp.state <;> simp_all
      simp [Instr.endLoop, Instr.getLoop, getObj, setObj, Sem.run, Sem.run_bind, hlp, hst, hpe]
    refine ⟨m, ht, .head h1 (Steps.trans hsteps (.head (step_leave_returned hleave) (.head (step_lone_go ?_) hs)))⟩
    simp [stepG, stepG.exec, Frame.atR, Frame.finish, Sem.runT_eq, hend, GStep.bare_after]
end
end Go.Sl

namespace Go.Sl
open Go Go.RowKit Go.Shelf Go.Proofs

section
variable {C : Cx} {S : Nat → Prop} {w0 : World} {k : List Item} {D : List Deferred} {E : List (Nat × Value)} {H H' : List Ent} {d : Option Tmp} {t t' : TypeId} {p : String} {af : Array Edge} {g : Option (Nat × Bool)} {x y z : Operand} {v u : Value} {ops : Array Oper} {rest : List Oper} {a b : Int} {kk k2 : IntKind} {xt yt : TypeId}

/-- The entries of a set of strings, in the order in which they came. -/
def mapEs (i : Nat) : List (List UInt8) → List MapEntry
  | [] => []
  | l :: r => { key := str l, val := .bool true, born := i } :: mapEs (i + 1) r
def mapO (ks : List (List UInt8)) : Obj := .map (mapEs 0 ks).toArray ks.length

theorem beq_str (l m : List UInt8) : ((⟨l.toArray⟩ : ByteArray) == ⟨m.toArray⟩) = decide (l = m) := by
  show (l.toArray == m.toArray) = _
  rw [Bool.eq_iff_iff]; simp
theorem findNow_set (l : List UInt8) : ∀ (ks : List (List UInt8)) (i j : Nat), l ∉ ks → Instr.findNow .string (str l) (mapEs i ks) j = some none
  | [], _, _, _ => rfl
  | m :: ks, i, j, h => by
    simp only [List.mem_cons, not_or] at h
    simp only [mapEs, Instr.findNow, Instr.sameNow, beq_str, decide_eq_false h.1]
    exact findNow_set l ks _ _ h.2
theorem findNow_set_in (l : List UInt8) : ∀ (ks : List (List UInt8)) (i j : Nat), l ∈ ks → ∃ q, Instr.findNow .string (str l) (mapEs i ks) j = some (some (q, .bool true))
  | [], _, _, h => by cases h
  | m :: ks, i, j, h => by
    simp only [mapEs, Instr.findNow, Instr.sameNow, beq_str]
    by_cases hm : l = m
    · rw [decide_eq_true hm]; exact ⟨_, rfl⟩
    · rw [decide_eq_false hm]
      simp only [List.mem_cons, hm, false_or] at h
      exact findNow_set_in l ks _ _ h
theorem mapEs_snoc (l : List UInt8) : ∀ (ks : List (List UInt8)) (i : Nat), mapEs i (ks ++ [l]) = mapEs i ks ++ [{ key := str l, val := .bool true, born := i + ks.length }]
  | [], i => rfl
  | m :: ks, i => by simp only [List.cons_append, mapEs, mapEs_snoc l ks (i + 1), List.length_cons]; rw [show i + 1 + ks.length = i + (ks.length + 1) by omega]

theorem wo_makeMap (hg : guardOk E ops ⟨d, .makeMap t' none, t, p, af, g⟩ = some true) (hd : dstOk d C.n = true)
    (h : ∀ b, w0.heap.size ≤ b → WO C S w0 ops rest k D (putE d (.map (some b)) E) (⟨b, true, mapO []⟩ :: H)) : WO C S w0 ops (⟨d, .makeMap t' none, t, p, af, g⟩ :: rest) k D E H := by
  refine wo_op hg hd fun w hiv tmps hft => ?_
  rw [semAt_nd _ _ _ (nd_of rfl)]
  have hrun : (execOp ({ tmps := tmps, defers := D } : Act).eval (⟨d, .makeMap t' none, t, p, af, g⟩ : Oper)).run C.P w = .ok (.value (.map (some w.heap.size))) { w with heap := w.heap.push (mapO []) } := by
    simp [execOp, Instr.makeMap, newObj, Sem.run, Sem.run_bind]
    rfl
  rw [hrun]
  exact (h _ hiv.fr.size).go2 (hiv.new _)

theorem run_checkKey {P : Program} {kt : TypeId} {l : List UInt8} {w : World} {e : Bool} (hk : P.underlying kt = some .string) (n : Nat) : (Instr.checkKey e (n + 1) kt (str l)).run P w = .ok () w := by
  simp [Instr.checkKey, underlying, program, Sem.run, hk]

/-- 'm[k] = true', k a new key. -/
theorem wo_mapIns {mb : Nat} {kt et : TypeId} {ks : List (List UInt8)} {l : List UInt8} (hu' : C.P.underlying t' = some (.map kt et)) (hk : C.P.underlying kt = some .string) (hx : opv E x = some (.map (some mb))) (hy : opv E y = some (str l)) (hz : opv E z = some (.bool true)) (hl : l ∉ ks)
    (hu : Upd mb (mapO ks) (mapO (ks ++ [l])) H H') (hg : guardOk E ops ⟨d, .mapUpdate t' x y z, t, p, af, g⟩ = some true) (hd : dstOk d C.n = true)
    (h : WO C S w0 ops rest k D (putE d undef E) H') : WO C S w0 ops (⟨d, .mapUpdate t' x y z, t, p, af, g⟩ :: rest) k D E H := by
  refine wo_op hg hd fun w hi tmps hft => ?_
  rw [semAt_nd _ _ _ (nd_of rfl)]
  have hb := hi.hb _ hu.mem
  simp only [mapO] at hb
  have hf : (Instr.findKey kt (str l) (mapEs 0 ks)).run C.P w = .ok none w := by
    simp [Instr.findKey, underlying, program, Sem.run, hk, findNow_set l ks 0 0 hl]
  have hck := run_checkKey (P := C.P) (w := w) (e := false) (l := l) hk 9999
  have hrun : (execOp ({ tmps := tmps, defers := D } : Act).eval (⟨d, .mapUpdate t' x y z, t, p, af, g⟩ : Oper)).run C.P w = .ok .skip { w with heap := w.heap.setIfInBounds mb (mapO (ks ++ [l])) } := by
    have e1 : mapO (ks ++ [l]) = .map ((mapEs 0 ks).toArray.push { key := str l, val := .bool true, born := ks.length }) (ks.length + 1) := by
      simp [mapO, mapEs_snoc]
    rw [e1]
    simp [execOp, Instr.mapUpdate, hft.opv D hx, hft.opv D hy, hft.opv D hz, run_underlying hu', getObj, setObj, Sem.run, Sem.run_bind, hb, hck, hf]
  rw [hrun]
  exact h.go2 (hi.put hu)

/-- 'm[k]' of such a map. -/
theorem ov_lookup {mb : Nat} {kt et : TypeId} {ti : TypeInfo} {ks : List (List UInt8)} {l : List UInt8} {rw_ : Bool} (hu' : C.P.underlying t' = some (.map kt et)) (hk : C.P.underlying kt = some .string) (hti : C.P.info? et = some ti) (hz : ti.zero = some (.bool false)) (hx : opv E x = some (.map (some mb))) (hy : opv E y = some (str l))
    (hm : (⟨mb, rw_, mapO ks⟩ : Ent) ∈ H) : OpV C S w0 H D E ⟨d, .lookup t' x y false, t, p, af, g⟩ (.bool (decide (l ∈ ks))) := opv_run fun tmps w hft hi => by
  have hb := hi.hb _ hm
  simp only [mapO] at hb
  have hck := fun e => run_checkKey (P := C.P) (w := w) (e := e) (l := l) hk 9999
  have hzv : (zeroValue et).run C.P w = .ok (.bool false) w := by simp [zeroValue, run_typeInfo hti, hz]
  by_cases hin : l ∈ ks
  · obtain ⟨q, hq⟩ := findNow_set_in l ks 0 0 hin
    have hf : (Instr.findKey kt (str l) (mapEs 0 ks)).run C.P w = .ok (some (q, .bool true)) w := by
      simp [Instr.findKey, underlying, program, Sem.run, hk, hq]
    simp [execOp, Instr.lookup, hft.opv D hx, hft.opv D hy, run_underlying hu', getObj, Sem.run, Sem.run_bind, hb, hck, hf, hin]
  · have hf : (Instr.findKey kt (str l) (mapEs 0 ks)).run C.P w = .ok none w := by
      simp [Instr.findKey, underlying, program, Sem.run, hk, findNow_set l ks 0 0 hin]
    simp [execOp, Instr.lookup, hft.opv D hx, hft.opv D hy, run_underlying hu', getObj, Sem.run, Sem.run_bind, hb, hck, hf, hin, hzv]

/-- 'range s' of a string. -/
theorem wo_range {l : List UInt8} (hu : C.P.underlying t' = some .string) (hx : opv E x = some (str l)) (hg : guardOk E ops ⟨d, .range t' x, t, p, af, g⟩ = some true) (hd : dstOk d C.n = true)
    (h : ∀ b, w0.heap.size ≤ b → WO C S w0 ops rest k D (putE d (.pointer (some ⟨b, 0, none⟩)) E) (⟨b, true, .stringIter ⟨l.toArray⟩ 0⟩ :: H)) : WO C S w0 ops (⟨d, .range t' x, t, p, af, g⟩ :: rest) k D E H := by
  refine wo_op hg hd fun w hiv tmps hft => ?_
  rw [semAt_nd _ _ _ (nd_of rfl)]
  have hrun : (execOp ({ tmps := tmps, defers := D } : Act).eval (⟨d, .range t' x, t, p, af, g⟩ : Oper)).run C.P w = .ok (.value (.pointer (some ⟨w.heap.size, 0, none⟩))) { w with heap := w.heap.push (.stringIter ⟨l.toArray⟩ 0) } := by
    simp [execOp, Instr.range, hft.opv D hx, run_underlying hu, newObj, Sem.run, Sem.run_bind]
    try rfl
  rw [hrun]
  exact (h _ hiv.fr.size).go2 (hiv.new _)

theorem wo_next {l : List UInt8} {pos wd ib : Nat} {c : Nat} (hx : opv E x = some (.pointer (some ⟨ib, 0, none⟩))) (hlt : pos < l.length) (hdc : Utf8.decode ⟨l.toArray⟩ pos = (c, wd))
    (hu : Upd ib (.stringIter ⟨l.toArray⟩ pos) (.stringIter ⟨l.toArray⟩ (pos + wd)) H H') (hg : guardOk E ops ⟨d, .next x true, t, p, af, g⟩ = some true) (hd : dstOk d C.n = true)
    (h : WO C S w0 ops rest k D (putE d (.tuple #[.bool true, .int .i64 pos, .int .i32 c]) E) H') : WO C S w0 ops (⟨d, .next x true, t, p, af, g⟩ :: rest) k D E H := by
  refine wo_op hg hd fun w hi tmps hft => ?_
  rw [semAt_nd _ _ _ (nd_of rfl)]
  have hb := hi.hb _ hu.mem
  simp only at hb
  have hrun : (execOp ({ tmps := tmps, defers := D } : Act).eval (⟨d, .next x true, t, p, af, g⟩ : Oper)).run C.P w = .ok (.value (.tuple #[.bool true, .int .i64 pos, .int .i32 c])) { w with heap := w.heap.setIfInBounds ib (.stringIter ⟨l.toArray⟩ (pos + wd)) } := by
    simp [execOp, Instr.next, hft.opv D hx, getObj, setObj, Sem.run, Sem.run_bind, hb, size_list, hlt, hdc, goInt]
  rw [hrun]
  exact h.go2 (hi.put hu)
theorem ov_nextEnd {l : List UInt8} {pos ib : Nat} {rw_ : Bool} (hx : opv E x = some (.pointer (some ⟨ib, 0, none⟩))) (hlt : l.length ≤ pos) (hm : (⟨ib, rw_, .stringIter ⟨l.toArray⟩ pos⟩ : Ent) ∈ H) :
    OpV C S w0 H D E ⟨d, .next x true, t, p, af, g⟩ (.tuple #[.bool false]) := opv_run fun tmps w hft hi => by
  have hb := hi.hb _ hm
  simp only at hb
  simp [execOp, Instr.next, hft.opv D hx, getObj, Sem.run, Sem.run_bind, hb, size_list, show ¬ pos < l.length by omega]
end
end Go.Sl
namespace Go.Sl
attribute [irreducible] OpV WO WQ WA WI Go3 PF WF Go1 Go2 GoP GoR WP WR WT GoA
end Go.Sl
namespace Go.Sl
open Go Go.Proofs
set_option maxRecDepth 100000
theorem inf3 : Tryz.prog.info? 3 = some Tryz.t3 := by kernel_rfl
theorem sz3 : (Tryz.prog.info? 3).map (·.size) = some 1 := by kernel_rfl
theorem inf4 : Tryz.prog.info? 4 = some Tryz.t4 := by kernel_rfl
theorem inf5 : Tryz.prog.info? 5 = some Tryz.t5 := by kernel_rfl
theorem sz5 : (Tryz.prog.info? 5).map (·.size) = some 1 := by kernel_rfl
theorem inf9 : Tryz.prog.info? 9 = some Tryz.t9 := by kernel_rfl
theorem sz9 : (Tryz.prog.info? 9).map (·.size) = some 1 := by kernel_rfl
theorem inf28 : Tryz.prog.info? 28 = some Tryz.t28 := by kernel_rfl
theorem sz28 : (Tryz.prog.info? 28).map (·.size) = some 1 := by kernel_rfl
theorem inf30 : Tryz.prog.info? 30 = some Tryz.t30 := by kernel_rfl
theorem sz30 : (Tryz.prog.info? 30).map (·.size) = some 2 := by kernel_rfl
theorem pl30 : placesOf Tryz.prog 30 = some #[(0, 1), (1, 1)] := by kernel_rfl
theorem fo30_0 : fieldOff Tryz.prog 30 0 = some 0 := by kernel_rfl
theorem inf34 : Tryz.prog.info? 34 = some Tryz.t34 := by kernel_rfl
theorem sz34 : (Tryz.prog.info? 34).map (·.size) = some 2 := by kernel_rfl
theorem pl34 : placesOf Tryz.prog 34 = some #[(0, 1), (1, 1)] := by kernel_rfl
theorem fo34_0 : fieldOff Tryz.prog 34 0 = some 0 := by kernel_rfl
theorem fo34_1 : fieldOff Tryz.prog 34 1 = some 1 := by kernel_rfl
theorem inf37 : Tryz.prog.info? 37 = some Tryz.t37 := by kernel_rfl
theorem sz37 : (Tryz.prog.info? 37).map (·.size) = some 1 := by kernel_rfl
theorem inf53 : Tryz.prog.info? 53 = some Tryz.t53 := by kernel_rfl
theorem sz53 : (Tryz.prog.info? 53).map (·.size) = some 3 := by kernel_rfl
theorem pl53 : placesOf Tryz.prog 53 = some #[(0, 1), (1, 1), (2, 1)] := by kernel_rfl
theorem sz63 : (Tryz.prog.info? 63).map (·.size) = some 1 := by kernel_rfl
theorem inf72 : Tryz.prog.info? 72 = some Tryz.t72 := by kernel_rfl
theorem sz72 : (Tryz.prog.info? 72).map (·.size) = some 1 := by kernel_rfl
theorem inf80 : Tryz.prog.info? 80 = some Tryz.t80 := by kernel_rfl
theorem fo80_1 : fieldOff Tryz.prog 80 1 = some 1 := by kernel_rfl
theorem inf89 : Tryz.prog.info? 89 = some Tryz.t89 := by kernel_rfl
theorem pl89 : placesOf Tryz.prog 89 = some #[(0, 1), (1, 1)] := by kernel_rfl
theorem fo89_0 : fieldOff Tryz.prog 89 0 = some 0 := by kernel_rfl
theorem fo89_1 : fieldOff Tryz.prog 89 1 = some 1 := by kernel_rfl
theorem sz94 : (Tryz.prog.info? 94).map (·.size) = some 1 := by kernel_rfl
theorem inf103 : Tryz.prog.info? 103 = some Tryz.t103 := by kernel_rfl
theorem sz103 : (Tryz.prog.info? 103).map (·.size) = some 256 := by kernel_rfl
theorem inf107 : Tryz.prog.info? 107 = some Tryz.t107 := by kernel_rfl
theorem pl107 : placesOf Tryz.prog 107 = some #[(0, 2), (2, 256), (258, 1), (259, 1), (260, 1)] := by kernel_rfl
theorem fo107_0 : fieldOff Tryz.prog 107 0 = some 0 := by kernel_rfl
theorem fo107_1 : fieldOff Tryz.prog 107 1 = some 2 := by kernel_rfl
theorem fo107_2 : fieldOff Tryz.prog 107 2 = some 258 := by kernel_rfl
theorem fo107_3 : fieldOff Tryz.prog 107 3 = some 259 := by kernel_rfl
theorem fo107_4 : fieldOff Tryz.prog 107 4 = some 260 := by kernel_rfl
theorem inf160 : Tryz.prog.info? 160 = some Tryz.t160 := by kernel_rfl
theorem sz165 : (Tryz.prog.info? 165).map (·.size) = some 1 := by kernel_rfl
theorem inf166 : Tryz.prog.info? 166 = some Tryz.t166 := by kernel_rfl
theorem sz166 : (Tryz.prog.info? 166).map (·.size) = some 7 := by kernel_rfl
theorem en13 : Enters Tryz.prog 13 := enters_of Tryz.func13 (by kernel_rfl) rfl
theorem en14 : Enters Tryz.prog 14 := enters_of Tryz.func14 (by kernel_rfl) rfl
theorem en15 : Enters Tryz.prog 15 := enters_of Tryz.func15 (by kernel_rfl) rfl
theorem en16 : Enters Tryz.prog 16 := enters_of Tryz.func16 (by kernel_rfl) rfl
theorem en18 : Enters Tryz.prog 18 := enters_of Tryz.func18 (by kernel_rfl) rfl
theorem en19 : Enters Tryz.prog 19 := enters_of Tryz.func19 (by kernel_rfl) rfl
theorem en20 : Enters Tryz.prog 20 := enters_of Tryz.func20 (by kernel_rfl) rfl
theorem en21 : Enters Tryz.prog 21 := enters_of Tryz.func21 (by kernel_rfl) rfl
theorem en22 : Enters Tryz.prog 22 := enters_of Tryz.func22 (by kernel_rfl) rfl
theorem en23 : Enters Tryz.prog 23 := enters_of Tryz.func23 (by kernel_rfl) rfl
theorem en24 : Enters Tryz.prog 24 := enters_of Tryz.func24 (by kernel_rfl) rfl
theorem en25 : Enters Tryz.prog 25 := enters_of Tryz.func25 (by kernel_rfl) rfl
theorem en26 : Enters Tryz.prog 26 := enters_of Tryz.func26 (by kernel_rfl) rfl
theorem en27 : Enters Tryz.prog 27 := enters_of Tryz.func27 (by kernel_rfl) rfl
theorem en28 : Enters Tryz.prog 28 := enters_of Tryz.func28 (by kernel_rfl) rfl
theorem en29 : Enters Tryz.prog 29 := enters_of Tryz.func29 (by kernel_rfl) rfl
theorem en31 : Enters Tryz.prog 31 := enters_of Tryz.func31 (by kernel_rfl) rfl
theorem en34 : Enters Tryz.prog 34 := enters_of Tryz.func34 (by kernel_rfl) rfl
theorem en35 : Enters Tryz.prog 35 := enters_of Tryz.func35 (by kernel_rfl) rfl
theorem en36 : Enters Tryz.prog 36 := enters_of Tryz.func36 (by kernel_rfl) rfl
theorem en37 : Enters Tryz.prog 37 := enters_of Tryz.func37 (by kernel_rfl) rfl
theorem en38 : Enters Tryz.prog 38 := enters_of Tryz.func38 (by kernel_rfl) rfl
theorem en39 : Enters Tryz.prog 39 := enters_of Tryz.func39 (by kernel_rfl) rfl
theorem en40 : Enters Tryz.prog 40 := enters_of Tryz.func40 (by kernel_rfl) rfl
theorem en41 : Enters Tryz.prog 41 := enters_of Tryz.func41 (by kernel_rfl) rfl
theorem en42 : Enters Tryz.prog 42 := enters_of Tryz.func42 (by kernel_rfl) rfl
theorem en43 : Enters Tryz.prog 43 := enters_of Tryz.func43 (by kernel_rfl) rfl
theorem en44 : Enters Tryz.prog 44 := enters_of Tryz.func44 (by kernel_rfl) rfl
theorem en45 : Enters Tryz.prog 45 := enters_of Tryz.func45 (by kernel_rfl) rfl
theorem en46 : Enters Tryz.prog 46 := enters_of Tryz.func46 (by kernel_rfl) rfl
theorem en47 : Enters Tryz.prog 47 := enters_of Tryz.func47 (by kernel_rfl) rfl
theorem en48 : Enters Tryz.prog 48 := enters_of Tryz.func48 (by kernel_rfl) rfl
theorem en49 : Enters Tryz.prog 49 := enters_of Tryz.func49 (by kernel_rfl) rfl
theorem en50 : Enters Tryz.prog 50 := enters_of Tryz.func50 (by kernel_rfl) rfl
theorem en51 : Enters Tryz.prog 51 := enters_of Tryz.func51 (by kernel_rfl) rfl
theorem en52 : Enters Tryz.prog 52 := enters_of Tryz.func52 (by kernel_rfl) rfl
theorem en53 : Enters Tryz.prog 53 := enters_of Tryz.func53 (by kernel_rfl) rfl
theorem en54 : Enters Tryz.prog 54 := enters_of Tryz.func54 (by kernel_rfl) rfl
theorem en55 : Enters Tryz.prog 55 := enters_of Tryz.func55 (by kernel_rfl) rfl
theorem en56 : Enters Tryz.prog 56 := enters_of Tryz.func56 (by kernel_rfl) rfl
theorem en57 : Enters Tryz.prog 57 := enters_of Tryz.func57 (by kernel_rfl) rfl
theorem en58 : Enters Tryz.prog 58 := enters_of Tryz.func58 (by kernel_rfl) rfl
theorem en59 : Enters Tryz.prog 59 := enters_of Tryz.func59 (by kernel_rfl) rfl
theorem en60 : Enters Tryz.prog 60 := enters_of Tryz.func60 (by kernel_rfl) rfl
theorem en61 : Enters Tryz.prog 61 := enters_of Tryz.func61 (by kernel_rfl) rfl
theorem en62 : Enters Tryz.prog 62 := enters_of Tryz.func62 (by kernel_rfl) rfl
theorem en63 : Enters Tryz.prog 63 := enters_of Tryz.func63 (by kernel_rfl) rfl
theorem en64 : Enters Tryz.prog 64 := enters_of Tryz.func64 (by kernel_rfl) rfl
theorem en65 : Enters Tryz.prog 65 := enters_of Tryz.func65 (by kernel_rfl) rfl
theorem en66 : Enters Tryz.prog 66 := enters_of Tryz.func66 (by kernel_rfl) rfl
theorem en67 : Enters Tryz.prog 67 := enters_of Tryz.func67 (by kernel_rfl) rfl
theorem en68 : Enters Tryz.prog 68 := enters_of Tryz.func68 (by kernel_rfl) rfl
theorem en69 : Enters Tryz.prog 69 := enters_of Tryz.func69 (by kernel_rfl) rfl
theorem en70 : Enters Tryz.prog 70 := enters_of Tryz.func70 (by kernel_rfl) rfl
theorem en71 : Enters Tryz.prog 71 := enters_of Tryz.func71 (by kernel_rfl) rfl
theorem en72 : Enters Tryz.prog 72 := enters_of Tryz.func72 (by kernel_rfl) rfl
theorem en73 : Enters Tryz.prog 73 := enters_of Tryz.func73 (by kernel_rfl) rfl
theorem en75 : Enters Tryz.prog 75 := enters_of Tryz.func75 (by kernel_rfl) rfl
theorem en80 : Enters Tryz.prog 80 := enters_of Tryz.func80 (by kernel_rfl) rfl
theorem en82 : Enters Tryz.prog 82 := enters_of Tryz.func82 (by kernel_rfl) rfl
theorem en83 : Enters Tryz.prog 83 := enters_of Tryz.func83 (by kernel_rfl) rfl
theorem en84 : Enters Tryz.prog 84 := enters_of Tryz.func84 (by kernel_rfl) rfl
theorem en85 : Enters Tryz.prog 85 := enters_of Tryz.func85 (by kernel_rfl) rfl
theorem en86 : Enters Tryz.prog 86 := enters_of Tryz.func86 (by kernel_rfl) rfl
theorem en87 : Enters Tryz.prog 87 := enters_of Tryz.func87 (by kernel_rfl) rfl
theorem en88 : Enters Tryz.prog 88 := enters_of Tryz.func88 (by kernel_rfl) rfl
theorem en91 : Enters Tryz.prog 91 := enters_of Tryz.func91 (by kernel_rfl) rfl
theorem en92 : Enters Tryz.prog 92 := enters_of Tryz.func92 (by kernel_rfl) rfl
theorem en97 : Enters Tryz.prog 97 := enters_of Tryz.func97 (by kernel_rfl) rfl
theorem en99 : Enters Tryz.prog 99 := enters_of Tryz.func99 (by kernel_rfl) rfl
theorem en113 : Enters Tryz.prog 113 := enters_of Tryz.func113 (by kernel_rfl) rfl
theorem en114 : Enters Tryz.prog 114 := enters_of Tryz.func114 (by kernel_rfl) rfl
theorem en115 : Enters Tryz.prog 115 := enters_of Tryz.func115 (by kernel_rfl) rfl
theorem en116 : Enters Tryz.prog 116 := enters_of Tryz.func116 (by kernel_rfl) rfl
theorem en117 : Enters Tryz.prog 117 := enters_of Tryz.func117 (by kernel_rfl) rfl
theorem en136 : Enters Tryz.prog 136 := enters_of Tryz.func136 (by kernel_rfl) rfl
theorem en137 : Enters Tryz.prog 137 := enters_of Tryz.func137 (by kernel_rfl) rfl
theorem en138 : Enters Tryz.prog 138 := enters_of Tryz.func138 (by kernel_rfl) rfl
theorem en139 : Enters Tryz.prog 139 := enters_of Tryz.func139 (by kernel_rfl) rfl
theorem en140 : Enters Tryz.prog 140 := enters_of Tryz.func140 (by kernel_rfl) rfl
theorem en151 : Enters Tryz.prog 151 := enters_of Tryz.func151 (by kernel_rfl) rfl
theorem en153 : Enters Tryz.prog 153 := enters_of Tryz.func153 (by kernel_rfl) rfl
theorem en154 : Enters Tryz.prog 154 := enters_of Tryz.func154 (by kernel_rfl) rfl
theorem en155 : Enters Tryz.prog 155 := enters_of Tryz.func155 (by kernel_rfl) rfl
theorem en156 : Enters Tryz.prog 156 := enters_of Tryz.func156 (by kernel_rfl) rfl
theorem en157 : Enters Tryz.prog 157 := enters_of Tryz.func157 (by kernel_rfl) rfl
theorem en158 : Enters Tryz.prog 158 := enters_of Tryz.func158 (by kernel_rfl) rfl
theorem en159 : Enters Tryz.prog 159 := enters_of Tryz.func159 (by kernel_rfl) rfl
theorem en163 : Enters Tryz.prog 163 := enters_of Tryz.func163 (by kernel_rfl) rfl
theorem en164 : Enters Tryz.prog 164 := enters_of Tryz.func164 (by kernel_rfl) rfl
theorem en165 : Enters Tryz.prog 165 := enters_of Tryz.func165 (by kernel_rfl) rfl
theorem en166 : Enters Tryz.prog 166 := enters_of Tryz.func166 (by kernel_rfl) rfl
theorem en167 : Enters Tryz.prog 167 := enters_of Tryz.func167 (by kernel_rfl) rfl
theorem en168 : Enters Tryz.prog 168 := enters_of Tryz.func168 (by kernel_rfl) rfl
theorem en169 : Enters Tryz.prog 169 := enters_of Tryz.func169 (by kernel_rfl) rfl
theorem en170 : Enters Tryz.prog 170 := enters_of Tryz.func170 (by kernel_rfl) rfl
theorem en171 : Enters Tryz.prog 171 := enters_of Tryz.func171 (by kernel_rfl) rfl
theorem mixed : Tryz.prog.follows .mixedOrders = true := by kernel_rfl
end Go.Sl
