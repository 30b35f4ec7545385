/- Of the proof that this claim's last text ends. -/
import Derived.ChangeOld
import Derived.OpenShut
import Derived.WideShapes
import Derived.Test.YtnfpoclhmidpgaaGreatDoorRows
import Derived.Test.YtnfpoclhmidpgaaGreatDoorTie
import Derived.Test.YtnfpoclhmidpgaaGreatDoorCards
import Derived.ProofKit
import Derived.Handed
import Derived.Lay
import Derived.LaidMore
import Derived.Lib.LaidTab
import Derived.Stop.LaidErr
import Derived.MakeChecks
import Derived.LaidLaws
import Derived.Carry
import Derived.Test.YtnfpoclhmidpgaaGreatDoorR4
set_option maxRecDepth 100000
set_option maxHeartbeats 8000000
set_option linter.unusedSimpArgs false
set_option linter.unusedVariables false
namespace Go.Sl
open Go Go.RowKit Go.Shelf Go.Proofs
section
variable {ops:Array Oper}
def cntU:Nat→Array Bool→Nat
 | 0,_=>0
 | h+1,l=>cntU h l+(if l.getD h false then 0 else 1)
theorem cntU_set:∀(h:Nat) (l:Array Bool) (i:Nat),i < l.size→l.getD i false=false→cntU h (l.setIfInBounds i true)+(if i < h then 1 else 0)=cntU h l
 | 0,l,i,_,_=>by simp[cntU]
 | h + 1, l,i,hi,hl=>by
   have ih:=cntU_set h l i hi hl
   simp only[cntU]
   by_cases hih:i=h
   · subst hih
     rw[if_neg (show ¬i < i by omega)] at ih
     have:(l.setIfInBounds i true).getD i false=true:=by simp[Array.getD_eq_getD_getElem?,hi]
     rw[this,hl,if_pos (show i < i+1 by omega)]
     simp only[if_true,Bool.false_eq_true,if_false]
     omega
   · rw [getD_set_ne false hih]
     by_cases h2:i < h
     · rw [if_pos h2] at ih
       rw[if_pos (show i < h+1 by omega)];omega
     · rw [if_neg h2] at ih
       rw[if_neg (show ¬i < h+1 by omega)];omega
theorem cntU_zero:∀(h:Nat) (l:Array Bool),cntU h l=0→∀i,i < h→l.getD i false=true
 | 0,_,_,i,hi=>by omega
 | h + 1,l,hc,i,hi=>by
   simp only[cntU] at hc
   by_cases hl:l.getD h false=true
   · by_cases hih:i=h
     · subst hih;exact hl
     · exact cntU_zero h l Y9 i Y9
   · rw[if_neg hl] at hc;omega
theorem cntU_pos:∀(h:Nat) (l:Array Bool),0 < cntU h l→∃i,i < h∧l.getD i false=false∧∀j,j < i→l.getD j false=true
 | 0,_,hc=>by simp[cntU] at hc
 | h + 1,l,hc=>by
   by_cases h0:cntU h l=0
   · simp only[cntU,h0] at hc
     have hl:l.getD h false=false:=by
      cases hb:l.getD h false with
      | false=>rfl
      | true=>rw[hb] at hc;simp at hc
     exact⟨h,by omega,hl,fun j hj=>cntU_zero h l h0 j hj⟩
   · obtain ⟨i,h1,h2,h3⟩:=cntU_pos h l Y9
     exact⟨i,by omega,h2,h3⟩
def AllB (p:Nat→Prop):Nat→Prop
 | 0=>True
 | n+1=>AllB p n∧p n
theorem AllB.get {p:Nat→Prop}:∀ {n:Nat},AllB p n→∀i,i < n→p i
 | 0,_,i,hi=>by omega
 | n + 1,h,i,hi=>by
   by_cases hin:i=n
   · subst hin;exact h.2
   · exact h.1.get i Y9
end
section
variable {C:Cx} {S:Nat→Prop} {w0:World} {k:List Item} {D:List Deferred} {E:List (Nat×Value)} {H:List Ent} {ops:Array Oper}
theorem goA_fam {h g:Nat} {Φ:Array Bool→Act→World→Prop} (hs:Region.sinkB .any ops h=true) (hc:Region.chainB .any ops h=true) (hn:h < ops.size)
 (hdown:∀i,i < h→∀o,ops[i]?=some o→∀e∈o.after,Region.binds .any e=true→e.on < i)
 (hstep:∀listed a w i is,HeadInv .any ops h listed→i∈Region.ready .any ops listed→i < h→Φ listed a w→(∀a' w',Φ (listed.setIfInBounds i true) a' w'→GoA C (.inRegion ops is::k) a' w')→GoA C (.inRegion ops (i::is)::k) a w)
 (hL:∀listed a w t,HeadInv .any ops h listed→(∀i,i < h→listed.getD i false=true)→Φ listed a w→GoA C (.inRegion ops (Region.linearise.go .any ops g t listed [])::k) a w):
 ∀(f:Nat) (listed:Array Bool) (a:Act) (w:World) (t:Nat),HeadInv .any ops h listed→cntU h listed=f→Φ listed a w→GoA C (.inRegion ops (Region.linearise.go .any ops (f+g) t listed [])::k) a w
 | 0,listed,a,w,t,inv,hf,hφ=>by rw[Nat.zero_add];exact hL _ _ _ _ inv (cntU_zero h listed hf) hφ
 | f + 1,listed,a,w,t,inv,hf,hφ=>by
   obtain⟨i0,hi0,hu0,hmin⟩:=cntU_pos h listed Y9
   have hsz:=inv.size
   have hu0':listed.getD i0 true=false:=getD_in Y9 hu0
   have hr0:i0∈Region.ready .any ops listed:=by
    obtain⟨o,ho⟩:∃o,ops[i0]?=some o:=⟨ops[i0]'Y9,Array.getElem?_eq_getElem Y9⟩
    exact mem_ready.2 ⟨hu0',o,ho,fun e he hb=>hmin _ (hdown i0 hi0 o ho e he hb)⟩
   rw[show f+1+g=(f+g)+1 by omega]
   rcases linGo_step (md:=.any) (ops:=ops) (f+g) t listed with⟨h1,_⟩|⟨i,t',h1,h2⟩
   · rw[h1] at hr0;cases hr0
   · rw [h2]
     have hih:i < h:=(Nat.lt_or_ge i h).elim id fun h3=>absurd h1 (tail_waits hs hc hn inv _ i0 rfl hi0 hu0' i h3)
     have hun:=getD_both (mem_ready.1 h1).1
     have hcn:=cntU_set h listed i Y9 hun
     rw[if_pos hih] at hcn
     exact hstep _ _ _ _ _ inv h1 hih hφ fun a' w' h3=>goA_fam hs hc hn hdown hstep hL f _ a' w' t' (inv.set h1 hih) Y9 h3
theorem goA_new {i:Nat} {is:List Nat} {a:Act} {w w':World} {o:Oper} {v:Value} (hro:C.b.roundOf=none) (ho:ops[i]?=some o) (hwt:Region.wanted o (yielded ops a.tmps)=true) (hR:(execOp a.eval o).run C.P w=.ok (.value v) w')
 (hN:GoA C (.inRegion ops is::k) (a.put o.dst v) w'):GoA C (.inRegion ops (i::is)::k) a w:=by
 unfold GoA at hN ⊢
 intro cs
 have hgo:=stepGR_op (P:=C.P) (b:=C.b) (k:=k) (cs:=cs) (w:=w) (a:=a) (rest:=is) ho hwt
 have hnd:o.semAt C.b.roundOf a.eval=execOp a.eval o:=by rw[hro,Oper.semAt_none]
 rw[hnd] at hgo
 have hfin:(C.b.atR a (.inRegion ops (i::is)::k)).finish v=C.b.atR (a.put o.dst v) (.inRegion ops is::k):=by
  rw[Frame.finish_atR,ho];rfl
 obtain⟨m,ht,hs⟩:=hN cs
 refine⟨m,ht,(Steps.one (step_lone_go ?_)).trans hs⟩
 rw[hgo,←hfin];simp[stepG.apply,hR]
def hofO (H:List Ent) (oN:Obj):Option Nat→List Ent
 | none=>H
 | some b=>⟨b,true,oN⟩::H
def dstAt (ops:Array Oper) (i:Nat):Option Nat:=(ops[i]?).bind (·.dst)
def valAt (vs:Nat→List Value) (i b:Nat):Value:=(vs b)[i]?.getD undef
def depE (ops:Array Oper) (vs:Nat→List Value) (o:Oper) (b:Nat):List (Nat×Value):=
 (o.after.toList.filter fun e=>Region.binds .any e).filterMap fun e=>(dstAt ops e.on).map fun t=>(t,valAt vs e.on b)
def allE (ops:Array Oper) (vs:Nat→List Value) (h b:Nat):List (Nat×Value):=(List.range h).filterMap fun i=>(dstAt ops i).map fun t=>(t,valAt vs i b)
theorem look_app:∀ {A B:List (Nat×Value)} {t:Nat} {v:Value},look (A++B) t=some v→(t,v)∈A∨look B t=some v
 | [],B,t,v,h=>.inr h
 | (j, u)::r,B,t,v,h=>by
   rw[List.cons_append,Cq] at h
   by_cases hj:j=t
   · subst hj;rw[if_pos rfl] at h;cases h;exact .inl (.head _)
   · rw [if_neg hj] at h
     exact(look_app h).imp (.tail _) id
def famB (ops:Array Oper) (h n:Nat) (P:Nat→Bool):Bool:=
 decide (h < ops.size) && decide (n < h) && Region.sinkB .any ops h && Region.chainB .any ops h &&
 (List.range h).all (fun i=>match ops[i]? with
  | some o=>(o.after.all fun e=> !Region.binds .any e || decide (e.on < i)) && o.guard.isNone && ((decide (i=n)|| P i)|| o.after.any fun e=>Region.binds .any e && (decide (e.on=n)|| !P e.on)) && (!decide (i=n)|| o.after.all fun e=> !Region.binds .any e || P e.on)
  | none=>false) &&
 (List.range h).all (fun i=>(List.range h).all fun j=>decide (i=j)|| (match dstAt ops i,dstAt ops j with
  | some s,some t=> !decide (s=t)
  | _,_=>true)) &&
 Region.seqB .any ops (ops.size - h) h ((Array.range ops.size).map fun i=>decide (i < h))
theorem w_regM {id:Nat} (h n:Nat) (P:Nat→Bool) (oN:Obj) (vs:Nat→List Value) (hro:C.b.roundOf=none) (hm:C.P.follows .mixedOrders=true) (hB:famB ops h n P=true)
 (hdl:AllB (fun i=>∀t,dstAt ops i=some t→look E t=none∧t < C.n) h)
 (hPv:AllB (fun i=>P i=true→∀b,valAt vs i b=valAt vs i 0) h)
 (hN:∀o,ops[n]?=some o→∀tmps w,Fits (depE ops vs o 0++E) C.n tmps→Inv S w0 H w→(execOp ({tmps:=tmps,defers:=D}:Act).eval o).run C.P w=.ok (.value (valAt vs n w.heap.size)) {w with heap:=w.heap.push oN})
 (hQ:AllB (fun i=>i≠n→∀o,ops[i]?=some o→∀ob:Option Nat,(ob=none→P i=true)→OpV C S w0 (hofO H oN ob) D (depE ops vs o (ob.getD 0)++E) o (valAt vs i (ob.getD 0))) h)
 (hT:∀b,w0.heap.size≤b→WO C S w0 ops (ops.toList.drop h) k D (allE ops vs h b++E) (⟨b,true,oN⟩::H)):WF C S w0 (.code (.region id ops true)::k) D E H:=by
 unfold WF
 intro w hi
 unfold Go1
 intro tmps hf cs
 unfold famB at hB
 simp only[Bool.and_eq_true,decide_eq_true_eq,List.all_eq_true,List.mem_range] at hB
 obtain⟨⟨⟨⟨⟨⟨hh,hnh⟩,hs⟩,hc⟩,ho⟩,hdd⟩,hsq⟩:=hB
 have hop : ∀i,i < h→∃o,ops[i]?=some o∧(∀e∈o.after,Region.binds .any e=true→e.on < i)∧o.guard=none∧(i=n∨P i=true∨∃e∈o.after,Region.binds .any e=true∧(e.on=n∨P e.on=false))∧(i=n→∀e∈o.after,Region.binds .any e=true→P e.on=true):=by
  intro i hi'
  have:=ho i hi'
  cases hoi:ops[i]? with
  | none=>rw[hoi] at this;cases this
  | some o =>
    rw[hoi] at this
    simp only[Bool.and_eq_true,Bool.or_eq_true,decide_eq_true_eq,Array.all_eq_true_iff_forall_mem,Array.any_eq_true',Bool.not_eq_true',decide_eq_false_iff_not] at this
    obtain⟨⟨⟨h1,h2⟩,h3⟩,h4⟩:=this
    refine⟨o,rfl,fun e he hb=>?_,by simpa using h2,?_,fun hin e he hb=>?_⟩
    · rcases h1 e he with h|h
      · rw[hb] at h;cases h
      · exact h
    · rcases h3 with(h|h)|⟨e,he,hb,h⟩
      · exact .inl h
      · exact .inr (.inl h)
      · exact .inr (.inr ⟨e,he,hb,h⟩)
    · rcases h4 with h|h
      · exact absurd hin h
      · rcases h e he with h|h
        · rw[hb] at h;cases h
        · exact h
 have hdist:∀i j,i < h→j < h→∀t,dstAt ops i=some t→dstAt ops j=some t→i=j:=by
  intro i j hi' hj t h1 h2
  have:=hdd i hi' j hj
  rw[h1,h2] at this
  simpa using this
 let Φ:Array Bool→Act→World→Prop:=fun listed a w=>a.defers=D∧a.tmps.size=C.n∧(∀t v,look E t=some v→a.tmps[t]?=some v)∧∃ob:Option Nat,(ob=none↔listed.getD n false=false)∧(∀b,ob=some b→w0.heap.size≤b)∧Inv S w0 (hofO H oN ob) w∧(∀i t,i < h→listed.getD i false=true→dstAt ops i=some t→a.tmps[t]?=some (valAt vs i (ob.getD 0)))∧(ob=none→∀i,i < h→listed.getD i false=true→P i=true)
 have hput:∀ {i:Nat} {o:Oper} {a:Act} {v:Value},i < h→ops[i]?=some o→a.tmps.size=C.n→(a.put o.dst v).defers=a.defers∧(a.put o.dst v).tmps.size=C.n∧(∀t,dstAt ops i=some t→(a.put o.dst v).tmps[t]?=some v)∧(∀t,dstAt ops i≠some t→(a.put o.dst v).tmps[t]?=a.tmps[t]?):=by
  intro i o a v hih hoi hsz
  have hd:dstAt ops i=o.dst:=by unfold dstAt;rw[hoi];rfl
  rw[hd]
  cases hod:o.dst with
  | none=>exact⟨rfl,hsz,fun t h=>(by cases h),fun t _=>rfl⟩
  | some d=>
    have hdn:d < C.n:=(hdl.get i hih d (by rw[hd,hod])).2
    refine⟨rfl,by simp[Act.put,hsz],fun t h=>?_,fun t h=>?_⟩
    · cases h
      simp[Act.put,hsz,hdn]
    · have:d≠t:=fun e=>h (by rw[e])
      simp[Act.put,Array.getElem?_setIfInBounds_ne this]
 have hfit:∀ {listed:Array Bool} {a:Act} {i:Nat} {o:Oper} {b:Nat},i < h→ops[i]?=some o→a.tmps.size=C.n→(∀t v,look E t=some v→a.tmps[t]?=some v)→(∀j t,j < h→listed.getD j false=true→dstAt ops j=some t→a.tmps[t]?=some (valAt vs j b))→(∀e∈o.after,Region.binds .any e=true→listed.getD e.on false=true)→Fits (depE ops vs o b++E) C.n a.tmps:=by
  intro listed a i o b hih hoi hsz hE hl hdep
  refine⟨hsz,fun t v hv=>?_⟩
  rcases look_app hv with hm|hv
  · unfold depE at hm
    obtain⟨e,he,h1⟩:=List.mem_filterMap.1 hm
    obtain⟨he,hb⟩:=List.mem_filter.1 he
    obtain⟨t',h2,h3⟩:=Option.map_eq_some_iff.1 h1
    cases h3
    obtain⟨o',ho',hdown,_⟩:=hop i hih
    rw[hoi] at ho'
    cases ho'
    have he':e∈o.after:=by simpa using he
    have:=hdown e he' hb
    exact hl _ _ Y9 (hdep e he' hb) h2
  · exact hE t v hv
 have hgo := goA_fam (C:=C) (k:=k) (Φ:=Φ) (h:=h) (g:=ops.size - h) hs hc hh (fun i hi' o hoi e he hb=>by
  obtain⟨o',ho',h1,_⟩:=hop i hi'
  rw[hoi] at ho'
  cases ho'
  exact h1 e he hb) (fun listed a w i is inv hr hih hφ hN'=>by
  obtain⟨h1,h2,h3,ob,h4,h5,h6,h7,h8⟩:=hφ
  obtain⟨hun,o,hoi,hdep⟩:=mem_ready.1 hr
  obtain⟨o',ho',hdown,hgd,hPi,hPn⟩:=hop i hih
  rw[hoi] at ho'
  cases ho'
  have hun':=getD_both hun
  have hwt:Region.wanted o (yielded ops a.tmps)=true:=by unfold Region.wanted;rw[hgd]
  have hsz:=inv.size
  have hisz:i < listed.size:=by omega
  obtain⟨tm,df⟩:=a
  simp only at h1 h2 h3 h7
  subst h1
  have hset:∀j,(listed.setIfInBounds i true).getD j false=true→j=i∨listed.getD j false=true:=fun j hj=>by
   by_cases hji:i=j
   · exact .inl hji.symm
   · rw[getD_set_ne false hji] at hj;exact .inr hj
  by_cases hin:i=n
  · subst hin
    have hob:ob=none:=h4.2 hun'
    subst hob
    have hfits:=hfit (a:={tmps:=tm,defers:=df}) (b:=0) hih hoi h2 h3 h7 hdep
    have hrun:=hN o hoi tm w hfits h6
    refine goA_new hro hoi hwt hrun (hN' _ _ ?_)
    obtain⟨p1,p2,p3,p4⟩:=hput (a:={tmps:=tm,defers:=df}) (v:=valAt vs i w.heap.size) hih hoi h2
    refine⟨p1,p2,fun t v hv=>?_,some w.heap.size,?_,fun b hb=>?_,Inv.new h6 oN,fun j t hj hl hdt=>?_,fun h=>by cases h⟩
    · rw[p4 t (fun hd=>by rw[(hdl.get i hih t hd).1] at hv;cases hv)];exact h3 t v hv
    · simp[Array.getD_eq_getD_getElem?,hisz]
    · cases hb;exact h6.fr.size
    · rcases hset j hl with rfl|hl
      · exact p3 t hdt
      · rw [p4 t (fun hd=>by have:=hdist i j hih hj t hd hdt;subst this;rw[hun'] at hl;cases hl),h7 j t hj hl hdt]
        have:=hPv.get j hj (h8 rfl j hj hl) w.heap.size
        simp only[Option.getD_none,Option.getD_some,this]
  · have hpi : ob=none→P i=true:=by
     intro hob
     rcases hPi with h|h|⟨e,he,hb,h⟩
     · exact absurd h hin
     · exact h
     · have hl:=hdep e he hb
       rcases h with h|h
       · rw[h,h4.1 hob] at hl;cases hl
       · have:=h8 hob e.on (by have:=hdown e he hb;omega) hl
         rw[h] at this;cases this
    have hfits:=hfit (a:={tmps:=tm,defers:=df}) (b:=ob.getD 0) hih hoi h2 h3 h7 hdep
    have hv:=hQ.get i hih hin o hoi ob hpi
    have hd:dstOk o.dst C.n=true:=by
     cases hod:o.dst with
     | none=>rfl
     | some d=>
       have:=(hdl.get i hih d (by unfold dstAt;rw[hoi];exact hod)).2
       simpa [dstOk] using this
    obtain⟨p1,p2,p3,p4⟩:=hput (a:={tmps:=tm,defers:=df}) (v:=valAt vs i (ob.getD 0)) hih hoi h2
    refine goA_quiet (K:=Inv S w0 (hofO H oN ob)) (N:=fun a'=>a'=({tmps:=tm,defers:=df}:Act).put o.dst (valAt vs i (ob.getD 0))) hro h6 ?_ Y9 ?_
    · unfold qOp
      rw[hoi]
      simp only[hwt,if_true]
      unfold OpV at hv
      exact⟨_,fun w1 hw1=>hv tm w1 hfits hw1,rfl⟩
    · rintro a' w1 hw1 rfl
      refine hN' _ _ ⟨p1,p2,fun t v hv=>?_,ob,?_,h5,hw1,fun j t hj hl hdt=>?_,fun hob j hj hl=>?_⟩
      · rw[p4 t (fun hd=>by rw[(hdl.get i hih t hd).1] at hv;cases hv)];exact h3 t v hv
      · rw[getD_set_ne false hin];exact h4
      · rcases hset j hl with rfl|hl
        · exact p3 t hdt
        · rw [p4 t (fun hd=>by have:=hdist i j hih hj t hd hdt;subst this;rw[hun'] at hl;cases hl)]
          exact h7 j t hj hl hdt
      · rcases hset j hl with rfl|hl
        · exact hpi hob
        · exact h8 hob j hj hl) (fun listed a w t inv hall hφ=>by
  obtain⟨h1,h2,h3,ob,h4,h5,h6,h7,h8⟩:=hφ
  obtain⟨tm,df⟩:=a
  simp only at h1 h2 h3 h7
  subst h1
  cases ob with
  | none=>have:=h4.1 rfl;rw[hall n hnh] at this;cases this
  | some b=>
    have hsz:=inv.size
    have hle:listed=(Array.range ops.size).map fun i=>decide (i < h):=by
     refine Array.ext (by simp[hsz]) fun i hi1 hi2=>?_
     simp only[Array.getElem_map,Array.getElem_range]
     by_cases hih:i < h
     · have:=hall i hih
       simp only[Array.getD_eq_getD_getElem?,Array.getElem?_eq_getElem hi1,Option.getD_some] at this
       rw[this];simp[hih]
     · have:=inv.tail i Y9 Y9
       simp only[Array.getD_eq_getD_getElem?,Array.getElem?_eq_getElem hi1,Option.getD_some] at this
       rw[this];simp[hih]
    rw[hle]
    rw[linGo_seq _ _ _ _ hsq]
    unfold GoA
    intro cs
    have hft:Fits (allE ops vs h b++E) C.n tm:=by
     refine⟨h2,fun t v hv=>?_⟩
     rcases look_app hv with hm|hv
     · unfold allE at hm
       obtain⟨i,hi1,h9⟩:=List.mem_filterMap.1 hm
       obtain⟨t',h10,h11⟩:=Option.map_eq_some_iff.1 h9
       cases h11
       exact h7 i t (List.mem_range.1 hi1) (hall i (List.mem_range.1 hi1)) h10
     · exact h3 t v hv
    have:=hT b (h5 b rfl)
    unfold WO WF Go1 at this
    have hl2:(ops.toList.drop h).length=ops.size - h:=by simp
    have:=this h rfl w h6 tm hft cs
    rw[hl2] at this
    exact this) h (Array.replicate ops.size false) {tmps:=tmps,defers:=D} {w with drawn:=w.drawn+1} (w.tape w.drawn (.order C.b.fn id))
  ⟨by simp,fun j oj _ hl=>(by rw[getD_replicate_false] at hl;cases hl),fun q hq1 hq2=>by simp[hq2]⟩
  (by
   have:∀m,cntU m (Array.replicate ops.size false)=m:=by
    intro m
    induction m with
    | zero=>rfl
    | succ m ih=>simp only[cntU,ih,getD_replicate_false];rfl
   exact this h)
  ⟨rfl,hf.sz,hf.lk,none,⟨fun _=>getD_replicate_false _ _,fun _=>rfl⟩,fun b hb=>(by cases hb),hi.drew,fun i t _ hl=>(by rw[getD_replicate_false] at hl;cases hl),fun _ i _ hl=>(by rw[getD_replicate_false] at hl;cases hl)⟩
 unfold GoA at hgo
 obtain⟨m,ht,hst⟩:=hgo cs
 refine⟨m,ht,(Steps.one ?_).trans hst⟩
 rw[stepR_region_draw]
 simp only[Region.schedule,hm,Bool.true_or,if_true,Region.linearise]
 rw[show h+(ops.size - h)=ops.size by omega]
end
end Go.Sl
namespace Go.Sl
open Go Go.RowKit Go.Shelf Go.Proofs
attribute [local irreducible] Calls
abbrev dgT (n:Int):Bs:=Lib.itoa n
theorem dg_pos {n:Int} (h0:0≤n) (h9:¬9 < n):dgT n=[UInt8.ofNat (48+n.natAbs % 10)]:=by
 unfold dgT Lib.itoa
 rw[if_neg Y9,Lib.decDigits,dif_pos Y9]
 congr 2;omega
theorem dg_pos10 {n:Int} (h0:0≤n) (h9:9 < n):dgT n=dgT (n.tdiv 10)++[UInt8.ofNat (48+n.natAbs % 10)]:=by
 have h1:n.tdiv 10=n / 10:=Int.tdiv_eq_ediv_of_nonneg h0
 unfold dgT Lib.itoa
 rw[if_neg Y9,if_neg Y9,Lib.decDigits,dif_neg Y9]
 congr 2
 · congr 1;omega
 · congr 2;omega
theorem tdiv_neg10 {n:Int} (h0:n < 0):n.tdiv 10= -((n.natAbs / 10:Nat):Int):=by
 obtain⟨m,rfl⟩:∃m:Nat,n= -(m:Int):=⟨n.natAbs,by omega⟩
 rw[Int.neg_tdiv]
 have:(m:Int).tdiv 10=(m:Int) / 10:=Int.tdiv_eq_ediv_of_nonneg Y9
 rw[this]
 have:(-(m:Int)).natAbs=m:=by omega
 rw[this]
 omega
theorem tmod_neg10 {n:Int} (h0:n < 0):n.tmod 10= -((n.natAbs % 10:Nat):Int):=by
 have h:=Int.tmod_add_mul_tdiv n 10
 rw[tdiv_neg10 h0] at h
 omega
theorem dg_neg {n:Int} (h0:n < 0) (h1:n.tdiv 10=0):dgT n=45::[UInt8.ofNat (48+n.natAbs % 10)]:=by
 rw[tdiv_neg10 h0] at h1
 unfold dgT Lib.itoa
 rw[if_pos h0,Lib.decDigits,dif_pos Y9]
 congr 3;omega
theorem dg_neg10 {n:Int} (h0:n < 0) (h1:n.tdiv 10≠0):dgT n=dgT (n.tdiv 10)++[UInt8.ofNat (48+n.natAbs % 10)]:=by
 have h2:=tdiv_neg10 h0
 rw[h2] at h1
 unfold dgT Lib.itoa
 rw[if_pos h0,if_pos Y9,Lib.decDigits,dif_neg Y9,h2,List.cons_append]
 congr 3
 omega
theorem dg_len {n:Int} (h: -9223372036854775808≤n) (h2:n≤9223372036854775807):(dgT n).length≤20:=by
 unfold dgT Lib.itoa
 have key:∀u:Nat,u < 10 ^ 19→(Lib.decDigits u).length≤19:=fun u hu=>by
  rw[←digits_dec (u+1) u Y9]
  exact digitsN_len 19 (u+1) u hu Y9
 split
 · simp only[List.length_cons]
   have:=key n.natAbs Y9
   omega
 · have:=key n.toNat Y9
   omega
theorem digits10_c:∀(m:Nat) (n:Int),n.natAbs≤m → -9223372036854775808≤n→n≤9223372036854775807→∀ {S:Nat→Prop} {w0:World} {F:List Ent},Yields S w0 F 116 [.int .i64 n] (str (dgT n)):=by
 intro m
 induction m with
 | zero=>
   intro n h1 h2 h3 S w0 F
   obtain rfl:n=0:=by omega
   refine AE fun w hi=>?_
   simp only[List.nil_append] at hi
   rw[dg_pos Y9 Y9]
   refine Ak Tryz.func116 rfl rfl (hi) ?_
   repeat' (first|refine Ag rfl ?_|refine Aj rfl ?_|refine Al ?_|refine An ?_|refine Az rfl ?_|refine AB ?_|refine AM Tryz.func116 rfl (fun w_ hi_=>?_)|refine Ab 0 ?_;try refine Za rfl (Aa N13 ?_)|refine Ab 1 ?_;try refine Zm rfl (Zv (A7 rfl rfl Y2) ?_);try refine Aa N13 ?_|refine Ab 8 ?_;try refine Zm rfl (Zv (ov_rem rfl rfl Y9 rfl) ?_);try refine Zv (ov_add rfl rfl rfl) (Zv (CE U3 U5 rfl rfl) ?_);try((refine wo_bs1 U22 inf5 rfl rfl rfl rfl rfl rfl (fun bb_ hb_=>?_))<;>try((refine Zv (ov_ofBytesAt (l:=[UInt8.ofNat (48+(0:Int).natAbs % 10)]) U22 U9 U5 rfl rfl (.head _) (fun j hj=>by(obtain rfl:j=0:=(by simp at hj;omega));rfl)) ?_)<;>try refine Za rfl (Aa N13 ?_)))|refine Ab 9 ?_;try refine Zm rfl (Zv (Be rfl rfl Y2) ?_);try refine Aa N13 ?_|refine Ab 11 ?_;try refine Zm rfl (Za rfl (Aa N13 ?_)))
   exact⟨[],⟨rfl,rfl⟩,hi_.subset Y5⟩
 | succ m ih=>
   intro n h1 h2 h3 S w0 F
   refine AE fun w hi=>?_
   simp only[List.nil_append] at hi
   have hq:n≠0→∀ {F':List Ent},Yields S w0 F' 116 [.int .i64 (n.tdiv 10)] (str (dgT (n.tdiv 10))):=fun hn F'=>by
    have:(n.tdiv 10).natAbs=n.natAbs / 10:=by rw[Int.natAbs_tdiv];rfl
    exact ih (n.tdiv 10) Y9 Y9 Y9
   have hwq:IntKind.i64.wrap (n.tdiv 10)=n.tdiv 10:=by
    have:(n.tdiv 10).natAbs=n.natAbs / 10:=by rw[Int.natAbs_tdiv];rfl
    exact C1 Y9 Y9
   have hu8:(UInt8.ofNat (48+n.natAbs % 10)).toNat=48+n.natAbs % 10:=u8n _ Y9
   have hl20:n≠0→(dgT (n.tdiv 10)).length≤20:=fun hn=>by
    have:(n.tdiv 10).natAbs=n.natAbs / 10:=by rw[Int.natAbs_tdiv];rfl
    exact dg_len Y9 Y9
   by_cases h0:n < 0
   · have htm:=tmod_neg10 h0
     by_cases hz:n.tdiv 10=0
     · rw [dg_neg h0 hz]
       refine Ak Tryz.func116 rfl rfl (hi) ?_
       repeat' (first|refine Ag rfl ?_|refine Aj rfl ?_|refine Al ?_|refine An ?_|refine A5 rfl ?_|refine Az rfl ?_|refine AB ?_|refine AM Tryz.func116 rfl (fun w_ hi_=>?_)|refine Ab 0 ?_;try refine Za rfl (Aa N13 ?_)|refine Ab 1 ?_;try refine Zm rfl (Zv (A7 rfl rfl Y2) ?_);try refine Aa N13 ?_|refine Ab 2 ?_;try refine Zm rfl (Zv (ov_rem (r:= -((n.natAbs % 10:Nat):Int)) rfl rfl Y9 htm) ?_);try refine Za rfl (Aa N13 ?_)|refine Ab 3 ?_;try refine Zm rfl (Zv (ov_quo (r:=n.tdiv 10) rfl rfl Y9 hwq) ?_);try refine Za rfl (Aa N13 ?_)|refine Ab 4 ?_;try refine Zm rfl (Zv (Ca rfl rfl Y9 Y9) ?_);try refine Zv (ov_conv_u8 U3 U5 rfl Y9 Y9) ?_;try((refine wo_bs1 U22 inf5 rfl rfl rfl rfl rfl rfl (fun bb_ hb_=>?_))<;>try((refine Zv (ov_ofBytesAt (l:=[UInt8.ofNat (48+n.natAbs % 10)]) U22 U9 U5 rfl rfl (.head _) (fun j hj=>by(obtain rfl:j=0:=(by simp at hj;omega));show some (Value.int IntKind.u8 _)=some (Value.int IntKind.u8 _);congr 2;simp only[List.getElem_cons_zero,hu8];omega)) ?_)<;>try refine Za rfl (Aa N13 ?_)))|refine Ab 5 ?_;try refine Zm rfl (Zv (AN rfl rfl (by first|exact Ax Y9|exact As Y9|exact rfl)) ?_);try refine Aa N13 ?_|refine Ab 7 ?_;try refine Zm rfl ?_;try((refine Zv (B1 rfl rfl (by first|omega|simp;done|simp;omega)) ?_)<;>try refine Za rfl (Aa N13 ?_)))
       exact⟨[],⟨rfl,rfl⟩,hi_.subset Y5⟩
     · rw [dg_neg10 h0 hz]
       have hq:= @hq Y9
       have hl20:=hl20 Y9
       generalize dgT (n.tdiv 10)=T at *
       refine Ak Tryz.func116 rfl rfl (hi) ?_
       repeat' (first|refine Ag rfl ?_|refine Aj rfl ?_|refine Al ?_|refine An ?_|refine A5 rfl ?_|refine AM Tryz.func116 rfl (fun w_ hi_=>?_)|refine Ab 0 ?_;try refine Za rfl (Aa N13 ?_)|refine Ab 1 ?_;try refine Zm rfl (Zv (A7 rfl rfl Y2) ?_);try refine Aa N13 ?_|refine Ab 2 ?_;try refine Zm rfl (Zv (ov_rem (r:= -((n.natAbs % 10:Nat):Int)) rfl rfl Y9 htm) ?_);try refine Za rfl (Aa N13 ?_)|refine Ab 3 ?_;try refine Zm rfl (Zv (ov_quo (r:=n.tdiv 10) rfl rfl Y9 hwq) ?_);try refine Za rfl (Aa N13 ?_)|refine Ab 4 ?_;try refine Zm rfl (Zv (Ca rfl rfl Y9 Y9) ?_);try refine Zv (ov_conv_u8 U3 U5 rfl Y9 Y9) ?_;try((refine wo_bs1 U22 inf5 rfl rfl rfl rfl rfl rfl (fun bb_ hb_=>?_))<;>try((refine Zv (ov_ofBytesAt (l:=[UInt8.ofNat (48+n.natAbs % 10)]) U22 U9 U5 rfl rfl (.head _) (fun j hj=>by(obtain rfl:j=0:=(by simp at hj;omega));show some (Value.int IntKind.u8 _)=some (Value.int IntKind.u8 _);congr 2;simp only[List.getElem_cons_zero,hu8];omega)) ?_)<;>try refine Za rfl (Aa N13 ?_)))|refine Ab 5 ?_;try refine Zm rfl (Zv (AN rfl rfl (by first|exact Ax Y9|exact As Y9|exact rfl)) ?_);try refine Aa N13 ?_|refine Ab 6 ?_;try refine Zm rfl (Zv (Aw (CallR.val rfl en116) hq) (Zm rfl ?_));try((refine Zv (B1 rfl rfl (by first|omega|simp;omega)) ?_)<;>try refine Za rfl (Aa N13 ?_)))
       exact⟨[],⟨rfl,rfl⟩,hi_.subset Y5⟩
   · have htm:n.tmod 10=((n.natAbs % 10:Nat):Int):=by
      have:n.tmod 10=n % 10:=Int.tmod_eq_emod_of_nonneg Y9
      rw[this];omega
     by_cases hz:9 < n
     · rw [dg_pos10 Y9 hz]
       have hq:= @hq Y9
       have hl20:=hl20 Y9
       generalize dgT (n.tdiv 10)=T at *
       refine Ak Tryz.func116 rfl rfl (hi) ?_
       repeat' (first|refine Ag rfl ?_|refine Aj rfl ?_|refine Al ?_|refine An ?_|refine A5 rfl ?_|refine Az rfl ?_|refine AB ?_|refine AM Tryz.func116 rfl (fun w_ hi_=>?_)|refine Ab 0 ?_;try refine Za rfl (Aa N13 ?_)|refine Ab 1 ?_;try refine Zm rfl (Zv (A7 rfl rfl Y2) ?_);try refine Aa N13 ?_|refine Ab 8 ?_;try refine Zm rfl (Zv (ov_rem (r:=((n.natAbs % 10:Nat):Int)) rfl rfl Y9 htm) ?_);try refine Zv (AD rfl rfl Y9 Y9) ?_;try refine Zv (ov_conv_u8 U3 U5 rfl Y9 Y9) ?_;try((refine wo_bs1 U22 inf5 rfl rfl rfl rfl rfl rfl (fun bb_ hb_=>?_))<;>try((refine Zv (ov_ofBytesAt (l:=[UInt8.ofNat (48+n.natAbs % 10)]) U22 U9 U5 rfl rfl (.head _) (fun j hj=>by(obtain rfl:j=0:=(by simp at hj;omega));show some (Value.int IntKind.u8 _)=some (Value.int IntKind.u8 _);congr 2;simp only[List.getElem_cons_zero,hu8];omega)) ?_)<;>try refine Za rfl (Aa N13 ?_)))|refine Ab 9 ?_;try refine Zm rfl (Zv (Be rfl rfl Y2) ?_);try refine Aa N13 ?_|refine Ab 10 ?_;try refine Zm rfl (Zv (ov_quo (r:=n.tdiv 10) rfl rfl Y9 hwq) ?_);try refine Zv (Aw (CallR.val rfl en116) hq) (Zm rfl ?_);try((refine Zv (B1 rfl rfl (by first|omega|simp;omega)) ?_)<;>try refine Za rfl (Aa N13 ?_)))
       exact⟨[],⟨rfl,rfl⟩,hi_.subset Y5⟩
     · rw [dg_pos Y9 hz]
       refine Ak Tryz.func116 rfl rfl (hi) ?_
       repeat' (first|refine Ag rfl ?_|refine Aj rfl ?_|refine Al ?_|refine An ?_|refine Az rfl ?_|refine AB ?_|refine AM Tryz.func116 rfl (fun w_ hi_=>?_)|refine Ab 0 ?_;try refine Za rfl (Aa N13 ?_)|refine Ab 1 ?_;try refine Zm rfl (Zv (A7 rfl rfl Y2) ?_);try refine Aa N13 ?_|refine Ab 8 ?_;try refine Zm rfl (Zv (ov_rem (r:=((n.natAbs % 10:Nat):Int)) rfl rfl Y9 htm) ?_);try refine Zv (AD rfl rfl Y9 Y9) ?_;try refine Zv (ov_conv_u8 U3 U5 rfl Y9 Y9) ?_;try((refine wo_bs1 U22 inf5 rfl rfl rfl rfl rfl rfl (fun bb_ hb_=>?_))<;>try((refine Zv (ov_ofBytesAt (l:=[UInt8.ofNat (48+n.natAbs % 10)]) U22 U9 U5 rfl rfl (.head _) (fun j hj=>by(obtain rfl:j=0:=(by simp at hj;omega));show some (Value.int IntKind.u8 _)=some (Value.int IntKind.u8 _);congr 2;simp only[List.getElem_cons_zero,hu8];omega)) ?_)<;>try refine Za rfl (Aa N13 ?_)))|refine Ab 9 ?_;try refine Zm rfl (Zv (Be rfl rfl Y2) ?_);try refine Aa N13 ?_|refine Ab 11 ?_;try refine Zm rfl (Za rfl (Aa N13 ?_)))
       exact⟨[],⟨rfl,rfl⟩,hi_.subset Y5⟩
theorem digits_c {n:Int} (h2: -9223372036854775808≤n) (h3:n≤9223372036854775807) {S:Nat→Prop} {w0:World} {F:List Ent}:Yields S w0 F 116 [.int .i64 n] (str (dgT n)):=digits10_c n.natAbs n (Nat.le_refl _) h2 h3
end Go.Sl
namespace Go.Sl
open Go Go.RowKit Go.Shelf Go.Proofs
attribute [local irreducible] Calls
def nmT (s:Bs):Bs:=if s=[] then [45] else s
def moreT (l:List Int):Bs:=l.flatMap fun n=>32::dgT n
def linB:List Bs→Bs
 | []=>[]
 | a::r=>a++r.flatMap fun w=>32::w
def lineT (l:List Bs):Bs:=linB l++[10]
abbrev inI (n:Int):Prop:= -9223372036854775808≤n∧n≤9223372036854775807
theorem C0:∀(l:List Int),(∀n∈l,inI n)→(moreT l).length≤21*l.length
 | [],_=>by simp[moreT]
 | n :: r,h=>by
   have h1:=C0 r fun m hm=>h m (.tail _ hm)
   have h2:=dg_len (h n (.head _)).1 (h n (.head _)).2
   simp only[moreT,List.flatMap_cons,List.length_append,List.length_cons] at h1 ⊢
   omega
theorem moreT_snoc {l:List Int} {k:Nat} (hk:k < l.length):moreT (l.take (k+1))=moreT (l.take k)++(32::dgT l[k]):=by
 unfold moreT
 rw[List.take_succ_eq_append_getElem hk,List.flatMap_append,List.flatMap_cons,List.flatMap_nil,List.append_nil]
theorem linB_snoc {l:List Bs} {k:Nat} (hk:k < l.length):linB (l.take (k+1))=linB (l.take k)++((if k=0 then [] else [32])++l[k]):=by
 cases l with
 | nil=>simp at hk
 | cons a r=>
   cases k with
   | zero=>simp[linB]
   | succ k=>
     have hk':k < r.length:=by simpa using hk
     rw[List.take_succ_cons,List.take_succ_cons,List.take_succ_eq_append_getElem hk']
     simp only[linB]
     rw[List.flatMap_append,List.flatMap_cons,List.flatMap_nil,List.append_nil,List.append_assoc]
     rfl
theorem linB_len:∀(l:List Bs) (m:Nat),(∀w∈l,w.length≤m)→(linB l).length≤(m+1)*l.length
 | [],m,_=>by simp[linB]
 | a :: r,m,h=>by
   have key:∀r:List Bs,(∀w∈r,w.length≤m)→(r.flatMap fun w=>(32:UInt8)::w).length≤(m+1)*r.length:=by
    intro r
    induction r with
    | nil=>intro _;simp
    | cons w r ih=>
      intro hr
      have h1:=ih fun x hx=>hr x (.tail _ hx)
      have h2:=hr w (.head _)
      simp only[List.flatMap_cons,List.length_append,List.length_cons,Nat.mul_add] at h1 ⊢
      omega
   have h1:=key r fun w hw=>h w (.tail _ hw)
   have h2:=h a (.head _)
   simp only[linB,List.length_append,List.length_cons,Nat.mul_add] at h1 ⊢
   omega
section
variable {S:Nat→Prop} {w0:World} {F:List Ent}
theorem name_c (s:Bs) (hl:s.length≤4611686018427387904):Yields S w0 F 118 [str s] (str (nmT s)):=by
 refine AE fun w hi=>?_
 simp only[List.nil_append] at hi
 unfold nmT
 by_cases h:s=[]
 · subst h
   rw[if_pos rfl]
   refine Ak Tryz.func118 rfl rfl (hi) ?_
   repeat' (first|refine Ag rfl ?_|refine Aj rfl ?_|refine Al ?_|refine An ?_|refine A5 rfl ?_|refine AM Tryz.func118 rfl (fun w_ hi_=>?_)|refine Ab 0 ?_;try refine Za rfl (Aa N5 ?_)|refine Ab 1 ?_;try refine Zm rfl (Zv (Ct rfl rfl Y20) ?_);try refine Aa N5 ?_|refine Ab 2 ?_;try refine Za rfl (Aa N5 ?_))
   exact⟨[],⟨rfl,rfl⟩,hi_⟩
 · rw [if_neg h]
   refine Ak Tryz.func118 rfl rfl (hi) ?_
   repeat' (first|refine Ag rfl ?_|refine Aj rfl ?_|refine Al ?_|refine An ?_|refine Az rfl ?_|refine AB ?_|refine AM Tryz.func118 rfl (fun w_ hi_=>?_)|refine Ab 0 ?_;try refine Za rfl (Aa N5 ?_)|refine Ab 1 ?_;try refine Zm rfl (Zv (Ct rfl rfl Y20) ?_);try refine Aa N5 ?_|refine Ab 3 ?_;try refine Zm rfl (Za rfl (Aa N5 ?_)))
   exact⟨[],⟨rfl,rfl⟩,hi_⟩
theorem more_c {s:Bs} {l:List Int} {v:Value} (hv:SlK S w0 F (intsV l) l.length v) (hs:s.length≤1099511627776) (hl:l.length≤1099511627776) (hr:∀n∈l,inI n):Yields S w0 F 117 [str s,v] (str (s++moreT l)):=by
 refine AE fun w hi=>?_
 simp only[List.nil_append] at hi
 obtain⟨a,ca,rfl,hca,hk⟩:=hv
 have hbl:(intsV l).length=l.length:=by simp[intsV]
 refine Ak Tryz.func117 rfl rfl (hi) ?_
 repeat' (first|refine Ag rfl ?_|refine Al ?_|refine An ?_|refine A6 ?_|refine Ab 0 ?_;try refine Za rfl (Aa N39 ?_)|refine Ab 1 ?_;try refine Za rfl (Aa N39 ?_))
 refine A1 (E':=(fun q:Nat×Bs=>[(0,str q.2),(1,.slice a l.length ca),(5,.int .i64 (q.1:Int))]) (0,s)) Y14 ?_
 refine Bb (fun q:Nat×Bs=>q.1≤l.length∧q.2=s++moreT (l.take q.1)) (fun q=>l.length - q.1) (fun q:Nat×Bs=>[(0,str q.2),(1,.slice a l.length ca),(5,.int .i64 (q.1:Int))]) (fun _=>F) ?_ (0,s) ⟨Nat.zero_le _,by simp[moreT]⟩
 rintro⟨k,T⟩ ⟨k1,k2⟩ ih
 dsimp only at k1 k2 ih ⊢
 by_cases hlt:k < l.length
 · obtain ⟨b,off,rfl,hkn⟩:=hk.resolve_left (fun h=>by rw[h] at hbl;simp at hbl;omega)
   have hc1:Kn S w0 F b (off+((k:Nat):Int).toNat*1) (.int .i64 l[k]):=by have:=hkn k Y9;simpa [intsV] using this
   have hmem:=hr l[k] (List.getElem_mem hlt)
   have hdg:=digits_c hmem.1 hmem.2 (S:=S) (w0:=w0) (F:=F)
   have hdl:=dg_len hmem.1 hmem.2
   have hml:=C0 (l.take k) fun n hn=>hr n (List.mem_of_mem_take hn)
   have htl:(l.take k).length=k:=by simp;omega
   have hTl:T.length≤s.length+21*k:=by rw[k2,List.length_append];rw[htl] at hml;omega
   have hnext:T++[32]++dgT l[k]=s++moreT (l.take (k+1)):=by rw[moreT_snoc hlt,k2];simp
   have hih:=ih (k+1,T++[32]++dgT l[k]) ⟨by omega,hnext⟩ (by simp only;omega)
   simp only at hih
   clear hnext k2 hmem ih
   generalize dgT l[k]=d at *
   generalize l[k]=z at *
   repeat' (first|refine Ag rfl ?_|refine Aj rfl ?_|refine Al ?_|refine An ?_|refine A5 rfl ?_|refine A6 ?_|refine AH ?_|refine AB ?_|refine Ab 2 ?_;try refine Zm rfl (Zm rfl (Zv (Ap rfl U59 rfl) (Zv (A7 rfl rfl Y2) ?_)));try refine Aa N39 ?_|refine Ab 4 ?_;try refine Zm rfl (Zv (B1 rfl rfl Y21) ?_);try refine Zm rfl (Zm rfl (Zv (Am U59 sz3 rfl rfl Y9 Y9) ?_));try refine Zv (A2 U3 rfl rfl hc1) (Zv (Aw (CallR.val rfl en116) hdg) (Zv (B1 rfl rfl Y21) ?_));try refine Za rfl (Aa N39 ?_)|refine Ab 3 ?_;try refine Zm rfl (Zv (AD rfl rfl Y9 Y9) ?_);try refine Za rfl (Aa N39 ?_))
   refine A1 Y10 (hih)
 · have hkl:k=l.length:=by omega
   rw[hkl,List.take_length] at k2
   repeat' (first|refine Ag rfl ?_|refine Aj rfl ?_|refine Al ?_|refine An ?_|refine Az rfl ?_|refine Bl rfl ?_|refine AM Tryz.func117 rfl (fun w_ hi_=>?_)|refine Ab 2 ?_;try refine Zm rfl (Zm rfl (Zv (Ap rfl U59 rfl) (Zv (A7 rfl rfl Y2) ?_)));try refine Aa N39 ?_|refine Ab 5 ?_;try refine Zm rfl (Za rfl (Aa N39 ?_)))
   exact⟨[],⟨by rw[k2];rfl,rfl⟩,hi_⟩
theorem line_c {l:List Bs} {v:Value} (m:Nat) (hv:SlK S w0 F (strsV l) l.length v) (hl:l.length≤16) (hm:∀w∈l,w.length≤m) (hmm:m≤1099511627776):Yields S w0 F 115 [v] (str (lineT l)):=by
 refine AE fun w hi=>?_
 simp only[List.nil_append] at hi
 obtain⟨a,ca,rfl,hca,hk⟩:=hv
 have hbl:(strsV l).length=l.length:=by simp[strsV]
 refine Ak Tryz.func115 rfl rfl (hi) ?_
 repeat' (first|refine Ag rfl ?_|refine Al ?_|refine An ?_|refine A6 ?_|refine Ab 0 ?_;try refine Za rfl (Aa N25 ?_)|refine Ab 1 ?_;try refine Za rfl (Aa N25 ?_)|refine Ab 2 ?_;try refine Za rfl (Aa N25 ?_))
 refine A1 (E':=(fun q:Nat×Bs=>[(3,str q.2),(0,.slice a l.length ca),(4,.int .i64 (q.1:Int))]) (0,[])) Y14 ?_
 refine Bb (fun q:Nat×Bs=>q.1≤l.length∧q.2=linB (l.take q.1)) (fun q=>l.length - q.1) (fun q:Nat×Bs=>[(3,str q.2),(0,.slice a l.length ca),(4,.int .i64 (q.1:Int))]) (fun _=>F) ?_ (0,[]) ⟨Nat.zero_le _,by simp[linB]⟩
 rintro⟨k,T⟩ ⟨k1,k2⟩ ih
 dsimp only at k1 k2 ih ⊢
 have hTl:T.length≤(m+1)*16:=by
  have:=linB_len (l.take k) m fun w hw=>hm w (List.mem_of_mem_take hw)
  have htl:(l.take k).length≤16:=by simp;omega
  rw[k2]
  exact Nat.le_trans this (Nat.mul_le_mul_left _ htl)
 by_cases hlt:k < l.length
 · obtain ⟨b,off,rfl,hkn⟩:=hk.resolve_left (fun h=>by rw[h] at hbl;simp at hbl;omega)
   have hc1:Kn S w0 F b (off+((k:Nat):Int).toNat*1) (str l[k]):=by have:=hkn k Y9;simpa [strsV] using this
   have hwl:=hm l[k] (List.getElem_mem hlt)
   have hnext:=linB_snoc hlt
   rw[←k2] at hnext
   by_cases hk0:k=0
   · rw [if_pos hk0] at hnext
     have hih:=ih (k+1,T++l[k]) ⟨by omega,by rw[hnext];rfl⟩ (by simp only;omega)
     simp only at hih
     clear hnext k2 ih
     generalize l[k]=z at *
     repeat' (first|refine Ag rfl ?_|refine Aj rfl ?_|refine Al ?_|refine An ?_|refine A5 rfl ?_|refine Az rfl ?_|refine A6 ?_|refine AH ?_|refine AB ?_|refine Ab 3 ?_;try refine Zm rfl (Zm rfl (Zv (Ap rfl U23 rfl) (Zv (A7 rfl rfl Y2) ?_)));try refine Aa N25 ?_|refine Ab 5 ?_;try refine Zm rfl (Zv (Be rfl rfl Y2) ?_);try refine Aa N25 ?_|refine Ab 7 ?_;try refine Zm rfl (Zm rfl (Zm rfl (Zv (Am U23 sz9 rfl rfl Y9 Y9) ?_)));try refine Zv (A2 U9 rfl rfl hc1) (Zv (B1 rfl rfl Y21) ?_);try refine Za rfl (Aa N25 ?_)|refine Ab 4 ?_;try refine Zm rfl (Zv (AD rfl rfl Y9 Y9) ?_);try refine Za rfl (Aa N25 ?_))
     refine A1 Y10 (hih)
   · rw [if_neg hk0] at hnext
     have hih:=ih (k+1,T++[32]++l[k]) ⟨by omega,by rw[hnext];simp⟩ (by simp only;omega)
     simp only at hih
     clear hnext k2 ih
     generalize l[k]=z at *
     repeat' (first|refine Ag rfl ?_|refine Aj rfl ?_|refine Al ?_|refine An ?_|refine A5 rfl ?_|refine A6 ?_|refine AH ?_|refine AB ?_|refine Ab 3 ?_;try refine Zm rfl (Zm rfl (Zv (Ap rfl U23 rfl) (Zv (A7 rfl rfl Y2) ?_)));try refine Aa N25 ?_|refine Ab 5 ?_;try refine Zm rfl (Zv (Be rfl rfl Y2) ?_);try refine Aa N25 ?_|refine Ab 6 ?_;try refine Zm rfl (Zv (B1 rfl rfl Y21) ?_);try refine Za rfl (Aa N25 ?_)|refine Ab 7 ?_;try refine Zm rfl (Zm rfl (Zm rfl (Zv (Am U23 sz9 rfl rfl Y9 Y9) ?_)));try refine Zv (A2 U9 rfl rfl hc1) (Zv (B1 rfl rfl Y21) ?_);try refine Za rfl (Aa N25 ?_)|refine Ab 4 ?_;try refine Zm rfl (Zv (AD rfl rfl Y9 Y9) ?_);try refine Za rfl (Aa N25 ?_))
     refine A1 Y10 (hih)
 · have hkl:k=l.length:=by omega
   rw[hkl,List.take_length] at k2
   repeat' (first|refine Ag rfl ?_|refine Aj rfl ?_|refine Al ?_|refine An ?_|refine Az rfl ?_|refine Bl rfl ?_|refine AM Tryz.func115 rfl (fun w_ hi_=>?_)|refine Ab 3 ?_;try refine Zm rfl (Zm rfl (Zv (Ap rfl U23 rfl) (Zv (A7 rfl rfl Y2) ?_)));try refine Aa N25 ?_|refine Ab 8 ?_;try refine Zm rfl (Zv (B1 rfl rfl Y21) ?_);try refine Za rfl (Aa N25 ?_))
   exact⟨[],⟨by rw[k2];rfl,rfl⟩,hi_⟩
end
end Go.Sl
namespace Go.Sl
open Go Go.RowKit Go.Shelf Go.Proofs
attribute [local irreducible] Calls
section
variable {C:Cx} {S:Nat→Prop} {w0:World} {k:List Item} {D:List Deferred} {E E':List (Nat×Value)} {H:List Ent} {d:Option Tmp} {t t':TypeId} {p:String} {af:Array Edge} {g:Option (Nat×Bool)} {ops:Array Oper} {rest:List Oper}
theorem ovc {S:Nat→Prop} {w0:World} {H:List Ent} {o:Oper} {v v':Value} (h:OpV C S w0 H D E o v') (e:v'=v):OpV C S w0 H D E o v:=e▸h
theorem wo_weak (hs:sub E' E) (h:WO C S w0 ops rest k D E' H):WO C S w0 ops rest k D E H:=by
 unfold WO at *
 exact fun pre hp=>A1 hs (h pre hp)
theorem run_bs {el n sz : Nat} {zv : Value} {ti:TypeInfo} {vs:List (Nat×Value)} {parts:Array (Nat×Operand)} {cs:Array Value} {tmps:Array Value} {w:World} (hft:Fits E C.n tmps) (hu:C.P.underlying t'=some (.slice el)) (hti:C.P.info? el=some ti) (hsz:ti.size=sz) (hz:ti.zero=some zv) (hpos:Nat.blt 0 (n*sz)=true) (hle:Nat.ble (n*sz) 16777216=true)
 (hp:partv E parts.toList=some vs) (hfill:Instr.fill (fun i=>some (i*sz,sz)) ((Array.range (n*sz)).map (zv.cells[· % zv.cells.size]!)) vs=some cs):
 (execOp ({tmps:=tmps,defers:=D}:Act).eval (⟨d,.buildSlice t' n parts,t,p,af,g⟩:Oper)).run C.P w=.ok (.value (.slice (some ⟨w.heap.size,0,none⟩) n n)) {w with heap:=w.heap.push (.cells cs el (0,0))}:=by
 have h1:0 < n*sz:=by simpa using hpos
 have h2:n*sz≤16777216:=by simpa using hle
 have h3:(parts.map (fun (i,x)=>(i,({tmps:=tmps,defers:=D}:Act).eval x))).toList=vs:=by
  rw[←hft.partv (D:=D) hp];simp
 simp at h3
 have hs0:=BA (t':=el) (P:=C.P) (w:=w) (n:=sz) (by rw[hti,←hsz];rfl)
 have hz0:(zeroValue el).run C.P w=.ok zv w:=by simp[zeroValue,B0 hti,hz]
 have e1 : ¬ (n * sz > 2 ^ 24) := by have:(2:Nat) ^ 24=16777216:=by decide
                                     omega
 have e2:¬(n*sz=0):=by omega
 simp only[execOp,Instr.buildSlice,Sem.run_bind,AA hu,Result.andThen_ok,hs0]
 rw[if_neg e1]
 simp only[Sem.run_bind,Sem.run_pure,Result.andThen_ok,if_neg e2,hz0,Array.toList_map,h3,hfill,newRow,newObj,Sem.run]
end
theorem rng4:Array.range 4= #[0,1,2,3]:=by decide
theorem rng6:Array.range 6= #[0,1,2,3,4,5]:=by decide
abbrev bFlow:Bs:=[102,108,111,119]
abbrev bRegs:Bs:=[114,101,103,115]
abbrev bRaises:Bs:=[114,97,105,115,101,115]
abbrev bBlock:Bs:=[98,108,111,99,107,10]
abbrev bIns:Bs:=[105,110,115]
abbrev bEnd:Bs:=[101,110,100]
abbrev bWhen:Bs:=[119,104,101,110]
def insT (x:InsM):Bs:=bIns++moreT [x.op,x.to,x.a,x.b,x.lo,x.hi]++[32]++nmT x.nm++moreT x.args++[10]
def whenT (w:Bs×Int):Bs:=lineT [bWhen,w.1,dgT w.2]
def endLT (x:EndM):Bs:=bEnd++moreT [x.kd,x.a,x.b,x.to,x.el,x.ot]++[32]++nmT x.nm++moreT x.args++[10]
def endT (x:EndM):Bs:=endLT x++x.ws.flatMap whenT
def blkT (b:BlkM):Bs:=bBlock++b.ins.flatMap insT++endT b.en
def rsT (l:List Bs):Bs:=l.flatMap fun w=>32::w
def headT (x:FlowM):Bs:=lineT [bFlow,x.nm,dgT x.ac,dgT x.res]++(bRegs++moreT x.regs)++[10]++(bRaises++rsT x.raises)++[10]
def flowT (x:FlowM):Bs:=headT x++x.blks.flatMap blkT
structure InsX (i:InsM):Prop where
 op:0≤i.op∧i.op≤255
 rng:∀n∈[i.op,i.to,i.a,i.b,i.lo,i.hi],inI n
 args:∀n∈i.args,inI n
 len:i.nm.length≤65535∧i.args.length≤65535
structure EndX (e:EndM):Prop where
 kd:0≤e.kd∧e.kd≤255
 rng:∀n∈[e.kd,e.a,e.b,e.to,e.el,e.ot],inI n
 args:∀n∈e.args,inI n
 len:e.nm.length≤65535∧e.args.length≤65535∧e.ws.length≤65535
 ws:∀w∈e.ws,w.1.length≤65535∧inI w.2
structure FlowX (x:FlowM):Prop where
 nm:x.nm.length≤65535
 rng:inI x.ac∧0≤x.res∧x.res≤255
 regs:∀r∈x.regs,0≤r∧r≤255
 raises:∀r∈x.raises,r.length≤65535
 len:x.regs.length≤65535∧x.raises.length≤65535∧x.blks.length≤65535
 ins:∀b∈x.blks,b.ins.length≤65535∧∀i∈b.ins,InsX i
 en:∀b∈x.blks,EndX b.en
theorem nmT_len (s:Bs):(nmT s).length≤s.length+1:=by unfold nmT;split<;>simp
theorem insT_len {x:InsM} (h:InsX x):(insT x).length≤2000000:=by
 have h1:=C0 _ h.rng
 have h2:=C0 _ h.args
 have h3:=nmT_len x.nm
 have h4:=h.len
 simp only[List.length_cons,List.length_nil] at h1
 unfold insT
 simp only[List.length_append,List.length_cons,List.length_nil]
 omega
theorem whenT_len {w:Bs×Int} (h:w.1.length≤65535∧inI w.2):(whenT w).length≤300000:=by
 have h1:=dg_len h.2.1 h.2.2
 have h2:=linB_len [bWhen,w.1,dgT w.2] 65535 (by simp;omega)
 unfold whenT lineT
 simp only[List.length_append,List.length_cons,List.length_nil] at h2 ⊢
 omega
theorem endLT_len {x:EndM} (h:EndX x):(endLT x).length≤2000000:=by
 have h1:=C0 _ h.rng
 have h2:=C0 _ h.args
 have h3:=nmT_len x.nm
 have h4:=h.len
 simp only[List.length_cons,List.length_nil] at h1
 unfold endLT
 simp only[List.length_append,List.length_cons,List.length_nil]
 omega
theorem flat_len {α:Type} (f:α→Bs) (m:Nat):∀l:List α,(∀x∈l,(f x).length≤m)→(l.flatMap f).length≤m*l.length
 | [],_=>by simp
 | a :: r,h=>by
   have h1:=flat_len f m r fun x hx=>h x (.tail _ hx)
   have h2:=h a (.head _)
   simp only[List.flatMap_cons,List.length_append,List.length_cons,Nat.mul_add]
   omega
theorem flat_snoc {α:Type} (f:α→Bs) {l:List α} {k:Nat} (hk:k < l.length):(l.take (k+1)).flatMap f=(l.take k).flatMap f++f l[k]:=by
 rw[List.take_succ_eq_append_getElem hk,List.flatMap_append,List.flatMap_cons,List.flatMap_nil,List.append_nil]
theorem blkT_len {b:BlkM} (h:b.ins.length≤65535∧∀i∈b.ins,InsX i) (he:EndX b.en):(blkT b).length≤200000000000:=by
 have h1:=flat_len insT 2000000 b.ins fun i hi=>insT_len (h.2 i hi)
 have h2:=flat_len whenT 300000 b.en.ws fun w hw=>whenT_len (he.ws w hw)
 have h3:=endLT_len he
 have h4:=he.len
 unfold blkT endT
 simp only[List.length_append,List.length_cons,List.length_nil]
 omega
end Go.Sl
namespace Go.Sl
open Go Go.RowKit Go.Shelf Go.Proofs
section
variable {C:Cx} {S:Nat→Prop} {w0:World} {k:List Item} {D:List Deferred} {E:List (Nat×Value)} {H H':List Ent} {d:Option Tmp} {t t':TypeId} {p:String} {af:Array Edge} {g:Option (Nat×Bool)} {x y z:Operand} {v u:Value} {ops:Array Oper} {rest:List Oper}
theorem wo_perm (hs:H.Perm H') (h:WO C S w0 ops rest k D E H'):WO C S w0 ops rest k D E H:=by
 unfold WO at *
 exact fun pre hp=>w_perm hs (h pre hp)
theorem Del1.mem {e:Ent} {H H':List Ent} (h:Del1 e H H'):e∈H:=h.perm.mem_iff.2 (.head _)
theorem Del1.del {b:Nat} {o:Obj} {H H':List Ent} (h:Del1 (⟨b,true,o⟩:Ent) H H'):Del b H H':=by
 induction h with
 | head H=>exact .head _ _
 | tail x _ ih=>exact .tail _ ih
 | app A _ ih=>
   induction A with
   | nil=>exact ih
   | cons a A ih2=>exact .tail _ ih2
theorem wo_appendX {el sz n cap kn bb:Nat} {ti:TypeInfo} {zv yv:Value} {xs rst new:List Value} {sT xT:TypeId} {aT:Array TypeId} {e2:TypeId}
 (hx:opv E x=some (.slice (some ⟨bb,0,none⟩) n cap)) (hy:opv E y=some yv) (hs:SlK S w0 H new kn yv) (hu:C.P.underlying sT=some (.slice el)) (hux:C.P.underlying xT=some (.slice e2)) (haT:aT= #[sT,xT]) (hti:C.P.info? el=some ti) (hsz:ti.size=sz) (hpos:0 < sz)
 (hz:ti.zero=some zv) (hzs:zv.cells.size=sz) (hxs:xs.length=n*sz) (hcap:xs.length+rst.length=cap*sz) (hT:Del1 ⟨bb,true,.cells (xs++rst).toArray el (0,0)⟩ H H')
 (hnl:new.length=kn*sz) (hok:∀v∈new,okCell v=true) (hc:n≤cap)
 (hroom:(2*(n+kn)+192)*ti.bytes≤281474976710656) (hmax:n+kn≤4611686018427387904) (hg:guardOk E ops ⟨d,.call {callee:=.builtin .append,args:= #[x,y],argTypes:=aT},t,p,af,g⟩=some true) (hd:dstOk d C.n=true)
 (h:∀b' cap' rst',(xs++new).length+rst'.length=cap'*sz→n+kn≤cap'→WO C S w0 ops rest k D (putE d (.slice (some ⟨b',0,none⟩) (n+kn) cap') E) (⟨b',true,.cells (xs++new++rst').toArray el (0,0)⟩::H')):
 WO C S w0 ops (⟨d,.call {callee:=.builtin .append,args:= #[x,y],argTypes:=aT},t,p,af,g⟩::rest) k D E H:=by
 obtain⟨a2,c2,rfl,hc2,hk⟩:=hs
 by_cases h0:kn=0
 · subst h0
   have hn:new=[]:=List.length_eq_zero_iff.1 Y9
   subst hn
   refine wo_v (ov_append0 hx hy hu hux haT hti hc) hg hd rfl ?_
   have:=h bb cap rst (by simpa using hcap) hc
   rw[Nat.add_zero,List.append_nil] at this
   exact wo_perm hT.perm this
 · have hnn:new≠[]:=fun e=>by
    rw[e] at hnl
    simp only[List.length_nil] at hnl
    rcases Nat.mul_eq_zero.1 hnl.symm with h|h<;>omega
   obtain⟨b2,o2,rfl,hkn⟩:=hk.resolve_left hnn
   exact wo_appendK (base:=some bb) hx hy hu hux haT hti hsz hpos hz hzs hxs hcap ⟨hT.mem,hT.del⟩ hkn hnl hok hroom hmax Y9 hg hd h
end
structure FlowI (x:FlowM):Prop where
 rng:inI x.ac∧0≤x.res∧x.res≤255
 regs:∀r∈x.regs,0≤r∧r≤255
 ins:∀b∈x.blks,∀i∈b.ins,(0≤i.op∧i.op≤255)∧(∀n∈[i.op,i.to,i.a,i.b,i.lo,i.hi],inI n)∧∀n∈i.args,inI n
 en:∀b∈x.blks,(0≤b.en.kd∧b.en.kd≤255)∧(∀n∈[b.en.kd,b.en.a,b.en.b,b.en.to,b.en.el,b.en.ot],inI n)∧(∀n∈b.en.args,inI n)∧∀w∈b.en.ws,inI w.2
theorem LitF.flowX {x:FlowM} (h:LitF x) (hi:FlowI x):FlowX x:=
 ⟨by have:=h.len.1;omega,hi.rng,hi.regs,fun r hr=>by have:=h.raises r hr;omega,by have:=h.len;omega,
  fun b hb=>⟨by have:=(h.blks b hb).len.1;omega,fun i hib=>⟨(hi.ins b hb i hib).1,(hi.ins b hb i hib).2.1,(hi.ins b hb i hib).2.2,by have:=(h.blks b hb).ins i hib;omega⟩⟩,
  fun b hb=>⟨(hi.en b hb).1,(hi.en b hb).2.1,(hi.en b hb).2.2.1,by have:=(h.blks b hb).len;omega,fun w hw=>⟨by have:=(h.blks b hb).ws w hw;omega,(hi.en b hb).2.2.2 w hw⟩⟩⟩
end Go.Sl
namespace Go.Sl
open Go Go.RowKit Go.Shelf Go.Proofs
attribute [local irreducible] Calls
def NamesV (S:Nat→Prop) (w0:World) (F:List Ent) (names:Int→List Bs) (v:Value):Prop:=
 ∃c:Array Value,v=.agg c∧c.size=6∧∀q:Nat,q < 6→∃u,c[q]?=some u∧SlK S w0 F (strsV (names q)) (names q).length u
section
variable {S:Nat→Prop} {w0:World} {F:List Ent} {b:Bs} {bsv:Value}
theorem NamesV.box {names:Int→List Bs} {c:Array Value} {bx:Nat} {el:TypeId} {G:List Ent} (h:NamesV S w0 F names (.agg c)) (hm:(⟨bx,true,.cells c el (0,0)⟩:Ent)∈G) (hu:∀e∈F,e∈G):NamesK S w0 G bx names:=by
 obtain⟨_,e,_,h⟩:=h
 cases e
 exact⟨fun q hq=>let ⟨u,h1,h2⟩:=h q hq;⟨u,Kn.of hm (by rw[Nat.zero_add,Nat.mul_one];exact h1),h2.up hu⟩⟩
theorem flowC_nm (g:FlowM) (rv sv bv:Value) (n:Bs):(flowC g rv sv bv).setIfInBounds (0+0) (str n)=flowC {g with nm:=n} rv sv bv:=rfl
theorem back_c {nm:Bs} {names:Int→List Bs} {nv:Value} (hb:SlK S w0 F (byv b) b.length bsv) (hB:b.length≤1099511627776) (hN:NamesV S w0 F names nv) (hl:∀q,(names q).length≤65535):
 SLF Tryz.prog S w0 F 25 [str nm,bsv,nv] [] (fun e post=>∃v,e=.returned v∧∃u,v=.tuple #[u,.int .i64 (backP nm b names).2]∧FlowK S w0 post (backP nm b names).1 u):=by
 refine AE fun w hi=>?_
 simp only[List.nil_append] at hi
 have hcd:=fun {F'} (hu:∀e∈F,e∈F')=>code_c (SlK.up hb hu) hB
 obtain⟨nc,rfl,_,_⟩:=id hN
 unfold backP
 cases hc:codeP b with
 | none=>
   unfold CodeQ at hcd
   rw[hc] at hcd
   refine Ak Tryz.func25 rfl rfl (hi) ?_
   repeat' (first|refine Ag rfl ?_|refine Aj rfl ?_|refine Al ?_|refine An ?_|refine A5 rfl ?_|refine C5 Tryz.func25 (.cellA rfl U26 rfl AO Y13 rfl (.tmp rfl (.nil))) (fun w_ hi_=>?_)|refine Ab 0 ?_;try refine AL (cs:=nc) rfl rfl rfl rfl (fun bx hbx=>?_);try refine A8 AO rfl rfl rfl rfl (fun b_ hb_=>?_);try refine Za rfl (Aa N23 ?_)|refine Ab 1 ?_;try refine Zm rfl ?_;try((refine AQ (pre:=[]) (Take.nil _) (CallR.val rfl en49) rfl rfl (hcd Y12) ?_;rintro v post ⟨rfl,rfl⟩;simp only[List.nil_append])<;>try refine Zm rfl (Zv (Ae rfl rfl) (Zv (Ae rfl rfl) (Za rfl (Za rfl (Aa N23 ?_))))))|refine Ab 2 ?_;try refine Zm rfl (Zv (Ci rfl) (Aa N23 ?_))|refine Ab 3 ?_;try refine Zv (Cw pl26 AO rfl) ?_;try refine AI rfl rfl rfl Cj Y3 Y15 rfl rfl ?_;try refine Za rfl (Aa N23 ?_))
   exact⟨[],⟨_,rfl,_,rfl,flow0K⟩,hi_.subset Y5⟩
 | some f =>
   unfold CodeQ at hcd
   rw[hc] at hcd
   obtain⟨s,hd⟩:=codeP_dec hc
   have hdn:=decN_eq b (νB names) false
   rw[hd] at hdn
   replace hdn:decN b (νB names) false=some ((renF (νB names) f false).1,emb s (renF (νB names) f false).2):=hdn
   have hdc:∀ {F'} {bx bl:Nat},(∀e∈F,e∈F')→(⟨bx,true,.cells nc 44 (0,0)⟩:Ent)∈F'→SLF Tryz.prog S w0 F' 43 [bsv,.func (.func 50) #[] #[pv bx 0,pv bl 0]] [⟨bl,true,.cells #[.bool false] 4 (0,0)⟩] (fun e post=>∃v,e=.returned v∧DecQ S w0 (nB bx bl names hl) b bsv (decN b (νB names) false) v post):=fun {F' bx bl} hu hm=>decoded_c (N:=nB bx bl names hl) (t:=false) (SlK.up hb hu) (hN.box hm hu) rfl
   rw[hdn] at hdc
   have hgl:=decN_flowL hdn
   have hsnd:∀ {F':List Ent} {v:Value},FlowK S w0 F' {(renF (νB names) f false).1 with nm:=nm} v→Yields S w0 F' 40 [v] (.bool (chkOk {(renF (νB names) f false).1 with nm:=nm})):=fun h=>sound_c h (FlowL.nm hgl nm)
   obtain⟨g,hg⟩:∃g,g=(renF (νB names) f false).1:=⟨_,rfl⟩
   obtain⟨lk,hlk⟩:∃lk,lk=(renF (νB names) f false).2:=⟨_,rfl⟩
   simp only[←hg,←hlk] at hdn hdc hgl hsnd ⊢
   clear hg hlk
   refine Ak Tryz.func25 rfl rfl (hi) ?_
   repeat' (first|refine Ag rfl ?_|refine Aj rfl ?_|refine Al ?_|refine An ?_|refine Az rfl ?_|refine A6 ?_|refine AB ?_|refine Ab 0 ?_;try refine AL (cs:=nc) rfl rfl rfl rfl (fun bx hbx=>?_);try refine A8 AO rfl rfl rfl rfl (fun b_ hb_=>?_);try refine Za rfl (Aa N23 ?_)|refine Ab 1 ?_;try refine Zm rfl ?_;try((refine AQ (pre:=[]) (Take.nil _) (CallR.val rfl en49) rfl rfl (hcd Y12) ?_;rintro v post ⟨rb,s',rfl,hs',b2,c2,r2,b3,c3,r3,_,h2,h3,rfl,hr,rfl⟩;simp only[List.append_assoc,List.cons_append,List.nil_append])<;>try refine Zm rfl (Zv (Ae rfl rfl) (Zv (Ae rfl rfl) (Za rfl (Za rfl (Aa N23 ?_))))))|refine Ab 2 ?_;try refine Zm rfl (Zv (BN rfl) (Aa N23 ?_))|refine Ab 4 ?_;try refine A8 inf4 rfl rfl rfl rfl (fun b_ hb_=>?_);try refine AT rfl rfl rfl sz4 Y3 rfl rfl ?_;try refine Aa N23 ?_|refine Ab 5 ?_;try refine Zm rfl (Zv (Bm rfl rfl) ?_);try((refine AQ Y6 (CallR.val rfl en43) rfl rfl (hdc Y12 Y13) ?_;rintro v post ⟨_,rb',_,X,rfl,⟨b2',c2',r2',b3',c3',r3',Ln',h2',h3',rfl,hr',rfl⟩,rfl,⟨rv,sv,bv,rfl,⟨a1,c1,rfl,hc1,k1⟩,⟨a4,c4,rfl,hc4,k4⟩,⟨ps,hps,⟨a5,c5,rfl,hc5,k5⟩,k6⟩⟩⟩;simp only[List.append_assoc,List.cons_append,List.nil_append])<;>try refine Zm rfl (Zv (Ae rfl rfl) (Zv (Ae rfl rfl) (Zv (Ae rfl rfl) ?_)));try refine A8 AO rfl rfl rfl rfl (fun b_ hb_=>?_);try refine AI rfl rfl (BF _ _ _ _ _ _ _ _ _ _) Cj Y3 (by rfl) rfl rfl ?_;try refine Za rfl (Za rfl (Aa N23 ?_)))|refine Ab 6 ?_;try refine Zm rfl (Zf fo26_0 rfl ?_);try((refine AK (v:=str nm) (off:=0+0) (c:=flowC g (.slice a1 g.regs.length c1) (.slice a4 g.raises.length c4) (.slice a5 g.blks.length c5)) rfl rfl rfl sz9 Y3 (by show 0 < 6;decide) (.inr (Nat.zero_le _)) rfl rfl ?_;rw[flowC_nm])<;>try refine Aa N23 ?_))
   rename_i bt hbt bl hbl
   revert b_
   intro b4 hb4
   have hfk:FlowK S w0 X {g with nm:=nm} (.agg (flowC {g with nm:=nm} (.slice a1 g.regs.length c1) (.slice a4 g.raises.length c4) (.slice a5 g.blks.length c5))):=⟨_,_,_,rfl,⟨a1,c1,rfl,hc1,k1⟩,⟨a4,c4,rfl,hc4,k4⟩,⟨ps,hps,⟨a5,c5,rfl,hc5,k5⟩,k6⟩⟩
   simp only[emb]
   refine A1 (E':=[(11,pv b4 0),(7,.int .i64 0),(6,pv bt 0),(10,pv bl 0),(0,str nm)]) Y14 ?_
   have hq:∀ {e1 e2 e3:Ent} {A B G:List Ent},Yields S w0 (e1::e2::(A++(B++(e3::(X++G))))) 40 [.agg (flowC {g with nm:=nm} (.slice a1 g.regs.length c1) (.slice a4 g.raises.length c4) (.slice a5 g.blks.length c5))] (.bool (chkOk {g with nm:=nm})):=fun {e1 e2 e3 A B G}=>hsnd (hfk.up fun x h=>.tail _ (.tail _ (List.mem_append_right _ (List.mem_append_right _ (.tail _ (List.mem_append_left _ h))))))
   cases lk with
   | true=>
     repeat' (first|refine Ag rfl ?_|refine Aj rfl ?_|refine Al ?_|refine An ?_|refine A5 rfl ?_|refine C5 Tryz.func25 (.cellA rfl U26 rfl AO Y13 rfl (.tmp rfl (.nil))) (fun w_ hi_=>?_)|refine Ab 7 ?_;try refine Zv (Ac U4 rfl rfl Y0 Y4) ?_;try refine Za rfl (Aa N23 ?_)|refine Ab 8 ?_;try refine Zv (Cw pl26 AO rfl) ?_;try refine AI rfl rfl rfl Cj Y3 Y15 rfl rfl ?_;try refine Za rfl (Aa N23 ?_))
     exact⟨[],⟨_,rfl,_,rfl,flow0K⟩,hi_.subset Y5⟩
   | false=>
     rw[if_neg Y26]
     by_cases hs:chkOk {g with nm:=nm}=true
     · rw [if_pos hs]
       rw[hs] at hq
       repeat' (first|refine Ag rfl ?_|refine Aj rfl ?_|refine Al ?_|refine An ?_|refine Az rfl ?_|refine AH ?_|refine AB ?_|refine C5 Tryz.func25 (.cellA rfl U26 rfl AO Y13 rfl (.tmp rfl (.nil))) (fun w_ hi_=>?_)|refine Ab 7 ?_;try refine Zv (Ac U4 rfl rfl Y0 Y4) ?_;try refine Za rfl (Aa N23 ?_)|refine Ab 9 ?_;try((refine Zv (AJ (cs:=flowC {g with nm:=nm} (.slice a1 g.regs.length c1) (.slice a4 g.raises.length c4) (.slice a5 g.blks.length c5)) U26 rfl AO rfl (fun j h=>Kn.of (.head _) (by rw[Nat.zero_add];exact Array.getElem?_eq_getElem h)) rfl) ?_)<;>try refine Zv (Aw (CallR.val rfl en40) hq) (Zv (BN rfl) (Za rfl (Aa N23 ?_))))|refine Ab 11 ?_;try((refine Zv (AJ (cs:=flowC {g with nm:=nm} (.slice a1 g.regs.length c1) (.slice a4 g.raises.length c4) (.slice a5 g.blks.length c5)) U26 rfl AO rfl (fun j h=>Kn.of (.head _) (by rw[Nat.zero_add];exact Array.getElem?_eq_getElem h)) rfl) ?_)<;>try refine AI rfl rfl (BF _ _ _ _ _ _ _ _ _ _) Cj Y3 (by rfl) rfl rfl ?_;try refine Za rfl (Aa N23 ?_)))
       exact⟨X,⟨_,rfl,_,rfl,hfk⟩,hi_.subset (by repeat(first|exact List.Sublist.refl _|apply List.Sublist.cons_cons|apply List.Sublist.cons|apply List.Sublist.append (List.Sublist.refl _)|apply List.sublist_append_of_sublist_right))⟩
     · rw [if_neg hs]
       rw[show chkOk {g with nm:=nm}=false by simpa using hs] at hq
       repeat' (first|refine Ag rfl ?_|refine Aj rfl ?_|refine Al ?_|refine An ?_|refine A5 rfl ?_|refine Az rfl ?_|refine C5 Tryz.func25 (.cellA rfl U26 rfl AO Y13 rfl (.tmp rfl (.nil))) (fun w_ hi_=>?_)|refine Ab 7 ?_;try refine Zv (Ac U4 rfl rfl Y0 Y4) ?_;try refine Za rfl (Aa N23 ?_)|refine Ab 9 ?_;try((refine Zv (AJ (cs:=flowC {g with nm:=nm} (.slice a1 g.regs.length c1) (.slice a4 g.raises.length c4) (.slice a5 g.blks.length c5)) U26 rfl AO rfl (fun j h=>Kn.of (.head _) (by rw[Nat.zero_add];exact Array.getElem?_eq_getElem h)) rfl) ?_)<;>try refine Zv (Aw (CallR.val rfl en40) hq) (Zv (Ci rfl) (Za rfl (Aa N23 ?_))))|refine Ab 10 ?_;try refine Zv (Cw pl26 AO rfl) ?_;try refine AI rfl rfl rfl Cj Y3 Y15 rfl rfl ?_;try refine Za rfl (Aa N23 ?_))
       exact⟨[],⟨_,rfl,_,rfl,flow0K⟩,hi_.subset Y5⟩
end
end Go.Sl
namespace Go.Sl
open Go Go.RowKit Go.Shelf Go.Proofs
def Opn {H:Type} (enc:TypeId×Value→H) (W:World) (t:TypeId) {α:Type} (f:α→List Value) (G:α→Prop):Prop:=
 ∀n cs x,DataW.trod enc Tryz.prog W 0 (fun _=>true) true n t cs=some x→∃y,cs=f y∧G y
section
variable {H:Type} {enc:TypeId×Value→H} {W:World}
theorem CR:Opn enc W 3 (fun n:Int=>[.int .i64 n]) inI:=fun n cs x h=>by
 obtain⟨m,rfl,_,hw⟩:=DataW.trod_int U3 h
 simp[Lit.wf,IntKind.min,IntKind.max,IntKind.signed,IntKind.bits] at hw
 exact⟨m,rfl,by unfold inI;omega⟩
theorem opn_u8:Opn enc W 5 (fun n:Int=>[.int .u8 n]) (fun n=>0≤n∧n≤255):=fun n cs x h=>by
 obtain⟨m,rfl,_,hw⟩:=DataW.trod_int U5 h
 simp[Lit.wf,IntKind.min,IntKind.max,IntKind.signed,IntKind.bits] at hw
 exact⟨m,rfl,by omega⟩
theorem str_of (s:ByteArray):str s.data.toList=Value.string s:=by rw[str,show(⟨s.data.toList.toArray⟩:ByteArray)=s by simp]
theorem opn_str:Opn enc W 9 (fun s:Bs=>[str s]) (fun _=>True):=fun n cs x h=>by
 obtain⟨s,rfl,_⟩:=DataW.trod_string U9 h
 exact⟨s.data.toList,by simp only[str_of],trivial⟩
theorem list_choice {α:Type} {P:Nat→α→Prop}:∀(n:Nat),(∀i,i < n→∃y,P i y)→∃l:List α,l.length=n∧∀i (h:i < l.length),P i l[i]
 | 0,_=>⟨[],rfl,fun i h=>by simp at h⟩
 | n + 1,h=>by
   obtain⟨l,h1,h2⟩:=list_choice n fun i hi=>h i Y9
   obtain⟨y,hy⟩:=h n Y9
   refine⟨l++[y],by simp[h1],fun i hi=>?_⟩
   by_cases hn:i < l.length
   · rw[List.getElem_append_left hn];exact h2 i hn
   · have:i=l.length:=by simp at hi;omega
     subst this
     rw[List.getElem_append_right (Nat.le_refl _)]
     simp only[Nat.sub_self,List.getElem_cons_zero]
     rw[h1];exact hy
theorem plain_of {a:Addr} {v:Value} (h:W.cell? a=some v):a.spot=none∧a.block < W.heap.size:=by
 unfold World.cell? at h
 cases hb:W.heap[a.block]? with
 | none=>rw[hb] at h;simp at h
 | some o=>
   refine⟨?_,(Array.getElem?_eq_some_iff.1 hb).1⟩
   rw[hb] at h
   cases o<;>simp at h
   simpa using h.1
theorem opn_slice {t e m:Nat} {α:Type} {f:α→List Value} {G:α→Prop} (ht:Tryz.prog.underlying t=some (.slice e)) (hsz:Tryz.prog.cellsOf e=m) (hm:0 < m) (hf:∀y,(f y).length=m) (h:Opn enc W e f G):
 Opn enc W t (fun v:Value=>[v]) (fun v=>∃l:List α,SlK none_ W [] (rowV f l) l.length v∧∀y∈l,G y):=fun n cs x hx=>by
 rcases DataW.trod_slice ht hx with⟨rfl,_⟩|⟨a,len,cap,elems,rest,k,_,rfl,_,_,hl,_,hlen,hel,_⟩
 · exact⟨_,rfl,[],⟨none,0,rfl,Nat.le_refl _,.inl rfl⟩,by simp⟩
 · refine ⟨_,rfl,?_⟩
   obtain ⟨l,h1,h2⟩:=list_choice (P:=fun i y=>W.cells? 0 (a.add (i*m)) m=some (f y)∧G y) len fun i hi=>by
    have:=hel i hi
    rw[List.getElem?_eq_getElem Y9,Option.bind_eq_some_iff,hsz] at this
    obtain⟨cs,h3,h4⟩:=this
    obtain⟨y,rfl,h5⟩:=h k cs _ h4
    exact⟨y,h3,h5⟩
   refine ⟨l,⟨some a,cap,by rw[h1],by omega,?_⟩,fun y hy=>by
    obtain⟨i,hi,rfl⟩:=List.getElem_of_mem hy
    exact(h2 i hi).2⟩
   by_cases h0:l=[]
   · left;rw[h0];rfl
   · right
     have hc:∀i (hi:i < l.length) j,j < m→W.cell? ((a.add (i*m)).add j)=(f l[i])[j]?:=fun i hi j hj=>(World.cells?_some (h2 i hi).1).2.2 j hj
     have hp:=hc 0 (List.length_pos_iff.2 h0) 0 hm
     have hfl:0 < (f (l[0]'(List.length_pos_iff.2 h0))).length:=by rw[hf];exact hm
     rw[List.getElem?_eq_getElem hfl] at hp
     have h3:=plain_of hp
     obtain⟨b,off,spot⟩:=a
     have hs:spot=none:=by simpa [Addr.add] using h3.1
     subst hs
     refine⟨b,off,rfl,fun i hi=>?_⟩
     rw[Ba f hf] at hi
     have hq:i / m < l.length:=Nat.div_lt_of_lt_mul (by rw[Nat.mul_comm];exact hi)
     have hr:i % m < m:=Nat.mod_lt _ hm
     have hi2:i / m*m+i % m=i:=by rw[Nat.mul_comm];exact Nat.div_add_mod i m
     have h4:=hc (i / m) hq (i % m) hr
     have hg:=C9 f hf l (i / m) (i % m) hq hr
     rw[hi2] at hg
     rw[←hg,List.getElem?_eq_getElem (by rw[Ba f hf];exact hi)] at h4
     have h5:((⟨b,off,none⟩:Addr).add (i / m*m)).add (i % m)=⟨b,off+i,none⟩:=by
      rw[Go.WideShapes.add_plain,Go.WideShapes.add_plain,Nat.add_assoc,hi2]
     rw[h5] at h4
     exact .inr ⟨(plain_of h4).2,fun h=>h,h4⟩
theorem Bi {t n:Nat} {cs:List Value} {x:DataW H×List MemPlace} {L:List (String×TypeId×Nat)} (ht:Tryz.prog.underlying t=some (.struct (Tryz.prog.fieldsOf t))) (fl:(Tryz.prog.fieldsOf t).toList.map fview=L) (h:DataW.trod enc Tryz.prog W 0 (fun _=>true) true n t cs=some x)
 (i:Nat) {nm:String} {ty off:Nat} (hi:L[i]?=some (nm,ty,off)):∃k y,DataW.trod enc Tryz.prog W 0 (fun _=>true) true k ty ((cs.drop off).take (Tryz.prog.cellsOf ty))=some y:=by
 obtain⟨xs,k,_,_,hl,hxl,hx⟩:=DataW.trod_struct ht h
 rw[←fl,List.getElem?_map] at hi
 obtain⟨f,hf,h2⟩:=Option.map_eq_some_iff.1 hi
 have hf':(Tryz.prog.fieldsOf t)[i]?=some f:=by rw[←Array.getElem?_toList];exact hf
 have h3:=hx i f hf'
 have hlt:i < xs.length:=by rw[hxl];exact(Array.getElem?_eq_some_iff.1 hf').1
 rw[List.getElem?_eq_getElem hlt] at h3
 simp only[fview,Prod.mk.injEq] at h2
 obtain⟨_,rfl,rfl⟩:=h2
 exact⟨k,_,h3⟩
theorem opn_len {t n:Nat} {cs:List Value} {x:DataW H×List MemPlace} (ht:Tryz.prog.underlying t=some (.struct (Tryz.prog.fieldsOf t))) (h:DataW.trod enc Tryz.prog W 0 (fun _=>true) true n t cs=some x):cs.length=Tryz.prog.cellsOf t:=by
 obtain⟨xs,k,_,_,hl,_⟩:=DataW.trod_struct ht h
 exact hl
theorem c_i64:Tryz.prog.cellsOf 3=1:=by kernel_rfl
theorem c_u8:Tryz.prog.cellsOf 5=1:=by kernel_rfl
theorem c_str:Tryz.prog.cellsOf 9=1:=by kernel_rfl
theorem c_ints:Tryz.prog.cellsOf 59=1:=by kernel_rfl
theorem c_u8s:Tryz.prog.cellsOf 22=1:=by kernel_rfl
theorem c_strs:Tryz.prog.cellsOf 23=1:=by kernel_rfl
theorem c_inss:Tryz.prog.cellsOf 65=1:=by kernel_rfl
theorem c_whens:Tryz.prog.cellsOf 66=1:=by kernel_rfl
theorem c_blks:Tryz.prog.cellsOf 24=1:=by kernel_rfl
theorem c_ins:Tryz.prog.cellsOf 73=8:=by kernel_rfl
theorem c_end:Tryz.prog.cellsOf 68=9:=by kernel_rfl
theorem c_when:Tryz.prog.cellsOf 75=2:=by kernel_rfl
theorem c_blk:Tryz.prog.cellsOf 70=10:=by kernel_rfl
theorem c_flow:Tryz.prog.cellsOf 26=6:=by kernel_rfl
theorem rowV_ints (l:List Int):rowV (fun n:Int=>[Value.int .i64 n]) l=intsV l:=by
 unfold rowV intsV
 induction l with
 | nil=>rfl
 | cons a l ih=>rw[List.flatMap_cons,ih];rfl
theorem rowV_regs (l:List Int):rowV (fun n:Int=>[Value.int .u8 n]) l=regV l:=by
 unfold rowV regV
 induction l with
 | nil=>rfl
 | cons a l ih=>rw[List.flatMap_cons,ih];rfl
theorem rowV_strs (l:List Bs):rowV (fun s:Bs=>[str s]) l=strsV l:=by
 unfold rowV strsV
 induction l with
 | nil=>rfl
 | cons a l ih=>rw[List.flatMap_cons,ih];rfl
theorem opn_ints:Opn enc W 59 (fun v:Value=>[v]) (fun v=>∃l:List Int,SlK none_ W [] (intsV l) l.length v∧∀n∈l,inI n):=fun n cs x h=>by
 obtain⟨v,h1,l,h2,h3⟩:=opn_slice U59 c_i64 Y22 (fun _=>rfl) CR n cs x h
 exact⟨v,h1,l,by rwa [rowV_ints] at h2,h3⟩
theorem opn_regs:Opn enc W 22 (fun v:Value=>[v]) (fun v=>∃l:List Int,SlK none_ W [] (regV l) l.length v∧∀n∈l,0≤n∧n≤255):=fun n cs x h=>by
 obtain⟨v,h1,l,h2,h3⟩:=opn_slice U22 c_u8 Y22 (fun _=>rfl) opn_u8 n cs x h
 exact⟨v,h1,l,by rwa [rowV_regs] at h2,h3⟩
theorem opn_strs:Opn enc W 23 (fun v:Value=>[v]) (fun v=>∃l:List Bs,SlK none_ W [] (strsV l) l.length v):=fun n cs x h=>by
 obtain⟨v,h1,l,h2,h3⟩:=opn_slice U23 c_str Y22 (fun _=>rfl) opn_str n cs x h
 exact⟨v,h1,l,by rwa [rowV_strs] at h2⟩
end
end Go.Sl
namespace Go.Sl
open Go Go.RowKit Go.Shelf Go.Proofs
theorem ins_fl:(Tryz.prog.fieldsOf 73).toList.map fview=[("Op",5,0),("To",3,1),("A",3,2),("B",3,3),("Low",3,4),("High",3,5),("Name",9,6),("Args",59,7)]:=by kernel_rfl
theorem ins_fs:Tryz.prog.underlying 73=some (.struct (Tryz.prog.fieldsOf 73)):=by kernel_rfl
theorem end_fl:(Tryz.prog.fieldsOf 68).toList.map fview=[("Kind",5,0),("A",3,1),("B",3,2),("To",3,3),("Else",3,4),("Name",9,5),("Args",59,6),("Whens",66,7),("Others",3,8)]:=by kernel_rfl
theorem end_fs:Tryz.prog.underlying 68=some (.struct (Tryz.prog.fieldsOf 68)):=by kernel_rfl
theorem when_fl:(Tryz.prog.fieldsOf 75).toList.map fview=[("Name",9,0),("To",3,1)]:=by kernel_rfl
theorem when_fs:Tryz.prog.underlying 75=some (.struct (Tryz.prog.fieldsOf 75)):=by kernel_rfl
theorem blk_fl:(Tryz.prog.fieldsOf 70).toList.map fview=[("Ins",65,0),("End",68,1)]:=by kernel_rfl
theorem blk_fs:Tryz.prog.underlying 70=some (.struct (Tryz.prog.fieldsOf 70)):=by kernel_rfl
theorem flow_fl:(Tryz.prog.fieldsOf 26).toList.map fview=[("Name",9,0),("Args",3,1),("Result",5,2),("Regs",22,3),("Raises",23,4),("Blocks",24,5)]:=by kernel_rfl
theorem flow_fs:Tryz.prog.underlying 26=some (.struct (Tryz.prog.fieldsOf 26)):=by kernel_rfl
theorem len2:∀ {cs:List Value},cs.length=2→∃a0 a1,cs=[a0,a1]
 | [a0,a1],_=>⟨a0,a1,rfl⟩
theorem len6:∀ {cs:List Value},cs.length=6→∃a0 a1 a2 a3 a4 a5,cs=[a0,a1,a2,a3,a4,a5]
 | [a0,a1,a2,a3,a4,a5],_=>⟨a0,a1,a2,a3,a4,a5,rfl⟩
theorem len8:∀ {cs:List Value},cs.length=8→∃a0 a1 a2 a3 a4 a5 a6 a7,cs=[a0,a1,a2,a3,a4,a5,a6,a7]
 | [a0,a1,a2,a3,a4,a5,a6,a7],_=>⟨a0,a1,a2,a3,a4,a5,a6,a7,rfl⟩
theorem len9:∀ {cs:List Value},cs.length=9→∃a0 a1 a2 a3 a4 a5 a6 a7 a8,cs=[a0,a1,a2,a3,a4,a5,a6,a7,a8]
 | [a0,a1,a2,a3,a4,a5,a6,a7,a8],_=>⟨a0,a1,a2,a3,a4,a5,a6,a7,a8,rfl⟩
theorem len_ex:∀ {n:Nat} {cs:List Value},cs.length=n+1→∃c r,cs=c::r∧r.length=n
 | n,c::r,h=>⟨c,r,rfl,by simpa using h⟩
section
variable {H:Type} {enc:TypeId×Value→H} {W:World}
theorem opn_when:Opn enc W 75 (fun p:Bs×Int=>[str p.1,.int .i64 p.2]) (fun p=>inI p.2):=fun n cs x h=>by
 have hl:=(opn_len when_fs h).trans c_when
 obtain⟨k0,y0,h0⟩:=Bi when_fs when_fl h 0 rfl
 obtain⟨k1,y1,h1⟩:=Bi when_fs when_fl h 1 rfl
 rw[c_str] at h0
 rw[c_i64] at h1
 obtain⟨v0,e0,_⟩:=opn_str _ _ _ h0
 obtain⟨v1,e1,g1⟩:=CR _ _ _ h1
 obtain⟨a0,a1,rfl⟩:=len2 hl
 simp at e0 e1
 subst e0 e1
 exact⟨(v0,v1),rfl,g1⟩
theorem opn_whens:Opn enc W 66 (fun v:Value=>[v]) (fun v=>∃l:List (Bs×Int),SlK none_ W [] (whensV l) l.length v∧∀p∈l,inI p.2):=fun n cs x h=>by
 obtain⟨v,h1,l,h2,h3⟩:=opn_slice U66 c_when Y22 (fun _=>rfl) opn_when n cs x h
 exact⟨v,h1,l,h2,h3⟩
structure InsI (i:InsM):Prop where
 op:0≤i.op∧i.op≤255
 rng:∀n∈[i.op,i.to,i.a,i.b,i.lo,i.hi],inI n
 args:∀n∈i.args,inI n
structure EndI (e:EndM):Prop where
 kd:0≤e.kd∧e.kd≤255
 rng:∀n∈[e.kd,e.a,e.b,e.to,e.el,e.ot],inI n
 args:∀n∈e.args,inI n
 ws:∀w∈e.ws,inI w.2
theorem opn_ins:Opn enc W 73 insP (fun p=>ArgsK none_ W [] p.1.args p.2∧InsI p.1):=fun n cs x h=>by
 have hl:=(opn_len ins_fs h).trans c_ins
 obtain⟨k0,y0,h0⟩:=Bi ins_fs ins_fl h 0 rfl
 obtain⟨k1,y1,h1⟩:=Bi ins_fs ins_fl h 1 rfl
 obtain⟨k2,y2,h2⟩:=Bi ins_fs ins_fl h 2 rfl
 obtain⟨k3,y3,h3⟩:=Bi ins_fs ins_fl h 3 rfl
 obtain⟨k4,y4,h4⟩:=Bi ins_fs ins_fl h 4 rfl
 obtain⟨k5,y5,h5⟩:=Bi ins_fs ins_fl h 5 rfl
 obtain⟨k6,y6,h6⟩:=Bi ins_fs ins_fl h 6 rfl
 obtain⟨k7,y7,h7⟩:=Bi ins_fs ins_fl h 7 rfl
 rw[c_u8] at h0
 rw[c_i64] at h1 h2 h3 h4 h5
 rw[c_str] at h6
 rw[c_ints] at h7
 obtain⟨v0,e0,g0⟩:=opn_u8 _ _ _ h0
 obtain⟨v1,e1,g1⟩:=CR _ _ _ h1
 obtain⟨v2,e2,g2⟩:=CR _ _ _ h2
 obtain⟨v3,e3,g3⟩:=CR _ _ _ h3
 obtain⟨v4,e4,g4⟩:=CR _ _ _ h4
 obtain⟨v5,e5,g5⟩:=CR _ _ _ h5
 obtain⟨v6,e6,_⟩:=opn_str _ _ _ h6
 obtain⟨v7,e7,l,g7,g8⟩:=opn_ints _ _ _ h7
 obtain⟨a0,a1,a2,a3,a4,a5,a6,a7,rfl⟩:=len8 hl
 simp at e0 e1 e2 e3 e4 e5 e6 e7
 subst e0 e1 e2 e3 e4 e5 e6 e7
 refine⟨(⟨v0,v1,v2,v3,v4,v5,v6,l⟩,a7),rfl,g7,g0,?_,g8⟩
 intro m hm
 simp only[List.mem_cons,List.not_mem_nil,or_false] at hm
 rcases hm with rfl|rfl|rfl|rfl|rfl|rfl
 · exact⟨by omega,by omega⟩
 all_goals assumption
theorem opn_inss:Opn enc W 65 (fun v:Value=>[v]) (fun v=>∃l:List InsM,InsLK none_ W [] l v∧∀i∈l,InsI i):=fun n cs x h=>by
 obtain⟨v,h1,l,h2,h3⟩:=opn_slice U65 c_ins Y22 C7 opn_ins n cs x h
 refine⟨v,h1,l.map Prod.fst,⟨l,rfl,by rw[List.length_map];exact h2,fun p hp=>(h3 p hp).1⟩,fun i hi=>?_⟩
 obtain⟨p,hp,rfl⟩:=List.mem_map.1 hi
 exact(h3 p hp).2
theorem opn_end:Opn enc W 68 (fun p:EndM×Value×Value=>endC p.1 p.2.1 p.2.2) (fun p=>ArgsK none_ W [] p.1.args p.2.1∧WhensK none_ W [] p.1.ws p.2.2∧EndI p.1):=fun n cs x h=>by
 have hl:=(opn_len end_fs h).trans c_end
 obtain⟨k0,y0,h0⟩:=Bi end_fs end_fl h 0 rfl
 obtain⟨k1,y1,h1⟩:=Bi end_fs end_fl h 1 rfl
 obtain⟨k2,y2,h2⟩:=Bi end_fs end_fl h 2 rfl
 obtain⟨k3,y3,h3⟩:=Bi end_fs end_fl h 3 rfl
 obtain⟨k4,y4,h4⟩:=Bi end_fs end_fl h 4 rfl
 obtain⟨k5,y5,h5⟩:=Bi end_fs end_fl h 5 rfl
 obtain⟨k6,y6,h6⟩:=Bi end_fs end_fl h 6 rfl
 obtain⟨k7,y7,h7⟩:=Bi end_fs end_fl h 7 rfl
 obtain⟨k8,y8,h8⟩:=Bi end_fs end_fl h 8 rfl
 rw[c_u8] at h0
 rw[c_i64] at h1 h2 h3 h4 h8
 rw[c_str] at h5
 rw[c_ints] at h6
 rw[c_whens] at h7
 obtain⟨v0,e0,g0⟩:=opn_u8 _ _ _ h0
 obtain⟨v1,e1,g1⟩:=CR _ _ _ h1
 obtain⟨v2,e2,g2⟩:=CR _ _ _ h2
 obtain⟨v3,e3,g3⟩:=CR _ _ _ h3
 obtain⟨v4,e4,g4⟩:=CR _ _ _ h4
 obtain⟨v5,e5,_⟩:=opn_str _ _ _ h5
 obtain⟨v6,e6,l,g6,g7⟩:=opn_ints _ _ _ h6
 obtain⟨v7,e7,m,g9,g10⟩:=opn_whens _ _ _ h7
 obtain⟨v8,e8,g8⟩:=CR _ _ _ h8
 obtain⟨a0,a1,a2,a3,a4,a5,a6,a7,a8,rfl⟩:=len9 hl
 simp at e0 e1 e2 e3 e4 e5 e6 e7 e8
 subst e0 e1 e2 e3 e4 e5 e6 e7 e8
 refine⟨(⟨v0,v1,v2,v3,v4,v5,l,m,v8⟩,a6,a7),rfl,g6,g9,g0,?_,g7,g10⟩
 intro m hm
 simp only[List.mem_cons,List.not_mem_nil,or_false] at hm
 rcases hm with rfl|rfl|rfl|rfl|rfl|rfl
 · exact⟨by omega,by omega⟩
 all_goals assumption
theorem opn_blk:Opn enc W 70 pbC (fun p=>PBkn none_ W [] p∧(∀i∈p.blk.ins,InsI i)∧EndI p.blk.en):=fun n cs x h=>by
 have hl:=(opn_len blk_fs h).trans c_blk
 obtain⟨k0,y0,h0⟩:=Bi blk_fs blk_fl h 0 rfl
 obtain⟨k1,y1,h1⟩:=Bi blk_fs blk_fl h 1 rfl
 rw[c_inss] at h0
 rw[c_end] at h1
 obtain⟨v0,e0,l,g0,g1⟩:=opn_inss _ _ _ h0
 obtain⟨⟨en,av,wv⟩,e1,g2,g3,g4⟩:=opn_end _ _ _ h1
 obtain⟨a0,r,rfl,hl⟩:=len_ex hl
 simp only[List.drop_zero,List.take_succ_cons,List.take_zero,List.cons.injEq,and_true] at e0
 simp only[List.drop_succ_cons,List.drop_zero] at e1
 rw[List.take_of_length_le Y9] at e1
 subst e0 e1
 exact⟨⟨⟨l,en⟩,a0,av,wv,[]⟩,rfl,⟨g0,g2,g3⟩,g1,g4⟩
theorem opn_blks:Opn enc W 24 (fun v:Value=>[v]) (fun v=>∃l:List BlkM,BlksLK none_ W [] l v∧∀b∈l,(∀i∈b.ins,InsI i)∧EndI b.en):=fun n cs x h=>by
 obtain⟨v,h1,l,h2,h3⟩:=opn_slice U24 c_blk Y22 BE opn_blk n cs x h
 refine⟨v,h1,l.map PB.blk,⟨l,rfl,by rw[List.length_map];exact h2,fun p hp=>(h3 p hp).1⟩,fun b hb=>?_⟩
 obtain⟨p,hp,rfl⟩:=List.mem_map.1 hb
 exact(h3 p hp).2
theorem opn_flow {n:Nat} {cs:List Value} {x:DataW H×List MemPlace} (h:DataW.trod enc Tryz.prog W 0 (fun _=>true) true n 26 cs=some x):∃m:FlowM,FlowK none_ W [] m (.agg cs.toArray)∧FlowI m:=by
 have hl:=(opn_len flow_fs h).trans c_flow
 obtain⟨k0,y0,h0⟩:=Bi flow_fs flow_fl h 0 rfl
 obtain⟨k1,y1,h1⟩:=Bi flow_fs flow_fl h 1 rfl
 obtain⟨k2,y2,h2⟩:=Bi flow_fs flow_fl h 2 rfl
 obtain⟨k3,y3,h3⟩:=Bi flow_fs flow_fl h 3 rfl
 obtain⟨k4,y4,h4⟩:=Bi flow_fs flow_fl h 4 rfl
 obtain⟨k5,y5,h5⟩:=Bi flow_fs flow_fl h 5 rfl
 rw[c_str] at h0
 rw[c_i64] at h1
 rw[c_u8] at h2
 rw[c_u8s] at h3
 rw[c_strs] at h4
 rw[c_blks] at h5
 obtain⟨v0,e0,_⟩:=opn_str _ _ _ h0
 obtain⟨v1,e1,g1⟩:=CR _ _ _ h1
 obtain⟨v2,e2,g2⟩:=opn_u8 _ _ _ h2
 obtain⟨v3,e3,l3,g3,g3'⟩:=opn_regs _ _ _ h3
 obtain⟨v4,e4,l4,g4⟩:=opn_strs _ _ _ h4
 obtain⟨v5,e5,l5,g5,g5'⟩:=opn_blks _ _ _ h5
 obtain⟨a0,a1,a2,a3,a4,a5,rfl⟩:=len6 hl
 simp at e0 e1 e2 e3 e4 e5
 subst e0 e1 e2 e3 e4 e5
 exact⟨⟨v0,v1,v2,l3,l4,l5⟩,⟨a3,a4,a5,rfl,g3,g4,g5⟩,⟨g1,g2.1,g2.2⟩,g3',fun b hb i hi=>⟨((g5' b hb).1 i hi).op,((g5' b hb).1 i hi).rng,((g5' b hb).1 i hi).args⟩,fun b hb=>⟨(g5' b hb).2.kd,(g5' b hb).2.rng,(g5' b hb).2.args,(g5' b hb).2.ws⟩⟩
end
end Go.Sl
namespace Go.Proofs.YtnfpoclhmidpgaaGreatDoor
open Go Go.ChangeShapes Go.WideShapes Go.ChangeAt Go.RowKit Go.Sl
theorem laidOut:laidOutB Tryz.prog=true:=by kernel_rfl
theorem own:ownKnob Tryz.prog.godebug=none:=by kernel_rfl
def laidL:List (String×DataW Unit):=Rows.codeWholeRow.laid
theorem laid_plain {W:World} (h:laidMetH Tryz.prog laidL W):laidMet Tryz.prog laidL W:=by
 rwa [MakeChecks.laidMetH_plain _ _ _ Y1] at h
theorem g_pow:Tryz.prog.globalNamed "internal/strconv.uint64pow10" = some 0:=by kernel_rfl
theorem tab_pow {W:World} (h:laidMet Tryz.prog laidL W):Lib.TabIs Tryz.prog W "internal/strconv.uint64pow10" .u64 Lib.pow10Tab:=by
 have h1:=h.tail.tail
 have e:laidMet Tryz.prog (("internal/strconv.uint64pow10",Lib.tabData .u64 Lib.pow10Tab)::laidL.tail.tail.tail) W:=h1
 exact Lib.tabIs_of_head (n:=20) g_pow rfl Tryz.underlying214 Tryz.underlying199 Y1 Y1 e
theorem heap_of_tab {W:World} {name:String} {k:IntKind} {zs:List Int} {g:Nat} (h:Lib.TabIs Tryz.prog W name k zs) (hg:Tryz.prog.globalNamed name=some g):∃el fz,W.heap[g]?=some (.cells (zs.map fun z=>Value.int k z).toArray el fz):=by
 unfold Lib.TabIs World.var? at h
 rw[hg] at h
 simp only[Option.bind_some] at h
 split at h
 · rename_i cs el fz e
   cases h
   exact⟨_,_,e⟩
 · cases h
theorem start {W:World} (h:laidMetH Tryz.prog laidL W):∃F,PowF F∧Inv none_ W F W:=by
 have hl:=laid_plain h
 obtain⟨e4,f4,h4⟩:=heap_of_tab (tab_pow hl) g_pow
 refine⟨[⟨_,false,.cells (Lib.pow10Tab.map fun z=>Value.int .u64 z).toArray e4 f4⟩],⟨⟨_,false,e4,f4,g_pow,.head _⟩⟩,Fr.refl _ _,by simp,?_,?_⟩
 · intro e he
   rw[List.mem_singleton.1 he]
   exact h4
 · intro e he hr
   rw[List.mem_singleton.1 he] at hr
   cases hr
theorem law_of {f:FuncId} {vs:List Value} {W:World} (h:∀F,PowF F→Go.Sl.Yields none_ W F f vs (.bool true)) (hl:laidMetH Tryz.prog laidL W):Calls Tryz.prog f vs.toArray W fun e W'=>e=.returned (.bool true)∧Below W.heap.size W W':=by
 obtain⟨F,hE,hi⟩:=start hl
 have h1:=h F hE
 unfold Go.Sl.Yields SLF at h1
 refine(h1 W (by simpa using hi)).mono ?_
 rintro e W' ⟨post,⟨rfl,rfl⟩,hi2⟩
 exact⟨rfl,hi2.fr.os,hi2.fr.tape,hi2.fr.output,hi2.fr.size,fun k hk=>hi2.fr.block k hk (fun h=>h)⟩
theorem door_shaped (os:Os) (args:Array Value):((World.laidAll Tryz.prog os laidL).forCall (fun _ _=>0) ⟨#[],args,[]⟩).Shaped Tryz.prog:=World.shaped_of_ZipB Y1 Y1
theorem door_met (os:Os) (args:Array Value):laidMetH Tryz.prog laidL ((World.laidAll Tryz.prog os laidL).forCall (fun _ _=>0) ⟨#[],args,[]⟩).memory:=by
 rw[MakeChecks.laidMetH_plain _ _ _ Y1]
 exact laidMet_laidAll args Y1 Y1
theorem wrap {H:Type} {enc:TypeId×Value→H} {os:Os} {f:FuncId} {fn:Func} {s:ChangeSpec} (started:os.Started) (noInit:Tryz.prog.inits.idxOf? f=none) (hfn:Tryz.prog.funcs[f]?=some fn) (args0:Array Value)
 (hok:Input.okWideB Tryz.prog ((World.laidAll Tryz.prog os laidL).forCall (fun _ _=>0) ⟨#[],args0,[]⟩) f ⟨#[],args0,[]⟩=true)
 (hpre:s.preB enc Tryz.prog fn [] false ((World.laidAll Tryz.prog os laidL).forCall (fun _ _=>0) ⟨#[],args0,[]⟩).memory args0 8=true)
 (hsz:s.sizedB enc Tryz.prog fn false ((World.laidAll Tryz.prog os laidL).forCall (fun _ _=>0) ⟨#[],args0,[]⟩).memory args0 8=true)
 (contract:∀(W:World) (base:Nat) (args:Array Value) (ds gs:List (DataW H)) (before:List MemPlace),(∀(j:Nat) t v,fn.params[j]?=some t→args[j]?=some v→Value.okWide Tryz.prog W .any base t v) →
  DataW.Whole enc Tryz.prog fn.params.toList s.vars false W args.toList ds gs before→laidMetH Tryz.prog laidL W→W.ShapedOpen Tryz.prog→Calls Tryz.prog f args W fun e W'=>∃v,e=.returned v∧s.post enc Tryz.prog fn false true false false W args v W'):
 ReturnsInHanded {} Tryz.checked os f .any (fun w args=>(s.pre enc Tryz.prog fn [] false w args∧laidMetH Tryz.prog laidL w)∧sizedMet enc Tryz.prog fn (OpenSpec.ofChange s) false w args) (s.post enc Tryz.prog fn false true false false):=by
 refine returnsInHanded_of_calls own started noInit (ChangeSpec.witness_shaped (enc:=enc) (C:=Tryz.checked) (os:=os) (X:=fun w _=>laidMetH Tryz.prog laidL w) false (World.laidAll Tryz.prog os laidL) args0 8 (World.laidAll_os _ _ _) (door_shaped os args0) hok hpre hsz (door_met os args0)) ?_
 intro w tape i _ shape _ fits met _
 obtain⟨_,_,_,fn2,found,_,_,_,_,values⟩:=fits
 obtain rfl:=Option.some.inj (found.symm.trans hfn)
 obtain⟨⟨⟨ds,gs,before,whole,_⟩,tables⟩,_⟩:=met
 refine(contract (w.forCall tape i) w.heap.size i.args ds gs before values (DataW.Whole.of_heap (by rfl) whole) (tables.of_heap (by rfl)) shape).mono fun e W' ⟨v,he,hp⟩=>?_
 subst he
 exact ChangeSpec.post_blind hp
end Go.Proofs.YtnfpoclhmidpgaaGreatDoor
