/- CodeWhole: the call returns true for every input, and leaves its arguments as they were. Condition: none beyond the card's own. -/
import Derived.Test.YtnfpoclhmidpgaaGreatDoorR5
set_option maxRecDepth 100000
set_option maxHeartbeats 8000000
set_option linter.unusedSimpArgs false
set_option linter.unusedVariables false
namespace Go.Sl
open Go Go.RowKit Go.Shelf Go.Proofs
attribute [local irreducible] Calls
section
variable {C : Cx} {S : Nat → Prop} {w0 : World} {k : List Item} {D : List Deferred} {E : List (Nat × Value)} {H : List Ent} {d : Option Tmp} {t xt yt : TypeId} {p : String} {af : Array Edge} {g : Option (Nat × Bool)} {x y : Operand}
theorem B0 {el : Nat} {l : List UInt8} {v : Value} (hxs : C.P.underlying xt = some (.slice el)) (hys : C.P.underlying yt = some .string) (hel : C.P.underlying el = some (.int .u8)) (hx : opv E x = some v) (hs : SlK S w0 H (byv l) l.length v) :
 OpV C S w0 H D E ⟨d, .convert xt yt x, t, p, af, g⟩ (str l) := by
 obtain ⟨a, cap, rfl, hc, h⟩ := hs
 by_cases hl : l = []
 · subst hl
   refine opv_run' fun tmps w hf hi => ?_
   cases a with
   | none => simp [execOp, convert, hf.opv D hx, Sem.run_bind, A6 hxs, A6 hys, Result.andThen_ok, A6 hel, Conv.bytesToString]; rfl
   | some a => simp [execOp, convert, hf.opv D hx, Sem.run_bind, A6 hxs, A6 hys, Result.andThen_ok, A6 hel, Conv.bytesToString, loadCells, loadCellsFrom]; rfl
 · obtain ⟨b, off, rfl, hk⟩ := h.resolve_left (fun e => hl (by simpa [byv] using e))
   refine ov_ofBytesK hxs hys hel hx fun j hj => ?_
   have := hk j (by simpa [byv] using hj)
   simpa [byv] using this
theorem ov_eqlSD {l m : List UInt8} (hx : opv E x = some (str l)) (hy : opv E y = some (str m)) : OpV C S w0 H D E ⟨d, .binOp .eql xt x y yt, t, p, af, g⟩ (.bool (decide (l = m))) := BU hx hy rfl
end
section
variable {S : Nat → Prop} {w0 : World} {F : List Ent}
theorem same10_c {x y : FlowM} {v u : Value} (hK : FlowK S w0 F x v) (hX : FlowX x) (hK2 : FlowK S w0 F y u) (hX2 : FlowX y) : Yields S w0 F 48 [v, u] (.bool (decide (flowT x = flowT y))) := by
 refine AA fun w hi => ?_
 simp only [List.nil_append] at hi
 have hq1 := fun {F'} (hu : ∀ e ∈ F, e ∈ F') => flow_t (FlowK.up hK hu) hX
 have hq2 := fun {F'} (hu : ∀ e ∈ F, e ∈ F') => flow_t (FlowK.up hK2 hu) hX2
 obtain ⟨rv, sv, bv, rfl, _⟩ := id hK
 obtain ⟨rv2, sv2, bv2, rfl, _⟩ := id hK2
 generalize flowT x = T1 at *
 generalize flowT y = T2 at *
 refine Ai Tryz.func48 rfl rfl (hi) ?_
 repeat' (first | (refine Ah rfl ?_) | (refine Ak rfl ?_) | (refine Al ?_) | (refine Am ?_) | (refine AL Tryz.func48 rfl (fun w_ hi_ => ?_)) | ((refine Ab 0 ?_; try (refine AF (cs := flowC x rv sv bv) rfl rfl rfl rfl (fun b1 hb1 => ?_); try (refine AF (cs := flowC y rv2 sv2 bv2) rfl rfl rfl rfl (fun b2 hb2 => ?_); try (refine Za rfl (Aa N23 ?_)))))) | ((refine Ca 1 rfl mixed Y1 ?_; try (refine AQ (AV U26 rfl AO rfl Y0 Y15) rfl rfl ?_; try (refine AQ (Au (CallR.val rfl en83) (hq1 Y11)) rfl rfl ?_; try (refine AQ (AV U26 rfl AO rfl Y0 Y15) rfl rfl ?_; try (refine AQ (Au (CallR.val rfl en83) (hq2 Y11)) rfl rfl ?_; try (refine AQ (ov_eqlSD rfl rfl) rfl rfl (AQ (Ao rfl) rfl rfl (BZ N23 ?_))))))))))
 exact ⟨[], ⟨rfl, rfl⟩, hi_.subset Y4⟩
theorem same_c {x y : FlowM} {v u : Value} (hK : FlowK S w0 F x v) (hX : FlowX x) (hK2 : FlowK S w0 F y u) (hX2 : FlowX y) : Yields S w0 F 23 [v, u] (.bool (decide (flowT x = flowT y))) := by
 refine AA fun w hi => ?_
 simp only [List.nil_append] at hi
 have hq := fun {F'} (hu : ∀ e ∈ F, e ∈ F') => same10_c (FlowK.up hK hu) hX (FlowK.up hK2 hu) hX2
 obtain ⟨rv, sv, bv, rfl, _⟩ := id hK
 obtain ⟨rv2, sv2, bv2, rfl, _⟩ := id hK2
 generalize decide (flowT x = flowT y) = q at *
 refine Ai Tryz.func23 rfl rfl (hi) ?_
 repeat' (first | (refine Ah rfl ?_) | (refine Ak rfl ?_) | (refine Al ?_) | (refine Am ?_) | (refine AL Tryz.func23 rfl (fun w_ hi_ => ?_)) | ((refine Ab 0 ?_; try (refine AF (cs := flowC x rv sv bv) rfl rfl rfl rfl (fun b1 hb1 => ?_); try (refine AF (cs := flowC y rv2 sv2 bv2) rfl rfl rfl rfl (fun b2 hb2 => ?_); try (refine Za rfl (Aa N23 ?_)))))) | ((refine Ab 1 ?_; try (refine Zv (AV U26 rfl AO rfl Y0 Y15) ?_; try (refine Zv (AV U26 rfl AO rfl Y0 Y15) ?_; try (refine Zv (Au (CallR.val rfl en48) (hq Y11)) ?_; try (refine Za rfl (Aa N23 ?_))))))))
 exact ⟨[], ⟨rfl, rfl⟩, hi_.subset Y4⟩
theorem samePlaces_c {l m : List Plc} {v u : Value} (hv : SlK S w0 F (rowV plcC l) l.length v) (hu : SlK S w0 F (rowV plcC m) m.length u) (hl : l.length ≤ 1099511627776) (hm : m.length ≤ 4611686018427387904) : Yields S w0 F 35 [v, u] (.bool (decide (l = m))) := by
 refine AA fun w hi => ?_
 simp only [List.nil_append] at hi
 obtain ⟨a, ca, rfl, hca, hk⟩ := hv
 obtain ⟨a2, ca2, rfl, hca2, hk2⟩ := hu
 have hbl : ∀ l : List Plc, (rowV plcC l).length = l.length * 3 := fun l => Ba plcC CC l
 by_cases hle : l.length = m.length
 · refine Ai Tryz.func35 rfl rfl (hi) ?_
   have hle2 : (l.length : Int) = m.length := by omega
   repeat' (first | (refine Ah rfl ?_) | (refine Ak rfl ?_) | (refine Al ?_) | (refine Am ?_) | (refine Az rfl ?_) | (refine A5 ?_) | (refine AE ?_) | ((refine Ab 0 ?_; try (refine Za rfl (Aa N25 ?_)))) | ((refine Ab 1 ?_; try (refine Zm rfl (Zv (As rfl U29 rfl) (Zm rfl (Zv (As rfl U29 rfl) (Zv (AX rfl rfl (by first | exact A2 Y9 | exact Ay Y9 | exact rfl)) ?_)))); try ((refine Aa N25 ?_))))) | ((refine Ab 3 ?_; try (refine Za rfl (Aa N25 ?_)))))
   refine A0 (E' := (fun k : Nat => [(0, .slice a l.length ca), (1, .slice a2 m.length ca2), (5, .int .i64 (k : Int))]) 0) Y14 ?_
   refine Bf (fun k : Nat => k ≤ l.length ∧ l.take k = m.take k) (fun k => l.length - k) (fun k : Nat => [(0, .slice a l.length ca), (1, .slice a2 m.length ca2), (5, .int .i64 (k : Int))]) (fun _ => F) ?_ 0 ⟨by omega, rfl⟩
   rintro k ⟨k1, k2⟩ ih
   try dsimp only at k1 k2 ih ⊢
   by_cases hlt : k < l.length
   · obtain ⟨b, off, rfl, hkn⟩ := hk.resolve_left (fun h => by have := hbl l; rw [h] at this; simp at this; omega)
     obtain ⟨b2, off2, rfl, hkn2⟩ := hk2.resolve_left (fun h => by have := hbl m; rw [h] at this; simp at this; omega)
     have hc1 := kn_plc hkn hlt
     have hc2 := kn_plc hkn2 (show k < m.length by omega)
     by_cases he : l[k] = m[k]'Y9
     · have hnext := eq_take_succ hlt Y9 k2 he
       generalize l[k] = z1 at *
       generalize m[k]'Y9 = z2 at *
       obtain ⟨x1, x2, x3⟩ := z1
       obtain ⟨y1, y2, y3⟩ := z2
       repeat' (first | (refine Ah rfl ?_) | (refine Ak rfl ?_) | (refine Al ?_) | (refine Am ?_) | (refine A1 rfl ?_) | (refine Az rfl ?_) | (refine A5 ?_) | (refine AH ?_) | (refine AE ?_) | ((refine Ab 4 ?_; try (refine Zm rfl (Zm rfl (Zv (As rfl U29 rfl) (Zv (A8 rfl rfl Y2) ?_))); try ((refine Aa N25 ?_))))) | ((refine Ca 6 rfl mixed Y1 ?_; try (refine AQ (Aj rfl) rfl rfl (AQ (Aj rfl) rfl rfl (AQ (Aq U29 sz49 rfl rfl Y9 Y9) rfl rfl ?_)); try (refine AQ (AK (cs := (plcC (x1, x2, x3)).toArray) U49 rfl Bh rfl hc1 rfl) rfl rfl (AQ (Aj rfl) rfl rfl (AQ (Aj rfl) rfl rfl (AQ (Aq U29 sz49 rfl rfl Y9 Y9) rfl rfl ?_))); try (refine AQ (AK (cs := (plcC (y1, y2, y3)).toArray) U49 rfl Bh rfl hc2 rfl) rfl rfl (AQ (ov_neqPlcF rfl rfl rfl he) rfl rfl (BZ N25 ?_))))))) | ((refine Ab 5 ?_; try (refine Zm rfl (Zv (AG rfl rfl Y9 Y9) ?_); try (refine Za rfl (Aa N25 ?_))))))
       refine A0 Y10 (ih (k + 1) ⟨by omega, hnext⟩ Y9)
     · have hne : l ≠ m := fun h => he (by subst h; rfl)
       rw [decide_eq_false hne]
       generalize l[k] = z1 at *
       generalize m[k]'Y9 = z2 at *
       obtain ⟨x1, x2, x3⟩ := z1
       obtain ⟨y1, y2, y3⟩ := z2
       repeat' (first | (refine Ah rfl ?_) | (refine Ak rfl ?_) | (refine Al ?_) | (refine Am ?_) | (refine A1 rfl ?_) | (refine A5 ?_) | (refine AE ?_) | (refine AL Tryz.func35 rfl (fun w_ hi_ => ?_)) | ((refine Ab 4 ?_; try (refine Zm rfl (Zm rfl (Zv (As rfl U29 rfl) (Zv (A8 rfl rfl Y2) ?_))); try ((refine Aa N25 ?_))))) | ((refine Ca 6 rfl mixed Y1 ?_; try (refine AQ (Aj rfl) rfl rfl (AQ (Aj rfl) rfl rfl (AQ (Aq U29 sz49 rfl rfl Y9 Y9) rfl rfl ?_)); try (refine AQ (AK (cs := (plcC (x1, x2, x3)).toArray) U49 rfl Bh rfl hc1 rfl) rfl rfl (AQ (Aj rfl) rfl rfl (AQ (Aj rfl) rfl rfl (AQ (Aq U29 sz49 rfl rfl Y9 Y9) rfl rfl ?_))); try (refine AQ (AK (cs := (plcC (y1, y2, y3)).toArray) U49 rfl Bh rfl hc2 rfl) rfl rfl (AQ (ov_neqPlcT rfl rfl rfl he) rfl rfl (BZ N25 ?_))))))) | ((refine Ab 7 ?_; try (refine Za rfl (Aa N25 ?_)))))
       exact ⟨[], ⟨rfl, rfl⟩, hi_⟩
   · have hkl : k = l.length := by omega
     have : l = m := by rw [hkl, List.take_length, hle, List.take_length] at k2; exact k2
     rw [decide_eq_true this]
     repeat' (first | (refine Ah rfl ?_) | (refine Ak rfl ?_) | (refine Al ?_) | (refine Am ?_) | (refine Az rfl ?_) | (refine Bp rfl ?_) | (refine AL Tryz.func35 rfl (fun w_ hi_ => ?_)) | ((refine Ab 4 ?_; try (refine Zm rfl (Zm rfl (Zv (As rfl U29 rfl) (Zv (A8 rfl rfl Y2) ?_))); try ((refine Aa N25 ?_))))) | ((refine Ab 8 ?_; try (refine Za rfl (Aa N25 ?_)))))
     exact ⟨[], ⟨rfl, rfl⟩, hi_⟩
 · rw [decide_eq_false (fun h => hle (by rw [h]))]
   have hle2 : ¬ (l.length : Int) = m.length := by omega
   refine Ai Tryz.func35 rfl rfl (hi) ?_
   repeat' (first | (refine Ah rfl ?_) | (refine Ak rfl ?_) | (refine Al ?_) | (refine Am ?_) | (refine A1 rfl ?_) | (refine AL Tryz.func35 rfl (fun w_ hi_ => ?_)) | ((refine Ab 0 ?_; try (refine Za rfl (Aa N25 ?_)))) | ((refine Ab 1 ?_; try (refine Zm rfl (Zv (As rfl U29 rfl) (Zm rfl (Zv (As rfl U29 rfl) (Zv (AX rfl rfl (by first | exact A2 Y9 | exact Ay Y9 | exact rfl)) ?_)))); try ((refine Aa N25 ?_))))) | ((refine Ab 2 ?_; try (refine Za rfl (Aa N25 ?_)))))
   exact ⟨[], ⟨rfl, rfl⟩, hi_⟩
theorem sameCode_c {x y : CodeM} {v u : Value} (hK : CodeK S w0 F x v) (hK2 : CodeK S w0 F y u) (hl : x.places.length ≤ 1099511627776) (hm : y.places.length ≤ 4611686018427387904) : Yields S w0 F 19 [v, u] (.bool (decide (x = y))) := by
 refine AA fun w hi => ?_
 simp only [List.nil_append] at hi
 obtain ⟨bv, pv1, rfl, hs1, hp1⟩ := hK
 obtain ⟨bv2, pv2, rfl, hs2, hp2⟩ := hK2
 have hq := fun {F'} (hu : ∀ e ∈ F, e ∈ F') => samePlaces_c (SlK.up hp1 hu) (SlK.up hp2 hu) hl hm
 obtain ⟨a1, c1, rfl, hc1, hk1⟩ := id hs1
 obtain ⟨a2, c2, rfl, hc2, hk2⟩ := id hs2
 obtain ⟨a3, c3, rfl, hc3, hk3⟩ := id hp1
 obtain ⟨a4, c4, rfl, hc4, hk4⟩ := id hp2
 have he : decide (x = y) = (decide (x.nm = y.nm) && (decide (x.bytes = y.bytes) && decide (x.places = y.places))) := by
  obtain ⟨_, _, _⟩ := x
  obtain ⟨_, _, _⟩ := y
  simp [Bool.decide_and]
 rw [he]
 by_cases q1 : x.nm = y.nm
 · by_cases q2 : x.bytes = y.bytes
   · generalize decide (x.places = y.places) = q3 at *
     rw [decide_eq_true q1, decide_eq_true q2]
     refine Ai Tryz.func19 rfl rfl (hi) ?_
     repeat' (first | (refine Ah rfl ?_) | (refine Ak rfl ?_) | (refine Al ?_) | (refine Am ?_) | (refine AL Tryz.func19 rfl (fun w_ hi_ => ?_)) | ((refine Ab 0 ?_; try (refine AF (cs := #[str x.nm, .slice a1 x.bytes.length c1, .slice a3 x.places.length c3]) rfl rfl rfl rfl (fun b1 hb1 => ?_); try (refine AF (cs := #[str y.nm, .slice a2 y.bytes.length c2, .slice a4 y.places.length c4]) rfl rfl rfl rfl (fun b2 hb2 => ?_); try (refine Za rfl (Aa N23 ?_)))))) | ((refine Ab 1 ?_; try (refine Zf fo31_0 rfl (Zv (Ac U9 rfl rfl Y0 Y5) ?_); try (refine Zf fo31_0 rfl (Zv (Ac U9 rfl rfl Y0 Y5) ?_); try (refine Zv (BU rfl rfl Y18) ?_; try (refine Zm rfl ?_; try (((refine Zf fo31_1 rfl ?_)) <;> try (((refine Zv (Ac U22 rfl rfl Y0 Y5) ?_)) <;> try (((refine Zv (B0 U22 U9 U5 rfl (SlK.up hs1 Y11)) ?_)) <;> try (((refine Zf fo31_1 rfl ?_)) <;> try (((refine Zv (Ac U22 rfl rfl Y0 Y5) ?_)) <;> try (((refine Zv (B0 U22 U9 U5 rfl (SlK.up hs2 Y11)) ?_)) <;> try (((refine Zv (BU rfl rfl Y18) ?_)) <;> try (refine Zv (Av rfl rfl) (Zm rfl ?_); try (((refine Zf Ct rfl ?_)) <;> try (((refine Zv (Ac U29 rfl rfl Y0 Y5) ?_)) <;> try (((refine Zf Ct rfl ?_)) <;> try (((refine Zv (Ac U29 rfl rfl Y0 Y5) ?_)) <;> try (((refine Zv (Au (CallR.val rfl en35) (hq Y11)) ?_)) <;> try (refine Zv (Av rfl rfl) (Za rfl (Aa N23 ?_)))))))))))))))))))))))
     exact ⟨[], ⟨by cases q3 <;> rfl, rfl⟩, hi_.subset Y4⟩
   · rw [decide_eq_true q1, decide_eq_false q2]
     refine Ai Tryz.func19 rfl rfl (hi) ?_
     repeat' (first | (refine Ah rfl ?_) | (refine Ak rfl ?_) | (refine Al ?_) | (refine Am ?_) | (refine AL Tryz.func19 rfl (fun w_ hi_ => ?_)) | ((refine Ab 0 ?_; try (refine AF (cs := #[str x.nm, .slice a1 x.bytes.length c1, .slice a3 x.places.length c3]) rfl rfl rfl rfl (fun b1 hb1 => ?_); try (refine AF (cs := #[str y.nm, .slice a2 y.bytes.length c2, .slice a4 y.places.length c4]) rfl rfl rfl rfl (fun b2 hb2 => ?_); try (refine Za rfl (Aa N23 ?_)))))) | ((refine Ab 1 ?_; try (refine Zf fo31_0 rfl (Zv (Ac U9 rfl rfl Y0 Y5) ?_); try (refine Zf fo31_0 rfl (Zv (Ac U9 rfl rfl Y0 Y5) ?_); try (refine Zv (BU rfl rfl Y18) ?_; try (refine Zm rfl ?_; try (((refine Zf fo31_1 rfl ?_)) <;> try (((refine Zv (Ac U22 rfl rfl Y0 Y5) ?_)) <;> try (((refine Zv (B0 U22 U9 U5 rfl (SlK.up hs1 Y11)) ?_)) <;> try (((refine Zf fo31_1 rfl ?_)) <;> try (((refine Zv (Ac U22 rfl rfl Y0 Y5) ?_)) <;> try (((refine Zv (B0 U22 U9 U5 rfl (SlK.up hs2 Y11)) ?_)) <;> try (((refine Zv (BU rfl rfl Y18) ?_)) <;> try (refine Zv (Av rfl rfl) (Zm rfl (Zk (Zk (Zk (Zk (Zk (Zv (AC rfl rfl) (Za rfl (Aa N23 ?_))))))))))))))))))))))))
     exact ⟨[], ⟨rfl, rfl⟩, hi_.subset Y4⟩
 · rw [decide_eq_false q1]
   refine Ai Tryz.func19 rfl rfl (hi) ?_
   repeat' (first | (refine Ah rfl ?_) | (refine Ak rfl ?_) | (refine Al ?_) | (refine Am ?_) | (refine AL Tryz.func19 rfl (fun w_ hi_ => ?_)) | ((refine Ab 0 ?_; try (refine AF (cs := #[str x.nm, .slice a1 x.bytes.length c1, .slice a3 x.places.length c3]) rfl rfl rfl rfl (fun b1 hb1 => ?_); try (refine AF (cs := #[str y.nm, .slice a2 y.bytes.length c2, .slice a4 y.places.length c4]) rfl rfl rfl rfl (fun b2 hb2 => ?_); try (refine Za rfl (Aa N23 ?_)))))) | ((refine Ab 1 ?_; try (refine Zf fo31_0 rfl (Zv (Ac U9 rfl rfl Y0 Y5) ?_); try (refine Zf fo31_0 rfl (Zv (Ac U9 rfl rfl Y0 Y5) ?_); try (refine Zv (BU rfl rfl Y18) ?_; try (refine Zm rfl (Zk (Zk (Zk (Zk (Zk (Zk (Zk (Zv (AC rfl rfl) (Zm rfl (Zk (Zk (Zk (Zk (Zk (Zv (AC rfl rfl) (Za rfl (Aa N23 ?_))))))))))))))))))))))))
   exact ⟨[], ⟨rfl, rfl⟩, hi_.subset Y4⟩
end
end Go.Sl
namespace Go.Sl
open Go Go.RowKit Go.Shelf Go.Proofs
attribute [local irreducible] Calls
theorem flowC_nm2 (g : FlowM) (rv sv bv : Value) (n : Bs) : (flowC g rv sv bv).setIfInBounds (0 + 0) (str n) = flowC { g with nm := n } rv sv bv := rfl
section
variable {S : Nat → Prop} {w0 : World} {F : List Ent}
theorem decode_c {x : CodeM} {v : Value} (hK : CodeK S w0 F x v) (hB : x.bytes.length ≤ 1099511627776) (hp : x.places.length ≤ 65535) :
 SLF Tryz.prog S w0 F 21 [v] [] (fun e post => ∃ v, e = .returned v ∧ ∃ u, v = .tuple #[u, .int .i64 (decS x).2] ∧ FlowK S w0 post (decS x).1 u) := by
 refine AA fun w hi => ?_
 simp only [List.nil_append] at hi
 obtain ⟨bsv, plv, rfl, hb, hpl⟩ := id hK
 obtain ⟨a0, ca, rfl, hca, hk0⟩ := id hb
 obtain ⟨a9, c9, rfl, hc9, hk9⟩ := id hpl
 have hdc : ∀ {F'} {bx bn : Nat}, (∀ e ∈ F, e ∈ F') → (⟨bx, true, .cells #[str x.nm, .slice a0 x.bytes.length ca, .slice a9 x.places.length c9] 31 (0, 0)⟩ : Ent) ∈ F' → SLF Tryz.prog S w0 F' 43 [.slice a0 x.bytes.length ca, .func (.func 44) #[] #[pv bn 0, pv bx 0]] [⟨bn, true, .cells #[.int .i64 0] 3 (0, 0)⟩] (fun e post => ∃ v, e = .returned v ∧ DecQ S w0 (nD bn bx x.places (.slice a9 x.places.length c9) hp) x.bytes (.slice a0 x.bytes.length ca) (decN x.bytes (νI (x.places.map (·.2.2))) 0) v post) := fun {F' bx bn} hu hm => decoded_c (N := nD bn bx x.places (.slice a9 x.places.length c9) hp) (t := 0) (SlK.up hb hu) ⟨Kn.of hm rfl, SlK.up hpl hu⟩ ⟨rfl, rfl⟩
 have hdn := decN_eq x.bytes (νI (x.places.map (·.2.2))) 0
 unfold decS decodeP
 cases hd : decP x.bytes with
 | none =>
   rw [hd] at hdn
   rw [show decN x.bytes (νI (x.places.map (·.2.2))) 0 = none from hdn] at hdc
   refine Ai Tryz.func21 rfl rfl (hi) ?_
   repeat' (first | (refine Ah rfl ?_) | (refine Ak rfl ?_) | (refine Al ?_) | (refine Am ?_) | (refine A1 rfl ?_) | (refine C1 Tryz.func21 (.cellA rfl U26 rfl AO Y13 rfl (.tmp rfl (.nil))) (fun w_ hi_ => ?_)) | ((refine Ab 0 ?_; try (refine AF (cs := #[str x.nm, .slice a0 x.bytes.length ca, .slice a9 x.places.length c9]) rfl rfl rfl rfl (fun bx hbx => ?_); try (refine A4 AO rfl rfl rfl rfl (fun b_ hb_ => ?_); try (refine Za rfl (Aa N18 ?_)))))) | ((refine Ab 1 ?_; try (refine A4 Cg rfl rfl rfl rfl (fun b_ hb_ => ?_); try (refine AR rfl rfl rfl sz3 Y3 rfl rfl ?_; try ((refine Aa N18 ?_)))))) | ((refine Ab 2 ?_; try (refine Zf fo31_1 rfl (Zv (Ac U22 rfl rfl Y0 Y5) ?_); try (refine Zv (Bg rfl rfl) ?_; try ((refine AT Y6 (CallR.val rfl en43) rfl rfl (hdc Y11 Y13) ?_; rintro v post ⟨rfl, rfl⟩; simp only [List.nil_append]) <;> try (refine Zm rfl (Zv (Af rfl rfl) (Zv (Af rfl rfl) (Zv (Af rfl rfl) ?_))); try (refine A4 AO rfl rfl rfl rfl (fun b_ hb_ => ?_); try (refine AI rfl rfl rfl Cd Y3 Y15 rfl rfl ?_; try (refine Za rfl (Za rfl (Aa N18 ?_))))))))))) | ((refine Ab 3 ?_; try (refine Zf fo31_0 rfl (Zv (Ac U9 rfl rfl Y0 Y5) ?_); try (refine Zf fo26_0 rfl ?_; try (refine AJ rfl rfl rfl sz9 Y3 Y8 (.inr Y8) rfl rfl ?_; try ((refine Aa N18 ?_))))))) | ((refine Ab 4 ?_; try (refine Zm rfl (Zv (Ci rfl) (Aa N18 ?_))))) | ((refine Ab 5 ?_; try (refine Zv (Cq pl26 AO rfl) ?_; try (refine AI rfl rfl rfl Cd Y3 Y15 rfl rfl ?_; try (refine Za rfl (Aa N18 ?_)))))))
   exact ⟨[], ⟨_, rfl, _, rfl, flow0K⟩, hi_.subset Y4⟩
 | some r =>
   obtain ⟨f, s⟩ := r
   rw [hd] at hdn
   replace hdn : decN x.bytes (νI (x.places.map (·.2.2))) 0 = some ((renF (νI (x.places.map (·.2.2))) f 0).1, emb s (renF (νI (x.places.map (·.2.2))) f 0).2) := hdn
   rw [hdn] at hdc
   have hgl := decN_flowL hdn
   have hF := decP_f hd
   have e1 : namesS (x.places.map (·.2.2)) f x.nm = { (renF (νI (x.places.map (·.2.2))) f 0).1 with nm := x.nm } := rfl
   have hres : (0 : Int) ≤ (renF (νI (x.places.map (·.2.2))) f 0).1.res := hF.res.1
   simp only
   rw [e1]
   obtain ⟨g, hg⟩ : ∃ g, g = (renF (νI (x.places.map (·.2.2))) f 0).1 := ⟨_, rfl⟩
   obtain ⟨lk, hlk⟩ : ∃ lk, lk = (renF (νI (x.places.map (·.2.2))) f 0).2 := ⟨_, rfl⟩
   simp only [← hg, ← hlk] at hdn hdc hgl hres ⊢
   clear hg hlk e1
   have henc : ∀ {F' : List Ent} {v : Value}, FlowK S w0 F' { g with nm := x.nm } v → SLF Tryz.prog S w0 F' 13 [v] [] (fun e post => ∃ u, e = .returned (.tuple #[u, .int .i64 (encS { g with nm := x.nm }).2]) ∧ CodeK S w0 post (encS { g with nm := x.nm }).1 u) := fun h => encode_c h (fun hs => flowR_of hs hres) (FlowL.nm hgl x.nm)
   have hecase : (encS { g with nm := x.nm }).2 = 0 ∨ (encS { g with nm := x.nm }).2 ≠ 0 := by omega
   have hel := (encS { g with nm := x.nm }).1.bytes.length
   have hb1 : (encS { g with nm := x.nm }).1.bytes.length ≤ 1099511627776 ∧ (encS { g with nm := x.nm }).1.places.length ≤ 1099511627776 := by
    unfold encS
    split
    · split
      · simp [code0]
      · simp only; omega
    · simp [code0]
   obtain ⟨⟨em, er⟩, he⟩ : ∃ q : CodeM × Int, q = encS { g with nm := x.nm } := ⟨_, rfl⟩
   simp only [← he] at henc hecase hb1 ⊢
   obtain ⟨em1, em2, em3⟩ := em
   simp only at hb1 hecase ⊢
   refine Ai Tryz.func21 rfl rfl (hi) ?_
   repeat' (first | (refine Ah rfl ?_) | (refine Ak rfl ?_) | (refine Al ?_) | (refine Am ?_) | ((refine Ab 0 ?_; try (refine AF (cs := #[str x.nm, .slice a0 x.bytes.length ca, .slice a9 x.places.length c9]) rfl rfl rfl rfl (fun bx hbx => ?_); try (refine A4 AO rfl rfl rfl rfl (fun b_ hb_ => ?_); try (refine Za rfl (Aa N18 ?_)))))) | ((refine Ab 1 ?_; try (refine A4 Cg rfl rfl rfl rfl (fun b_ hb_ => ?_); try (refine AR rfl rfl rfl sz3 Y3 rfl rfl ?_; try ((refine Aa N18 ?_)))))) | ((refine Ab 2 ?_; try (refine Zf fo31_1 rfl (Zv (Ac U22 rfl rfl Y0 Y5) ?_); try (refine Zv (Bg rfl rfl) ?_; try ((refine AT Y6 (CallR.val rfl en43) rfl rfl (hdc Y11 Y13) ?_; rintro v post ⟨_, rb', _, X, rfl, ⟨b2', c2', r2', b3', c3', r3', Ln', h2', h3', ⟨hcn, rfl⟩, hr', rfl⟩, rfl, ⟨rv, sv, bv, rfl, ⟨a1, c1, rfl, hc1, k1⟩, ⟨a4, c4, rfl, hc4, k4⟩, ⟨ps, hps, ⟨a5, c5, rfl, hc5, k5⟩, k6⟩⟩⟩; simp only [List.append_assoc, List.cons_append, List.nil_append]) <;> try (refine Zm rfl (Zv (Af rfl rfl) (Zv (Af rfl rfl) (Zv (Af rfl rfl) ?_))); try (refine A4 AO rfl rfl rfl rfl (fun b_ hb_ => ?_); try (refine AI rfl rfl (B8 _ _ _ _ _ _ _ _ _ _) Cd Y3 (by rfl) rfl rfl ?_; try (refine Za rfl (Za rfl (Aa N18 ?_))))))))))) | ((refine Ab 3 ?_; try (refine Zf fo31_0 rfl (Zv (Ac U9 rfl rfl Y0 Y5) ?_); try (refine Zf fo26_0 rfl ?_; try ((refine AJ (v := str x.nm) (off := 0 + 0) (c := flowC g (.slice a1 g.regs.length c1) (.slice a4 g.raises.length c4) (.slice a5 g.blks.length c5)) rfl rfl rfl sz9 Y3 (by show 0 < 6; decide) (.inr (Nat.zero_le _)) rfl rfl ?_; rw [flowC_nm2]) <;> try ((refine Aa N18 ?_))))))))
   rename_i bt hbt bn hbn
   revert b_
   intro b4 hb4
   have hfk : FlowK S w0 X { g with nm := x.nm } (.agg (flowC { g with nm := x.nm } (.slice a1 g.regs.length c1) (.slice a4 g.raises.length c4) (.slice a5 g.blks.length c5))) := ⟨_, _, _, rfl, ⟨a1, c1, rfl, hc1, k1⟩, ⟨a4, c4, rfl, hc4, k4⟩, ⟨ps, hps, ⟨a5, c5, rfl, hc5, k5⟩, k6⟩⟩
   simp only [emb]
   refine A0 (E' := [(7, .bool true), (5, pv b4 0), (3, .int .i64 0), (2, pv bt 0), (1, pv bx 0)]) Y14 ?_
   refine CR (H' := (⟨b4, true, .cells (flowC { g with nm := x.nm } (.slice a1 g.regs.length c1) (.slice a4 g.raises.length c4) (.slice a5 g.blks.length c5)) 26 (0, 0)⟩ : Ent) :: (X ++ (⟨bt, true, .cells zFlow 26 (0, 0)⟩ :: (⟨bx, true, .cells #[str x.nm, .slice a0 x.bytes.length ca, .slice a9 x.places.length c9] 31 (0, 0)⟩ : Ent) :: F))) (by repeat (first | exact List.Sublist.refl _ | apply List.Sublist.cons_cons | apply List.Sublist.cons | apply List.Sublist.append (List.Sublist.refl _) | apply List.sublist_append_of_sublist_right)) ?_
   repeat' (first | (refine Ah rfl ?_) | (refine Ak rfl ?_) | (refine Al ?_) | (refine Am ?_) | (refine Az rfl ?_) | (refine AE ?_) | ((refine Ab 4 ?_; try (refine Zm rfl (Zv (BT rfl) (Aa N18 ?_))))) | ((refine Ab 6 ?_; try ((refine Zv (AK (cs := flowC { g with nm := x.nm } (.slice a1 g.regs.length c1) (.slice a4 g.raises.length c4) (.slice a5 g.blks.length c5)) U26 rfl AO rfl (fun j h => Kn.of Y13 (by rw [Nat.zero_add]; exact Array.getElem?_eq_getElem h)) rfl) ?_) <;> try ((refine AT (pre := []) (Take.nil _) (CallR.val rfl en13) rfl rfl (SLF.mono (henc (hfk.up fun x h => .tail _ (List.mem_append_left _ h))) (fun e post ⟨u, h1, h2⟩ => ⟨_, h1, u, rfl, h2⟩) : SLF Tryz.prog S w0 _ _ _ _ fun e post => ∃ v, e = .returned v ∧ ∃ u, v = .tuple #[u, .int .i64 er] ∧ CodeK S w0 post ⟨em1, em2, em3⟩ u) ?_; rintro v Xe ⟨_, rfl, _, _, rfl, ⟨ab, cb, rfl, hcb, kb⟩, ⟨ap, cp, rfl, hcp, kp⟩⟩) <;> try (refine Zm rfl (Zv (Af rfl rfl) (Zv (Af rfl rfl) ?_)); try (refine A4 inf31 rfl rfl rfl rfl (fun b_ hb_ => ?_); try (refine AI rfl rfl rfl sz31 Y3 Y15 rfl rfl ?_; try (refine Za rfl (Aa N18 ?_))))))))))
   revert b_
   intro b8 hb8
   dsimp only at hcb kb hcp kp ⊢
   refine A0 (E' := [(5, pv b4 0), (3, .int .i64 0), (2, pv bt 0), (1, pv bx 0), (8, pv b8 0), (9, .int .i64 er)]) Y14 ?_
   have hq1 : ∀ {e8 e4 et ex : Ent}, Yields S w0 (e8 :: (Xe ++ (e4 :: (X ++ (et :: ex :: F))))) 45 [.slice ab em2.length cb, .slice a0 x.bytes.length ca] (.bool (decide (em2 = x.bytes))) := fun {e8 e4 et ex} => equal_u8 (SlK.up ⟨ab, cb, rfl, hcb, kb⟩ fun y h => .tail _ (List.mem_append_left _ h)) (SlK.up hb fun y h => .tail _ (List.mem_append_right _ (.tail _ (List.mem_append_right _ (.tail _ (.tail _ h)))))) hb1.1 Y9
   have hq2 : ∀ {e8 e4 et ex : Ent}, Yields S w0 (e8 :: (Xe ++ (e4 :: (X ++ (et :: ex :: F))))) 46 [.slice ap em3.length cp, .slice a9 x.places.length c9] (.bool (decide (em3 = x.places))) := fun {e8 e4 et ex} => equal_plc (SlK.up ⟨ap, cp, rfl, hcp, kp⟩ fun y h => .tail _ (List.mem_append_left _ h)) (SlK.up hpl fun y h => .tail _ (List.mem_append_right _ (.tail _ (List.mem_append_right _ (.tail _ (.tail _ h)))))) hb1.2 Y9
   by_cases q0 : er = 0
   · by_cases q1 : em2 = x.bytes
     · by_cases q2 : em3 = x.places
       · rw [if_pos ⟨q0, q1, q2⟩]
         rw [decide_eq_true q1] at hq1
         rw [decide_eq_true q2] at hq2
         repeat' (first | (refine Ah rfl ?_) | (refine Ak rfl ?_) | (refine Al ?_) | (refine Am ?_) | (refine Az rfl ?_) | (refine AE ?_) | (refine C1 Tryz.func21 (.cellA rfl U26 rfl AO Y13 rfl (.tmp rfl (.nil))) (fun w_ hi_ => ?_)) | ((refine Ab 7 ?_; try (refine Zm rfl (Zv (AX rfl rfl (by first | exact A2 Y9 | exact Ay Y9 | exact rfl)) ?_); try (refine Zm rfl ?_; try (((refine Zf fo31_1 rfl ?_)) <;> try (((refine Zv (Ac U22 rfl rfl Y0 Y5) ?_)) <;> try (((refine Zf fo31_1 rfl ?_)) <;> try (((refine Zv (Ac U22 rfl rfl Y0 Y5) ?_)) <;> try (((refine Zv (Au (CallR.val rfl en45) hq1) ?_)) <;> try (((refine Zv (BT rfl) ?_)) <;> try (refine Zv (AC rfl rfl) (Zm rfl ?_); try (((refine Zf Ct rfl ?_)) <;> try (((refine Zv (Ac U29 rfl rfl Y0 Y5) ?_)) <;> try (((refine Zf Ct rfl ?_)) <;> try (((refine Zv (Ac U29 rfl rfl Y0 Y5) ?_)) <;> try (((refine Zv (Au (CallR.val rfl en46) hq2) ?_)) <;> try (((refine Zv (BT rfl) ?_)) <;> try (refine Zv (AC rfl rfl) (Aa N18 ?_))))))))))))))))))) | ((refine Ab 9 ?_; try ((refine Zv (AK (cs := flowC { g with nm := x.nm } (.slice a1 g.regs.length c1) (.slice a4 g.raises.length c4) (.slice a5 g.blks.length c5)) U26 rfl AO rfl (fun j h => Kn.of Y13 (by rw [Nat.zero_add]; exact Array.getElem?_eq_getElem h)) rfl) ?_) <;> try (refine AI rfl rfl (B8 _ _ _ _ _ _ _ _ _ _) Cd Y3 (by rfl) rfl rfl ?_; try (refine Za rfl (Aa N18 ?_)))))))
         exact ⟨X, ⟨_, rfl, _, rfl, hfk⟩, hi_.subset (by repeat (first | exact List.Sublist.refl _ | apply List.Sublist.cons_cons | apply List.Sublist.cons | apply List.Sublist.append (List.Sublist.refl _) | apply List.sublist_append_of_sublist_right))⟩
       · rw [if_neg (fun h => q2 h.2.2)]
         rw [decide_eq_true q1] at hq1
         rw [decide_eq_false q2] at hq2
         repeat' (first | (refine Ah rfl ?_) | (refine Ak rfl ?_) | (refine Al ?_) | (refine Am ?_) | (refine A1 rfl ?_) | (refine C1 Tryz.func21 (.cellA rfl U26 rfl AO Y13 rfl (.tmp rfl (.nil))) (fun w_ hi_ => ?_)) | ((refine Ab 7 ?_; try (refine Zm rfl (Zv (AX rfl rfl (by first | exact A2 Y9 | exact Ay Y9 | exact rfl)) ?_); try (refine Zm rfl ?_; try (((refine Zf fo31_1 rfl ?_)) <;> try (((refine Zv (Ac U22 rfl rfl Y0 Y5) ?_)) <;> try (((refine Zf fo31_1 rfl ?_)) <;> try (((refine Zv (Ac U22 rfl rfl Y0 Y5) ?_)) <;> try (((refine Zv (Au (CallR.val rfl en45) hq1) ?_)) <;> try (((refine Zv (BT rfl) ?_)) <;> try (refine Zv (AC rfl rfl) (Zm rfl ?_); try (((refine Zf Ct rfl ?_)) <;> try (((refine Zv (Ac U29 rfl rfl Y0 Y5) ?_)) <;> try (((refine Zf Ct rfl ?_)) <;> try (((refine Zv (Ac U29 rfl rfl Y0 Y5) ?_)) <;> try (((refine Zv (Au (CallR.val rfl en46) hq2) ?_)) <;> try (((refine Zv (Ci rfl) ?_)) <;> try (refine Zv (AC rfl rfl) (Aa N18 ?_))))))))))))))))))) | ((refine Ab 8 ?_; try (refine Zv (Cq pl26 AO rfl) ?_; try (refine AI rfl rfl rfl Cd Y3 Y15 rfl rfl ?_; try (refine Za rfl (Aa N18 ?_)))))))
         exact ⟨[], ⟨_, rfl, _, rfl, flow0K⟩, hi_.subset Y4⟩
     · rw [if_neg (fun h => q1 h.2.1)]
       rw [decide_eq_false q1] at hq1
       repeat' (first | (refine Ah rfl ?_) | (refine Ak rfl ?_) | (refine Al ?_) | (refine Am ?_) | (refine A1 rfl ?_) | (refine C1 Tryz.func21 (.cellA rfl U26 rfl AO Y13 rfl (.tmp rfl (.nil))) (fun w_ hi_ => ?_)) | ((refine Ab 7 ?_; try (refine Zm rfl (Zv (AX rfl rfl (by first | exact A2 Y9 | exact Ay Y9 | exact rfl)) ?_); try (refine Zm rfl ?_; try (((refine Zf fo31_1 rfl ?_)) <;> try (((refine Zv (Ac U22 rfl rfl Y0 Y5) ?_)) <;> try (((refine Zf fo31_1 rfl ?_)) <;> try (((refine Zv (Ac U22 rfl rfl Y0 Y5) ?_)) <;> try (((refine Zv (Au (CallR.val rfl en45) hq1) ?_)) <;> try (((refine Zv (Ci rfl) ?_)) <;> try (refine Zv (AC rfl rfl) (Zm rfl (Zk (Zk (Zk (Zk (Zk (Zk (Zv (Av rfl rfl) (Aa N18 ?_)))))))))))))))))))) | ((refine Ab 8 ?_; try (refine Zv (Cq pl26 AO rfl) ?_; try (refine AI rfl rfl rfl Cd Y3 Y15 rfl rfl ?_; try (refine Za rfl (Aa N18 ?_)))))))
       exact ⟨[], ⟨_, rfl, _, rfl, flow0K⟩, hi_.subset Y4⟩
   · rw [if_neg (fun h => q0 h.1)]
     repeat' (first | (refine Ah rfl ?_) | (refine Ak rfl ?_) | (refine Al ?_) | (refine Am ?_) | (refine A1 rfl ?_) | (refine C1 Tryz.func21 (.cellA rfl U26 rfl AO Y13 rfl (.tmp rfl (.nil))) (fun w_ hi_ => ?_)) | ((refine Ab 7 ?_; try (refine Zm rfl (Zv (AX rfl rfl (by first | exact A2 Y9 | exact Ay Y9 | exact rfl)) ?_); try (refine Zm rfl (Zk (Zk (Zk (Zk (Zk (Zk (Zv (Av rfl rfl) (Zm rfl (Zk (Zk (Zk (Zk (Zk (Zk (Zv (Av rfl rfl) (Aa N18 ?_)))))))))))))))))))) | ((refine Ab 8 ?_; try (refine Zv (Cq pl26 AO rfl) ?_; try (refine AI rfl rfl rfl Cd Y3 Y15 rfl rfl ?_; try (refine Za rfl (Aa N18 ?_)))))))
     exact ⟨[], ⟨_, rfl, _, rfl, flow0K⟩, hi_.subset Y4⟩
end
end Go.Sl
namespace Go.Sl
open Go Go.RowKit Go.Shelf Go.Proofs
attribute [local irreducible] Calls
def bME : Bs := [77, 46, 69]
def bMp : Bs := [77, 46, 112]
def bMain : Bs := [109, 97, 105, 110]
def exM : FlowM := ⟨bMain, 0, 1, [1], [bME], [⟨[⟨1, 0, 0, 0, -2, 0, [], []⟩], ⟨5, 0, 0, 1, 0, bMp, [0], [(bME, 1)], -1⟩⟩, ⟨[], ⟨3, 0, 0, 0, 0, [], [], [], -1⟩⟩]⟩
def exB : Bs := [0, 1, 0, 1, 1, 1, 3, 77, 46, 69, 0, 2, 1, 1, 0, 0, 255, 255, 255, 254, 5, 0, 0, 1, 0, 0, 0, 0, 0, 1, 1, 3, 77, 46, 69, 0, 1, 255, 255, 0, 3, 0, 0]
def exC : CodeM := ⟨bMain, exB, [(21, 1, bMp)]⟩
def exN : Int → List Bs := fun q => if q = 1 then [bMp] else []
theorem ex_enc : encS exM = (exC, 0) := by decide +kernel
theorem ex_len : lenS exM = (43, 0) := by decide +kernel
theorem ex_blk : blkS exB = ([12, 39], 0) := by decide +kernel
theorem ex_front : frontS exB = (([], 1), 0) := by decide +kernel
theorem ex_back : backP bMain exB exN = (exM, 0) := by decide +kernel
theorem ex_back0 : backP bMain exB (fun _ => []) = (flow0, 5) := by decide +kernel
theorem ex_dec : decS exC = (exM, 0) := by decide +kernel
theorem ex_dec0 : decS ⟨bMain, exB ++ [0], [(21, 1, bMp)]⟩ = (flow0, 150) := by decide +kernel
theorem ex_snd : sndOk exM = true := by decide +kernel
section
variable {S : Nat → Prop} {w0 : World} {F : List Ent}
theorem CP : SLF Tryz.prog S w0 F 37 [] [] (fun e post => ∃ v, e = .returned v ∧ ∃ bb, v = .slice (some ⟨bb, 0, none⟩) 43 43 ∧ post = [⟨bb, true, .cells (byv exB).toArray 5 (0, 0)⟩]) := by
 refine AA fun w hi => ?_
 simp only [List.nil_append] at hi
 refine Ai Tryz.func37 rfl rfl (hi) ?_
 repeat' (first | (refine Ah rfl ?_) | (refine Ak rfl ?_) | (refine Al ?_) | (refine Am ?_) | (refine AL Tryz.func37 rfl (fun w_ hi_ => ?_)) | ((refine Ab 0 ?_; try (refine Za rfl (Aa [0] ?_)))) | ((refine Ab 1 ?_; try ((refine Bx (sz := 1) (vs := (byv exB).zipIdx.map fun p => (p.2, p.1)) (cs := (byv exB).toArray) U22 inf5 rfl rfl rfl rfl rfl Y1 rfl rfl (fun bb hbb => ?_)) <;> try (refine Za rfl (Aa [0] ?_))))))
 exact ⟨_, ⟨_, rfl, bb, rfl, rfl⟩, hi_⟩
theorem BF {cells : List Value} {n : Nat} (b : Nat) {el : TypeId} (h : (⟨b, true, .cells cells.toArray el (0, 0)⟩ : Ent) ∈ F) : SlK S w0 F cells n (.slice (some ⟨b, 0, none⟩) n n) :=
 (SlK.own0 (S := S) (w0 := w0) (F := []) (Nat.le_refl n)).up (fun e he => by rw [List.mem_singleton.1 he]; exact h)
theorem CW : SLF Tryz.prog S w0 F 36 [] [] (fun e post => ∃ v, e = .returned v ∧ FlowK S w0 post exM v) := by
 refine AA fun w hi => ?_
 simp only [List.nil_append] at hi
 refine Ai Tryz.func36 rfl rfl (hi) ?_
 repeat' (first | (refine Ah rfl ?_) | (refine Al ?_) | (refine Am ?_) | ((refine Ab 0 ?_; try (refine A4 AO rfl rfl rfl rfl (fun b_ hb_ => ?_); try ((refine Aa [0] ?_))))))
 revert b_
 intro b0 hb0
 refine Ab 1 ?_
 refine Bx (sz := 1) (vs := [(0, .int .u8 1)]) (cs := #[.int .u8 1]) U22 inf5 rfl rfl rfl rfl rfl Y1 rfl rfl (fun b1 hb1 => ?_)
 refine Bx (sz := 1) (vs := [(0, str bME)]) (cs := #[str bME]) U23 inf9 rfl rfl rfl rfl rfl Y1 rfl rfl (fun b2 hb2 => ?_)
 refine Zv (Bm (vs := [(0, .int .u8 1), (4, .int .i64 (-2))]) (cs := #[.int .u8 1, .int .i64 0, .int .i64 0, .int .i64 0, .int .i64 (-2), .int .i64 0, str [], .slice none 0 0]) pl73 inf73 rfl rfl Y1) ?_
 refine Bx (sz := 8) (vs := [(0, .agg #[.int .u8 1, .int .i64 0, .int .i64 0, .int .i64 0, .int .i64 (-2), .int .i64 0, str [], .slice none 0 0])]) (cs := #[.int .u8 1, .int .i64 0, .int .i64 0, .int .i64 0, .int .i64 (-2), .int .i64 0, str [], .slice none 0 0]) U65 inf73 rfl rfl rfl rfl rfl Y1 rfl rfl (fun b4 hb4 => ?_)
 refine Bx (sz := 1) (vs := [(0, .int .i64 0)]) (cs := #[.int .i64 0]) U59 Cg rfl rfl rfl rfl rfl Y1 rfl rfl (fun b5 hb5 => ?_)
 refine Zv (Bm (vs := [(0, str bME), (1, .int .i64 1)]) (cs := #[str bME, .int .i64 1]) pl75 inf75 rfl rfl Y1) ?_
 refine Bx (sz := 2) (vs := [(0, .agg #[str bME, .int .i64 1])]) (cs := #[str bME, .int .i64 1]) U66 inf75 rfl rfl rfl rfl rfl Y1 rfl rfl (fun b7 hb7 => ?_)
 refine Zv (Bm (vs := [(0, .int .u8 5), (5, str bMp), (6, .slice (some ⟨b5, 0, none⟩) 1 1), (3, .int .i64 1), (7, .slice (some ⟨b7, 0, none⟩) 1 1), (8, .int .i64 (-1))]) (cs := #[.int .u8 5, .int .i64 0, .int .i64 0, .int .i64 1, .int .i64 0, str bMp, .slice (some ⟨b5, 0, none⟩) 1 1, .slice (some ⟨b7, 0, none⟩) 1 1, .int .i64 (-1)]) pl68 inf68 rfl rfl Y1) ?_
 refine Zv (Bm (vs := [(0, .slice (some ⟨b4, 0, none⟩) 1 1), (1, .agg #[.int .u8 5, .int .i64 0, .int .i64 0, .int .i64 1, .int .i64 0, str bMp, .slice (some ⟨b5, 0, none⟩) 1 1, .slice (some ⟨b7, 0, none⟩) 1 1, .int .i64 (-1)])]) (cs := #[.slice (some ⟨b4, 0, none⟩) 1 1, .int .u8 5, .int .i64 0, .int .i64 0, .int .i64 1, .int .i64 0, str bMp, .slice (some ⟨b5, 0, none⟩) 1 1, .slice (some ⟨b7, 0, none⟩) 1 1, .int .i64 (-1)]) pl70 inf70 rfl rfl Y1) ?_
 refine Zv (Bm (vs := [(0, .int .u8 3), (8, .int .i64 (-1))]) (cs := #[.int .u8 3, .int .i64 0, .int .i64 0, .int .i64 0, .int .i64 0, str [], .slice none 0 0, .slice none 0 0, .int .i64 (-1)]) pl68 inf68 rfl rfl Y1) ?_
 refine Zv (Bm (vs := [(1, .agg #[.int .u8 3, .int .i64 0, .int .i64 0, .int .i64 0, .int .i64 0, str [], .slice none 0 0, .slice none 0 0, .int .i64 (-1)])]) (cs := #[.slice none 0 0, .int .u8 3, .int .i64 0, .int .i64 0, .int .i64 0, .int .i64 0, str [], .slice none 0 0, .slice none 0 0, .int .i64 (-1)]) pl70 inf70 rfl rfl Y1) ?_
 refine Bx (sz := 10) (vs := [(0, .agg #[.slice (some ⟨b4, 0, none⟩) 1 1, .int .u8 5, .int .i64 0, .int .i64 0, .int .i64 1, .int .i64 0, str bMp, .slice (some ⟨b5, 0, none⟩) 1 1, .slice (some ⟨b7, 0, none⟩) 1 1, .int .i64 (-1)]), (1, .agg #[.slice none 0 0, .int .u8 3, .int .i64 0, .int .i64 0, .int .i64 0, .int .i64 0, str [], .slice none 0 0, .slice none 0 0, .int .i64 (-1)])]) (cs := #[.slice (some ⟨b4, 0, none⟩) 1 1, .int .u8 5, .int .i64 0, .int .i64 0, .int .i64 1, .int .i64 0, str bMp, .slice (some ⟨b5, 0, none⟩) 1 1, .slice (some ⟨b7, 0, none⟩) 1 1, .int .i64 (-1), .slice none 0 0, .int .u8 3, .int .i64 0, .int .i64 0, .int .i64 0, .int .i64 0, str [], .slice none 0 0, .slice none 0 0, .int .i64 (-1)]) U24 inf70 rfl rfl rfl rfl rfl Y1 rfl rfl (fun b12 hb12 => ?_)
 refine Zv (Bm (vs := [(0, str bMain), (2, .int .u8 1), (3, .slice (some ⟨b1, 0, none⟩) 1 1), (4, .slice (some ⟨b2, 0, none⟩) 1 1), (5, .slice (some ⟨b12, 0, none⟩) 2 2)]) (cs := flowC exM (.slice (some ⟨b1, 0, none⟩) 1 1) (.slice (some ⟨b2, 0, none⟩) 1 1) (.slice (some ⟨b12, 0, none⟩) 2 2)) pl26 AO rfl rfl Y1) ?_
 refine AI rfl rfl (B8 _ _ _ _ _ _ _ _ _ _) Cd Y3 (by rfl) rfl rfl ?_
 refine Aa [0] ?_
 repeat' (first | (refine Ah rfl ?_) | (refine Ak rfl ?_) | (refine Al ?_) | (refine C1 Tryz.func36 (.cellA rfl U26 rfl AO Y13 rfl (.nil)) (fun w_ hi_ => ?_)))
 refine ⟨[⟨b12, true, .cells #[.slice (some ⟨b4, 0, none⟩) 1 1, .int .u8 5, .int .i64 0, .int .i64 0, .int .i64 1, .int .i64 0, str bMp, .slice (some ⟨b5, 0, none⟩) 1 1, .slice (some ⟨b7, 0, none⟩) 1 1, .int .i64 (-1), .slice none 0 0, .int .u8 3, .int .i64 0, .int .i64 0, .int .i64 0, .int .i64 0, str [], .slice none 0 0, .slice none 0 0, .int .i64 (-1)] 70 (0, 0)⟩, ⟨b7, true, .cells #[str bME, .int .i64 1] 75 (0, 0)⟩, ⟨b5, true, .cells #[.int .i64 0] 3 (0, 0)⟩, ⟨b4, true, .cells #[.int .u8 1, .int .i64 0, .int .i64 0, .int .i64 0, .int .i64 (-2), .int .i64 0, str [], .slice none 0 0] 73 (0, 0)⟩, ⟨b2, true, .cells #[str bME] 9 (0, 0)⟩, ⟨b1, true, .cells #[.int .u8 1] 5 (0, 0)⟩], ⟨_, rfl, _, _, _, rfl, ?_, ?_, ?_⟩, hi_.subset ?_⟩
 · exact BF (cells := [.int .u8 1]) (n := 1) b1 (.tail _ (.tail _ (.tail _ (.tail _ (.tail _ (.head _))))))
 · exact BF (cells := [str bME]) (n := 1) b2 (.tail _ (.tail _ (.tail _ (.tail _ (.head _)))))
 · refine ⟨[⟨⟨[⟨1, 0, 0, 0, -2, 0, [], []⟩], ⟨5, 0, 0, 1, 0, bMp, [0], [(bME, 1)], -1⟩⟩, .slice (some ⟨b4, 0, none⟩) 1 1, .slice (some ⟨b5, 0, none⟩) 1 1, .slice (some ⟨b7, 0, none⟩) 1 1, []⟩, ⟨⟨[], ⟨3, 0, 0, 0, 0, [], [], [], -1⟩⟩, .slice none 0 0, .slice none 0 0, .slice none 0 0, []⟩], rfl, ?_, ?_⟩
   · exact BF (cells := (#[.slice (some ⟨b4, 0, none⟩) 1 1, .int .u8 5, .int .i64 0, .int .i64 0, .int .i64 1, .int .i64 0, str bMp, .slice (some ⟨b5, 0, none⟩) 1 1, .slice (some ⟨b7, 0, none⟩) 1 1, .int .i64 (-1), .slice none 0 0, .int .u8 3, .int .i64 0, .int .i64 0, .int .i64 0, .int .i64 0, str [], .slice none 0 0, .slice none 0 0, .int .i64 (-1)]).toList) (n := 2) b12 (.head _)
   · intro p hp
     simp only [List.mem_cons, List.not_mem_nil, or_false] at hp
     rcases hp with rfl | rfl
     · refine ⟨⟨[(⟨1, 0, 0, 0, -2, 0, [], []⟩, .slice none 0 0)], rfl, ?_, ?_⟩, ?_, ?_⟩
       · exact BF (cells := (#[.int .u8 1, .int .i64 0, .int .i64 0, .int .i64 0, .int .i64 (-2), .int .i64 0, str [], .slice none 0 0]).toList) (n := 1) b4 (.tail _ (.tail _ (.tail _ (.head _))))
       · intro q hq
         rw [List.mem_singleton.1 hq]
         exact SlK.nil rfl
       · exact BF (cells := [.int .i64 0]) (n := 1) b5 (.tail _ (.tail _ (.head _)))
       · exact BF (cells := (#[str bME, .int .i64 1]).toList) (n := 1) b7 (.tail _ (.head _))
     · exact ⟨⟨[], rfl, SlK.nil rfl, fun _ h => (List.not_mem_nil h).elim⟩, SlK.nil rfl, SlK.nil rfl⟩
 · simp only [List.cons_append, List.nil_append]
   repeat (first | exact List.Sublist.refl _ | apply List.Sublist.cons_cons | apply List.Sublist.cons)
end
end Go.Sl
namespace Go.Sl
open Go Go.RowKit Go.Shelf Go.Proofs
attribute [local irreducible] Calls
theorem w_abs {C : Cx} {S : Nat → Prop} {w0 : World} {k : List Item} {D : List Deferred} {E : List (Nat × Value)} {H : List Ent} (h : ∀ G, (∀ e ∈ H, e ∈ G) → H.Sublist G → WF C S w0 k D E G) : WF C S w0 k D E H := h H (fun _ h => h) (List.Sublist.refl _)
section
variable {C : Cx} {S : Nat → Prop} {w0 : World} {D : List Deferred} {E : List (Nat × Value)} {H : List Ent} {d : Option Tmp} {t : TypeId} {p : String} {af : Array Edge} {g : Option (Nat × Bool)} {x y : Operand} {yt : TypeId} {a a2 c c2 : Int} {s s2 : Bs}
theorem ov_eqlPlcT (hC : C.P = Tryz.prog) (hx : opv E x = some (.agg #[.int .i64 a, .int .u8 c, str s])) (hy : opv E y = some (.agg #[.int .i64 a2, .int .u8 c2, str s2])) (h : (a, c, s) = (a2, c2, s2)) : OpV C S w0 H D E ⟨d, .binOp .eql 49 x y yt, t, p, af, g⟩ (.bool true) := by
 have := ov_eqlR (C := C) (S := S) (w0 := w0) (H := H) (D := D) (d := d) (t := t) (p := p) (af := af) (g := g) (yt := yt) (hC ▸ plc_fs) (hC ▸ plc_sh) (hC ▸ plc_eg) hx hy (by rw [hC]; exact eqfs_plc)
 rw [and3b] at this
 simp only [Prod.mk.injEq] at h
 rwa [decide_eq_true h] at this
end
section
variable {S : Nat → Prop} {w0 : World} {F : List Ent}
theorem exM_X : FlowX exM := flowX_of ex_snd Y22 Y22
theorem exsame_c {v u : Value} (hK : FlowK S w0 F exM v) (hK2 : FlowK S w0 F exM u) : Yields S w0 F 23 [v, u] (.bool true) := by
 have := same_c hK exM_X hK2 exM_X
 rwa [decide_eq_true rfl] at this
theorem exM_L : FlowL exM := ⟨by decide +kernel, by decide +kernel⟩
theorem exM_R : FlowR exM := flowR_of ex_snd (by decide +kernel)
theorem exenc_c {v : Value} (hK : FlowK S w0 F exM v) : SLF Tryz.prog S w0 F 13 [v] [] (fun e post => ∃ v, e = .returned v ∧ ∃ bsv plv, v = .tuple #[.agg #[str bMain, bsv, plv], .int .i64 0] ∧ SlK S w0 post (byv exB) 43 bsv ∧ SlK S w0 post (rowV plcC [(21, 1, bMp)]) 1 plv) := by
 refine SLF.mono (encode_c hK (fun _ => exM_R) exM_L) ?_
 rintro e post ⟨u, h1, bsv, plv, rfl, h2, h3⟩
 simp only [ex_enc] at h1 h2 h3
 exact ⟨_, h1, bsv, plv, rfl, h2, h3⟩
theorem exblk_c {v : Value} (h : SlK S w0 F (byv exB) 43 v) : SLF Tryz.prog S w0 F 30 [v] [] (fun e post => ∃ v, e = .returned v ∧ ∃ u, v = .tuple #[u, .int .i64 0] ∧ SlK S w0 post (intsV [12, 39]) 2 u) := by
 have := blocks_c (b := exB) h Y22
 rwa [ex_blk] at this
theorem exfront_c {v : Value} (h : SlK S w0 F (byv exB) 43 v) (hP : PowF F) : SLF Tryz.prog S w0 F 27 [v] [] (fun e post => ∃ v, e = .returned v ∧ ∃ u, v = .tuple #[.agg #[u, .int .u8 1], .int .i64 0] ∧ SlK S w0 post [] 0 u) := by
 have := front_c (b := exB) h Y22 hP
 rwa [ex_front] at this
theorem exlen_c {v : Value} (hK : FlowK S w0 F exM v) : Yields S w0 F 15 [v] (.tuple #[.int .i64 43, .int .i64 0]) := by
 have := length_c hK (fun _ => exM_R) exM_L
 rwa [ex_len] at this
theorem exback_c {v nv : Value} (h : SlK S w0 F (byv exB) 43 v) (hN : NamesV S w0 F exN nv) : SLF Tryz.prog S w0 F 25 [str bMain, v, nv] [] (fun e post => ∃ v, e = .returned v ∧ ∃ u, v = .tuple #[u, .int .i64 0] ∧ FlowK S w0 post exM u) := by
 have := back_c (b := exB) (nm := bMain) (names := exN) h Y22 hN (fun q => by unfold exN; split <;> simp)
 rwa [ex_back] at this
theorem exback0_c {v nv : Value} (h : SlK S w0 F (byv exB) 43 v) (hN : NamesV S w0 F (fun _ => []) nv) : SLF Tryz.prog S w0 F 25 [str bMain, v, nv] [] (fun e post => ∃ v, e = .returned v ∧ ∃ u, v = .tuple #[u, .int .i64 5] ∧ FlowK S w0 post flow0 u) := by
 have := back_c (b := exB) (nm := bMain) (names := fun _ => []) h Y22 hN (fun q => by simp)
 rwa [ex_back0] at this
theorem exdec_c {v : Value} (hK : CodeK S w0 F exC v) : SLF Tryz.prog S w0 F 21 [v] [] (fun e post => ∃ v, e = .returned v ∧ ∃ u, v = .tuple #[u, .int .i64 0] ∧ FlowK S w0 post exM u) := by
 have := decode_c hK Y22 Y22
 rwa [ex_dec] at this
theorem exdec0_c {v : Value} (hK : CodeK S w0 F ⟨bMain, exB ++ [0], [(21, 1, bMp)]⟩ v) : SLF Tryz.prog S w0 F 21 [v] [] (fun e post => ∃ v, e = .returned v ∧ ∃ u, v = .tuple #[u, .int .i64 150] ∧ FlowK S w0 post flow0 u) := by
 have := decode_c hK Y22 Y22
 rwa [ex_dec0] at this
theorem FlowK.cells {x : FlowM} {v : Value} (h : FlowK S w0 F x v) : ∃ fc : Array Value, v = .agg fc ∧ fc.size = 6 ∧ fc.toList.all okCell = true := by
 obtain ⟨rv, sv, bv, rfl, ⟨a1, c1, rfl, _⟩, ⟨a2, c2, rfl, _⟩, ⟨ps, _, ⟨a3, c3, rfl, _⟩, _⟩⟩ := h
 exact ⟨_, rfl, rfl, B8 _ _ _ _ _ _ _ _ _ _⟩
def FlAt (S : Nat → Prop) (w0 : World) (b : Nat) (x : FlowM) (G : List Ent) : Prop := ∃ fc : Array Value, (⟨b, true, .cells fc 26 (0, 0)⟩ : Ent) ∈ G ∧ FlowK S w0 G x (.agg fc)
theorem FlowK.ex {x : FlowM} {v : Value} (h : FlowK S w0 F x v) : ∃ a1 c1 a2 c2 a3 c3, v = .agg (flowC x (.slice a1 x.regs.length c1) (.slice a2 x.raises.length c2) (.slice a3 x.blks.length c3)) := by
 obtain ⟨rv, sv, bv, rfl, ⟨a1, c1, rfl, _⟩, ⟨a2, c2, rfl, _⟩, ⟨ps, _, ⟨a3, c3, rfl, _⟩, _⟩⟩ := h
 exact ⟨_, _, _, _, _, _, rfl⟩
theorem FlAt.up {b : Nat} {x : FlowM} {G G' : List Ent} (h : FlAt S w0 b x G) (hu : ∀ e ∈ G, e ∈ G') : FlAt S w0 b x G' := by
 obtain ⟨fc, h1, h2⟩ := h
 exact ⟨fc, hu _ h1, h2.up hu⟩
theorem FlAt.ex {b : Nat} {x : FlowM} {G : List Ent} (h : FlAt S w0 b x G) : ∃ a1 c1 a2 c2 a3 c3, (⟨b, true, .cells (flowC x (.slice a1 x.regs.length c1) (.slice a2 x.raises.length c2) (.slice a3 x.blks.length c3)) 26 (0, 0)⟩ : Ent) ∈ G ∧ FlowK S w0 G x (.agg (flowC x (.slice a1 x.regs.length c1) (.slice a2 x.raises.length c2) (.slice a3 x.blks.length c3))) := by
 obtain ⟨fc, h1, h2⟩ := h
 obtain ⟨a1, c1, a2, c2, a3, c3, he⟩ := h2.ex
 cases he
 exact ⟨_, _, _, _, _, _, h1, h2⟩
theorem CV {b : Nat} (hm : (⟨b, true, .cells #[str bMp] 9 (0, 0)⟩ : Ent) ∈ F) : NamesV S w0 F exN (.agg #[.slice none 0 0, .slice (some ⟨b, 0, none⟩) 1 1, .slice none 0 0, .slice none 0 0, .slice none 0 0, .slice none 0 0]) := by
 refine ⟨_, rfl, rfl, fun q hq => ?_⟩
 obtain rfl | rfl | rfl | rfl | rfl | rfl : q = 0 ∨ q = 1 ∨ q = 2 ∨ q = 3 ∨ q = 4 ∨ q = 5 := by omega
 · exact ⟨_, rfl, SlK.nil rfl⟩
 · exact ⟨_, rfl, BF (cells := [str bMp]) (n := 1) b hm⟩
 all_goals exact ⟨_, rfl, SlK.nil rfl⟩
theorem names_none : NamesV S w0 F (fun _ => []) (.agg #[.slice none 0 0, .slice none 0 0, .slice none 0 0, .slice none 0 0, .slice none 0 0, .slice none 0 0]) := by
 refine ⟨_, rfl, rfl, fun q hq => ?_⟩
 obtain rfl | rfl | rfl | rfl | rfl | rfl : q = 0 ∨ q = 1 ∨ q = 2 ∨ q = 3 ∨ q = 4 ∨ q = 5 := by omega
 all_goals exact ⟨_, rfl, SlK.nil rfl⟩
theorem wrote_c (hP : PowF F) : Yields S w0 F 12 [] (.bool true) := by
 refine AA fun w hi => ?_
 simp only [List.nil_append] at hi
 refine Ai Tryz.func12 rfl rfl (hi) ?_
 repeat' (first | (refine Ah rfl ?_) | (refine Ak rfl ?_) | (refine Al ?_) | (refine Am ?_) | ((refine Ab 0 ?_; try (refine Za rfl (Aa N11 ?_)))) | ((refine Ab 1 ?_; try ((refine AT Y6 (CallR.val rfl en36) rfl rfl CW ?_; rintro v post hE; try simp only [List.nil_append, List.append_assoc, List.cons_append]) <;> try ((refine AT Y6 (CallR.val rfl en13) rfl rfl (exenc_c (hE.up Y20)) ?_; rintro _ post2 ⟨bsv, plv, rfl, ⟨a1, c1, rfl, hc1, hb1⟩, ⟨a2, c2, rfl, hc2, hp1⟩⟩; try simp only [List.nil_append, List.append_assoc, List.cons_append]) <;> try (refine Zm rfl (Zv (Af rfl rfl) (Zv (Af rfl rfl) ?_)); try (refine A4 inf31 rfl rfl rfl rfl (fun b_ hb_ => ?_); try (refine AI rfl rfl rfl sz31 Y3 Y15 rfl rfl ?_; try (refine Za rfl (Aa N11 ?_))))))))))
 refine w_abs fun G1 hG1 hS1 => ?_
 have m1 := hG1 _ (.head _)
 have s1 : SlK S w0 G1 (byv exB) 43 (.slice a1 43 c1) := SlK.up ⟨a1, c1, rfl, hc1, hb1⟩ fun e h => hG1 e (.tail _ (List.mem_append_left _ h))
 have s2 : SlK S w0 G1 (rowV plcC [(21, 1, bMp)]) 1 (.slice a2 1 c2) := SlK.up ⟨a2, c2, rfl, hc2, hp1⟩ fun e h => hG1 e (.tail _ (List.mem_append_left _ h))
 have hs1 : F.Sublist G1 := List.Sublist.trans Y21 hS1
 have hP1 : PowF G1 := hP.up fun e h => hs1.subset h
 clear hG1 hS1 hE hb1 hp1
 clear hP
 revert b_
 intro b1 hb1 m1
 refine A0 (E' := [(2, .int .i64 0), (1, pv b1 0), (0, .bool false)]) Y14 ?_
 repeat' (first | (refine Ah rfl ?_) | (refine Ak rfl ?_) | (refine Al ?_) | ((refine Ab 2 ?_; try ((refine AT Y6 (CallR.val rfl en37) rfl rfl CP ?_; rintro _ post ⟨bb, rfl, rfl⟩; try simp only [List.nil_append, List.append_assoc, List.cons_append]) <;> try ((refine AT (pre := []) (Take.nil _) (CallR.val rfl en30) rfl rfl (exblk_c (BF (cells := byv exB) (n := 43) bb (.head _))) ?_; rintro _ post ⟨_, rfl, ⟨a3, c3, rfl, hc3, hk3⟩⟩) <;> try (refine Zm rfl (Zv (Af rfl rfl) (Zv (Af rfl rfl) (Za rfl (Za rfl (Aa N11 ?_)))))))))))
 refine Am ?_
 refine A0 (E' := [(4, .int .i64 0), (3, .slice a3 2 c3), (2, .int .i64 0), (1, pv b1 0), (0, .bool false)]) Y14 ?_
 refine w_abs fun G2 hG2 hS2 => ?_
 have s3 : SlK S w0 G2 (intsV [12, 39]) 2 (.slice a3 2 c3) := SlK.up ⟨a3, c3, rfl, hc3, hk3⟩ fun e h => hG2 e (List.mem_append_left _ h)
 have hu : ∀ e ∈ G1, e ∈ G2 := fun e h => hG2 e (List.mem_append_right _ (.tail _ h))
 replace m1 := hu _ m1
 replace s1 := s1.up hu
 replace s2 := s2.up hu
 replace hP1 := hP1.up hu
 have hs2 : F.Sublist G2 := List.Sublist.trans (List.Sublist.trans hs1 (List.sublist_append_of_sublist_right (.cons _ (List.Sublist.refl _)))) hS2
 clear hk3 hu hG2 hS2 hs1
 clear G1
 repeat' (first | (refine Ah rfl ?_) | (refine Ak rfl ?_) | (refine Al ?_) | ((refine Ab 3 ?_; try ((refine AT Y6 (CallR.val rfl en37) rfl rfl CP ?_; rintro _ post ⟨bb, rfl, rfl⟩; try simp only [List.nil_append, List.append_assoc, List.cons_append]) <;> try ((refine AT (pre := []) (Take.nil _) (CallR.val rfl en27) rfl rfl (exfront_c (BF (cells := byv exB) (n := 43) bb (.head _)) (hP1.up Y16)) ?_; rintro _ post ⟨_, rfl, ⟨a5, c5, rfl, hc5, hk5⟩⟩) <;> try (refine Zm rfl (Zv (Af rfl rfl) (Zv (Af rfl rfl) ?_)); try (refine A4 inf53 rfl rfl rfl rfl (fun b_ hb_ => ?_); try (refine AI rfl rfl rfl sz53 Y3 Y15 rfl rfl ?_; try (refine Za rfl (Aa N11 ?_))))))))))
 revert b_
 intro b5 hb5
 refine Am ?_
 refine A0 (E' := [(6, .int .i64 0), (5, pv b5 0), (4, .int .i64 0), (3, .slice a3 2 c3), (2, .int .i64 0), (1, pv b1 0), (0, .bool false)]) Y14 ?_
 refine w_abs fun G3 hG3 hS3 => ?_
 have m5 := hG3 _ (.head _)
 have hu : ∀ e ∈ G2, e ∈ G3 := fun e h => hG3 e (.tail _ (List.mem_append_right _ (.tail _ h)))
 replace m1 := hu _ m1
 replace s1 := s1.up hu
 replace s2 := s2.up hu
 replace s3 := s3.up hu
 replace hP1 := hP1.up hu
 have hs3 : F.Sublist G3 := List.Sublist.trans (List.Sublist.trans hs2 (.cons _ (List.sublist_append_of_sublist_right (.cons _ (List.Sublist.refl _))))) hS3
 clear hk5 hu hG3 hS3 hs2
 clear G2
 repeat' (first | (refine Ah rfl ?_) | (refine Ak rfl ?_) | (refine Al ?_) | ((refine Ab 4 ?_; try ((refine AT Y6 (CallR.val rfl en36) rfl rfl CW ?_; rintro v post hE; try simp only [List.nil_append, List.append_assoc, List.cons_append]) <;> try (refine Zv (Au (CallR.val rfl en15) (exlen_c (hE.up Y20))) ?_; try (refine Zm rfl (Zv (Af rfl rfl) (Zv (Af rfl rfl) (Za rfl (Za rfl (Aa N11 ?_)))))))))))
 refine Am ?_
 refine A0 (E' := [(8, .int .i64 0), (7, .int .i64 43), (6, .int .i64 0), (5, pv b5 0), (4, .int .i64 0), (3, .slice a3 2 c3), (2, .int .i64 0), (1, pv b1 0), (0, .bool false)]) Y14 ?_
 refine CR (H' := G3) Y21 ?_
 clear hE
 repeat' (first | (refine Ah rfl ?_) | (refine Ak rfl ?_) | (refine Al ?_) | ((refine Ab 5 ?_; try ((refine wo_bs1 U23 inf9 rfl rfl rfl rfl rfl rfl (fun bb_ hb_ => ?_)) <;> try (refine Zv (AY (vs := [(1, .slice (some ⟨bb_, 0, none⟩) 1 1)]) (cs := #[.slice none 0 0, .slice (some ⟨bb_, 0, none⟩) 1 1, .slice none 0 0, .slice none 0 0, .slice none 0 0, .slice none 0 0]) U44 sz23 inf44 rfl rfl Y1) ?_; try (refine A4 inf44 rfl rfl rfl rfl (fun b_ hb_ => ?_); try (refine AI rfl rfl rfl sz44 Y3 Y15 rfl rfl ?_; try ((refine Aa N11 ?_)))))))))
 refine Am ?_
 revert b_
 intro b9 hb9
 refine A0 (E' := [(9, pv b9 0), (8, .int .i64 0), (7, .int .i64 43), (6, .int .i64 0), (5, pv b5 0), (4, .int .i64 0), (3, .slice a3 2 c3), (2, .int .i64 0), (1, pv b1 0), (0, .bool false)]) Y14 ?_
 refine w_abs fun G2 hG3 hS3 => ?_
 have m9 := hG3 _ (.head _)
 have mn := hG3 _ (.tail _ (.head _))
 have hu : ∀ e ∈ G3, e ∈ G2 := fun e h => hG3 e (.tail _ (.tail _ h))
 replace m1 := hu _ m1
 replace m5 := hu _ m5
 replace s1 := s1.up hu
 replace s2 := s2.up hu
 replace s3 := s3.up hu
 replace hP1 := hP1.up hu
 have hs2 : F.Sublist G2 := List.Sublist.trans (List.Sublist.trans hs3 (.cons _ (.cons _ (List.Sublist.refl _)))) hS3
 clear hu hG3 hS3 hs3
 clear G3
 refine w_cutG (β := { q : Nat × List Ent // FlAt S w0 q.1 exM q.2 ∧ (∀ e ∈ G2, e ∈ q.2) ∧ F.Sublist q.2 }) (fun q => [(11, .int .i64 0), (10, pv q.1.1 0), (9, pv b9 0), (8, .int .i64 0), (7, .int .i64 43), (6, .int .i64 0), (5, pv b5 0), (4, .int .i64 0), (3, .slice a3 2 c3), (2, .int .i64 0), (1, pv b1 0), (0, .bool false)]) (fun q => q.1.2) ?_ ?_
 rotate_left
 · intro k' rest
   repeat' (first | (refine Ah rfl ?_) | (refine Ak rfl ?_) | (refine Al ?_) | ((refine Cs (m := 9) 6 rfl mixed rfl ?_; try (refine Cb 0 1 6 Y1 ?_ ?_ ?_ <;> (first | (show WI _ _ _ _ _ _ 0 _ _ _ _; try ((refine AD rfl Y6 (CallR.val rfl en37) rfl rfl rfl CP ?_; rintro _ post ⟨bb, rfl, rfl⟩; try simp only [List.nil_append, List.append_assoc, List.cons_append]) <;> try (refine A9 1 6 Y1 ?_ ?_ <;> (first | (show WI _ _ _ _ _ _ 1 _ _ _ _; try ((refine An rfl (AK (cs := #[.slice none 0 0, .slice (some ⟨bb_, 0, none⟩) 1 1, .slice none 0 0, .slice none 0 0, .slice none 0 0, .slice none 0 0]) U44 rfl inf44 rfl (fun j h => Kn.of (by repeat (first | exact m9 | refine .tail _ ?_ | refine List.mem_append_right _ ?_)) (by rw [Nat.zero_add]; exact Array.getElem?_eq_getElem h)) rfl) rfl rfl rfl ?_) <;> try (refine A9 2 6 Y1 ?_ ?_ <;> (first | (show WI _ _ _ _ _ _ 2 _ _ _ _; try ((refine AD (pre := []) rfl (Take.nil _) (CallR.val rfl en25) rfl rfl rfl (exback_c (BF (cells := byv exB) (n := 43) bb Y17) (CV (b := bb_) Y17)) ?_; rintro _ X6 ⟨_, rfl, hf6⟩; obtain ⟨f1, f2, f3, f4, f5, f6, rfl⟩ := hf6.ex) <;> try (refine Zt 3 rfl (fun _ => Aj rfl) (Zt 4 rfl (fun _ => Af rfl rfl) (Zt 5 rfl (fun _ => Af rfl rfl) (Ae 6 Y1 ?_))) <;> try (refine AB rfl AO rfl rfl rfl rfl rfl (fun b_ hb_ => ?_); try (refine Ae 7 Y1 ?_ <;> try (refine Ar rfl rfl rfl (B8 _ _ _ _ _ _ _ _ _ _) Cd Y3 (by rfl) rfl rfl rfl ?_; try (refine Zt 8 rfl (fun _ => Ao rfl) (Ap N11 Y1 ?_)))))))) | (show WI _ _ _ _ _ _ 6 _ _ _ _; try (refine AB rfl AO rfl rfl rfl rfl rfl (fun b_ hb_ => ?_); try (refine Ae 2 Y1 ?_ <;> try ((refine AD (pre := []) rfl (Take.nil _) (CallR.val rfl en25) rfl rfl rfl (exback_c (BF (cells := byv exB) (n := 43) bb Y17) (CV (b := bb_) Y17)) ?_; rintro _ X6 ⟨_, rfl, hf6⟩; obtain ⟨f1, f2, f3, f4, f5, f6, rfl⟩ := hf6.ex) <;> try (refine Zt 3 rfl (fun _ => Aj rfl) (Zt 4 rfl (fun _ => Af rfl rfl) (Zt 5 rfl (fun _ => Af rfl rfl) (Ae 7 Y1 ?_))) <;> try (refine Ar rfl rfl rfl (B8 _ _ _ _ _ _ _ _ _ _) Cd Y3 (by rfl) rfl rfl rfl ?_; try (refine Zt 8 rfl (fun _ => Ao rfl) (Ap N11 Y1 ?_)))))))))))) | (show WI _ _ _ _ _ _ 6 _ _ _ _; try (refine AB rfl AO rfl rfl rfl rfl rfl (fun b_ hb_ => ?_); try (refine Ae 1 Y1 ?_ <;> try ((refine An rfl (AK (cs := #[.slice none 0 0, .slice (some ⟨bb_, 0, none⟩) 1 1, .slice none 0 0, .slice none 0 0, .slice none 0 0, .slice none 0 0]) U44 rfl inf44 rfl (fun j h => Kn.of (by repeat (first | exact m9 | refine .tail _ ?_ | refine List.mem_append_right _ ?_)) (by rw [Nat.zero_add]; exact Array.getElem?_eq_getElem h)) rfl) rfl rfl rfl ?_) <;> try (refine Ae 2 Y1 ?_ <;> try ((refine AD (pre := []) rfl (Take.nil _) (CallR.val rfl en25) rfl rfl rfl (exback_c (BF (cells := byv exB) (n := 43) bb Y17) (CV (b := bb_) Y17)) ?_; rintro _ X6 ⟨_, rfl, hf6⟩; obtain ⟨f1, f2, f3, f4, f5, f6, rfl⟩ := hf6.ex) <;> try (refine Zt 3 rfl (fun _ => Aj rfl) (Zt 4 rfl (fun _ => Af rfl rfl) (Zt 5 rfl (fun _ => Af rfl rfl) (Ae 7 Y1 ?_))) <;> try (refine Ar rfl rfl rfl (B8 _ _ _ _ _ _ _ _ _ _) Cd Y3 (by rfl) rfl rfl rfl ?_; try (refine Zt 8 rfl (fun _ => Ao rfl) (Ap N11 Y1 ?_)))))))))))))) | (show WI _ _ _ _ _ _ 1 _ _ _ _; try ((refine An rfl (AK (cs := #[.slice none 0 0, .slice (some ⟨bb_, 0, none⟩) 1 1, .slice none 0 0, .slice none 0 0, .slice none 0 0, .slice none 0 0]) U44 rfl inf44 rfl (fun j h => Kn.of (by repeat (first | exact m9 | refine .tail _ ?_ | refine List.mem_append_right _ ?_)) (by rw [Nat.zero_add]; exact Array.getElem?_eq_getElem h)) rfl) rfl rfl rfl ?_) <;> try (refine A9 0 6 Y1 ?_ ?_ <;> (first | (show WI _ _ _ _ _ _ 0 _ _ _ _; try ((refine AD rfl Y6 (CallR.val rfl en37) rfl rfl rfl CP ?_; rintro _ post ⟨bb, rfl, rfl⟩; try simp only [List.nil_append, List.append_assoc, List.cons_append]) <;> try (refine A9 2 6 Y1 ?_ ?_ <;> (first | (show WI _ _ _ _ _ _ 2 _ _ _ _; try ((refine AD (pre := []) rfl (Take.nil _) (CallR.val rfl en25) rfl rfl rfl (exback_c (BF (cells := byv exB) (n := 43) bb Y17) (CV (b := bb_) Y17)) ?_; rintro _ X6 ⟨_, rfl, hf6⟩; obtain ⟨f1, f2, f3, f4, f5, f6, rfl⟩ := hf6.ex) <;> try (refine Zt 3 rfl (fun _ => Aj rfl) (Zt 4 rfl (fun _ => Af rfl rfl) (Zt 5 rfl (fun _ => Af rfl rfl) (Ae 6 Y1 ?_))) <;> try (refine AB rfl AO rfl rfl rfl rfl rfl (fun b_ hb_ => ?_); try (refine Ae 7 Y1 ?_ <;> try (refine Ar rfl rfl rfl (B8 _ _ _ _ _ _ _ _ _ _) Cd Y3 (by rfl) rfl rfl rfl ?_; try (refine Zt 8 rfl (fun _ => Ao rfl) (Ap N11 Y1 ?_)))))))) | (show WI _ _ _ _ _ _ 6 _ _ _ _; try (refine AB rfl AO rfl rfl rfl rfl rfl (fun b_ hb_ => ?_); try (refine Ae 2 Y1 ?_ <;> try ((refine AD (pre := []) rfl (Take.nil _) (CallR.val rfl en25) rfl rfl rfl (exback_c (BF (cells := byv exB) (n := 43) bb Y17) (CV (b := bb_) Y17)) ?_; rintro _ X6 ⟨_, rfl, hf6⟩; obtain ⟨f1, f2, f3, f4, f5, f6, rfl⟩ := hf6.ex) <;> try (refine Zt 3 rfl (fun _ => Aj rfl) (Zt 4 rfl (fun _ => Af rfl rfl) (Zt 5 rfl (fun _ => Af rfl rfl) (Ae 7 Y1 ?_))) <;> try (refine Ar rfl rfl rfl (B8 _ _ _ _ _ _ _ _ _ _) Cd Y3 (by rfl) rfl rfl rfl ?_; try (refine Zt 8 rfl (fun _ => Ao rfl) (Ap N11 Y1 ?_)))))))))))) | (show WI _ _ _ _ _ _ 6 _ _ _ _; try (refine AB rfl AO rfl rfl rfl rfl rfl (fun b_ hb_ => ?_); try (refine Ae 0 Y1 ?_ <;> try ((refine AD rfl Y6 (CallR.val rfl en37) rfl rfl rfl CP ?_; rintro _ post ⟨bb, rfl, rfl⟩; try simp only [List.nil_append, List.append_assoc, List.cons_append]) <;> try (refine Ae 2 Y1 ?_ <;> try ((refine AD (pre := []) rfl (Take.nil _) (CallR.val rfl en25) rfl rfl rfl (exback_c (BF (cells := byv exB) (n := 43) bb Y17) (CV (b := bb_) Y17)) ?_; rintro _ X6 ⟨_, rfl, hf6⟩; obtain ⟨f1, f2, f3, f4, f5, f6, rfl⟩ := hf6.ex) <;> try (refine Zt 3 rfl (fun _ => Aj rfl) (Zt 4 rfl (fun _ => Af rfl rfl) (Zt 5 rfl (fun _ => Af rfl rfl) (Ae 7 Y1 ?_))) <;> try (refine Ar rfl rfl rfl (B8 _ _ _ _ _ _ _ _ _ _) Cd Y3 (by rfl) rfl rfl rfl ?_; try (refine Zt 8 rfl (fun _ => Ao rfl) (Ap N11 Y1 ?_)))))))))))))) | (show WI _ _ _ _ _ _ 6 _ _ _ _; try (refine AB rfl AO rfl rfl rfl rfl rfl (fun b_ hb_ => ?_); try (refine A9 0 1 Y1 ?_ ?_ <;> (first | (show WI _ _ _ _ _ _ 0 _ _ _ _; try ((refine AD rfl Y6 (CallR.val rfl en37) rfl rfl rfl CP ?_; rintro _ post ⟨bb, rfl, rfl⟩; try simp only [List.nil_append, List.append_assoc, List.cons_append]) <;> try (refine Ae 1 Y1 ?_ <;> try ((refine An rfl (AK (cs := #[.slice none 0 0, .slice (some ⟨bb_, 0, none⟩) 1 1, .slice none 0 0, .slice none 0 0, .slice none 0 0, .slice none 0 0]) U44 rfl inf44 rfl (fun j h => Kn.of (by repeat (first | exact m9 | refine .tail _ ?_ | refine List.mem_append_right _ ?_)) (by rw [Nat.zero_add]; exact Array.getElem?_eq_getElem h)) rfl) rfl rfl rfl ?_) <;> try (refine Ae 2 Y1 ?_ <;> try ((refine AD (pre := []) rfl (Take.nil _) (CallR.val rfl en25) rfl rfl rfl (exback_c (BF (cells := byv exB) (n := 43) bb Y17) (CV (b := bb_) Y17)) ?_; rintro _ X6 ⟨_, rfl, hf6⟩; obtain ⟨f1, f2, f3, f4, f5, f6, rfl⟩ := hf6.ex) <;> try (refine Zt 3 rfl (fun _ => Aj rfl) (Zt 4 rfl (fun _ => Af rfl rfl) (Zt 5 rfl (fun _ => Af rfl rfl) (Ae 7 Y1 ?_))) <;> try (refine Ar rfl rfl rfl (B8 _ _ _ _ _ _ _ _ _ _) Cd Y3 (by rfl) rfl rfl rfl ?_; try (refine Zt 8 rfl (fun _ => Ao rfl) (Ap N11 Y1 ?_)))))))))) | (show WI _ _ _ _ _ _ 1 _ _ _ _; try ((refine An rfl (AK (cs := #[.slice none 0 0, .slice (some ⟨bb_, 0, none⟩) 1 1, .slice none 0 0, .slice none 0 0, .slice none 0 0, .slice none 0 0]) U44 rfl inf44 rfl (fun j h => Kn.of (by repeat (first | exact m9 | refine .tail _ ?_ | refine List.mem_append_right _ ?_)) (by rw [Nat.zero_add]; exact Array.getElem?_eq_getElem h)) rfl) rfl rfl rfl ?_) <;> try (refine Ae 0 Y1 ?_ <;> try ((refine AD rfl Y6 (CallR.val rfl en37) rfl rfl rfl CP ?_; rintro _ post ⟨bb, rfl, rfl⟩; try simp only [List.nil_append, List.append_assoc, List.cons_append]) <;> try (refine Ae 2 Y1 ?_ <;> try ((refine AD (pre := []) rfl (Take.nil _) (CallR.val rfl en25) rfl rfl rfl (exback_c (BF (cells := byv exB) (n := 43) bb Y17) (CV (b := bb_) Y17)) ?_; rintro _ X6 ⟨_, rfl, hf6⟩; obtain ⟨f1, f2, f3, f4, f5, f6, rfl⟩ := hf6.ex) <;> try (refine Zt 3 rfl (fun _ => Aj rfl) (Zt 4 rfl (fun _ => Af rfl rfl) (Zt 5 rfl (fun _ => Af rfl rfl) (Ae 7 Y1 ?_))) <;> try (refine Ar rfl rfl rfl (B8 _ _ _ _ _ _ _ _ _ _) Cd Y3 (by rfl) rfl rfl rfl ?_; try (refine Zt 8 rfl (fun _ => Ao rfl) (Ap N11 Y1 ?_)))))))))))))))))))
   all_goals exact A0 Y10 (rest ⟨(b_, _), ⟨_, Y17, hf6.up Y20⟩, Y20, Y21⟩)
 rintro ⟨⟨b10, G3⟩, hf10, hu, hs3⟩
 simp only at hf10 hu hs3 ⊢
 replace m1 := hu _ m1
 replace m5 := hu _ m5
 replace s1 := s1.up hu
 replace s2 := s2.up hu
 replace s3 := s3.up hu
 replace hP1 := hP1.up hu
 clear m9 mn hu hs2
 clear G2
 repeat refine Am ?_
 repeat' (first | (refine Ah rfl ?_) | (refine Ak rfl ?_) | (refine Al ?_) | ((refine Ab 7 ?_; try ((refine AT Y6 (CallR.val rfl en37) rfl rfl CP ?_; rintro _ post ⟨bb, rfl, rfl⟩; try simp only [List.nil_append, List.append_assoc, List.cons_append]) <;> try (refine Zv (AY (vs := []) (cs := #[.slice none 0 0, .slice none 0 0, .slice none 0 0, .slice none 0 0, .slice none 0 0, .slice none 0 0]) U44 sz23 inf44 rfl rfl Y1) ?_; try ((refine AT (pre := []) (Take.nil _) (CallR.val rfl en25) rfl rfl (exback0_c (BF (cells := byv exB) (n := 43) bb (.head _)) names_none) ?_; rintro _ X7 ⟨_, rfl, hf7⟩; obtain ⟨f1, f2, f3, f4, f5, f6, rfl⟩ := hf7.ex) <;> try (refine Zm rfl (Zv (Af rfl rfl) (Zv (Af rfl rfl) ?_)); try (refine A4 AO rfl rfl rfl rfl (fun b_ hb_ => ?_); try (refine AI rfl rfl (B8 _ _ _ _ _ _ _ _ _ _) Cd Y3 (by rfl) rfl rfl ?_; try (refine Za rfl (Aa N11 ?_)))))))))))
 refine A0 (E' := [(13, .int .i64 5), (11, .int .i64 0), (10, pv b10 0), (8, .int .i64 0), (7, .int .i64 43), (6, .int .i64 0), (5, pv b5 0), (4, .int .i64 0), (3, .slice a3 2 c3), (2, .int .i64 0), (1, pv b1 0), (0, .bool false)]) Y14 ?_
 refine CR (H' := G3) Y21 ?_
 clear hf7
 refine Am ?_
 repeat' (first | (refine Ah rfl ?_) | (refine Ak rfl ?_) | (refine Al ?_) | ((refine Ab 8 ?_; try ((refine Zv (AK (cs := #[str bMain, .slice a1 43 c1, .slice a2 1 c2]) U31 rfl inf31 rfl (fun j h => Kn.of m1 (by rw [Nat.zero_add]; exact Array.getElem?_eq_getElem h)) rfl) ?_) <;> try ((refine AT (pre := []) (Take.nil _) (CallR.val rfl en21) rfl rfl (exdec_c ⟨_, _, rfl, s1, s2⟩) ?_; rintro _ X8 ⟨_, rfl, hf8⟩; obtain ⟨f1, f2, f3, f4, f5, f6, rfl⟩ := hf8.ex) <;> try (refine Zm rfl (Zv (Af rfl rfl) (Zv (Af rfl rfl) ?_)); try (refine A4 AO rfl rfl rfl rfl (fun b_ hb_ => ?_); try (refine AI rfl rfl (B8 _ _ _ _ _ _ _ _ _ _) Cd Y3 (by rfl) rfl rfl ?_; try (refine Za rfl (Aa N11 ?_))))))))))
 refine Am ?_
 revert b_
 intro b14 hb14
 refine A0 (E' := [(15, .int .i64 0), (14, pv b14 0), (13, .int .i64 5), (11, .int .i64 0), (10, pv b10 0), (8, .int .i64 0), (7, .int .i64 43), (6, .int .i64 0), (5, pv b5 0), (4, .int .i64 0), (3, .slice a3 2 c3), (2, .int .i64 0), (1, pv b1 0), (0, .bool false)]) Y14 ?_
 refine w_abs fun G2 hG3 hS3 => ?_
 have hf14 : FlAt S w0 b14 exM G2 := ⟨_, hG3 _ (.head _), hf8.up fun e h => hG3 e (.tail _ (List.mem_append_left _ h))⟩
 have hu : ∀ e ∈ G3, e ∈ G2 := fun e h => hG3 e (.tail _ (List.mem_append_right _ h))
 replace m1 := hu _ m1
 replace m5 := hu _ m5
 replace s1 := s1.up hu
 replace s2 := s2.up hu
 replace s3 := s3.up hu
 replace hf10 := hf10.up hu
 have hs2 : F.Sublist G2 := List.Sublist.trans (List.Sublist.trans hs3 (.cons _ (List.sublist_append_of_sublist_right (List.Sublist.refl _)))) hS3
 clear hu hG3 hS3 hs3 hf8
 clear hP1
 clear G3
 repeat' (first | (refine Ah rfl ?_) | (refine Ak rfl ?_) | (refine Al ?_) | (refine Am ?_) | (refine Az rfl ?_) | (refine AE ?_) | ((refine Ab 9 ?_; try (refine Zm rfl (Zv (AX rfl rfl (by first | exact A2 Y9 | exact Ay Y9 | exact rfl)) ?_); try (refine Zm rfl ?_; try (((refine Zm rfl ?_)) <;> try (((refine Zv (AX rfl rfl (by first | exact A2 Y9 | exact Ay Y9 | exact rfl)) ?_)) <;> try (refine Zv (AC rfl rfl) (Zm rfl ?_); try (((refine Zm rfl ?_)) <;> try (((refine Zv (AX rfl rfl (by first | exact A2 Y9 | exact Ay Y9 | exact rfl)) ?_)) <;> try (refine Zv (AC rfl rfl) (Zm rfl ?_); try (((refine Zm rfl ?_)) <;> try (((refine Zv (AX rfl rfl (by first | exact A2 Y9 | exact Ay Y9 | exact rfl)) ?_)) <;> try (refine Zv (AC rfl rfl) (Zm rfl ?_); try (((refine Zm rfl ?_)) <;> try (((refine Zv (AX rfl rfl (by first | exact A2 Y9 | exact Ay Y9 | exact rfl)) ?_)) <;> try (refine Zv (AC rfl rfl) (Zm rfl ?_); try (((refine Zm rfl ?_)) <;> try (((refine Zv (AX rfl rfl (by first | exact A2 Y9 | exact Ay Y9 | exact rfl)) ?_)) <;> try (refine Zv (AC rfl rfl) (Zm rfl ?_); try (((refine Zm rfl ?_)) <;> try (((refine Zv (AX rfl rfl (by first | exact A2 Y9 | exact Ay Y9 | exact rfl)) ?_)) <;> try (refine Zv (AC rfl rfl) (Zm rfl ?_); try (((refine Zm rfl ?_)) <;> try (((refine Zv (As rfl U59 rfl) ?_)) <;> try (((refine Zv (AX rfl rfl (by first | exact A2 Y9 | exact Ay Y9 | exact rfl)) ?_)) <;> try (refine Zv (AC rfl rfl) (Aa N11 ?_))))))))))))))))))))))))))))
 obtain ⟨p2, o2, rfl, hk2⟩ : ∃ p2 o2, a2 = some ⟨p2, o2, none⟩ ∧ ∀ j (h : j < (#[.int .i64 21, .int .u8 1, str bMp] : Array Value).size), Kn S w0 G2 p2 (o2 + (0 : Int).toNat * 3 + j) (#[.int .i64 21, .int .u8 1, str bMp] : Array Value)[j] := by
  obtain ⟨_, _, e, _, h⟩ := id s2
  cases e
  obtain ⟨b, o, h1, h2⟩ := h.resolve_left (by simp [rowV, plcC])
  exact ⟨b, o, h1, fun j hj => by simpa [rowV, plcC] using h2 j (by simpa [rowV, plcC] using hj)⟩
 obtain ⟨p3, o3, rfl, hk30, hk31⟩ : ∃ p3 o3, a3 = some ⟨p3, o3, none⟩ ∧ Kn S w0 G2 p3 (o3 + (0 : Int).toNat * 1) (.int .i64 12) ∧ Kn S w0 G2 p3 (o3 + (1 : Int).toNat * 1) (.int .i64 39) := by
  obtain ⟨_, _, e, _, h⟩ := id s3
  cases e
  obtain ⟨b, o, h1, h2⟩ := h.resolve_left (by simp [intsV])
  exact ⟨b, o, h1, by simpa [intsV] using h2 0 (by simp [intsV]), by simpa [intsV] using h2 1 (by simp [intsV])⟩
 repeat' (first | (refine Ah rfl ?_) | (refine Ak rfl ?_) | (refine Al ?_) | ((refine Ab 11 ?_; try ((refine AT Y6 (CallR.val rfl en37) rfl rfl CP ?_; rintro _ post ⟨bb, rfl, rfl⟩; try simp only [List.nil_append, List.append_assoc, List.cons_append]) <;> try ((refine wo_bs1 U22 inf5 rfl rfl rfl rfl rfl rfl (fun bb_ hb_ => ?_)) <;> try ((refine wo_append (sz := 1) (base := some bb) (xs := byv exB) (rst := []) rfl rfl U22 U22 rfl inf5 rfl Y22 rfl rfl rfl rfl ⟨.tail _ (by rw [List.append_nil]; exact .head _), .tail _ (.head _ _)⟩ (.head _) (new := [.int .u8 0]) rfl Y26 (List.all_eq_true.1 rfl) Y22 Y22 Y22 rfl rfl (fun b92 c92 r92 hl92 hc92 => ?_)) <;> try (refine Zv (C4 pl49 Bh rfl rfl rfl rfl rfl rfl rfl) ?_; try ((refine wo_bsA3 U29 Bh rfl rfl rfl rfl rfl (fun bb_ hb_ => ?_)) <;> try (refine Zv (C4 pl31 inf31 rfl rfl rfl rfl rfl rfl rfl) ?_; try ((refine AT (pre := []) (Take.nil _) (CallR.val rfl en21) rfl rfl (exdec0_c ⟨_, _, rfl, SlK.cons (SlK.own hc92), BF (cells := [.int .i64 21, .int .u8 1, str bMp]) (n := 1) bb_ (.head _)⟩) ?_; rintro _ X11 ⟨_, rfl, hf11⟩; obtain ⟨f1, f2, f3, f4, f5, f6, rfl⟩ := hf11.ex) <;> try (refine Zm rfl (Zv (Af rfl rfl) (Zv (Af rfl rfl) ?_)); try (refine A4 AO rfl rfl rfl rfl (fun b_ hb_ => ?_); try (refine AI rfl rfl (B8 _ _ _ _ _ _ _ _ _ _) Cd Y3 (by rfl) rfl rfl ?_; try (refine Za rfl (Aa N11 ?_)))))))))))))))
 refine A0 (E' := [(17, .int .i64 150), (14, pv b14 0), (10, pv b10 0), (7, .int .i64 43), (5, pv b5 0), (3, .slice (some ⟨p3, o3, none⟩) 2 c3), (1, pv b1 0), (0, .bool false)]) Y14 ?_
 refine CR (H' := G2) Y21 ?_
 clear hf11
 repeat refine Am ?_
 refine w_cutG (β := { q : List Ent // (∀ e ∈ G2, e ∈ q) ∧ F.Sublist q }) (fun q => [(18, .bool true), (17, .int .i64 150), (14, pv b14 0), (10, pv b10 0), (0, .bool false)]) (fun q => q.1) ?_ ?_
 rotate_left
 · intro k' rest
   repeat' (first | (refine Ah rfl ?_) | (refine Ak rfl ?_) | (refine Al ?_) | ((refine Cs (m := 48) 12 rfl mixed rfl ?_; try (refine Zt 0 rfl (fun _ => Ad fo31_1 rfl) ?_; try (refine A9 1 3 Y1 ?_ ?_ <;> (first | (show WI _ _ _ _ _ _ 1 _ _ _ _; try ((refine An rfl (Ac U22 rfl rfl (by repeat (first | exact m1 | exact m5 | refine .tail _ ?_ | refine List.mem_append_right _ ?_)) rfl) rfl rfl rfl ?_) <;> try (refine A9 2 3 Y1 ?_ ?_ <;> (first | (show WI _ _ _ _ _ _ 2 _ _ _ _; try (refine An rfl (B0 U22 U9 U5 rfl (s1.up Y16)) rfl rfl rfl ?_; try (refine Ae 3 Y1 ?_ <;> try ((refine AD rfl Y6 (CallR.val rfl en37) rfl rfl rfl CP ?_; rintro _ post ⟨bb, rfl, rfl⟩; try simp only [List.nil_append, List.append_assoc, List.cons_append]) <;> try (refine Ae 4 Y1 ?_ <;> try (refine An rfl (B0 U22 U9 U5 rfl (BF (cells := byv exB) (n := 43) bb Y17)) rfl rfl rfl ?_; try (refine Zt 5 rfl (fun _ => BU rfl rfl Y18) ?_; try (refine Zt 6 rfl (fun _ => Aj rfl) ?_; try (((refine Zt 7 rfl (fun _ => Ad Ct rfl) ?_)) <;> try (refine Ae 8 Y1 ?_ <;> try (((refine An rfl (Ac U29 rfl rfl (by repeat (first | exact m1 | exact m5 | refine .tail _ ?_ | refine List.mem_append_right _ ?_)) rfl) rfl rfl rfl ?_)) <;> try (((refine Zt 9 rfl (fun _ => As rfl U29 rfl) ?_)) <;> try (((refine Zt 10 rfl (fun _ => Aw rfl rfl Y2) ?_)) <;> try (refine Zt 11 rfl (fun _ => Av rfl rfl) (Zt 12 rfl (fun _ => Aj rfl) ?_); try (((refine Zt 13 rfl (fun _ => Ad Ct rfl) ?_)) <;> try (((refine Zt 17 rfl (fun _ => C4 pl49 Bh rfl rfl rfl rfl rfl rfl rfl) ?_)) <;> try (refine Ae 14 Y1 ?_ <;> try (((refine An rfl (Ac U29 rfl rfl (by repeat (first | exact m1 | exact m5 | refine .tail _ ?_ | refine List.mem_append_right _ ?_)) rfl) rfl rfl rfl ?_)) <;> try (((refine Zt 15 rfl (fun _ => Aq U29 sz49 rfl rfl Y9 Y9) ?_)) <;> try (refine Ae 16 Y1 ?_ <;> try (((refine An rfl (AK (cs := #[.int .i64 21, .int .u8 1, str bMp]) U49 rfl Bh rfl (fun j h => (hk2 j h).mono Y16) rfl) rfl rfl rfl ?_)) <;> try (((refine Zt 18 rfl (fun _ => ov_eqlPlcT rfl rfl rfl rfl) ?_)) <;> try (refine Zt 19 rfl (fun _ => Av rfl rfl) (Zt 20 rfl (fun _ => Aj rfl) ?_); try (((refine Zt 21 rfl (fun _ => Aj rfl) ?_)) <;> try (((refine Zt 22 rfl (fun _ => Aq U59 sz3 rfl rfl Y9 Y9) ?_)) <;> try (refine Ae 23 Y1 ?_ <;> try (((refine An rfl (A7 U3 rfl rfl (hk30.mono Y16)) rfl rfl rfl ?_)) <;> try (((refine Zt 24 rfl (fun _ => Aw rfl rfl Y2) ?_)) <;> try (refine Zt 25 rfl (fun _ => Av rfl rfl) (Zt 26 rfl (fun _ => Aj rfl) ?_); try (((refine Zt 27 rfl (fun _ => Aj rfl) ?_)) <;> try (((refine Zt 28 rfl (fun _ => Aq U59 sz3 rfl rfl Y9 Y9) ?_)) <;> try (refine Ae 29 Y1 ?_ <;> try (((refine An rfl (A7 U3 rfl rfl (hk31.mono Y16)) rfl rfl rfl ?_)) <;> try (((refine Zt 30 rfl (fun _ => Aw rfl rfl Y2) ?_)) <;> try (refine Zt 31 rfl (fun _ => Av rfl rfl) (Zt 32 rfl (fun _ => Aj rfl) ?_); try (((refine Zt 33 rfl (fun _ => Ad fo53_0 rfl) ?_)) <;> try (refine Ae 34 Y1 ?_ <;> try (((refine An rfl (Ac U22 rfl rfl (by repeat (first | exact m1 | exact m5 | refine .tail _ ?_ | refine List.mem_append_right _ ?_)) rfl) rfl rfl rfl ?_)) <;> try (((refine Zt 35 rfl (fun _ => As rfl U22 rfl) ?_)) <;> try (((refine Zt 36 rfl (fun _ => Aw rfl rfl Y2) ?_)) <;> try (refine Zt 37 rfl (fun _ => Av rfl rfl) (Zt 38 rfl (fun _ => Aj rfl) ?_); try (((refine Zt 39 rfl (fun _ => Ad fo53_1 rfl) ?_)) <;> try (refine Ae 40 Y1 ?_ <;> try (((refine An rfl (Ac U5 rfl rfl (by repeat (first | exact m1 | exact m5 | refine .tail _ ?_ | refine List.mem_append_right _ ?_)) rfl) rfl rfl rfl ?_)) <;> try (((refine Zt 41 rfl (fun _ => Aw rfl rfl Y2) ?_)) <;> try (refine Zt 42 rfl (fun _ => Av rfl rfl) (Zt 43 rfl (fun _ => Aj rfl) ?_); try (((refine Zt 44 rfl (fun _ => Aj rfl) ?_)) <;> try (((refine Zt 45 rfl (fun _ => Aw rfl rfl Y2) ?_)) <;> try (refine Zt 46 rfl (fun _ => Av rfl rfl) (Zt 47 rfl (fun _ => Ao rfl) (Ap N11 Y1 ?_))))))))))))))))))))))))))))))))))))))))))))))))))) | (show WI _ _ _ _ _ _ 3 _ _ _ _; try ((refine AD rfl Y6 (CallR.val rfl en37) rfl rfl rfl CP ?_; rintro _ post ⟨bb, rfl, rfl⟩; try simp only [List.nil_append, List.append_assoc, List.cons_append]) <;> try (refine A9 2 4 Y1 ?_ ?_ <;> (first | (show WI _ _ _ _ _ _ 2 _ _ _ _; try (refine An rfl (B0 U22 U9 U5 rfl (s1.up Y16)) rfl rfl rfl ?_; try (refine Ae 4 Y1 ?_ <;> try (refine An rfl (B0 U22 U9 U5 rfl (BF (cells := byv exB) (n := 43) bb Y17)) rfl rfl rfl ?_; try (refine Zt 5 rfl (fun _ => BU rfl rfl Y18) ?_; try (refine Zt 6 rfl (fun _ => Aj rfl) ?_; try (((refine Zt 7 rfl (fun _ => Ad Ct rfl) ?_)) <;> try (refine Ae 8 Y1 ?_ <;> try (((refine An rfl (Ac U29 rfl rfl (by repeat (first | exact m1 | exact m5 | refine .tail _ ?_ | refine List.mem_append_right _ ?_)) rfl) rfl rfl rfl ?_)) <;> try (((refine Zt 9 rfl (fun _ => As rfl U29 rfl) ?_)) <;> try (((refine Zt 10 rfl (fun _ => Aw rfl rfl Y2) ?_)) <;> try (refine Zt 11 rfl (fun _ => Av rfl rfl) (Zt 12 rfl (fun _ => Aj rfl) ?_); try (((refine Zt 13 rfl (fun _ => Ad Ct rfl) ?_)) <;> try (((refine Zt 17 rfl (fun _ => C4 pl49 Bh rfl rfl rfl rfl rfl rfl rfl) ?_)) <;> try (refine Ae 14 Y1 ?_ <;> try (((refine An rfl (Ac U29 rfl rfl (by repeat (first | exact m1 | exact m5 | refine .tail _ ?_ | refine List.mem_append_right _ ?_)) rfl) rfl rfl rfl ?_)) <;> try (((refine Zt 15 rfl (fun _ => Aq U29 sz49 rfl rfl Y9 Y9) ?_)) <;> try (refine Ae 16 Y1 ?_ <;> try (((refine An rfl (AK (cs := #[.int .i64 21, .int .u8 1, str bMp]) U49 rfl Bh rfl (fun j h => (hk2 j h).mono Y16) rfl) rfl rfl rfl ?_)) <;> try (((refine Zt 18 rfl (fun _ => ov_eqlPlcT rfl rfl rfl rfl) ?_)) <;> try (refine Zt 19 rfl (fun _ => Av rfl rfl) (Zt 20 rfl (fun _ => Aj rfl) ?_); try (((refine Zt 21 rfl (fun _ => Aj rfl) ?_)) <;> try (((refine Zt 22 rfl (fun _ => Aq U59 sz3 rfl rfl Y9 Y9) ?_)) <;> try (refine Ae 23 Y1 ?_ <;> try (((refine An rfl (A7 U3 rfl rfl (hk30.mono Y16)) rfl rfl rfl ?_)) <;> try (((refine Zt 24 rfl (fun _ => Aw rfl rfl Y2) ?_)) <;> try (refine Zt 25 rfl (fun _ => Av rfl rfl) (Zt 26 rfl (fun _ => Aj rfl) ?_); try (((refine Zt 27 rfl (fun _ => Aj rfl) ?_)) <;> try (((refine Zt 28 rfl (fun _ => Aq U59 sz3 rfl rfl Y9 Y9) ?_)) <;> try (refine Ae 29 Y1 ?_ <;> try (((refine An rfl (A7 U3 rfl rfl (hk31.mono Y16)) rfl rfl rfl ?_)) <;> try (((refine Zt 30 rfl (fun _ => Aw rfl rfl Y2) ?_)) <;> try (refine Zt 31 rfl (fun _ => Av rfl rfl) (Zt 32 rfl (fun _ => Aj rfl) ?_); try (((refine Zt 33 rfl (fun _ => Ad fo53_0 rfl) ?_)) <;> try (refine Ae 34 Y1 ?_ <;> try (((refine An rfl (Ac U22 rfl rfl (by repeat (first | exact m1 | exact m5 | refine .tail _ ?_ | refine List.mem_append_right _ ?_)) rfl) rfl rfl rfl ?_)) <;> try (((refine Zt 35 rfl (fun _ => As rfl U22 rfl) ?_)) <;> try (((refine Zt 36 rfl (fun _ => Aw rfl rfl Y2) ?_)) <;> try (refine Zt 37 rfl (fun _ => Av rfl rfl) (Zt 38 rfl (fun _ => Aj rfl) ?_); try (((refine Zt 39 rfl (fun _ => Ad fo53_1 rfl) ?_)) <;> try (refine Ae 40 Y1 ?_ <;> try (((refine An rfl (Ac U5 rfl rfl (by repeat (first | exact m1 | exact m5 | refine .tail _ ?_ | refine List.mem_append_right _ ?_)) rfl) rfl rfl rfl ?_)) <;> try (((refine Zt 41 rfl (fun _ => Aw rfl rfl Y2) ?_)) <;> try (refine Zt 42 rfl (fun _ => Av rfl rfl) (Zt 43 rfl (fun _ => Aj rfl) ?_); try (((refine Zt 44 rfl (fun _ => Aj rfl) ?_)) <;> try (((refine Zt 45 rfl (fun _ => Aw rfl rfl Y2) ?_)) <;> try (refine Zt 46 rfl (fun _ => Av rfl rfl) (Zt 47 rfl (fun _ => Ao rfl) (Ap N11 Y1 ?_))))))))))))))))))))))))))))))))))))))))))))))))) | (show WI _ _ _ _ _ _ 4 _ _ _ _; try (refine An rfl (B0 U22 U9 U5 rfl (BF (cells := byv exB) (n := 43) bb Y17)) rfl rfl rfl ?_; try (refine Ae 2 Y1 ?_ <;> try (refine An rfl (B0 U22 U9 U5 rfl (s1.up Y16)) rfl rfl rfl ?_; try (refine Zt 5 rfl (fun _ => BU rfl rfl Y18) ?_; try (refine Zt 6 rfl (fun _ => Aj rfl) ?_; try (((refine Zt 7 rfl (fun _ => Ad Ct rfl) ?_)) <;> try (refine Ae 8 Y1 ?_ <;> try (((refine An rfl (Ac U29 rfl rfl (by repeat (first | exact m1 | exact m5 | refine .tail _ ?_ | refine List.mem_append_right _ ?_)) rfl) rfl rfl rfl ?_)) <;> try (((refine Zt 9 rfl (fun _ => As rfl U29 rfl) ?_)) <;> try (((refine Zt 10 rfl (fun _ => Aw rfl rfl Y2) ?_)) <;> try (refine Zt 11 rfl (fun _ => Av rfl rfl) (Zt 12 rfl (fun _ => Aj rfl) ?_); try (((refine Zt 13 rfl (fun _ => Ad Ct rfl) ?_)) <;> try (((refine Zt 17 rfl (fun _ => C4 pl49 Bh rfl rfl rfl rfl rfl rfl rfl) ?_)) <;> try (refine Ae 14 Y1 ?_ <;> try (((refine An rfl (Ac U29 rfl rfl (by repeat (first | exact m1 | exact m5 | refine .tail _ ?_ | refine List.mem_append_right _ ?_)) rfl) rfl rfl rfl ?_)) <;> try (((refine Zt 15 rfl (fun _ => Aq U29 sz49 rfl rfl Y9 Y9) ?_)) <;> try (refine Ae 16 Y1 ?_ <;> try (((refine An rfl (AK (cs := #[.int .i64 21, .int .u8 1, str bMp]) U49 rfl Bh rfl (fun j h => (hk2 j h).mono Y16) rfl) rfl rfl rfl ?_)) <;> try (((refine Zt 18 rfl (fun _ => ov_eqlPlcT rfl rfl rfl rfl) ?_)) <;> try (refine Zt 19 rfl (fun _ => Av rfl rfl) (Zt 20 rfl (fun _ => Aj rfl) ?_); try (((refine Zt 21 rfl (fun _ => Aj rfl) ?_)) <;> try (((refine Zt 22 rfl (fun _ => Aq U59 sz3 rfl rfl Y9 Y9) ?_)) <;> try (refine Ae 23 Y1 ?_ <;> try (((refine An rfl (A7 U3 rfl rfl (hk30.mono Y16)) rfl rfl rfl ?_)) <;> try (((refine Zt 24 rfl (fun _ => Aw rfl rfl Y2) ?_)) <;> try (refine Zt 25 rfl (fun _ => Av rfl rfl) (Zt 26 rfl (fun _ => Aj rfl) ?_); try (((refine Zt 27 rfl (fun _ => Aj rfl) ?_)) <;> try (((refine Zt 28 rfl (fun _ => Aq U59 sz3 rfl rfl Y9 Y9) ?_)) <;> try (refine Ae 29 Y1 ?_ <;> try (((refine An rfl (A7 U3 rfl rfl (hk31.mono Y16)) rfl rfl rfl ?_)) <;> try (((refine Zt 30 rfl (fun _ => Aw rfl rfl Y2) ?_)) <;> try (refine Zt 31 rfl (fun _ => Av rfl rfl) (Zt 32 rfl (fun _ => Aj rfl) ?_); try (((refine Zt 33 rfl (fun _ => Ad fo53_0 rfl) ?_)) <;> try (refine Ae 34 Y1 ?_ <;> try (((refine An rfl (Ac U22 rfl rfl (by repeat (first | exact m1 | exact m5 | refine .tail _ ?_ | refine List.mem_append_right _ ?_)) rfl) rfl rfl rfl ?_)) <;> try (((refine Zt 35 rfl (fun _ => As rfl U22 rfl) ?_)) <;> try (((refine Zt 36 rfl (fun _ => Aw rfl rfl Y2) ?_)) <;> try (refine Zt 37 rfl (fun _ => Av rfl rfl) (Zt 38 rfl (fun _ => Aj rfl) ?_); try (((refine Zt 39 rfl (fun _ => Ad fo53_1 rfl) ?_)) <;> try (refine Ae 40 Y1 ?_ <;> try (((refine An rfl (Ac U5 rfl rfl (by repeat (first | exact m1 | exact m5 | refine .tail _ ?_ | refine List.mem_append_right _ ?_)) rfl) rfl rfl rfl ?_)) <;> try (((refine Zt 41 rfl (fun _ => Aw rfl rfl Y2) ?_)) <;> try (refine Zt 42 rfl (fun _ => Av rfl rfl) (Zt 43 rfl (fun _ => Aj rfl) ?_); try (((refine Zt 44 rfl (fun _ => Aj rfl) ?_)) <;> try (((refine Zt 45 rfl (fun _ => Aw rfl rfl Y2) ?_)) <;> try (refine Zt 46 rfl (fun _ => Av rfl rfl) (Zt 47 rfl (fun _ => Ao rfl) (Ap N11 Y1 ?_))))))))))))))))))))))))))))))))))))))))))))))))))))))))) | (show WI _ _ _ _ _ _ 3 _ _ _ _; try ((refine AD rfl Y6 (CallR.val rfl en37) rfl rfl rfl CP ?_; rintro _ post ⟨bb, rfl, rfl⟩; try simp only [List.nil_append, List.append_assoc, List.cons_append]) <;> try (refine A9 1 4 Y1 ?_ ?_ <;> (first | (show WI _ _ _ _ _ _ 1 _ _ _ _; try ((refine An rfl (Ac U22 rfl rfl (by repeat (first | exact m1 | exact m5 | refine .tail _ ?_ | refine List.mem_append_right _ ?_)) rfl) rfl rfl rfl ?_) <;> try (refine A9 2 4 Y1 ?_ ?_ <;> (first | (show WI _ _ _ _ _ _ 2 _ _ _ _; try (refine An rfl (B0 U22 U9 U5 rfl (s1.up Y16)) rfl rfl rfl ?_; try (refine Ae 4 Y1 ?_ <;> try (refine An rfl (B0 U22 U9 U5 rfl (BF (cells := byv exB) (n := 43) bb Y17)) rfl rfl rfl ?_; try (refine Zt 5 rfl (fun _ => BU rfl rfl Y18) ?_; try (refine Zt 6 rfl (fun _ => Aj rfl) ?_; try (((refine Zt 7 rfl (fun _ => Ad Ct rfl) ?_)) <;> try (refine Ae 8 Y1 ?_ <;> try (((refine An rfl (Ac U29 rfl rfl (by repeat (first | exact m1 | exact m5 | refine .tail _ ?_ | refine List.mem_append_right _ ?_)) rfl) rfl rfl rfl ?_)) <;> try (((refine Zt 9 rfl (fun _ => As rfl U29 rfl) ?_)) <;> try (((refine Zt 10 rfl (fun _ => Aw rfl rfl Y2) ?_)) <;> try (refine Zt 11 rfl (fun _ => Av rfl rfl) (Zt 12 rfl (fun _ => Aj rfl) ?_); try (((refine Zt 13 rfl (fun _ => Ad Ct rfl) ?_)) <;> try (((refine Zt 17 rfl (fun _ => C4 pl49 Bh rfl rfl rfl rfl rfl rfl rfl) ?_)) <;> try (refine Ae 14 Y1 ?_ <;> try (((refine An rfl (Ac U29 rfl rfl (by repeat (first | exact m1 | exact m5 | refine .tail _ ?_ | refine List.mem_append_right _ ?_)) rfl) rfl rfl rfl ?_)) <;> try (((refine Zt 15 rfl (fun _ => Aq U29 sz49 rfl rfl Y9 Y9) ?_)) <;> try (refine Ae 16 Y1 ?_ <;> try (((refine An rfl (AK (cs := #[.int .i64 21, .int .u8 1, str bMp]) U49 rfl Bh rfl (fun j h => (hk2 j h).mono Y16) rfl) rfl rfl rfl ?_)) <;> try (((refine Zt 18 rfl (fun _ => ov_eqlPlcT rfl rfl rfl rfl) ?_)) <;> try (refine Zt 19 rfl (fun _ => Av rfl rfl) (Zt 20 rfl (fun _ => Aj rfl) ?_); try (((refine Zt 21 rfl (fun _ => Aj rfl) ?_)) <;> try (((refine Zt 22 rfl (fun _ => Aq U59 sz3 rfl rfl Y9 Y9) ?_)) <;> try (refine Ae 23 Y1 ?_ <;> try (((refine An rfl (A7 U3 rfl rfl (hk30.mono Y16)) rfl rfl rfl ?_)) <;> try (((refine Zt 24 rfl (fun _ => Aw rfl rfl Y2) ?_)) <;> try (refine Zt 25 rfl (fun _ => Av rfl rfl) (Zt 26 rfl (fun _ => Aj rfl) ?_); try (((refine Zt 27 rfl (fun _ => Aj rfl) ?_)) <;> try (((refine Zt 28 rfl (fun _ => Aq U59 sz3 rfl rfl Y9 Y9) ?_)) <;> try (refine Ae 29 Y1 ?_ <;> try (((refine An rfl (A7 U3 rfl rfl (hk31.mono Y16)) rfl rfl rfl ?_)) <;> try (((refine Zt 30 rfl (fun _ => Aw rfl rfl Y2) ?_)) <;> try (refine Zt 31 rfl (fun _ => Av rfl rfl) (Zt 32 rfl (fun _ => Aj rfl) ?_); try (((refine Zt 33 rfl (fun _ => Ad fo53_0 rfl) ?_)) <;> try (refine Ae 34 Y1 ?_ <;> try (((refine An rfl (Ac U22 rfl rfl (by repeat (first | exact m1 | exact m5 | refine .tail _ ?_ | refine List.mem_append_right _ ?_)) rfl) rfl rfl rfl ?_)) <;> try (((refine Zt 35 rfl (fun _ => As rfl U22 rfl) ?_)) <;> try (((refine Zt 36 rfl (fun _ => Aw rfl rfl Y2) ?_)) <;> try (refine Zt 37 rfl (fun _ => Av rfl rfl) (Zt 38 rfl (fun _ => Aj rfl) ?_); try (((refine Zt 39 rfl (fun _ => Ad fo53_1 rfl) ?_)) <;> try (refine Ae 40 Y1 ?_ <;> try (((refine An rfl (Ac U5 rfl rfl (by repeat (first | exact m1 | exact m5 | refine .tail _ ?_ | refine List.mem_append_right _ ?_)) rfl) rfl rfl rfl ?_)) <;> try (((refine Zt 41 rfl (fun _ => Aw rfl rfl Y2) ?_)) <;> try (refine Zt 42 rfl (fun _ => Av rfl rfl) (Zt 43 rfl (fun _ => Aj rfl) ?_); try (((refine Zt 44 rfl (fun _ => Aj rfl) ?_)) <;> try (((refine Zt 45 rfl (fun _ => Aw rfl rfl Y2) ?_)) <;> try (refine Zt 46 rfl (fun _ => Av rfl rfl) (Zt 47 rfl (fun _ => Ao rfl) (Ap N11 Y1 ?_))))))))))))))))))))))))))))))))))))))))))))))))) | (show WI _ _ _ _ _ _ 4 _ _ _ _; try (refine An rfl (B0 U22 U9 U5 rfl (BF (cells := byv exB) (n := 43) bb Y17)) rfl rfl rfl ?_; try (refine Ae 2 Y1 ?_ <;> try (refine An rfl (B0 U22 U9 U5 rfl (s1.up Y16)) rfl rfl rfl ?_; try (refine Zt 5 rfl (fun _ => BU rfl rfl Y18) ?_; try (refine Zt 6 rfl (fun _ => Aj rfl) ?_; try (((refine Zt 7 rfl (fun _ => Ad Ct rfl) ?_)) <;> try (refine Ae 8 Y1 ?_ <;> try (((refine An rfl (Ac U29 rfl rfl (by repeat (first | exact m1 | exact m5 | refine .tail _ ?_ | refine List.mem_append_right _ ?_)) rfl) rfl rfl rfl ?_)) <;> try (((refine Zt 9 rfl (fun _ => As rfl U29 rfl) ?_)) <;> try (((refine Zt 10 rfl (fun _ => Aw rfl rfl Y2) ?_)) <;> try (refine Zt 11 rfl (fun _ => Av rfl rfl) (Zt 12 rfl (fun _ => Aj rfl) ?_); try (((refine Zt 13 rfl (fun _ => Ad Ct rfl) ?_)) <;> try (((refine Zt 17 rfl (fun _ => C4 pl49 Bh rfl rfl rfl rfl rfl rfl rfl) ?_)) <;> try (refine Ae 14 Y1 ?_ <;> try (((refine An rfl (Ac U29 rfl rfl (by repeat (first | exact m1 | exact m5 | refine .tail _ ?_ | refine List.mem_append_right _ ?_)) rfl) rfl rfl rfl ?_)) <;> try (((refine Zt 15 rfl (fun _ => Aq U29 sz49 rfl rfl Y9 Y9) ?_)) <;> try (refine Ae 16 Y1 ?_ <;> try (((refine An rfl (AK (cs := #[.int .i64 21, .int .u8 1, str bMp]) U49 rfl Bh rfl (fun j h => (hk2 j h).mono Y16) rfl) rfl rfl rfl ?_)) <;> try (((refine Zt 18 rfl (fun _ => ov_eqlPlcT rfl rfl rfl rfl) ?_)) <;> try (refine Zt 19 rfl (fun _ => Av rfl rfl) (Zt 20 rfl (fun _ => Aj rfl) ?_); try (((refine Zt 21 rfl (fun _ => Aj rfl) ?_)) <;> try (((refine Zt 22 rfl (fun _ => Aq U59 sz3 rfl rfl Y9 Y9) ?_)) <;> try (refine Ae 23 Y1 ?_ <;> try (((refine An rfl (A7 U3 rfl rfl (hk30.mono Y16)) rfl rfl rfl ?_)) <;> try (((refine Zt 24 rfl (fun _ => Aw rfl rfl Y2) ?_)) <;> try (refine Zt 25 rfl (fun _ => Av rfl rfl) (Zt 26 rfl (fun _ => Aj rfl) ?_); try (((refine Zt 27 rfl (fun _ => Aj rfl) ?_)) <;> try (((refine Zt 28 rfl (fun _ => Aq U59 sz3 rfl rfl Y9 Y9) ?_)) <;> try (refine Ae 29 Y1 ?_ <;> try (((refine An rfl (A7 U3 rfl rfl (hk31.mono Y16)) rfl rfl rfl ?_)) <;> try (((refine Zt 30 rfl (fun _ => Aw rfl rfl Y2) ?_)) <;> try (refine Zt 31 rfl (fun _ => Av rfl rfl) (Zt 32 rfl (fun _ => Aj rfl) ?_); try (((refine Zt 33 rfl (fun _ => Ad fo53_0 rfl) ?_)) <;> try (refine Ae 34 Y1 ?_ <;> try (((refine An rfl (Ac U22 rfl rfl (by repeat (first | exact m1 | exact m5 | refine .tail _ ?_ | refine List.mem_append_right _ ?_)) rfl) rfl rfl rfl ?_)) <;> try (((refine Zt 35 rfl (fun _ => As rfl U22 rfl) ?_)) <;> try (((refine Zt 36 rfl (fun _ => Aw rfl rfl Y2) ?_)) <;> try (refine Zt 37 rfl (fun _ => Av rfl rfl) (Zt 38 rfl (fun _ => Aj rfl) ?_); try (((refine Zt 39 rfl (fun _ => Ad fo53_1 rfl) ?_)) <;> try (refine Ae 40 Y1 ?_ <;> try (((refine An rfl (Ac U5 rfl rfl (by repeat (first | exact m1 | exact m5 | refine .tail _ ?_ | refine List.mem_append_right _ ?_)) rfl) rfl rfl rfl ?_)) <;> try (((refine Zt 41 rfl (fun _ => Aw rfl rfl Y2) ?_)) <;> try (refine Zt 42 rfl (fun _ => Av rfl rfl) (Zt 43 rfl (fun _ => Aj rfl) ?_); try (((refine Zt 44 rfl (fun _ => Aj rfl) ?_)) <;> try (((refine Zt 45 rfl (fun _ => Aw rfl rfl Y2) ?_)) <;> try (refine Zt 46 rfl (fun _ => Av rfl rfl) (Zt 47 rfl (fun _ => Ao rfl) (Ap N11 Y1 ?_))))))))))))))))))))))))))))))))))))))))))))))))))))) | (show WI _ _ _ _ _ _ 4 _ _ _ _; try (refine An rfl (B0 U22 U9 U5 rfl (BF (cells := byv exB) (n := 43) bb Y17)) rfl rfl rfl ?_; try (refine Ae 1 Y1 ?_ <;> try ((refine An rfl (Ac U22 rfl rfl (by repeat (first | exact m1 | exact m5 | refine .tail _ ?_ | refine List.mem_append_right _ ?_)) rfl) rfl rfl rfl ?_) <;> try (refine Ae 2 Y1 ?_ <;> try (refine An rfl (B0 U22 U9 U5 rfl (s1.up Y16)) rfl rfl rfl ?_; try (refine Zt 5 rfl (fun _ => BU rfl rfl Y18) ?_; try (refine Zt 6 rfl (fun _ => Aj rfl) ?_; try (((refine Zt 7 rfl (fun _ => Ad Ct rfl) ?_)) <;> try (refine Ae 8 Y1 ?_ <;> try (((refine An rfl (Ac U29 rfl rfl (by repeat (first | exact m1 | exact m5 | refine .tail _ ?_ | refine List.mem_append_right _ ?_)) rfl) rfl rfl rfl ?_)) <;> try (((refine Zt 9 rfl (fun _ => As rfl U29 rfl) ?_)) <;> try (((refine Zt 10 rfl (fun _ => Aw rfl rfl Y2) ?_)) <;> try (refine Zt 11 rfl (fun _ => Av rfl rfl) (Zt 12 rfl (fun _ => Aj rfl) ?_); try (((refine Zt 13 rfl (fun _ => Ad Ct rfl) ?_)) <;> try (((refine Zt 17 rfl (fun _ => C4 pl49 Bh rfl rfl rfl rfl rfl rfl rfl) ?_)) <;> try (refine Ae 14 Y1 ?_ <;> try (((refine An rfl (Ac U29 rfl rfl (by repeat (first | exact m1 | exact m5 | refine .tail _ ?_ | refine List.mem_append_right _ ?_)) rfl) rfl rfl rfl ?_)) <;> try (((refine Zt 15 rfl (fun _ => Aq U29 sz49 rfl rfl Y9 Y9) ?_)) <;> try (refine Ae 16 Y1 ?_ <;> try (((refine An rfl (AK (cs := #[.int .i64 21, .int .u8 1, str bMp]) U49 rfl Bh rfl (fun j h => (hk2 j h).mono Y16) rfl) rfl rfl rfl ?_)) <;> try (((refine Zt 18 rfl (fun _ => ov_eqlPlcT rfl rfl rfl rfl) ?_)) <;> try (refine Zt 19 rfl (fun _ => Av rfl rfl) (Zt 20 rfl (fun _ => Aj rfl) ?_); try (((refine Zt 21 rfl (fun _ => Aj rfl) ?_)) <;> try (((refine Zt 22 rfl (fun _ => Aq U59 sz3 rfl rfl Y9 Y9) ?_)) <;> try (refine Ae 23 Y1 ?_ <;> try (((refine An rfl (A7 U3 rfl rfl (hk30.mono Y16)) rfl rfl rfl ?_)) <;> try (((refine Zt 24 rfl (fun _ => Aw rfl rfl Y2) ?_)) <;> try (refine Zt 25 rfl (fun _ => Av rfl rfl) (Zt 26 rfl (fun _ => Aj rfl) ?_); try (((refine Zt 27 rfl (fun _ => Aj rfl) ?_)) <;> try (((refine Zt 28 rfl (fun _ => Aq U59 sz3 rfl rfl Y9 Y9) ?_)) <;> try (refine Ae 29 Y1 ?_ <;> try (((refine An rfl (A7 U3 rfl rfl (hk31.mono Y16)) rfl rfl rfl ?_)) <;> try (((refine Zt 30 rfl (fun _ => Aw rfl rfl Y2) ?_)) <;> try (refine Zt 31 rfl (fun _ => Av rfl rfl) (Zt 32 rfl (fun _ => Aj rfl) ?_); try (((refine Zt 33 rfl (fun _ => Ad fo53_0 rfl) ?_)) <;> try (refine Ae 34 Y1 ?_ <;> try (((refine An rfl (Ac U22 rfl rfl (by repeat (first | exact m1 | exact m5 | refine .tail _ ?_ | refine List.mem_append_right _ ?_)) rfl) rfl rfl rfl ?_)) <;> try (((refine Zt 35 rfl (fun _ => As rfl U22 rfl) ?_)) <;> try (((refine Zt 36 rfl (fun _ => Aw rfl rfl Y2) ?_)) <;> try (refine Zt 37 rfl (fun _ => Av rfl rfl) (Zt 38 rfl (fun _ => Aj rfl) ?_); try (((refine Zt 39 rfl (fun _ => Ad fo53_1 rfl) ?_)) <;> try (refine Ae 40 Y1 ?_ <;> try (((refine An rfl (Ac U5 rfl rfl (by repeat (first | exact m1 | exact m5 | refine .tail _ ?_ | refine List.mem_append_right _ ?_)) rfl) rfl rfl rfl ?_)) <;> try (((refine Zt 41 rfl (fun _ => Aw rfl rfl Y2) ?_)) <;> try (refine Zt 42 rfl (fun _ => Av rfl rfl) (Zt 43 rfl (fun _ => Aj rfl) ?_); try (((refine Zt 44 rfl (fun _ => Aj rfl) ?_)) <;> try (((refine Zt 45 rfl (fun _ => Aw rfl rfl Y2) ?_)) <;> try (refine Zt 46 rfl (fun _ => Av rfl rfl) (Zt 47 rfl (fun _ => Ao rfl) (Ap N11 Y1 ?_)))))))))))))))))))))))))))))))))))))))))))))))))))))))))))))
   all_goals exact A0 Y10 (rest ⟨_, Y20, Y21⟩)
 rintro ⟨G3, hu, hs3⟩
 simp only at hu hs3 ⊢
 replace hf10 := hf10.up hu
 replace hf14 := hf14.up hu
 clear m1 m5 s1 s2 s3 hk2 hk30 hk31 hu hs2
 clear G2
 obtain ⟨g1, g2, g3, g4, g5, g6, hm10, hq10⟩ := hf10.ex
 obtain ⟨k1, k2, k3, k4, k5, k6, hm14, hq14⟩ := hf14.ex
 clear hf10 hf14
 repeat refine Am ?_
 refine w_cutG (β := { q : List Ent // F.Sublist q }) (fun q => [(0, .bool true)]) (fun q => q.1) ?_ ?_
 rotate_left
 · intro k' rest
   repeat' (first | (refine Ah rfl ?_) | (refine Ak rfl ?_) | (refine Al ?_) | ((refine Cs (m := 16) 13 rfl mixed rfl ?_; try (refine Zt 0 rfl (fun _ => Aj rfl) (Zt 1 rfl (fun _ => Aj rfl) ?_); try (((refine Zt 2 rfl (fun _ => Aj rfl) ?_)) <;> try (((refine Zt 3 rfl (fun _ => Aw rfl rfl Y2) ?_)) <;> try (refine Zt 4 rfl (fun _ => Av rfl rfl) (Zt 5 rfl (fun _ => Aj rfl) ?_); try (refine A9 6 7 Y1 ?_ ?_ <;> (first | (show WI _ _ _ _ _ _ 6 _ _ _ _; try (((refine An rfl (AK (cs := flowC exM (.slice g1 exM.regs.length g2) (.slice g3 exM.raises.length g4) (.slice g5 exM.blks.length g6)) U26 rfl AO rfl (fun j h => Kn.of (by repeat (first | exact hm10 | refine .tail _ ?_ | refine List.mem_append_right _ ?_)) (by rw [Nat.zero_add]; exact Array.getElem?_eq_getElem h)) rfl) rfl rfl rfl ?_)) <;> try (refine Ae 7 Y1 ?_ <;> try (((refine AD rfl Y6 (CallR.val rfl en36) rfl rfl rfl CW ?_; rintro v post hE; try simp only [List.nil_append, List.append_assoc, List.cons_append])) <;> try (refine Ae 8 Y1 ?_ <;> try (((refine An rfl (Au (CallR.val rfl en23) (exsame_c (hq10.up Y20) (hE.up Y20))) rfl rfl rfl ?_)) <;> try (refine Zt 9 rfl (fun _ => Av rfl rfl) (Zt 10 rfl (fun _ => Aj rfl) ?_); try (refine A9 11 12 Y1 ?_ ?_ <;> (first | (show WI _ _ _ _ _ _ 11 _ _ _ _; try (((refine An rfl (AK (cs := flowC exM (.slice k1 exM.regs.length k2) (.slice k3 exM.raises.length k4) (.slice k5 exM.blks.length k6)) U26 rfl AO rfl (fun j h => Kn.of (by repeat (first | exact hm14 | refine .tail _ ?_ | refine List.mem_append_right _ ?_)) (by rw [Nat.zero_add]; exact Array.getElem?_eq_getElem h)) rfl) rfl rfl rfl ?_)) <;> try (refine Ae 12 Y1 ?_ <;> try (((refine AD rfl Y6 (CallR.val rfl en36) rfl rfl rfl CW ?_; rintro v post hE; try simp only [List.nil_append, List.append_assoc, List.cons_append])) <;> try (refine Ae 13 Y1 ?_ <;> try (((refine An rfl (Au (CallR.val rfl en23) (exsame_c (hq14.up Y20) (hE.up Y20))) rfl rfl rfl ?_)) <;> try (refine Zt 14 rfl (fun _ => Av rfl rfl) (Zt 15 rfl (fun _ => Ao rfl) (Ap N11 Y1 ?_))))))))) | (show WI _ _ _ _ _ _ 12 _ _ _ _; try (((refine AD rfl Y6 (CallR.val rfl en36) rfl rfl rfl CW ?_; rintro v post hE; try simp only [List.nil_append, List.append_assoc, List.cons_append])) <;> try (refine Ae 11 Y1 ?_ <;> try (((refine An rfl (AK (cs := flowC exM (.slice k1 exM.regs.length k2) (.slice k3 exM.raises.length k4) (.slice k5 exM.blks.length k6)) U26 rfl AO rfl (fun j h => Kn.of (by repeat (first | exact hm14 | refine .tail _ ?_ | refine List.mem_append_right _ ?_)) (by rw [Nat.zero_add]; exact Array.getElem?_eq_getElem h)) rfl) rfl rfl rfl ?_)) <;> try (refine Ae 13 Y1 ?_ <;> try (((refine An rfl (Au (CallR.val rfl en23) (exsame_c (hq14.up Y20) (hE.up Y20))) rfl rfl rfl ?_)) <;> try (refine Zt 14 rfl (fun _ => Av rfl rfl) (Zt 15 rfl (fun _ => Ao rfl) (Ap N11 Y1 ?_)))))))))))))))))) | (show WI _ _ _ _ _ _ 7 _ _ _ _; try (((refine AD rfl Y6 (CallR.val rfl en36) rfl rfl rfl CW ?_; rintro v post hE; try simp only [List.nil_append, List.append_assoc, List.cons_append])) <;> try (refine Ae 6 Y1 ?_ <;> try (((refine An rfl (AK (cs := flowC exM (.slice g1 exM.regs.length g2) (.slice g3 exM.raises.length g4) (.slice g5 exM.blks.length g6)) U26 rfl AO rfl (fun j h => Kn.of (by repeat (first | exact hm10 | refine .tail _ ?_ | refine List.mem_append_right _ ?_)) (by rw [Nat.zero_add]; exact Array.getElem?_eq_getElem h)) rfl) rfl rfl rfl ?_)) <;> try (refine Ae 8 Y1 ?_ <;> try (((refine An rfl (Au (CallR.val rfl en23) (exsame_c (hq10.up Y20) (hE.up Y20))) rfl rfl rfl ?_)) <;> try (refine Zt 9 rfl (fun _ => Av rfl rfl) (Zt 10 rfl (fun _ => Aj rfl) ?_); try (refine A9 11 12 Y1 ?_ ?_ <;> (first | (show WI _ _ _ _ _ _ 11 _ _ _ _; try (((refine An rfl (AK (cs := flowC exM (.slice k1 exM.regs.length k2) (.slice k3 exM.raises.length k4) (.slice k5 exM.blks.length k6)) U26 rfl AO rfl (fun j h => Kn.of (by repeat (first | exact hm14 | refine .tail _ ?_ | refine List.mem_append_right _ ?_)) (by rw [Nat.zero_add]; exact Array.getElem?_eq_getElem h)) rfl) rfl rfl rfl ?_)) <;> try (refine Ae 12 Y1 ?_ <;> try (((refine AD rfl Y6 (CallR.val rfl en36) rfl rfl rfl CW ?_; rintro v post hE; try simp only [List.nil_append, List.append_assoc, List.cons_append])) <;> try (refine Ae 13 Y1 ?_ <;> try (((refine An rfl (Au (CallR.val rfl en23) (exsame_c (hq14.up Y20) (hE.up Y20))) rfl rfl rfl ?_)) <;> try (refine Zt 14 rfl (fun _ => Av rfl rfl) (Zt 15 rfl (fun _ => Ao rfl) (Ap N11 Y1 ?_))))))))) | (show WI _ _ _ _ _ _ 12 _ _ _ _; try (((refine AD rfl Y6 (CallR.val rfl en36) rfl rfl rfl CW ?_; rintro v post hE; try simp only [List.nil_append, List.append_assoc, List.cons_append])) <;> try (refine Ae 11 Y1 ?_ <;> try (((refine An rfl (AK (cs := flowC exM (.slice k1 exM.regs.length k2) (.slice k3 exM.raises.length k4) (.slice k5 exM.blks.length k6)) U26 rfl AO rfl (fun j h => Kn.of (by repeat (first | exact hm14 | refine .tail _ ?_ | refine List.mem_append_right _ ?_)) (by rw [Nat.zero_add]; exact Array.getElem?_eq_getElem h)) rfl) rfl rfl rfl ?_)) <;> try (refine Ae 13 Y1 ?_ <;> try (((refine An rfl (Au (CallR.val rfl en23) (exsame_c (hq14.up Y20) (hE.up Y20))) rfl rfl rfl ?_)) <;> try (refine Zt 14 rfl (fun _ => Av rfl rfl) (Zt 15 rfl (fun _ => Ao rfl) (Ap N11 Y1 ?_)))))))))))))))))))))))))))
   all_goals exact A0 Y10 (rest ⟨_, Y21⟩)
 rintro ⟨G4, hs4⟩
 simp only at hs4 ⊢
 repeat' (refine AL Tryz.func12 rfl (fun w_ hi_ => ?_))
 exact ⟨[], ⟨rfl, rfl⟩, hi_.subset hs4⟩
end
end Go.Sl
namespace Go.Sl
open Go Go.RowKit Go.Shelf Go.Proofs
attribute [local irreducible] Calls
section
variable {S : Nat → Prop} {w0 : World} {F : List Ent}
def PlcOk (l : List Plc) : Prop := l.length ≤ 600 ∧ ∀ p ∈ l, p.2.2.length ≤ 70
theorem placesG_c {l : List Plc} {v : Value} (hK : SlK S w0 F (rowV plcC l) l.length v) : SLF Tryz.prog S w0 F 20 [v] [] (fun e post => ∃ v, e = .returned v ∧ Guard (PlcOk l) v post) := by
 refine AA fun w hi => ?_
 simp only [List.nil_append] at hi
 obtain ⟨a, c, rfl, hc, hk⟩ := hK
 refine Ai Tryz.func20 rfl rfl (hi) ?_
 repeat' (first | (refine Ah rfl ?_) | (refine Al ?_) | (refine Am ?_) | (refine A5 ?_) | ((refine Ab 0 ?_; try (refine Za rfl (Aa N33 ?_)))) | ((refine Ab 1 ?_; try (refine Za rfl (Aa N33 ?_)))))
 refine A0 (E' := (fun k : Nat => [(0, .slice a l.length c), (2, .bool false), (3, .int .i64 (k : Int))]) 0) Y14 ?_
 refine Bf (fun k : Nat => k ≤ l.length ∧ ∀ p ∈ l.take k, p.2.2.length ≤ 70) (fun k => l.length - k) (fun k : Nat => [(0, .slice a l.length c), (2, .bool false), (3, .int .i64 (k : Int))]) (fun _ => F) ?_ 0 ⟨Nat.zero_le _, by simp⟩
 rintro k ⟨k1, k2⟩ ih
 try dsimp only at k1 k2 ih ⊢
 by_cases hlt : k < l.length
 · obtain ⟨b, off, rfl, hkn⟩ := hk.resolve_left (fun e => by have := Ba plcC CC l; rw [e] at this; simp at this; omega)
   have hc2 : Kn S w0 F b (off + ((k : Nat) : Int).toNat * 3 + 2) (str l[k].2.2) := kn_row CC hkn hlt Y22 rfl
   repeat' (first | (refine Ah rfl ?_) | (refine Ak rfl ?_) | (refine Al ?_) | (refine Am ?_) | (refine w_condD rfl (fun h => ?_) (fun h => ?_)) | (refine A5 ?_) | (refine AH ?_) | (refine AE ?_) | (refine Bp rfl ?_) | (refine AL Tryz.func20 rfl (fun w_ hi_ => ?_)) | ((refine Ab 2 ?_; try (refine Zm rfl (Zm rfl (Zv (As rfl U29 rfl) (Zv (A8 rfl rfl Y2) ?_))); try (refine Zm rfl ?_; try (((refine Zm rfl ?_)) <;> try (((refine Zv (A8 rfl rfl Y2) ?_)) <;> try (refine Zv (Av rfl rfl) (Aa N33 ?_)))))))) | ((refine Ab 4 ?_; try (refine Zm rfl (Zm rfl (Zv (Aq U29 sz49 rfl rfl Y9 Y9) ?_)); try (refine Zf fo49_2 rfl (Zv (A7 U9 rfl rfl hc2) (Zv (ov_lenS rfl U9 rfl) (Zv (B4 rfl rfl Y2) ?_))); try ((refine Aa N33 ?_)))))) | ((refine Ab 5 ?_; try (refine Za rfl (Aa N33 ?_)))) | ((refine Ab 3 ?_; try (refine Zm rfl (Zv (AG rfl rfl Y9 Y9) ?_); try (refine Za rfl (Aa N33 ?_))))) | ((refine Ab 6 ?_; try (refine Zm rfl (Zv (As rfl U29 rfl) (Zv (CO rfl rfl Y2) ?_)); try (refine Za rfl (Aa N33 ?_))))))
   all_goals first
    | exact ⟨[], ⟨_, rfl, false, rfl, rfl, fun h => by cases h⟩, hi_.subset Y21⟩
    | exact A0 Y10 (ih (k + 1) ⟨by omega, take_all hlt k2 Y9⟩ Y9)
    | exact ⟨[], ⟨_, rfl, _, rfl, rfl, fun h => by have := of_decide_eq_true h; omega⟩, hi_⟩
 · have hkl : k = l.length := by omega
   subst hkl
   rw [List.take_length] at k2
   repeat' (first | (refine Ah rfl ?_) | (refine Ak rfl ?_) | (refine Al ?_) | (refine Am ?_) | (refine Az rfl ?_) | (refine Bp rfl ?_) | (refine AL Tryz.func20 rfl (fun w_ hi_ => ?_)) | ((refine Ab 2 ?_; try (refine Zm rfl (Zm rfl (Zv (As rfl U29 rfl) (Zv (A8 rfl rfl Y2) ?_))); try (refine Zm rfl (Zk (Zk (Zv (AC rfl rfl) (Aa N33 ?_)))))))) | ((refine Ab 6 ?_; try (refine Zm rfl (Zv (As rfl U29 rfl) (Zv (CO rfl rfl Y2) ?_)); try (refine Za rfl (Aa N33 ?_))))))
   exact ⟨[], ⟨_, rfl, _, rfl, rfl, fun h => ⟨by have := of_decide_eq_true h; omega, k2⟩⟩, hi_⟩
end
end Go.Sl
namespace Go.Sl
theorem enc_ok2 {f : FlowM} (h : (encS f).2 = 0) : chkOk f = true ∧ sndOk f = true ∧ (out (sgFlow f)).length ≤ 20000 ∧ (pl (sgFlow f) 0).length ≤ 500 ∧ encS f = (⟨f.nm, out (sgFlow f), pl (sgFlow f) 0⟩, 0) := by
 have h1 := enc_ok.1 h
 have h2 := enc_val h
 rw [layF_eq] at h1 h2
 exact ⟨h1.1, (Bool.and_eq_true _ _ ▸ h1.1 : symOk f.nm = true ∧ sndOk f = true).2, h1.2.1, h1.2.2, h2⟩
theorem dec_enc {x : CodeM} (h : (decS x).2 = 0) : encS (decS x).1 = (x, 0) ∧ (decS x).1.nm = x.nm := by
 unfold decS at h ⊢
 cases hd : decodeP x with
 | none => rw [hd] at h; simp at h
 | some g =>
   unfold decodeP at hd
   split at hd
   · cases hd
   · rename_i r hr
     simp only at hd
     split at hd
     · rename_i hc
       cases hd
       have h1 := enc_val hc.1
       have h2 := hc.2
       rw [h1] at h2
       simp only at h2
       refine ⟨?_, rfl⟩
       simp only
       rw [h1, h2.1, h2.2]
       obtain ⟨a, b, c⟩ := x
       rfl
     · cases hd
theorem decS_err (x : CodeM) : (decS x).2 = 0 ∨ (decS x).2 = 150 := by
 unfold decS; split <;> simp
end Go.Sl
namespace Go.Sl
end Go.Sl
namespace Go.Sl
end Go.Sl
namespace Go.Sl
theorem FlowX.flowL {x : FlowM} (h : FlowX x) : FlowL x := ⟨h.len, fun b hb => ⟨(h.ins b hb).1, (h.en b hb).len.2.1, (h.en b hb).len.2.2, fun i hi => ((h.ins b hb).2 i hi).len.2⟩⟩
theorem decS_res (x : CodeM) : 0 ≤ (decS x).1.res := by
 unfold decS
 cases hd : decodeP x with
 | none => exact Int.le_refl _
 | some g =>
   unfold decodeP at hd
   split at hd
   · cases hd
   · rename_i r hr
     simp only at hd
     split at hd
     · cases hd
       exact (decP_f (f := r.1) (s := r.2) hr).res.1
     · cases hd
theorem sym_len {s : Bs} (h : symOk s = true) : s.length ≤ 60 := (symOk_w h).2
theorem chk_nm {f : FlowM} (h : chkOk f = true) : symOk f.nm = true := by
 unfold chkOk at h
 rw [Bool.and_eq_true] at h
 exact h.1
theorem chk_X {f : FlowM} (h : chkOk f = true) (hres : 0 ≤ f.res) : FlowX f := flowX_of (chk_snd h) hres (by have := sym_len (chk_nm h); omega)
end Go.Sl
namespace Go.Sl
open Go Go.RowKit Go.Shelf Go.Proofs
attribute [local irreducible] Calls
section
variable {S : Nat → Prop} {w0 : World} {F : List Ent}
theorem codeWhole_c {x : CodeM} {v : Value} (hK : CodeK S w0 F x v) (hP : PowF F) : Yields S w0 F 6 [v] (.bool true) := by
 refine AA fun w hi => ?_
 simp only [List.nil_append] at hi
 obtain ⟨bsv, plv, rfl, hb, hpl⟩ := id hK
 obtain ⟨a0, c0, rfl, hc0, hk0⟩ := id hb
 obtain ⟨a1, c1, rfl, hc1, hk1⟩ := id hpl
 refine Ai Tryz.func6 rfl rfl (hi) ?_
 repeat refine Am ?_
 repeat' (first | (refine Ah rfl ?_) | (refine Al ?_) | ((refine Ab 0 ?_; try (refine AF (cs := #[str x.nm, .slice a0 x.bytes.length c0, .slice a1 x.places.length c1]) rfl rfl rfl rfl (fun b1 hb1 => ?_); try (refine Za rfl (Aa N30 ?_))))))
 repeat refine Am ?_
 refine w_cutH (fun _ : Unit => [(1, pv b1 0), (2, .bool false)]) (fun _ => ⟨b1, true, .cells #[str x.nm, .slice a0 x.bytes.length c0, .slice a1 x.places.length c1] 31 (0, 0)⟩ :: F) (x.nm.length ≤ 70 ∧ PlcOk x.places ∧ x.bytes.length ≤ 3000) ?_ ?_
 rotate_left
 · intro k' rest
   repeat' (first | (refine Ah rfl ?_) | (refine Ak rfl ?_) | (refine Al ?_) | (refine Am ?_) | (refine A1 rfl ?_) | (refine w_condD rfl (fun h => ?_) (fun h => ?_)) | (refine AE ?_) | (refine AL Tryz.func6 rfl (fun w_ hi_ => ?_)) | ((refine Ab 1 ?_; try (refine Zf fo31_0 rfl (Zv (Ac U9 rfl rfl Y0 Y5) ?_); try (refine Zv (ov_lenS rfl U9 rfl) (Zv (B4 rfl rfl Y2) ?_); try (refine Zm rfl ?_; try (((refine Bj rfl rfl (fun h => ?_) (fun h => ?_)) <;> (first | (refine Zk ?_) | ((refine Zf Ct rfl ?_)))) <;> try ((first | (refine Zk ?_) | ((refine Zv (Ac U29 rfl rfl Y0 Y5) ?_))) <;> try ((first | (refine Zk ?_) | ((refine AT (pre := []) (Take.nil _) (CallR.val rfl en20) rfl rfl (placesG_c (hpl.up Y16)) ?_; rintro _ _ ⟨q, rfl, rfl, hq⟩; cases q))) <;> try ((first | (refine Zk ?_) | ((first | (refine Zv (BT rfl) ?_) | (refine Zv (Ci rfl) ?_)))) <;> try ((first | (refine Zv (Av rfl rfl) ?_) | (refine Zv (AC rfl rfl) ?_)) <;> try (refine Zm rfl ?_; try ((first | (refine Zk ?_) | ((refine Zf fo31_1 rfl ?_))) <;> try ((first | (refine Zk ?_) | ((refine Zv (Ac U22 rfl rfl Y0 Y5) ?_))) <;> try ((first | (refine Zk ?_) | ((refine Zv (As rfl U22 rfl) ?_))) <;> try ((first | (refine Zk ?_) | ((refine Zv (B4 rfl rfl Y2) ?_))) <;> try ((first | (refine Zv (Av rfl rfl) ?_) | (refine Zv (AC rfl rfl) ?_)) <;> try ((refine Aa N30 ?_)))))))))))))))))) | ((refine Ab 2 ?_; try (refine Zv (Au (CallR.val rfl en12) (wrote_c (hP.up Y16))) ?_; try (refine Za rfl (Aa N30 ?_))))))
   all_goals first
    | exact ⟨[], ⟨rfl, rfl⟩, hi_.subset Y21⟩
    | exact A0 Y10 (rest ⟨by omega, hq rfl, by omega⟩ ())
 rintro ⟨hnm, hplo, hbl⟩ _
 clear hk0 hk1
 have hB : x.bytes.length ≤ 1099511627776 := by omega
 have hp5 : x.places.length ≤ 65535 := by have := hplo.1; omega
 have hdc := fun {F'} (hu : ∀ e ∈ F, e ∈ F') => decode_c (hK.up hu) hB hp5
 have hde := fun h => dec_enc (x := x) h
 have hres := decS_res x
 rcases decS_err x with h0 | h0
 rotate_left
 · rw [h0] at hdc
   repeat' (first | (refine Ah rfl ?_) | (refine Ak rfl ?_) | (refine Al ?_) | (refine Am ?_) | (refine A1 rfl ?_) | (refine AL Tryz.func6 rfl (fun w_ hi_ => ?_)) | ((refine Ab 3 ?_; try ((refine Zv (AK (cs := #[str x.nm, .slice a0 x.bytes.length c0, .slice a1 x.places.length c1]) U31 rfl inf31 rfl (fun j h => Kn.of Y13 (by rw [Nat.zero_add]; exact Array.getElem?_eq_getElem h)) rfl) ?_) <;> try ((refine AT (pre := []) (Take.nil _) (CallR.val rfl en21) rfl rfl (hdc Y20) ?_; rintro _ X ⟨_, rfl, hf⟩; obtain ⟨f1, f2, f3, f4, f5, f6, rfl⟩ := hf.ex) <;> try (refine Zm rfl (Zv (Af rfl rfl) (Zv (Af rfl rfl) ?_)); try (refine A4 AO rfl rfl rfl rfl (fun b_ hb_ => ?_); try (refine AI rfl rfl (B8 _ _ _ _ _ _ _ _ _ _) Cd Y3 (by rfl) rfl rfl ?_; try (refine Za rfl (Aa N30 ?_))))))))) | ((refine Ab 4 ?_; try (refine Zm rfl (Zv (AX rfl rfl (by first | exact A2 Y9 | exact Ay Y9 | exact rfl)) ?_); try ((refine Aa N30 ?_))))) | ((refine Ab 5 ?_; try (refine Zv (Au (CallR.val rfl en12) (wrote_c (hP.up Y16))) ?_; try (refine Zm rfl ?_; try (((refine Zm rfl ?_)) <;> try (((refine Zv (Aw rfl rfl Y2) ?_)) <;> try (refine Zv (Av rfl rfl) (Za rfl (Aa N30 ?_))))))))))
   exact ⟨[], ⟨rfl, rfl⟩, hi_.subset Y21⟩
 obtain ⟨he, hnmg⟩ := hde h0
 rw [h0] at hdc
 generalize (decS x).1 = g at *
 have hck : chkOk g = true := (enc_ok2 (by rw [he])).1
 have hX := chk_X hck hres
 have henc := fun {F'} {v} (h : FlowK S w0 F' g v) => encode_c h (fun hs => flowR_of hs hres) hX.flowL
 rw [he] at henc
 have hsm : ∀ {F' : List Ent} {v u : Value}, CodeK S w0 F' x v → CodeK S w0 F' x u → Yields S w0 F' 19 [v, u] (.bool true) := fun h1 h2 => by
  have := sameCode_c h1 h2 Y9 Y9
  rwa [decide_eq_true rfl] at this
 repeat' (first | (refine Ah rfl ?_) | (refine Ak rfl ?_) | (refine Al ?_) | (refine Am ?_) | ((refine Ab 3 ?_; try ((refine Zv (AK (cs := #[str x.nm, .slice a0 x.bytes.length c0, .slice a1 x.places.length c1]) U31 rfl inf31 rfl (fun j h => Kn.of Y13 (by rw [Nat.zero_add]; exact Array.getElem?_eq_getElem h)) rfl) ?_) <;> try ((refine AT (pre := []) (Take.nil _) (CallR.val rfl en21) rfl rfl (hdc Y20) ?_; rintro _ X ⟨_, rfl, hf⟩; obtain ⟨f1, f2, f3, f4, f5, f6, rfl⟩ := hf.ex) <;> try (refine Zm rfl (Zv (Af rfl rfl) (Zv (Af rfl rfl) ?_)); try (refine A4 AO rfl rfl rfl rfl (fun b_ hb_ => ?_); try (refine AI rfl rfl (B8 _ _ _ _ _ _ _ _ _ _) Cd Y3 (by rfl) rfl rfl ?_; try (refine Za rfl (Aa N30 ?_))))))))))
 revert b_
 intro b3 hb3
 refine A0 (E' := [(4, .int .i64 0), (3, pv b3 0), (2, .bool false), (1, pv b1 0)]) Y14 ?_
 refine w_abs fun G hG hsG => ?_
 have m3 := hG _ (.head _)
 have m1 : (⟨b1, true, .cells #[str x.nm, .slice a0 x.bytes.length c0, .slice a1 x.places.length c1] 31 (0, 0)⟩ : Ent) ∈ G := hG _ (.tail _ (List.mem_append_right _ (.head _)))
 have hFG : ∀ e ∈ F, e ∈ G := fun e h => hG e (.tail _ (List.mem_append_right _ (.tail _ h)))
 have hfG := hf.up fun e h => hG e (.tail _ (List.mem_append_left _ h))
 have hs : F.Sublist G := List.Sublist.trans Y21 hsG
 clear hG hsG hf hdc
 repeat' (first | (refine Ah rfl ?_) | (refine Ak rfl ?_) | (refine Al ?_) | (refine Am ?_) | (refine Az rfl ?_) | (refine AE ?_) | ((refine Ab 4 ?_; try (refine Zm rfl (Zv (AX rfl rfl (by first | exact A2 Y9 | exact Ay Y9 | exact rfl)) ?_); try ((refine Aa N30 ?_))))) | ((refine Ab 6 ?_; try ((refine Zv (AK (cs := flowC g (.slice f1 g.regs.length f2) (.slice f3 g.raises.length f4) (.slice f5 g.blks.length f6)) U26 rfl AO rfl (fun j h => Kn.of m3 (by rw [Nat.zero_add]; exact Array.getElem?_eq_getElem h)) rfl) ?_) <;> try ((refine AT (pre := []) (Take.nil _) (CallR.val rfl en13) rfl rfl (SLF.mono (henc hfG) (fun e post ⟨u, h1, h2⟩ => ⟨_, h1, u, rfl, h2⟩) : SLF Tryz.prog S w0 _ _ _ _ fun e post => ∃ v, e = .returned v ∧ ∃ u, v = .tuple #[u, .int .i64 0] ∧ CodeK S w0 post x u) ?_; rintro _ Y ⟨_, rfl, _, _, rfl, ⟨a2, c2, rfl, hc2, hk2⟩, ⟨a3, c3, rfl, hc3, hk3⟩⟩) <;> try (refine Zm rfl (Zv (Af rfl rfl) (Zv (Af rfl rfl) ?_)); try (refine A4 inf31 rfl rfl rfl rfl (fun b_ hb_ => ?_); try (refine AI rfl rfl rfl sz31 Y3 Y15 rfl rfl ?_; try (refine Za rfl (Aa N30 ?_))))))))))
 revert b_
 intro b5 hb5
 have hY : CodeK S w0 Y x (.agg #[str x.nm, .slice a2 x.bytes.length c2, .slice a3 x.places.length c3]) := ⟨_, _, rfl, ⟨a2, c2, rfl, hc2, hk2⟩, ⟨a3, c3, rfl, hc3, hk3⟩⟩
 clear hk2 hk3
 repeat' (first | (refine Ah rfl ?_) | (refine Ak rfl ?_) | (refine Al ?_) | (refine AL Tryz.func6 rfl (fun w_ hi_ => ?_)) | ((refine Ab 7 ?_; try (refine Zv (Au (CallR.val rfl en12) (wrote_c (hP.up fun e h => by simp only [List.mem_append, List.mem_cons, hFG e h, true_or, or_true]))) (Zm rfl ?_); try (((refine Zm rfl ?_)) <;> try (((refine Zv (Aw rfl rfl Y2) ?_)) <;> try (refine Zv (Av rfl rfl) (Zm rfl ?_); try (((refine Zv (AK (cs := #[str x.nm, .slice a2 x.bytes.length c2, .slice a3 x.places.length c3]) U31 rfl inf31 rfl (fun j h => Kn.of (.head _) (by rw [Nat.zero_add]; exact Array.getElem?_eq_getElem h)) rfl) ?_)) <;> try (((refine Zv (AK (cs := #[str x.nm, .slice a0 x.bytes.length c0, .slice a1 x.places.length c1]) U31 rfl inf31 rfl (fun j h => Kn.of (.tail _ (List.mem_append_right _ m1)) (by rw [Nat.zero_add]; exact Array.getElem?_eq_getElem h)) rfl) ?_)) <;> try (((refine Zv (Au (CallR.val rfl en19) (hsm (hY.up Y20) (hK.up fun e h => by simp only [List.mem_append, List.mem_cons, hFG e h, true_or, or_true]))) ?_)) <;> try (refine Zv (Av rfl rfl) (Za rfl (Aa N30 ?_)))))))))))))
 exact ⟨[], ⟨rfl, rfl⟩, hi_.subset Y21⟩
end
end Go.Sl
namespace Go.Proofs.YtnfpoclhmidpgaaGreatDoor
open Go Go.ChangeShapes Go.WideShapes Go.ChangeAt Go.RowKit Go.Sl
open Go.ChangeMaps (open_string shut_string)
theorem codeWhole_lifted (os : Os) (started : os.Started) (H : Type) (enc : TypeId × Value → H) :
 ReturnsInHanded {} Tryz.checked os 6 .any (fun w args => (Rows.codeWholeSpec.pre enc Tryz.prog Tryz.f6 [] false w args ∧ laidMetH Tryz.prog laidL w) ∧ sizedMet enc Tryz.prog Tryz.f6 (OpenSpec.ofChange Rows.codeWholeSpec) false w args)
  (Rows.codeWholeSpec.post enc Tryz.prog Tryz.f6 false true false false) := by
 refine wrap started Y1 Tryz.func6 #[.agg #[.string ⟨#[]⟩, .slice none 0 0, .slice none 0 0]] Y1 Y1 Y1 ?_
 intro W base args ds gs before hval hW hL hs
 have hW' := hW
 have hlt := hW.lt
 obtain ⟨p, q, hA0, hV, rfl, hfz, hnd⟩ := hW
 have hA : DataW.TrodAll enc Tryz.prog W 0 (fun _ => true) true Tryz.f6.params.toList args.toList ds p := hA0
 rw [Tryz.params6] at hA hval
 obtain ⟨v0, d0, rfl, rfl, h0⟩ := trodAll_one hA
 obtain ⟨rfl, rfl⟩ := trodVars_none hV
 have k0 := h0
 obtain ⟨cs0, rfl, _⟩ := okWide_struct code_fs (hval 0 31 v0 rfl rfl)
 obtain ⟨f0, h0⟩ := h0
 obtain ⟨m0, K0⟩ := opn_code h0
 replace K0 : CodeK none_ W [] m0 (.agg cs0) := by simpa [Value.cells] using K0
 have hc := law_of (fun F hP => codeWhole_c (K0.up (fun _ h => by cases h)) hP) hL
 refine hc.mono fun e W' ⟨he, hb⟩ => ⟨_, he, _, _, _, [], _, [], hW', trodAll_mk1 (shut_bool Tryz.underlying4 _), trodAll_mk1 (Below.trod laidOut Y1 (of_decide_eq_true Y1) k0 hb fun x hx => hlt x (by simp only [List.mem_append, hx, true_or, or_true])), rfl, hb.frame _, fun h => by cases h⟩
theorem codeWhole_holds : Rows.CodeWholeSaid :=
 OpenClaim.holds_of_wide 6 Tryz.f6 rfl rfl rfl rfl rfl rfl rfl ⟨rfl, rfl, rfl, rfl, rfl⟩ rfl rfl rfl rfl rfl Y1 Tryz.func6 Y1
  (of_decide_eq_true Y1) (by unfold Func.isWrapper; first | (rw [if_pos (by decide +kernel)]; kernel_rfl) | (rw [if_neg (by decide +kernel)]; exact ⟨rfl, rfl⟩))
  (fun os started H enc _ => codeWhole_lifted os started H enc)
theorem codeWhole_card : Rows.CodeWholeCardSaid :=
 Claim7.holds_tied_plain_at .later [] [.data, .data, .data] true (true, "38cb48cba00e4f9beffe54e56f5b75e9fd5ad66057cdb564375641c327a061fb") true
  codeWhole_holds (fun _ h => by cases h) Y1 (fun _ h => by cases h) codeWhole_row_tie rfl ⟨rfl, rfl⟩ Y1 rfl
  (fun f fn hf hfn => by
   obtain rfl : f = 6 := Option.some.inj ((show Tryz.prog.funcNamed "trestle/trestlelaw15.CodeWhole" = some 6 by kernel_rfl).symm.trans hf) |>.symm
   obtain rfl : fn = Tryz.f6 := (Option.some.inj (Tryz.func6.symm.trans hfn)).symm
   exact ⟨by kernel_rfl, fun j t ht => by
    have hall : (Tryz.f6.params.toList.all fun u => !Tryz.prog.wantsStandIn u) = true := by kernel_rfl
    have hm : t ∈ Tryz.f6.params.toList := by simpa using Array.mem_of_getElem? ht
    exact (show Tryz.prog.wantsStandIn t = false by simpa using List.all_eq_true.1 hall t hm)⟩)
  Y1
end Go.Proofs.YtnfpoclhmidpgaaGreatDoor
