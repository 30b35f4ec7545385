/- Of the proof that this claim's last text ends. -/
import Derived.Test.YtnfpoclhmidpgaaGreatDoorR3
set_option maxRecDepth 100000
set_option maxHeartbeats 8000000
set_option linter.unusedSimpArgs false
set_option linter.unusedVariables false
namespace Go.Sl
open Go Go.RowKit Go.Shelf Go.Proofs
attribute [local irreducible] Calls
section
variable {S : Nat → Prop} {w0 : World} {F : List Ent}
theorem clone_int {cells : List Value} {n : Nat} {v : Value} (hs : SlK S w0 F cells n v) (hl : cells.length = n * 1) (hok : ∀ v ∈ cells, okCell v = true) (hroom : n ≤ 65535) :
 SLF Tryz.prog S w0 F 105 [v] [] (Cloned cells n 3) := by
 refine AA fun w hi => ?_
 simp only [List.nil_append] at hi
 obtain ⟨a, cap, rfl, hc, hk⟩ := hs
 refine Ai Tryz.func105 rfl rfl (hi) ?_
 cases a with
 | none =>
   have hn : n = 0 := by
    rcases hk with h | ⟨b, off, h, _⟩
    · subst h; simp at hl; omega
    · cases h
   subst hn
   repeat' (first | (refine Ah rfl ?_) | (refine Ak rfl ?_) | (refine Al ?_) | (refine Am ?_) | (refine A1 rfl ?_) | (refine AL Tryz.func105 rfl (fun w_ hi_ => ?_)) | ((refine Ab 0 ?_; try (refine Za rfl (Aa N5 ?_)))) | ((refine Ab 1 ?_; try (refine Zm rfl (Zv (BI U59 rfl) (Aa N5 ?_))))) | ((refine Ab 2 ?_; try (refine Za rfl (Aa N5 ?_)))))
   exact ⟨[], ⟨none, 0, rfl, Nat.le_refl _, .inl ⟨rfl, rfl⟩⟩, hi_⟩
 | some ad =>
   by_cases hn : n = 0
   · subst hn
     repeat' (first | (refine Ah rfl ?_) | (refine Ak rfl ?_) | (refine Al ?_) | (refine Am ?_) | (refine Az rfl ?_) | (refine AE ?_) | (refine AL Tryz.func105 rfl (fun w_ hi_ => ?_)) | ((refine Ab 0 ?_; try (refine Za rfl (Aa N5 ?_)))) | ((refine Ab 1 ?_; try (refine Zm rfl (Zv (BI U59 rfl) (Aa N5 ?_))))) | ((refine Ab 3 ?_; try ((refine BC U59 Cg rfl rfl (fun bb_ hb_ => ?_)) <;> try (refine Zm rfl (Zv (ov_append0 rfl rfl U59 U59 rfl Cg (Nat.le_refl _)) (Za rfl (Aa N5 ?_))))))))
     exact ⟨[], ⟨some ⟨bb_, 0, none⟩, 0, rfl, Nat.le_refl _, .inl ⟨rfl, rfl⟩⟩, hi_.subset (List.sublist_cons_self _ _)⟩
   · have hne : cells ≠ [] := by rintro rfl; simp at hl; omega
     obtain ⟨b, off, hb, hkn⟩ := hk.resolve_left hne
     cases hb
     repeat' (first | (refine Ah rfl ?_) | (refine Ak rfl ?_) | (refine Al ?_) | (refine Am ?_) | (refine Az rfl ?_) | (refine AE ?_) | (refine AL Tryz.func105 rfl (fun w_ hi_ => ?_)) | ((refine Ab 0 ?_; try (refine Za rfl (Aa N5 ?_)))) | ((refine Ab 1 ?_; try (refine Zm rfl (Zv (BI U59 rfl) (Aa N5 ?_))))) | ((refine Ab 3 ?_; try ((refine BC U59 Cg rfl rfl (fun bb_ hb_ => ?_)) <;> try (refine Zm rfl ?_; try ((refine wo_appendK (n := 0) (sz := 1) (base := some bb_) (xs := []) (rst := []) (new := cells) rfl rfl U59 U59 rfl Cg rfl Y22 rfl rfl Y26 Y26 ⟨.head _, .head _ _⟩ (fun i h => (hkn i h).cons) hl hok (by show (2 * (_ + n) + 192) * 8 ≤ _; omega) Y9 Y9 rfl rfl (fun b' cap' rst' hc_ hn_ => ?_)) <;> try (refine Za rfl (Aa N5 ?_))))))))
     exact ⟨[⟨b', true, .cells (cells ++ rst').toArray 3 (0, 0)⟩], ⟨some ⟨b', 0, none⟩, cap', by rw [Nat.zero_add]; rfl, by omega, .inr ⟨b', rst', rfl, rfl⟩⟩, hi_⟩
theorem ClonedV.k {cells : List Value} {n sz cap : Nat} {a : Option Addr} {el : TypeId} {X : List Ent} (h : ClonedV cells n el (.slice a n cap) X) (hl : cells.length = n * sz) : SlK S w0 (X ++ F) cells n (.slice a n cap) := by
 obtain ⟨_, _, e, hc, h⟩ := h
 cases e
 rcases h with ⟨hn, rfl⟩ | ⟨bb, rst, rfl, rfl⟩
 · refine ⟨a, cap, rfl, hc, .inl ?_⟩
   rw [hn, Nat.zero_mul] at hl
   exact List.length_eq_zero_iff.1 hl
 · exact SlK.own hc
theorem wantP_args {n : Int} {l : LI} (hl : l ≠ .one) (x : InsM) : (wantP n l x).2.args = x.args := by
 cases l with
 | lo => simp only [wantP]; split <;> rfl
 | one => exact absurd rfl hl
 | _ => rfl
theorem want_any (l : LI) {b9 b4 bf bx nr nb : Nat} {x : InsM} {av : Value} (hg : Kn S w0 F b9 0 (.func (.func 104) #[] #[pv b4 0])) (hx : Kn S w0 F b4 0 (pv bf 0)) (hf : FlowAt S w0 F bf nr nb) (hn : nr ≤ 65535) (hA : ArgsK S w0 F x.args av) :
 SLF Tryz.prog S w0 F 106 [.func (.func (fnI l)) #[] #[], pv b9 0, pv bx 0] [⟨bx, true, .cells (insC x av).toArray 73 (0, 0)⟩] fun e post => ∃ v, e = .returned v ∧ v = .bool (wantP nr l x).1 ∧ ∃ av', post = [⟨bx, true, .cells (insC (wantP nr l x).2 av').toArray 73 (0, 0)⟩] ∧ ArgsK S w0 F (wantP nr l x).2.args av' := by
 by_cases hl : l = .one
 · subst hl
   exact (wone_c hg hx hf hn hA).mono fun e post ⟨h1, h2⟩ => ⟨_, h1, rfl, _, h2, none, 0, rfl, Nat.le_refl _, .inl rfl⟩
 · exact (want_c hl hg hx hf hn).mono fun e post ⟨h1, h2⟩ => ⟨_, h1, rfl, _, h2, by rw [wantP_args hl]; exact hA⟩
theorem tins_c {cv : Value} {bf mp mq nr nb : Nat} {rw_ : Bool} {x : InsM} {av : Value} (hcv : okCell cv = true) (hmp : (⟨mp, rw_, mapBO partTab⟩ : Ent) ∈ F) (hf : FlowAt S w0 F bf nr nb) (hn : nr ≤ 65535) (hA : ArgsK S w0 F x.args av) (hal : x.args.length ≤ 65535) :
 Yields S w0 F 74 [.agg #[cv, .map (some mp), .map (some mq)], pv bf 0, .agg (insC x av).toArray] (.bool (insPr nr x)) := by
 refine AA fun w hi => ?_
 simp only [List.nil_append] at hi
 have hvc := cells1 hcv
 obtain ⟨a0, cap0, rfl, hcap0, hk0⟩ := id hA
 have hbc : (Value.agg (insC x (.slice a0 x.args.length cap0)).toArray).cells = (insC x (.slice a0 x.args.length cap0)).toArray := rfl
 refine Ai Tryz.func74 rfl rfl (hi) ?_
 cases hfo : formI x.op with
 | none =>
   have hlk := part_findN hfo
   rw [show insPr (nr : Int) x = false by simp only [insPr, hfo]]
   repeat' (first | (refine Ah rfl ?_) | (refine Ak rfl ?_) | (refine Al ?_) | (refine Am ?_) | (refine A1 rfl ?_) | (refine AL Tryz.func74 rfl (fun w_ hi_ => ?_)) | ((refine Ab 0 ?_; try (refine AF (cs := #[cv, .map (some mp), .map (some mq)]) rfl rfl rfl rfl (fun b3 hb3 => ?_); try (refine AF (cs := #[pv bf 0]) rfl rfl rfl rfl (fun b4 hb4 => ?_); try (refine AF (cs := (insC x (.slice a0 x.args.length cap0)).toArray) rfl rfl rfl rfl (fun b5 hb5 => ?_); try (refine Za rfl (Aa N14 ?_))))))) | ((refine Ab 1 ?_; try (refine Zf fo117_1 rfl (Zv (Ac U114 rfl rfl Y0 Y5) ?_); try (refine Zf BW rfl (Zv (Ac U5 rfl rfl Y0 Y5) ?_); try (refine Zv (Bo hlk rfl rfl rfl Y0) ?_; try (refine Zm rfl (Zv (Af rfl rfl) (Zv (Af rfl rfl) ?_)); try (refine A4 AP rfl rfl rfl rfl (fun b_ hb_ => ?_); try (refine AI rfl rfl rfl Bz Y3 Y15 rfl rfl ?_; try (refine Za rfl (Aa N14 ?_)))))))))) | ((refine Ab 2 ?_; try (refine Zm rfl (Zv (Ci rfl) (Aa N14 ?_))))) | ((refine Ab 3 ?_; try (refine Za rfl (Aa N14 ?_)))))
   exact ⟨[], ⟨rfl, rfl⟩, hi_.subset Y4⟩
 | some ls =>
 obtain ⟨hl, hnd⟩ := formI_ok hfo
 obtain ⟨q0, hlk⟩ := part_find hfo
 rw [show insPr (nr : Int) x = wantsP nr ls x by simp only [insPr, hfo]]
 have hrok := row_ok (f := fnI) (ls := ls) (n := 3)
 have hrsz := row_size (f := fnI) hl
 have hrat := fun i (h : i < ls.length) => row_at3 (f := fnI) hl h
 have hrnil := fun i (h : ls.length ≤ i) (hn : i < 3) => row_nil (f := fnI) h hn
 unfold rowOf at hlk
 generalize ((ls.map (fun l => Value.func (.func (fnI l)) #[] #[]) ++ List.replicate (3 - ls.length) Value.nilFunc).toArray) = cs at *
 repeat' (first | (refine Ah rfl ?_) | (refine Ak rfl ?_) | (refine Al ?_) | (refine Am ?_) | (refine Az rfl ?_) | (refine AE ?_) | ((refine Ab 0 ?_; try (refine AF (cs := #[cv, .map (some mp), .map (some mq)]) rfl rfl rfl rfl (fun b3 hb3 => ?_); try (refine AF (cs := #[pv bf 0]) rfl rfl rfl rfl (fun b4 hb4 => ?_); try (refine AF (cs := (insC x (.slice a0 x.args.length cap0)).toArray) rfl rfl rfl rfl (fun b5 hb5 => ?_); try (refine Za rfl (Aa N14 ?_))))))) | ((refine Ab 1 ?_; try (refine Zf fo117_1 rfl (Zv (Ac U114 rfl rfl Y0 Y5) ?_); try (refine Zf BW rfl (Zv (Ac U5 rfl rfl Y0 Y5) ?_); try (refine Zv (AM hlk U114 U5 AP rfl rfl rfl Y0) ?_; try (refine Zm rfl (Zv (Af rfl rfl) (Zv (Af rfl rfl) ?_)); try (refine A4 AP rfl rfl rfl rfl (fun b7 hb7 => ?_); try ((refine AI rfl rfl hrok (by rw [hrsz]; exact Bz) Y3 (by rw [hrsz]; rfl) rfl rfl ?_) <;> try (refine Za rfl (Aa N14 ?_)))))))))) | ((refine Ab 2 ?_; try (refine Zm rfl (Zv (BT rfl) (Aa N14 ?_))))) | ((refine Ab 4 ?_; try (refine Zv (Bg rfl rfl) ?_; try (refine A4 inf176 rfl rfl rfl rfl (fun b9 hb9 => ?_); try (refine AR rfl rfl rfl sz176 Y3 rfl rfl ?_; try ((refine Aa N14 ?_))))))) | ((refine Ab 5 ?_; try (refine Zf CJ rfl (Zv (Ac U59 rfl rfl Y0 Y5) ?_); try ((refine AT (pre := []) (Take.nil _) (CallR.val rfl en105) rfl rfl (clone_int (hA.up fun e h => by repeat (first | exact h | apply List.Mem.tail)) (by rw [intsV_len, Nat.mul_one]) (by simp [intsV, okCell]) hal).cl ?_; rintro _ X4 ⟨a4, c4, rfl, hx4⟩) <;> try (refine Zf CJ rfl ?_; try ((refine AJ rfl rfl rfl sz59 Y3 (by show _ < 8; omega) (.inr (Nat.zero_le _)) rfl rfl ?_) <;> try ((refine Aa N14 ?_)))))))) | ((refine Ab 6 ?_; try (refine Zv (Bg rfl rfl) (Za rfl (Aa N14 ?_))))))
 have hav : ArgsK S w0 (X4 ++ F) x.args (.slice a4 x.args.length c4) := ClonedV.k ⟨_, _, rfl, hx4⟩ (by rw [intsV_len, Nat.mul_one])
 refine w_perm (Del1.perm (e := ⟨b5, true, .cells (insC x (.slice a4 x.args.length c4)).toArray 73 (0, 0)⟩) Y30) ?_
 generalize hG : X4 ++ _ = G
 have hav2 : ArgsK S w0 G x.args (.slice a4 x.args.length c4) := hav.up fun e h => by rw [← hG]; rcases List.mem_append.1 h with h | h; exact List.mem_append_left _ h; exact List.mem_append_right _ (.tail _ (.tail _ (.tail _ (.tail _ h))))
 have hFG : ∀ e ∈ F, e ∈ G := fun e h => by rw [← hG]; exact List.mem_append_right _ (.tail _ (.tail _ (.tail _ (.tail _ h))))
 have hg9 : Kn S w0 G b9 0 (.func (.func 104) #[] #[pv b4 0]) := Kn.of (c := #[.func (.func 104) #[] #[pv b4 0]]) (by rw [← hG]; exact List.mem_append_right _ (.head _)) rfl
 have hg4 : Kn S w0 G b4 0 (pv bf 0) := Kn.of (c := #[pv bf 0]) (by rw [← hG]; exact List.mem_append_right _ (.tail _ (.tail _ (.head _)))) rfl
 have hm7 : (⟨b7, true, .cells cs 174 (0, 0)⟩ : Ent) ∈ G := by rw [← hG]; exact List.mem_append_right _ (.tail _ (.head _))
 have hsG : F.Sublist G := by rw [← hG]; exact List.sublist_append_of_sublist_right (.cons _ (.cons _ (.cons _ (.cons _ (List.Sublist.refl _)))))
 clear hG
 repeat' (first | (refine Ah rfl ?_) | (refine Al ?_) | ((refine Ab 7 ?_; try ((refine Zv (AV U174 rfl AP rfl (.tail _ hm7) (by rw [hrsz]; rfl)) ?_) <;> try (refine Zm rfl (Aa N14 ?_))))))
 refine A5 ?_
 refine A0 (E' := (fun q : Nat × InsM × Value => [(5, pv b5 0), (10, .func (.func 106) #[] #[pv b9 0, pv b5 0]), (29, .agg cs), (30, .int .i64 (q.1 : Int))]) (0, x, .slice a4 x.args.length c4)) Y14 ?_
 refine Bf (fun q : Nat × InsM × Value => q.1 ≤ 3 ∧ wantsP nr ls x = wantsP nr (ls.drop q.1) q.2.1 ∧ ArgsK S w0 G q.2.1.args q.2.2) (fun q => 3 - q.1) (fun q : Nat × InsM × Value => [(5, pv b5 0), (10, .func (.func 106) #[] #[pv b9 0, pv b5 0]), (29, .agg cs), (30, .int .i64 (q.1 : Int))]) (fun q => ⟨b5, true, .cells (insC q.2.1 q.2.2).toArray 73 (0, 0)⟩ :: G) ?_ (0, x, .slice a4 x.args.length c4) ⟨by simp, by simp, hav2⟩
 rintro ⟨i, xi, avi⟩ ⟨k1, k2, k3⟩ ih
 dsimp only at k1 k2 k3 ih ⊢
 by_cases hi3 : i < 3
 · by_cases hil : i < ls.length
   · have hdr : ls.drop i = ls[i] :: ls.drop (i + 1) := List.drop_eq_getElem_cons hil
     have hcell : cs[(i : Int).toNat * 1]? = some (.func (.func (fnI ls[i])) #[] #[]) := by rw [show (i : Int).toNat * 1 = i by omega]; exact hrat i hil
     rw [hdr] at k2
     generalize ls[i] = l at *
     have hw := want_any l (bx := b5) hg9 hg4 (hf.up hFG) hn k3
     have hq : wantsP nr ls x = if (wantP nr l xi).1 then wantsP nr (ls.drop (i + 1)) (wantP nr l xi).2 else false := k2
     cases hb : (wantP nr l xi).1 with
     | true =>
       rw [hb] at hw hq
       repeat' (first | (refine Ah rfl ?_) | (refine Ak rfl ?_) | (refine Al ?_) | (refine Am ?_) | (refine A1 rfl ?_) | (refine Az rfl ?_) | (refine A5 ?_) | (refine AH ?_) | (refine AE ?_) | ((refine Ab 8 ?_; try (refine Zv (A8 rfl rfl Y2) ?_; try ((refine Aa N14 ?_))))) | ((refine Ab 9 ?_; try (refine Zv (ov_indexV U174 CH U173 rfl rfl rfl Y9 Y9 hcell) ?_; try (refine Za rfl (Aa N14 ?_))))) | ((refine Ab 10 ?_; try (refine Zm rfl (Zv (ov_neqFn U173 rfl rfl) (Zm rfl ?_)); try (((refine Zm rfl ?_)) <;> try (((refine Zm rfl ?_)) <;> try (((refine AT (pre := [⟨b5, true, .cells (insC xi avi).toArray 73 (0, 0)⟩]) Y6 (CallR.fv rfl rfl (.fn _ _ _ _ _ rfl) en106) rfl rfl hw ?_; rintro v post ⟨rfl, av', rfl, k4⟩)) <;> try (((refine Zv (BT rfl) ?_)) <;> try (refine Zv (Av rfl rfl) (Aa N14 ?_))))))))) | ((refine Ab 12 ?_; try (refine Zv (AG rfl rfl Y9 Y9) ?_; try (refine Zm rfl (Aa N14 ?_))))))
       refine A0 Y10 (ih (i + 1, _, av') ⟨by simp only; omega, hq, k4⟩ (by simp only; omega))
     | false =>
       rw [hb] at hw hq
       rw [show wantsP (nr : Int) ls x = false from hq]
       repeat' (first | (refine Ah rfl ?_) | (refine Ak rfl ?_) | (refine Al ?_) | (refine Am ?_) | (refine A1 rfl ?_) | (refine A5 ?_) | (refine AE ?_) | (refine AL Tryz.func74 rfl (fun w_ hi_ => ?_)) | ((refine Ab 8 ?_; try (refine Zv (A8 rfl rfl Y2) ?_; try ((refine Aa N14 ?_))))) | ((refine Ab 9 ?_; try (refine Zv (ov_indexV U174 CH U173 rfl rfl rfl Y9 Y9 hcell) ?_; try (refine Za rfl (Aa N14 ?_))))) | ((refine Ab 10 ?_; try (refine Zm rfl (Zv (ov_neqFn U173 rfl rfl) (Zm rfl ?_)); try (((refine Zm rfl ?_)) <;> try (((refine Zm rfl ?_)) <;> try (((refine AT (pre := [⟨b5, true, .cells (insC xi avi).toArray 73 (0, 0)⟩]) Y6 (CallR.fv rfl rfl (.fn _ _ _ _ _ rfl) en106) rfl rfl hw ?_; rintro v post ⟨rfl, av', rfl, k4⟩)) <;> try (((refine Zv (Ci rfl) ?_)) <;> try (refine Zv (Av rfl rfl) (Aa N14 ?_))))))))) | ((refine Ab 11 ?_; try (refine Za rfl (Aa N14 ?_)))))
       exact ⟨[], ⟨rfl, rfl⟩, hi_.subset (.cons _ hsG)⟩
   · have hcell : cs[(i : Int).toNat * 1]? = some .nilFunc := by rw [show (i : Int).toNat * 1 = i by omega]; exact hrnil i Y9 hi3
     have hd0 : ls.drop i = [] := List.drop_eq_nil_of_le Y9
     have hd1 : ls.drop (i + 1) = [] := List.drop_eq_nil_of_le Y9
     repeat' (first | (refine Ah rfl ?_) | (refine Ak rfl ?_) | (refine Al ?_) | (refine Am ?_) | (refine A1 rfl ?_) | (refine Az rfl ?_) | (refine A5 ?_) | (refine AH ?_) | (refine AE ?_) | ((refine Ab 8 ?_; try (refine Zv (A8 rfl rfl Y2) ?_; try ((refine Aa N14 ?_))))) | ((refine Ab 9 ?_; try (refine Zv (ov_indexV U174 CH U173 rfl rfl rfl Y9 Y9 hcell) ?_; try (refine Za rfl (Aa N14 ?_))))) | ((refine Ab 10 ?_; try (refine Zm rfl (Zv (ov_neqFnN U173 rfl rfl) (Zm rfl (Zk (Zk (Zk (Zk (Zv (AC rfl rfl) (Aa N14 ?_))))))))))) | ((refine Ab 12 ?_; try (refine Zv (AG rfl rfl Y9 Y9) ?_; try (refine Zm rfl (Aa N14 ?_))))))
     refine A0 Y10 (ih (i + 1, xi, avi) ⟨by simp only; omega, by simp only; rw [k2, hd0, hd1], k3⟩ (by simp only; omega))
 · have hd0 : ls.drop i = [] := List.drop_eq_nil_of_le Y9
   rw [hd0] at k2
   rw [show wantsP (nr : Int) ls x = restP xi from k2]
   obtain ⟨a5, c5, rfl, _, _⟩ := id k3
   repeat' (first | (refine Ah rfl ?_) | (refine Ak rfl ?_) | (refine Al ?_) | (refine Am ?_) | (refine Az rfl ?_) | (refine Bp rfl ?_) | (refine AL Tryz.func74 rfl (fun w_ hi_ => ?_)) | ((refine Ab 8 ?_; try (refine Zv (A8 rfl rfl Y2) ?_; try ((refine Aa N14 ?_))))) | ((refine Ab 13 ?_; try (refine Zf fo73_1 rfl (Zv (Ac U3 rfl rfl Y0 Y5) ?_); try (refine Zv (Aw rfl rfl Y2) ?_; try (refine Zm rfl ?_; try (((refine Bj rfl rfl (fun h => ?_) (fun h => ?_)) <;> (first | (refine Zk ?_) | ((refine Zf fo73_2 rfl ?_)))) <;> try ((first | (refine Zk ?_) | ((refine Zv (Ac U3 rfl rfl Y0 Y5) ?_))) <;> try ((first | (refine Zk ?_) | ((refine Zv (Aw rfl rfl Y2) ?_))) <;> try ((first | (refine Zv (Av rfl rfl) ?_) | (refine Zv (AC rfl rfl) ?_)) <;> try (refine Zm rfl ?_; try ((first | (refine Zk ?_) | ((refine Bj rfl rfl (fun h => ?_) (fun h => ?_)) <;> (first | (refine Zk ?_) | ((refine Zf fo73_3 rfl ?_))))) <;> try ((first | (refine Zk ?_) | ((refine Zv (Ac U3 rfl rfl Y0 Y5) ?_))) <;> try ((first | (refine Zk ?_) | ((refine Zv (Aw rfl rfl Y2) ?_))) <;> try ((first | (refine Zv (Av rfl rfl) ?_) | (refine Zv (AC rfl rfl) ?_)) <;> try (refine Zm rfl ?_; try ((first | (refine Zk ?_) | ((refine Bj rfl rfl (fun h => ?_) (fun h => ?_)) <;> (first | (refine Zk ?_) | ((refine Zf fo73_4 rfl ?_))))) <;> try ((first | (refine Zk ?_) | ((refine Zv (Ac U3 rfl rfl Y0 Y5) ?_))) <;> try ((first | (refine Zk ?_) | ((refine Zv (Aw rfl rfl Y2) ?_))) <;> try ((first | (refine Zv (Av rfl rfl) ?_) | (refine Zv (AC rfl rfl) ?_)) <;> try (refine Zm rfl ?_; try ((first | (refine Zk ?_) | ((refine Bj rfl rfl (fun h => ?_) (fun h => ?_)) <;> (first | (refine Zk ?_) | ((refine Zf fo73_5 rfl ?_))))) <;> try ((first | (refine Zk ?_) | ((refine Zv (Ac U3 rfl rfl Y0 Y5) ?_))) <;> try ((first | (refine Zk ?_) | ((refine Zv (Aw rfl rfl Y2) ?_))) <;> try ((first | (refine Zv (Av rfl rfl) ?_) | (refine Zv (AC rfl rfl) ?_)) <;> try (refine Zm rfl ?_; try ((first | (refine Zk ?_) | ((refine Bj rfl rfl (fun h => ?_) (fun h => ?_)) <;> (first | (refine Zk ?_) | ((refine Zf fo73_6 rfl ?_))))) <;> try ((first | (refine Zk ?_) | ((refine Zv (Ac U9 rfl rfl Y0 Y5) ?_))) <;> try ((first | (refine Zk ?_) | ((refine Zv (BU rfl rfl Y18) ?_))) <;> try ((first | (refine Zv (Av rfl rfl) ?_) | (refine Zv (AC rfl rfl) ?_)) <;> try (refine Zm rfl ?_; try ((first | (refine Zk ?_) | ((refine Bj rfl rfl (fun h => ?_) (fun h => ?_)) <;> (first | (refine Zk ?_) | ((refine Zf CJ rfl ?_))))) <;> try ((first | (refine Zk ?_) | ((refine Zv (Ac U59 rfl rfl Y0 Y5) ?_))) <;> try ((first | (refine Zk ?_) | ((refine Zv (As rfl U59 rfl) ?_))) <;> try ((first | (refine Zk ?_) | ((refine Zv (Aw rfl rfl Y2) ?_))) <;> try ((first | (refine Zv (Av rfl rfl) ?_) | (refine Zv (AC rfl rfl) ?_)) <;> try (refine Za rfl (Aa N14 ?_))))))))))))))))))))))))))))))))))))))
   all_goals
    refine ⟨[], ⟨?_, rfl⟩, hi_.subset (.cons _ hsG)⟩
    show Ending.returned (Value.bool _) = _
    congr 2
    simp [restP, *]
end
end Go.Sl
namespace Go.Sl
open Go Go.RowKit Go.Shelf Go.Proofs
attribute [local irreducible] Calls
section
variable {S : Nat → Prop} {w0 : World} {F : List Ent}
theorem Yields.dec {f : FuncId} {vs : List Value} {q : Bool} (h : Yields S w0 F f vs (.bool q)) : Yields S w0 F f vs (.bool (decide (q = true))) := by rwa [Bool.decide_eq_true]
abbrev nilS : Value := .slice none 0 0
theorem Cn (n b : Int) : inP n 0 (b - 1) = inR n b := inP_eq n b
theorem w_cut2 {C : Cx} {k : List Item} {D : List Deferred} {E : List (Nat × Value)} {H : List Ent} {a b : Item} {β : Type} (EJ : β → List (Nat × Value)) (HJ : β → List Ent) (rest : ∀ q, WF C S w0 k D (EJ q) (HJ q)) (body : ∀ k', (∀ q, WF C S w0 k' D (EJ q) (HJ q)) → WF C S w0 (a :: b :: k') D E H) : WF C S w0 (a :: b :: k) D E H := body k rest
theorem any_contains (a : Bs) : ∀ (l : List (Bs × Int)), l.any (fun v => decide (v.1 = a)) = (l.map (·.1)).contains a
 | [] => rfl
 | v :: l => by
   rw [List.any_cons, any_contains a l, List.map_cons, List.contains_cons]
   congr 1
   exact Bool.eq_iff_iff.2 (by simp only [decide_eq_true_eq, beq_iff_eq]; exact eq_comm)
theorem blkR_c {bx bf nr nb : Nat} (hx : Kn S w0 F bx 0 (pv bf 0)) (hf : FlowAt S w0 F bf nr nb) (hn : nb ≤ 65535) (r : Int) : Yields S w0 F 108 [.int .i64 r, pv bx 0] (.bool (decide (inR r nb = true))) := by
 have := Yields.dec (blk2_c hx hf hn r)
 rwa [Cn] at this
theorem ends_c {bf nr nb : Nat} {x : EndM} {av wv : Value} (hf : FlowAt S w0 F bf nr nb) (hn : nr ≤ 65535) (hnb : nb ≤ 65535) (hA : ArgsK S w0 F x.args av) (hal : x.args.length ≤ 65535) (hW : WhensK S w0 F x.ws wv) (hwl : x.ws.length ≤ 65535) :
 Yields S w0 F 75 [pv bf 0, .agg (endC x av wv).toArray] (.bool (endPr nr nb x)) := by
 refine AA fun w hi => ?_
 simp only [List.nil_append] at hi
 obtain ⟨aa, ca, rfl, hca, hka⟩ := id hA
 obtain ⟨aw, cw, rfl, hcw, hkw⟩ := id hW
 refine Ai Tryz.func75 rfl rfl (hi) ?_
 repeat' (first | (refine Ah rfl ?_) | (refine Ak rfl ?_) | (refine Al ?_) | (refine Am ?_) | (refine A5 ?_) | ((refine Ab 0 ?_; try (refine AF (cs := #[pv bf 0]) rfl rfl rfl rfl (fun b2 hb2 => ?_); try (refine AF (cs := (endC x (.slice aa x.args.length ca) (.slice aw x.ws.length cw)).toArray) rfl rfl rfl rfl (fun b3 hb3 => ?_); try (refine Za rfl (Aa N2 ?_)))))) | ((refine Ab 1 ?_; try (refine Zv (Bg rfl rfl) ?_; try (refine A4 inf176 rfl rfl rfl rfl (fun b5 hb5 => ?_); try (refine AR rfl rfl rfl sz176 Y3 rfl rfl ?_; try ((refine Aa N2 ?_))))))) | ((refine Ab 2 ?_; try (refine Zv (Bg rfl rfl) (Za rfl (Aa N2 ?_))))) | ((refine Ab 3 ?_; try (refine Zv (AV U68 rfl inf68 rfl Y0 Y15) ?_; try (refine A4 inf68 rfl rfl rfl rfl (fun b7 hb7 => ?_); try (refine AI rfl rfl rfl sz68 Y3 Y15 rfl rfl ?_; try ((refine Aa N2 ?_))))))) | ((refine Ab 4 ?_; try (refine Zf BS rfl ?_; try (refine AJ rfl rfl rfl sz5 Y3 Y27 (.inr (Nat.zero_le _)) rfl rfl ?_; try (refine Zf fo68_7 rfl ?_; try (refine AJ rfl rfl rfl sz5 Y3 Y27 (.inr (Nat.zero_le _)) rfl rfl ?_; try (refine Zf fo68_6 rfl ?_; try (refine AJ rfl rfl rfl sz5 Y3 Y27 (.inr (Nat.zero_le _)) rfl rfl ?_; try ((refine Aa N2 ?_)))))))))) | ((refine Ab 5 ?_; try (refine Za rfl (Za rfl (Za rfl (Aa N2 ?_)))))) | ((refine Ab 6 ?_; try (refine Zf BS rfl (Zv (Ac U5 rfl rfl Y0 Y5) ?_); try ((refine Aa N2 ?_))))))
 refine w_cut2 (β := {q : EndS // q = endLook nr nb x}) (fun q => [(2, pv b2 0), (3, pv b3 0), (5, pv b5 0), (6, .func (.func 108) #[] #[pv b2 0]), (7, pv b7 0), (8, .bool q.1.args), (9, .bool q.1.whens), (10, .bool q.1.ok)]) (fun q => ⟨b7, true, .cells (endC q.1.rest nilS nilS).toArray 68 (0, 0)⟩ :: ⟨b5, true, .cells #[.func (.func 107) #[] #[pv b2 0]] 176 (0, 0)⟩ :: ⟨b3, true, .cells (endC x (.slice aa x.args.length ca) (.slice aw x.ws.length cw)).toArray 68 (0, 0)⟩ :: ⟨b2, true, .cells #[pv bf 0] 120 (0, 0)⟩ :: F) ?_ ?_
 rotate_left
 · intro k' rest
   by_cases h1 : x.kd = 1
   · repeat' (first | (refine Ah rfl ?_) | (refine Ak rfl ?_) | (refine Al ?_) | (refine A1 rfl ?_) | ((refine Ab 7 ?_; try (refine Zv (Aw rfl rfl Y2) ?_; try (refine Za rfl (Aa N2 ?_))))) | ((refine Ab 8 ?_; try (refine Zm rfl (Zf CS rfl (Zv (Ac U3 rfl rfl Y0 Y5) ?_)); try (refine Zv (Au (CallR.fv rfl rfl (.fn _ _ _ _ _ rfl) en108) (Yields.dec (blk2_c (by repeat (first | exact Kn.of (c := #[pv bf 0]) (.head _) rfl | apply Kn.cons | apply Kn.app)) (hf.up fun e h => by repeat (first | exact h | apply List.Mem.tail | apply List.mem_append_right)) hnb _))) ?_; try (refine Za rfl (Zf CS rfl ?_); try (refine AJ rfl rfl rfl sz3 Y3 Y27 (.inr (Nat.zero_le _)) rfl rfl ?_; try ((refine Aa N2 ?_)))))))))
     all_goals (first | (refine (fun (hq : (⟨decide (inP x.to 0 ((nb : Int) - 1) = true), false, false, { { x with kd := 0, ws := [], args := [] } with to := 0 }⟩ : EndS) = endLook nr nb x) => A0 ?_ (rest ⟨_, hq⟩)) ?_; (repeat (first | exact Bt _ | refine Be rfl ?_)); (try simp only [Cn] at *); (simp [endLook, h1, *]; done)) | (refine (fun (hq : (⟨false, false, false, { { x with kd := 0, ws := [], args := [] } with to := 0 }⟩ : EndS) = endLook nr nb x) => A0 ?_ (rest ⟨_, hq⟩)) ?_; (repeat (first | exact Bt _ | refine Be rfl ?_)); (try simp only [Cn] at *); (simp [endLook, h1, *]; done)) | (refine (fun (hq : (⟨true, false, false, { { x with kd := 0, ws := [], args := [] } with to := 0 }⟩ : EndS) = endLook nr nb x) => A0 ?_ (rest ⟨_, hq⟩)) ?_; (repeat (first | exact Bt _ | refine Be rfl ?_)); (try simp only [Cn] at *); (simp [endLook, h1, *]; done)))
   by_cases h2 : x.kd = 2
   · repeat' (first | (refine Ah rfl ?_) | (refine Ak rfl ?_) | (refine Al ?_) | (refine Am ?_) | (refine A1 rfl ?_) | (refine Az rfl ?_) | ((refine Ab 7 ?_; try (refine Zv (Aw rfl rfl Y2) ?_; try (refine Za rfl (Aa N2 ?_))))) | ((refine Ab 9 ?_; try (refine Zv (Aw rfl rfl Y2) ?_; try (refine Za rfl (Aa N2 ?_))))) | ((refine Ab 10 ?_; try (refine Zv (A7 U176 rfl rfl (by repeat (first | exact Kn.of (.head _) rfl | apply Kn.cons | apply Kn.app))) ?_; try (refine Zf C2 rfl (Zv (Ac U3 rfl rfl Y0 Y5) ?_); try (refine Zv (Au (CallR.fv rfl rfl (.fn _ _ _ _ _ rfl) en107) (Yields.dec (reg2_c (by repeat (first | exact Kn.of (c := #[pv bf 0]) (.head _) rfl | apply Kn.cons | apply Kn.app)) (hf.up fun e h => by repeat (first | exact h | apply List.Mem.tail | apply List.mem_append_right)) hn _))) ?_; try (refine Zm rfl ?_; try (((refine Bj rfl rfl (fun h => ?_) (fun h => ?_)) <;> (first | (refine Zk ?_) | ((refine Zm rfl ?_)))) <;> try ((first | (refine Zk ?_) | ((refine Zf CS rfl ?_))) <;> try ((first | (refine Zk ?_) | ((refine Zv (Ac U3 rfl rfl Y0 Y5) ?_))) <;> try ((first | (refine Zk ?_) | ((refine Zv (Au (CallR.fv rfl rfl (.fn _ _ _ _ _ rfl) en108) (Yields.dec (blk2_c (by repeat (first | exact Kn.of (c := #[pv bf 0]) (.head _) rfl | apply Kn.cons | apply Kn.app)) (hf.up fun e h => by repeat (first | exact h | apply List.Mem.tail | apply List.mem_append_right)) hnb _))) ?_))) <;> try ((first | (refine Zv (Av rfl rfl) ?_) | (refine Zv (AC rfl rfl) ?_)) <;> try (refine Zm rfl ?_; try ((first | (refine Zk ?_) | ((refine Bj rfl rfl (fun h => ?_) (fun h => ?_)) <;> (first | (refine Zk ?_) | ((refine Zm rfl ?_))))) <;> try ((first | (refine Zk ?_) | ((refine Zf fo68_4 rfl ?_))) <;> try ((first | (refine Zk ?_) | ((refine Zv (Ac U3 rfl rfl Y0 Y5) ?_))) <;> try ((first | (refine Zk ?_) | ((refine Zv (Au (CallR.fv rfl rfl (.fn _ _ _ _ _ rfl) en108) (Yields.dec (blk2_c (by repeat (first | exact Kn.of (c := #[pv bf 0]) (.head _) rfl | apply Kn.cons | apply Kn.app)) (hf.up fun e h => by repeat (first | exact h | apply List.Mem.tail | apply List.mem_append_right)) hnb _))) ?_))) <;> try ((first | (refine Zv (Av rfl rfl) ?_) | (refine Zv (AC rfl rfl) ?_)) <;> try (refine Za rfl (Zf C2 rfl ?_); try (refine AJ rfl rfl rfl sz3 Y3 Y27 (.inr (Nat.zero_le _)) rfl rfl ?_; try (refine Zf CS rfl ?_; try (refine AJ rfl rfl rfl sz3 Y3 Y27 (.inr (Nat.zero_le _)) rfl rfl ?_; try (refine Zf fo68_4 rfl ?_; try (refine AJ rfl rfl rfl sz3 Y3 Y27 (.inr (Nat.zero_le _)) rfl rfl ?_; try ((refine Aa N2 ?_))))))))))))))))))))))))))
     all_goals (first | (refine (fun (hq : (⟨decide (inP x.el 0 ((nb : Int) - 1) = true), false, false, { { x with kd := 0, ws := [], args := [] } with a := 0, to := 0, el := 0 }⟩ : EndS) = endLook nr nb x) => A0 ?_ (rest ⟨_, hq⟩)) ?_; (repeat (first | exact Bt _ | refine Be rfl ?_)); (try simp only [Cn] at *); (simp [endLook, h1, h2, *]; done)) | (refine (fun (hq : (⟨false, false, false, { { x with kd := 0, ws := [], args := [] } with a := 0, to := 0, el := 0 }⟩ : EndS) = endLook nr nb x) => A0 ?_ (rest ⟨_, hq⟩)) ?_; (repeat (first | exact Bt _ | refine Be rfl ?_)); (try simp only [Cn] at *); (simp [endLook, h1, h2, *]; done)) | (refine (fun (hq : (⟨true, false, false, { { x with kd := 0, ws := [], args := [] } with a := 0, to := 0, el := 0 }⟩ : EndS) = endLook nr nb x) => A0 ?_ (rest ⟨_, hq⟩)) ?_; (repeat (first | exact Bt _ | refine Be rfl ?_)); (try simp only [Cn] at *); (simp [endLook, h1, h2, *]; done)))
   by_cases h3 : x.kd = 3
   · repeat' (first | (refine Ah rfl ?_) | (refine Ak rfl ?_) | (refine Al ?_) | (refine Am ?_) | (refine A1 rfl ?_) | (refine Az rfl ?_) | ((refine Ab 7 ?_; try (refine Zv (Aw rfl rfl Y2) ?_; try (refine Za rfl (Aa N2 ?_))))) | ((refine Ab 9 ?_; try (refine Zv (Aw rfl rfl Y2) ?_; try (refine Za rfl (Aa N2 ?_))))) | ((refine Ab 11 ?_; try (refine Zv (Aw rfl rfl Y2) ?_; try (refine Za rfl (Aa N2 ?_))))) | ((refine Ab 12 ?_; try (refine Zf C2 rfl (Zv (Ac U3 rfl rfl Y0 Y5) ?_); try (refine Zv (Aw rfl rfl Y2) ?_; try (refine Zm rfl ?_; try (((refine Bj rfl rfl (fun h => ?_) (fun h => ?_)) <;> (first | (refine Zk ?_) | ((refine Zv (A7 U176 rfl rfl (by repeat (first | exact Kn.of (.head _) rfl | apply Kn.cons | apply Kn.app))) ?_)))) <;> try ((first | (refine Zk ?_) | ((refine Zf C2 rfl ?_))) <;> try ((first | (refine Zk ?_) | ((refine Zv (Ac U3 rfl rfl Y0 Y5) ?_))) <;> try ((first | (refine Zk ?_) | ((refine Zv (Au (CallR.fv rfl rfl (.fn _ _ _ _ _ rfl) en107) (Yields.dec (reg2_c (by repeat (first | exact Kn.of (c := #[pv bf 0]) (.head _) rfl | apply Kn.cons | apply Kn.app)) (hf.up fun e h => by repeat (first | exact h | apply List.Mem.tail | apply List.mem_append_right)) hn _))) ?_))) <;> try ((first | (refine Zv (Av rfl rfl) ?_) | (refine Zv (AC rfl rfl) ?_)) <;> try (refine Za rfl (Zf C2 rfl ?_); try (refine AJ rfl rfl rfl sz3 Y3 Y27 (.inr (Nat.zero_le _)) rfl rfl ?_; try ((refine Aa N2 ?_)))))))))))))))
     all_goals (first | (refine (fun (hq : (⟨decide (inP x.a 0 ((nr : Int) - 1) = true), false, false, { { x with kd := 0, ws := [], args := [] } with a := 0 }⟩ : EndS) = endLook nr nb x) => A0 ?_ (rest ⟨_, hq⟩)) ?_; (repeat (first | exact Bt _ | refine Be rfl ?_)); (try simp only [Cn] at *); (simp [endLook, h1, h2, h3, *]; done)) | (refine (fun (hq : (⟨false, false, false, { { x with kd := 0, ws := [], args := [] } with a := 0 }⟩ : EndS) = endLook nr nb x) => A0 ?_ (rest ⟨_, hq⟩)) ?_; (repeat (first | exact Bt _ | refine Be rfl ?_)); (try simp only [Cn] at *); (simp [endLook, h1, h2, h3, *]; done)) | (refine (fun (hq : (⟨true, false, false, { { x with kd := 0, ws := [], args := [] } with a := 0 }⟩ : EndS) = endLook nr nb x) => A0 ?_ (rest ⟨_, hq⟩)) ?_; (repeat (first | exact Bt _ | refine Be rfl ?_)); (try simp only [Cn] at *); (simp [endLook, h1, h2, h3, *]; done)))
   by_cases h4 : x.kd = 4
   · repeat' (first | (refine Ah rfl ?_) | (refine Ak rfl ?_) | (refine Al ?_) | (refine Am ?_) | (refine A1 rfl ?_) | (refine Az rfl ?_) | ((refine Ab 7 ?_; try (refine Zv (Aw rfl rfl Y2) ?_; try (refine Za rfl (Aa N2 ?_))))) | ((refine Ab 9 ?_; try (refine Zv (Aw rfl rfl Y2) ?_; try (refine Za rfl (Aa N2 ?_))))) | ((refine Ab 11 ?_; try (refine Zv (Aw rfl rfl Y2) ?_; try (refine Za rfl (Aa N2 ?_))))) | ((refine Ab 13 ?_; try (refine Zv (Aw rfl rfl Y2) ?_; try (refine Za rfl (Aa N2 ?_))))) | ((refine Ab 14 ?_; try (refine Zf fo68_5 rfl (Zv (Ac U9 rfl rfl Y0 Y5) ?_); try (refine Zv (Au (CallR.val rfl en68) (Yields.dec (sym_c _))) (Za rfl (Zf fo68_5 rfl ?_)); try (refine AJ rfl rfl rfl sz3 Y3 Y27 (.inr (Nat.zero_le _)) rfl rfl ?_; try ((refine Aa N2 ?_))))))))
     all_goals (first | (refine (fun (hq : (⟨decide (symOk x.nm = true), false, false, { { x with kd := 0, ws := [], args := [] } with nm := [] }⟩ : EndS) = endLook nr nb x) => A0 ?_ (rest ⟨_, hq⟩)) ?_; (repeat (first | exact Bt _ | refine Be rfl ?_)); (try simp only [Cn] at *); (simp [endLook, h1, h2, h3, h4, *]; done)) | (refine (fun (hq : (⟨false, false, false, { { x with kd := 0, ws := [], args := [] } with nm := [] }⟩ : EndS) = endLook nr nb x) => A0 ?_ (rest ⟨_, hq⟩)) ?_; (repeat (first | exact Bt _ | refine Be rfl ?_)); (try simp only [Cn] at *); (simp [endLook, h1, h2, h3, h4, *]; done)) | (refine (fun (hq : (⟨true, false, false, { { x with kd := 0, ws := [], args := [] } with nm := [] }⟩ : EndS) = endLook nr nb x) => A0 ?_ (rest ⟨_, hq⟩)) ?_; (repeat (first | exact Bt _ | refine Be rfl ?_)); (try simp only [Cn] at *); (simp [endLook, h1, h2, h3, h4, *]; done)))
   by_cases h5 : x.kd = 5
   · repeat' (first | (refine Ah rfl ?_) | (refine Ak rfl ?_) | (refine Al ?_) | (refine Am ?_) | (refine A1 rfl ?_) | (refine Az rfl ?_) | (refine AE ?_) | ((refine Ab 7 ?_; try (refine Zv (Aw rfl rfl Y2) ?_; try (refine Za rfl (Aa N2 ?_))))) | ((refine Ab 9 ?_; try (refine Zv (Aw rfl rfl Y2) ?_; try (refine Za rfl (Aa N2 ?_))))) | ((refine Ab 11 ?_; try (refine Zv (Aw rfl rfl Y2) ?_; try (refine Za rfl (Aa N2 ?_))))) | ((refine Ab 13 ?_; try (refine Zv (Aw rfl rfl Y2) ?_; try (refine Za rfl (Aa N2 ?_))))) | ((refine Ab 15 ?_; try (refine Zv (Aw rfl rfl Y2) ?_; try (refine Za rfl (Aa N2 ?_))))) | ((refine Ab 17 ?_; try (refine Zf fo68_5 rfl (Zv (Ac U9 rfl rfl Y0 Y5) ?_); try (refine Zv (Au (CallR.val rfl en68) (Yields.dec (sym_c _))) (Zm rfl ?_); try (((refine Bj rfl rfl (fun h => ?_) (fun h => ?_)) <;> (first | (refine Zk ?_) | ((refine Zf C2 rfl ?_)))) <;> try ((first | (refine Zk ?_) | ((refine Zv (Ac U3 rfl rfl Y0 Y5) ?_))) <;> try ((first | (refine Zk ?_) | ((refine Zv (Aw rfl rfl Y2) ?_))) <;> try ((first | (refine Zk ?_) | ((refine Zm rfl ?_))) <;> try ((first | (refine Zk ?_) | ((refine Bj rfl rfl (fun h => ?_) (fun h => ?_)) <;> (first | (refine Zk ?_) | ((refine Zv (A7 U176 rfl rfl (by repeat (first | exact Kn.of (.head _) rfl | apply Kn.cons | apply Kn.app))) ?_))))) <;> try ((first | (refine Zk ?_) | ((refine Zf C2 rfl ?_))) <;> try ((first | (refine Zk ?_) | ((refine Zv (Ac U3 rfl rfl Y0 Y5) ?_))) <;> try ((first | (refine Zk ?_) | ((refine Zv (Au (CallR.fv rfl rfl (.fn _ _ _ _ _ rfl) en107) (Yields.dec (reg2_c (by repeat (first | exact Kn.of (c := #[pv bf 0]) (.head _) rfl | apply Kn.cons | apply Kn.app)) (hf.up fun e h => by repeat (first | exact h | apply List.Mem.tail | apply List.mem_append_right)) hn _))) ?_))) <;> try ((first | (refine Zk ?_) | ((first | (refine Zv (Av rfl rfl) ?_) | (refine Zv (AC rfl rfl) ?_)))) <;> try ((first | (refine Zv (Av rfl rfl) ?_) | (refine Zv (AC rfl rfl) ?_)) <;> try (refine Zm rfl ?_; try ((first | (refine Zk ?_) | ((refine Zm rfl ?_)) | ((refine Bj rfl rfl (fun h => ?_) (fun h => ?_)) <;> (first | (refine Zk ?_) | ((refine Zm rfl ?_))))) <;> try ((first | (refine Zk ?_) | ((refine Zf CS rfl ?_))) <;> try ((first | (refine Zk ?_) | ((refine Zv (Ac U3 rfl rfl Y0 Y5) ?_))) <;> try ((first | (refine Zk ?_) | ((refine Zv (Au (CallR.fv rfl rfl (.fn _ _ _ _ _ rfl) en108) (Yields.dec (blk2_c (by repeat (first | exact Kn.of (c := #[pv bf 0]) (.head _) rfl | apply Kn.cons | apply Kn.app)) (hf.up fun e h => by repeat (first | exact h | apply List.Mem.tail | apply List.mem_append_right)) hnb _))) ?_))) <;> try ((first | (refine Zv (Av rfl rfl) ?_) | (refine Zv (AC rfl rfl) ?_)) <;> try (refine Za rfl (Za rfl (Za rfl (Aa N2 ?_)))))))))))))))))))))))) | ((refine Ab 18 ?_; try (refine Zf fo68_5 rfl ?_; try (refine AJ rfl rfl rfl sz3 Y3 Y27 (.inr (Nat.zero_le _)) rfl rfl ?_; try (refine Zf C2 rfl ?_; try (refine AJ rfl rfl rfl sz3 Y3 Y27 (.inr (Nat.zero_le _)) rfl rfl ?_; try (refine Zf CS rfl ?_; try (refine AJ rfl rfl rfl sz3 Y3 Y27 (.inr (Nat.zero_le _)) rfl rfl ?_; try ((refine Aa N2 ?_)))))))))))
     all_goals (first | (refine (fun (hq : (⟨decide (inP x.to 0 ((nb : Int) - 1) = true), true, true, { { x with kd := 0, ws := [], args := [] } with nm := [], a := 0, to := 0 }⟩ : EndS) = endLook nr nb x) => A0 ?_ (rest ⟨_, hq⟩)) ?_; (repeat (first | exact Bt _ | refine Be rfl ?_)); (try simp only [Cn] at *); (simp [endLook, h1, h2, h3, h4, h5, *]; done)) | (refine (fun (hq : (⟨false, true, true, { { x with kd := 0, ws := [], args := [] } with nm := [], a := 0, to := 0 }⟩ : EndS) = endLook nr nb x) => A0 ?_ (rest ⟨_, hq⟩)) ?_; (repeat (first | exact Bt _ | refine Be rfl ?_)); (try simp only [Cn] at *); (simp [endLook, h1, h2, h3, h4, h5, *]; done)) | (refine (fun (hq : (⟨true, true, true, { { x with kd := 0, ws := [], args := [] } with nm := [], a := 0, to := 0 }⟩ : EndS) = endLook nr nb x) => A0 ?_ (rest ⟨_, hq⟩)) ?_; (repeat (first | exact Bt _ | refine Be rfl ?_)); (try simp only [Cn] at *); (simp [endLook, h1, h2, h3, h4, h5, *]; done)))
   by_cases h6 : x.kd = 6
   · repeat' (first | (refine Ah rfl ?_) | (refine Ak rfl ?_) | (refine Al ?_) | (refine Am ?_) | (refine A1 rfl ?_) | (refine Az rfl ?_) | ((refine Ab 7 ?_; try (refine Zv (Aw rfl rfl Y2) ?_; try (refine Za rfl (Aa N2 ?_))))) | ((refine Ab 9 ?_; try (refine Zv (Aw rfl rfl Y2) ?_; try (refine Za rfl (Aa N2 ?_))))) | ((refine Ab 11 ?_; try (refine Zv (Aw rfl rfl Y2) ?_; try (refine Za rfl (Aa N2 ?_))))) | ((refine Ab 13 ?_; try (refine Zv (Aw rfl rfl Y2) ?_; try (refine Za rfl (Aa N2 ?_))))) | ((refine Ab 15 ?_; try (refine Zv (Aw rfl rfl Y2) ?_; try (refine Za rfl (Aa N2 ?_))))) | ((refine Ab 16 ?_; try (refine Zv (Aw rfl rfl Y2) ?_; try (refine Za rfl (Aa N2 ?_))))) | ((refine Ab 17 ?_; try (refine Zf fo68_5 rfl (Zv (Ac U9 rfl rfl Y0 Y5) ?_); try (refine Zv (Au (CallR.val rfl en68) (Yields.dec (sym_c _))) (Zm rfl ?_); try (((refine Bj rfl rfl (fun h => ?_) (fun h => ?_)) <;> (first | (refine Zk ?_) | ((refine Zf C2 rfl ?_)))) <;> try ((first | (refine Zk ?_) | ((refine Zv (Ac U3 rfl rfl Y0 Y5) ?_))) <;> try ((first | (refine Zk ?_) | ((refine Zv (Aw rfl rfl Y2) ?_))) <;> try ((first | (refine Zk ?_) | ((refine Zm rfl ?_))) <;> try ((first | (refine Zk ?_) | ((refine Bj rfl rfl (fun h => ?_) (fun h => ?_)) <;> (first | (refine Zk ?_) | ((refine Zv (A7 U176 rfl rfl (by repeat (first | exact Kn.of (.head _) rfl | apply Kn.cons | apply Kn.app))) ?_))))) <;> try ((first | (refine Zk ?_) | ((refine Zf C2 rfl ?_))) <;> try ((first | (refine Zk ?_) | ((refine Zv (Ac U3 rfl rfl Y0 Y5) ?_))) <;> try ((first | (refine Zk ?_) | ((refine Zv (Au (CallR.fv rfl rfl (.fn _ _ _ _ _ rfl) en107) (Yields.dec (reg2_c (by repeat (first | exact Kn.of (c := #[pv bf 0]) (.head _) rfl | apply Kn.cons | apply Kn.app)) (hf.up fun e h => by repeat (first | exact h | apply List.Mem.tail | apply List.mem_append_right)) hn _))) ?_))) <;> try ((first | (refine Zk ?_) | ((first | (refine Zv (Av rfl rfl) ?_) | (refine Zv (AC rfl rfl) ?_)))) <;> try ((first | (refine Zv (Av rfl rfl) ?_) | (refine Zv (AC rfl rfl) ?_)) <;> try (refine Zm rfl ?_; try ((first | (refine Zk ?_) | ((refine Zm rfl ?_)) | ((refine Bj rfl rfl (fun h => ?_) (fun h => ?_)) <;> (first | (refine Zk ?_) | ((refine Zm rfl ?_))))) <;> try ((first | (refine Zk ?_) | ((refine Zf CS rfl ?_))) <;> try ((first | (refine Zk ?_) | ((refine Zv (Ac U3 rfl rfl Y0 Y5) ?_))) <;> try ((first | (refine Zk ?_) | ((refine Zv (Au (CallR.fv rfl rfl (.fn _ _ _ _ _ rfl) en108) (Yields.dec (blk2_c (by repeat (first | exact Kn.of (c := #[pv bf 0]) (.head _) rfl | apply Kn.cons | apply Kn.app)) (hf.up fun e h => by repeat (first | exact h | apply List.Mem.tail | apply List.mem_append_right)) hnb _))) ?_))) <;> try ((first | (refine Zv (Av rfl rfl) ?_) | (refine Zv (AC rfl rfl) ?_)) <;> try (refine Za rfl (Za rfl (Za rfl (Aa N2 ?_)))))))))))))))))))))))) | ((refine Ab 18 ?_; try (refine Zf fo68_5 rfl ?_; try (refine AJ rfl rfl rfl sz3 Y3 Y27 (.inr (Nat.zero_le _)) rfl rfl ?_; try (refine Zf C2 rfl ?_; try (refine AJ rfl rfl rfl sz3 Y3 Y27 (.inr (Nat.zero_le _)) rfl rfl ?_; try (refine Zf CS rfl ?_; try (refine AJ rfl rfl rfl sz3 Y3 Y27 (.inr (Nat.zero_le _)) rfl rfl ?_; try ((refine Aa N2 ?_)))))))))))
     all_goals (first | (refine (fun (hq : (⟨decide (inP x.to 0 ((nb : Int) - 1) = true), true, true, { { x with kd := 0, ws := [], args := [] } with nm := [], a := 0, to := 0 }⟩ : EndS) = endLook nr nb x) => A0 ?_ (rest ⟨_, hq⟩)) ?_; (repeat (first | exact Bt _ | refine Be rfl ?_)); (try simp only [Cn] at *); (simp [endLook, h1, h2, h3, h4, h5, h6, *]; done)) | (refine (fun (hq : (⟨false, true, true, { { x with kd := 0, ws := [], args := [] } with nm := [], a := 0, to := 0 }⟩ : EndS) = endLook nr nb x) => A0 ?_ (rest ⟨_, hq⟩)) ?_; (repeat (first | exact Bt _ | refine Be rfl ?_)); (try simp only [Cn] at *); (simp [endLook, h1, h2, h3, h4, h5, h6, *]; done)) | (refine (fun (hq : (⟨true, true, true, { { x with kd := 0, ws := [], args := [] } with nm := [], a := 0, to := 0 }⟩ : EndS) = endLook nr nb x) => A0 ?_ (rest ⟨_, hq⟩)) ?_; (repeat (first | exact Bt _ | refine Be rfl ?_)); (try simp only [Cn] at *); (simp [endLook, h1, h2, h3, h4, h5, h6, *]; done)))
   by_cases h7 : x.kd = 7
   · repeat' (first | (refine Ah rfl ?_) | (refine Ak rfl ?_) | (refine Al ?_) | (refine Am ?_) | (refine A1 rfl ?_) | (refine Az rfl ?_) | ((refine Ab 7 ?_; try (refine Zv (Aw rfl rfl Y2) ?_; try (refine Za rfl (Aa N2 ?_))))) | ((refine Ab 9 ?_; try (refine Zv (Aw rfl rfl Y2) ?_; try (refine Za rfl (Aa N2 ?_))))) | ((refine Ab 11 ?_; try (refine Zv (Aw rfl rfl Y2) ?_; try (refine Za rfl (Aa N2 ?_))))) | ((refine Ab 13 ?_; try (refine Zv (Aw rfl rfl Y2) ?_; try (refine Za rfl (Aa N2 ?_))))) | ((refine Ab 15 ?_; try (refine Zv (Aw rfl rfl Y2) ?_; try (refine Za rfl (Aa N2 ?_))))) | ((refine Ab 16 ?_; try (refine Zv (Aw rfl rfl Y2) ?_; try (refine Za rfl (Aa N2 ?_))))) | ((refine Ab 19 ?_; try (refine Zv (Aw rfl rfl Y2) ?_; try (refine Za rfl (Aa N2 ?_))))) | ((refine Ab 20 ?_; try (refine Zv (A7 U176 rfl rfl (by repeat (first | exact Kn.of (.head _) rfl | apply Kn.cons | apply Kn.app))) ?_; try (refine Zf C2 rfl (Zv (Ac U3 rfl rfl Y0 Y5) ?_); try (refine Zv (Au (CallR.fv rfl rfl (.fn _ _ _ _ _ rfl) en107) (Yields.dec (reg2_c (by repeat (first | exact Kn.of (c := #[pv bf 0]) (.head _) rfl | apply Kn.cons | apply Kn.app)) (hf.up fun e h => by repeat (first | exact h | apply List.Mem.tail | apply List.mem_append_right)) hn _))) ?_; try (refine Zm rfl ?_; try (((refine Bj rfl rfl (fun h => ?_) (fun h => ?_)) <;> (first | (refine Zk ?_) | ((refine Zv (A7 U176 rfl rfl (by repeat (first | exact Kn.of (.head _) rfl | apply Kn.cons | apply Kn.app))) ?_)))) <;> try ((first | (refine Zk ?_) | ((refine Zf fo68_2 rfl ?_))) <;> try ((first | (refine Zk ?_) | ((refine Zv (Ac U3 rfl rfl Y0 Y5) ?_))) <;> try ((first | (refine Zk ?_) | ((refine Zv (Au (CallR.fv rfl rfl (.fn _ _ _ _ _ rfl) en107) (Yields.dec (reg2_c (by repeat (first | exact Kn.of (c := #[pv bf 0]) (.head _) rfl | apply Kn.cons | apply Kn.app)) (hf.up fun e h => by repeat (first | exact h | apply List.Mem.tail | apply List.mem_append_right)) hn _))) ?_))) <;> try ((first | (refine Zv (Av rfl rfl) ?_) | (refine Zv (AC rfl rfl) ?_)) <;> try (refine Zm rfl ?_; try ((first | (refine Zk ?_) | ((refine Bj rfl rfl (fun h => ?_) (fun h => ?_)) <;> (first | (refine Zk ?_) | ((refine Zm rfl ?_))))) <;> try ((first | (refine Zk ?_) | ((refine Zf CS rfl ?_))) <;> try ((first | (refine Zk ?_) | ((refine Zv (Ac U3 rfl rfl Y0 Y5) ?_))) <;> try ((first | (refine Zk ?_) | ((refine Zv (Au (CallR.fv rfl rfl (.fn _ _ _ _ _ rfl) en108) (Yields.dec (blk2_c (by repeat (first | exact Kn.of (c := #[pv bf 0]) (.head _) rfl | apply Kn.cons | apply Kn.app)) (hf.up fun e h => by repeat (first | exact h | apply List.Mem.tail | apply List.mem_append_right)) hnb _))) ?_))) <;> try ((first | (refine Zv (Av rfl rfl) ?_) | (refine Zv (AC rfl rfl) ?_)) <;> try (refine Za rfl (Za rfl (Zf C2 rfl ?_)); try (refine AJ rfl rfl rfl sz3 Y3 Y27 (.inr (Nat.zero_le _)) rfl rfl ?_; try (refine Zf fo68_2 rfl ?_; try (refine AJ rfl rfl rfl sz3 Y3 Y27 (.inr (Nat.zero_le _)) rfl rfl ?_; try (refine Zf CS rfl ?_; try (refine AJ rfl rfl rfl sz3 Y3 Y27 (.inr (Nat.zero_le _)) rfl rfl ?_; try ((refine Aa N2 ?_))))))))))))))))))))))))))
     all_goals (first | (refine (fun (hq : (⟨decide (inP x.to 0 ((nb : Int) - 1) = true), false, true, { { x with kd := 0, ws := [], args := [] } with a := 0, b := 0, to := 0 }⟩ : EndS) = endLook nr nb x) => A0 ?_ (rest ⟨_, hq⟩)) ?_; (repeat (first | exact Bt _ | refine Be rfl ?_)); (try simp only [Cn] at *); (simp [endLook, h1, h2, h3, h4, h5, h6, h7, *]; done)) | (refine (fun (hq : (⟨false, false, true, { { x with kd := 0, ws := [], args := [] } with a := 0, b := 0, to := 0 }⟩ : EndS) = endLook nr nb x) => A0 ?_ (rest ⟨_, hq⟩)) ?_; (repeat (first | exact Bt _ | refine Be rfl ?_)); (try simp only [Cn] at *); (simp [endLook, h1, h2, h3, h4, h5, h6, h7, *]; done)) | (refine (fun (hq : (⟨true, false, true, { { x with kd := 0, ws := [], args := [] } with a := 0, b := 0, to := 0 }⟩ : EndS) = endLook nr nb x) => A0 ?_ (rest ⟨_, hq⟩)) ?_; (repeat (first | exact Bt _ | refine Be rfl ?_)); (try simp only [Cn] at *); (simp [endLook, h1, h2, h3, h4, h5, h6, h7, *]; done)))
   by_cases h8 : x.kd = 8
   · repeat' (first | (refine Ah rfl ?_) | (refine Ak rfl ?_) | (refine Al ?_) | (refine Am ?_) | (refine A1 rfl ?_) | (refine Az rfl ?_) | ((refine Ab 7 ?_; try (refine Zv (Aw rfl rfl Y2) ?_; try (refine Za rfl (Aa N2 ?_))))) | ((refine Ab 9 ?_; try (refine Zv (Aw rfl rfl Y2) ?_; try (refine Za rfl (Aa N2 ?_))))) | ((refine Ab 11 ?_; try (refine Zv (Aw rfl rfl Y2) ?_; try (refine Za rfl (Aa N2 ?_))))) | ((refine Ab 13 ?_; try (refine Zv (Aw rfl rfl Y2) ?_; try (refine Za rfl (Aa N2 ?_))))) | ((refine Ab 15 ?_; try (refine Zv (Aw rfl rfl Y2) ?_; try (refine Za rfl (Aa N2 ?_))))) | ((refine Ab 16 ?_; try (refine Zv (Aw rfl rfl Y2) ?_; try (refine Za rfl (Aa N2 ?_))))) | ((refine Ab 19 ?_; try (refine Zv (Aw rfl rfl Y2) ?_; try (refine Za rfl (Aa N2 ?_))))) | ((refine Ab 21 ?_; try (refine Zv (Aw rfl rfl Y2) ?_; try (refine Za rfl (Aa N2 ?_))))) | ((refine Ab 22 ?_; try (refine Zv (A7 U176 rfl rfl (by repeat (first | exact Kn.of (.head _) rfl | apply Kn.cons | apply Kn.app))) ?_; try (refine Zf C2 rfl (Zv (Ac U3 rfl rfl Y0 Y5) ?_); try (refine Zv (Au (CallR.fv rfl rfl (.fn _ _ _ _ _ rfl) en107) (Yields.dec (reg2_c (by repeat (first | exact Kn.of (c := #[pv bf 0]) (.head _) rfl | apply Kn.cons | apply Kn.app)) (hf.up fun e h => by repeat (first | exact h | apply List.Mem.tail | apply List.mem_append_right)) hn _))) ?_; try (refine Zm rfl ?_; try (((refine Bj rfl rfl (fun h => ?_) (fun h => ?_)) <;> (first | (refine Zk ?_) | ((refine Zm rfl ?_)))) <;> try ((first | (refine Zk ?_) | ((refine Zf CS rfl ?_))) <;> try ((first | (refine Zk ?_) | ((refine Zv (Ac U3 rfl rfl Y0 Y5) ?_))) <;> try ((first | (refine Zk ?_) | ((refine Zv (Au (CallR.fv rfl rfl (.fn _ _ _ _ _ rfl) en108) (Yields.dec (blk2_c (by repeat (first | exact Kn.of (c := #[pv bf 0]) (.head _) rfl | apply Kn.cons | apply Kn.app)) (hf.up fun e h => by repeat (first | exact h | apply List.Mem.tail | apply List.mem_append_right)) hnb _))) ?_))) <;> try ((first | (refine Zv (Av rfl rfl) ?_) | (refine Zv (AC rfl rfl) ?_)) <;> try (refine Za rfl (Za rfl (Zf C2 rfl ?_)); try (refine AJ rfl rfl rfl sz3 Y3 Y27 (.inr (Nat.zero_le _)) rfl rfl ?_; try (refine Zf CS rfl ?_; try (refine AJ rfl rfl rfl sz3 Y3 Y27 (.inr (Nat.zero_le _)) rfl rfl ?_; try ((refine Aa N2 ?_))))))))))))))))))
     all_goals (first | (refine (fun (hq : (⟨decide (inP x.to 0 ((nb : Int) - 1) = true), false, true, { { x with kd := 0, ws := [], args := [] } with a := 0, to := 0 }⟩ : EndS) = endLook nr nb x) => A0 ?_ (rest ⟨_, hq⟩)) ?_; (repeat (first | exact Bt _ | refine Be rfl ?_)); (try simp only [Cn] at *); (simp [endLook, h1, h2, h3, h4, h5, h6, h7, h8, *]; done)) | (refine (fun (hq : (⟨false, false, true, { { x with kd := 0, ws := [], args := [] } with a := 0, to := 0 }⟩ : EndS) = endLook nr nb x) => A0 ?_ (rest ⟨_, hq⟩)) ?_; (repeat (first | exact Bt _ | refine Be rfl ?_)); (try simp only [Cn] at *); (simp [endLook, h1, h2, h3, h4, h5, h6, h7, h8, *]; done)) | (refine (fun (hq : (⟨true, false, true, { { x with kd := 0, ws := [], args := [] } with a := 0, to := 0 }⟩ : EndS) = endLook nr nb x) => A0 ?_ (rest ⟨_, hq⟩)) ?_; (repeat (first | exact Bt _ | refine Be rfl ?_)); (try simp only [Cn] at *); (simp [endLook, h1, h2, h3, h4, h5, h6, h7, h8, *]; done)))
   by_cases h9 : x.kd = 9
   · repeat' (first | (refine Ah rfl ?_) | (refine Ak rfl ?_) | (refine Al ?_) | (refine Am ?_) | (refine A1 rfl ?_) | (refine Az rfl ?_) | ((refine Ab 7 ?_; try (refine Zv (Aw rfl rfl Y2) ?_; try (refine Za rfl (Aa N2 ?_))))) | ((refine Ab 9 ?_; try (refine Zv (Aw rfl rfl Y2) ?_; try (refine Za rfl (Aa N2 ?_))))) | ((refine Ab 11 ?_; try (refine Zv (Aw rfl rfl Y2) ?_; try (refine Za rfl (Aa N2 ?_))))) | ((refine Ab 13 ?_; try (refine Zv (Aw rfl rfl Y2) ?_; try (refine Za rfl (Aa N2 ?_))))) | ((refine Ab 15 ?_; try (refine Zv (Aw rfl rfl Y2) ?_; try (refine Za rfl (Aa N2 ?_))))) | ((refine Ab 16 ?_; try (refine Zv (Aw rfl rfl Y2) ?_; try (refine Za rfl (Aa N2 ?_))))) | ((refine Ab 19 ?_; try (refine Zv (Aw rfl rfl Y2) ?_; try (refine Za rfl (Aa N2 ?_))))) | ((refine Ab 21 ?_; try (refine Zv (Aw rfl rfl Y2) ?_; try (refine Za rfl (Aa N2 ?_))))) | ((refine Ab 23 ?_; try (refine Zv (Aw rfl rfl Y2) ?_; try (refine Za rfl (Aa N2 ?_))))) | ((refine Ab 24 ?_; try (refine Zf C2 rfl (Zv (Ac U3 rfl rfl Y0 Y5) ?_); try (refine Zv (Au (CallR.val rfl en69) (Yields.dec (in_c _ _ _))) (Za rfl (Zf C2 rfl ?_)); try (refine AJ rfl rfl rfl sz3 Y3 Y27 (.inr (Nat.zero_le _)) rfl rfl ?_; try ((refine Aa N2 ?_))))))))
     all_goals (first | (refine (fun (hq : (⟨decide (inP x.a 1 9 = true), false, false, { { x with kd := 0, ws := [], args := [] } with a := 0 }⟩ : EndS) = endLook nr nb x) => A0 ?_ (rest ⟨_, hq⟩)) ?_; (repeat (first | exact Bt _ | refine Be rfl ?_)); (try simp only [Cn] at *); (simp [endLook, h1, h2, h3, h4, h5, h6, h7, h8, h9, *]; done)) | (refine (fun (hq : (⟨false, false, false, { { x with kd := 0, ws := [], args := [] } with a := 0 }⟩ : EndS) = endLook nr nb x) => A0 ?_ (rest ⟨_, hq⟩)) ?_; (repeat (first | exact Bt _ | refine Be rfl ?_)); (try simp only [Cn] at *); (simp [endLook, h1, h2, h3, h4, h5, h6, h7, h8, h9, *]; done)) | (refine (fun (hq : (⟨true, false, false, { { x with kd := 0, ws := [], args := [] } with a := 0 }⟩ : EndS) = endLook nr nb x) => A0 ?_ (rest ⟨_, hq⟩)) ?_; (repeat (first | exact Bt _ | refine Be rfl ?_)); (try simp only [Cn] at *); (simp [endLook, h1, h2, h3, h4, h5, h6, h7, h8, h9, *]; done)))
   repeat' (first | (refine Ah rfl ?_) | (refine Ak rfl ?_) | (refine Al ?_) | (refine Am ?_) | (refine Az rfl ?_) | (refine AE ?_) | ((refine Ab 7 ?_; try (refine Zv (Aw rfl rfl Y2) ?_; try (refine Za rfl (Aa N2 ?_))))) | ((refine Ab 9 ?_; try (refine Zv (Aw rfl rfl Y2) ?_; try (refine Za rfl (Aa N2 ?_))))) | ((refine Ab 11 ?_; try (refine Zv (Aw rfl rfl Y2) ?_; try (refine Za rfl (Aa N2 ?_))))) | ((refine Ab 13 ?_; try (refine Zv (Aw rfl rfl Y2) ?_; try (refine Za rfl (Aa N2 ?_))))) | ((refine Ab 15 ?_; try (refine Zv (Aw rfl rfl Y2) ?_; try (refine Za rfl (Aa N2 ?_))))) | ((refine Ab 16 ?_; try (refine Zv (Aw rfl rfl Y2) ?_; try (refine Za rfl (Aa N2 ?_))))) | ((refine Ab 19 ?_; try (refine Zv (Aw rfl rfl Y2) ?_; try (refine Za rfl (Aa N2 ?_))))) | ((refine Ab 21 ?_; try (refine Zv (Aw rfl rfl Y2) ?_; try (refine Za rfl (Aa N2 ?_))))) | ((refine Ab 23 ?_; try (refine Zv (Aw rfl rfl Y2) ?_; try (refine Za rfl (Aa N2 ?_))))))
   all_goals (first | (refine (fun (hq : (⟨false, false, false, { x with kd := 0, ws := [], args := [] }⟩ : EndS) = endLook nr nb x) => A0 ?_ (rest ⟨_, hq⟩)) ?_; (repeat (first | exact Bt _ | refine Be rfl ?_)); (try simp only [Cn] at *); (simp [endLook, h1, h2, h3, h4, h5, h6, h7, h8, h9, *]; done)) | (refine (fun (hq : (⟨true, false, false, { x with kd := 0, ws := [], args := [] }⟩ : EndS) = endLook nr nb x) => A0 ?_ (rest ⟨_, hq⟩)) ?_; (repeat (first | exact Bt _ | refine Be rfl ?_)); (try simp only [Cn] at *); (simp [endLook, h1, h2, h3, h4, h5, h6, h7, h8, h9, *]; done)))
 rintro ⟨q, hq⟩
 dsimp only
 have hE : endPr (nr : Int) nb x = (if !q.ok || !q.args && decide (0 < x.args.length) || decide (7 < x.args.length) || x.args.any (fun a => !inR a nr) then false
  else if q.whens && decide (x.ot ≠ -1) && !inR x.ot nb then false
  else if !q.whens && decide (0 < x.ws.length) then false
  else if decide (x.ws.length ≤ 7) && whensOk nb [] x.ws then decide (q.rest.a = 0) && decide (q.rest.b = 0) && decide (q.rest.to = 0) && decide (q.rest.el = 0) && decide (q.rest.nm = []) && decide ((if q.whens then -1 else q.rest.ot) = -1) else false) := by rw [hq]; rfl
 clear hq
 generalize endPr (nr : Int) nb x = R at *
 obtain ⟨ok, ar, wh, rs⟩ := q
 dsimp only at hE ⊢
 have hany : ∀ {F'}, (∀ e ∈ F, e ∈ F') → Kn S w0 F' b5 0 (.func (.func 107) #[] #[pv b2 0]) → Kn S w0 F' b2 0 (pv bf 0) → Yields S w0 F' 109 [.slice aa x.args.length ca, .func (.func 110) #[] #[pv b5 0]] (.bool (decide (x.args.any (fun a => !inR a nr) = true))) := fun hu h5 h2 => by
  refine Yields.dec (has_int (hA.up hu) hal fun r _ => tells_fn en110 (reg3_c h5 ?_))
  have := reg2_c h2 (hf.up hu) hn r
  rwa [Cn] at this
 generalize hgx : x.args.any (fun a => !inR a nr) = ga at *
 generalize hgl : (decide (x.ws.length ≤ 7) && whensOk nb [] x.ws) = gw at *
 generalize hot : (if wh then (-1 : Int) else rs.ot) = ot' at *
 cases ok
 · repeat' (first | (refine Ah rfl ?_) | (refine Ak rfl ?_) | (refine Al ?_) | (refine Am ?_) | (refine A1 rfl ?_) | (refine AH ?_) | (refine AL Tryz.func75 rfl (fun w_ hi_ => ?_)) | ((refine Ab 25 ?_; try (refine Zm rfl (Zv (Ci rfl) (Zm rfl (Zk (Zk (Zk (Zk (Zk (Zk (Zk (Zk (Zv (Av rfl rfl) (Zm rfl (Zk (Zk (Zk (Zk (Zv (Av rfl rfl) (Zm rfl (Zk (Zk (Zk (Zk (Zv (Av rfl rfl) (Aa N2 ?_))))))))))))))))))))))))))) | ((refine Ab 26 ?_; try (refine Za rfl (Aa N2 ?_)))))
   exact ⟨[], ⟨by rw [hE]; rfl, rfl⟩, hi_.subset Y4⟩
 cases ar <;> cases wh
 all_goals
  repeat' (first | (refine Ah rfl ?_) | (refine Ak rfl ?_) | (refine Al ?_) | (refine Am ?_) | (refine A1 rfl ?_) | (refine Az rfl ?_) | (refine w_condD rfl (fun h => ?_) (fun h => ?_)) | (refine w_condN rfl (fun h => ?_) (fun h => ?_)) | (refine AH ?_) | (refine AE ?_) | (refine AL Tryz.func75 rfl (fun w_ hi_ => ?_)) | ((refine Ab 25 ?_; try (refine Zm rfl (Zv (BT rfl) (Zm rfl ?_)); try (((refine Zm rfl ?_)) <;> try (((first | (refine Zv (BT rfl) ?_) | (refine Zv (Ci rfl) ?_))) <;> try (((refine Zm rfl ?_)) <;> try ((first | (refine Zk ?_) | ((refine Zf fo68_6 rfl ?_))) <;> try ((first | (refine Zk ?_) | ((refine Zv (Ac U59 rfl rfl Y0 Y5) ?_))) <;> try ((first | (refine Zk ?_) | ((refine Zv (As rfl U59 rfl) ?_))) <;> try ((first | (refine Zk ?_) | ((refine Zv (B4 rfl rfl Y2) ?_))) <;> try (((first | (refine Zv (Av rfl rfl) ?_) | (refine Zv (AC rfl rfl) ?_))) <;> try (refine Zv (AC rfl rfl) (Zm rfl ?_); try ((first | ((refine Zf fo68_6 rfl ?_)) | ((refine Bj rfl rfl (fun h => ?_) (fun h => ?_)) <;> (first | (refine Zk ?_) | ((refine Zf fo68_6 rfl ?_))))) <;> try ((first | (refine Zk ?_) | ((refine Zv (Ac U59 rfl rfl Y0 Y5) ?_))) <;> try ((first | (refine Zk ?_) | ((refine Zv (As rfl U59 rfl) ?_))) <;> try ((first | (refine Zk ?_) | ((refine Zv (B4 rfl rfl Y2) ?_))) <;> try ((first | (refine Zv (Av rfl rfl) ?_) | (refine Zv (AC rfl rfl) ?_)) <;> try (refine Zm rfl ?_; try ((first | (refine Zk ?_) | ((refine Zf fo68_6 rfl ?_)) | ((refine Bj rfl rfl (fun h => ?_) (fun h => ?_)) <;> (first | (refine Zk ?_) | ((refine Zf fo68_6 rfl ?_))))) <;> try ((first | (refine Zk ?_) | ((refine Zv (Ac U59 rfl rfl Y0 Y5) ?_))) <;> try ((first | (refine Zk ?_) | ((refine Zv (Bg rfl rfl) ?_))) <;> try ((first | (refine Zk ?_) | ((refine Zv (Au (CallR.val rfl en109) (hany Y11 (by repeat (first | exact Kn.of (.head _) rfl | apply Kn.cons | apply Kn.app)) (by repeat (first | exact Kn.of (c := #[pv bf 0]) (.head _) rfl | apply Kn.cons | apply Kn.app)))) ?_))) <;> try ((first | (refine Zv (Av rfl rfl) ?_) | (refine Zv (AC rfl rfl) ?_)) <;> try ((refine Aa N2 ?_))))))))))))))))))))))))) | ((refine Ab 26 ?_; try (refine Za rfl (Aa N2 ?_)))) | ((refine Ab 27 ?_; try (refine Zm rfl (Zm rfl ?_); try ((first | (refine Zk ?_) | ((refine Zf fo68_8 rfl ?_))) <;> try ((first | (refine Zk ?_) | ((refine Zv (Ac U3 rfl rfl Y0 Y5) ?_))) <;> try ((first | (refine Zk ?_) | ((refine Zv (AX rfl rfl (by first | exact A2 Y9 | exact Ay Y9 | exact rfl)) ?_))) <;> try ((first | (refine Zv (Av rfl rfl) ?_) | (refine Zv (AC rfl rfl) ?_)) <;> try (refine Zm rfl ?_; try ((first | (refine Zk ?_) | ((refine B5 rfl rfl (fun h => ?_) (fun h => ?_)) <;> (first | (refine Zk ?_) | ((refine Zm rfl ?_))))) <;> try ((first | (refine Zk ?_) | ((refine Zf fo68_8 rfl ?_))) <;> try ((first | (refine Zk ?_) | ((refine Zv (Ac U3 rfl rfl Y0 Y5) ?_))) <;> try ((first | (refine Zk ?_) | ((refine Zv (Au (CallR.fv rfl rfl (.fn _ _ _ _ _ rfl) en108) (blkR_c (by repeat (first | exact Kn.of (c := #[pv bf 0]) (.head _) rfl | apply Kn.cons | apply Kn.app)) (hf.up fun e h => by repeat (first | exact h | apply List.Mem.tail | apply List.mem_append_right)) hnb _)) ?_))) <;> try ((first | (refine Zk ?_) | ((refine Zv (ov_not rfl) ?_))) <;> try ((first | (refine Zv (Av rfl rfl) ?_) | (refine Zv (AC rfl rfl) ?_)) <;> try ((refine Aa N2 ?_)))))))))))))))) | ((refine Ab 28 ?_; try (refine Za rfl (Aa N2 ?_)))) | ((refine Ab 29 ?_; try (refine Zm rfl (Aa N2 ?_)))) | ((refine Ab 30 ?_; try (refine Zf fo68_8 rfl ?_; try (refine AJ rfl rfl rfl sz3 Y3 Y27 (.inr (Nat.zero_le _)) rfl rfl ?_; try ((refine Aa N2 ?_)))))) | ((refine Ab 31 ?_; try (refine Zf fo68_7 rfl (Zv (Ac U66 rfl rfl Y0 Y5) ?_); try (refine Zv (As rfl U66 rfl) (Zv (B4 rfl rfl Y2) ?_); try ((refine Aa N2 ?_)))))) | ((refine Ab 32 ?_; try (refine Za rfl (Aa N2 ?_)))))
 all_goals (try (refine ⟨[], ⟨?_, rfl⟩, hi_.subset Y4⟩; show Ending.returned (Value.bool _) = _; congr 2; clear hA hW hany hf hka hkw hi_; grind))
 all_goals
  have hR : R = if gw then decide (rs.a = 0) && decide (rs.b = 0) && decide (rs.to = 0) && decide (rs.el = 0) && decide (rs.nm = []) && decide (ot' = -1) else false := by grind
  clear hE
  repeat' (first | (refine Ah rfl ?_) | (refine Ak rfl ?_) | (refine Al ?_) | ((refine Ab 33 ?_; try (refine Zf fo68_7 rfl (Zv (Ac U66 rfl rfl Y0 Y5) ?_); try (refine Zv (As rfl U66 rfl) (Zm rfl (Aa N2 ?_)))))))
  refine A5 ?_
  refine A0 (E' := (fun k : Nat => [(3, pv b3 0), (6, .func (.func 108) #[] #[pv b2 0]), (7, pv b7 0), (178, .slice aw x.ws.length cw), (179, .int .i64 (x.ws.length : Int)), (180, .int .i64 (k : Int))]) 0) Y14 ?_
  refine Bf (fun k : Nat => k ≤ x.ws.length ∧ k ≤ 7 ∧ gw = (decide (x.ws.length ≤ 7) && whensOk nb ((x.ws.take k).map (·.1)) (x.ws.drop k))) (fun k => x.ws.length - k) (fun k : Nat => [(3, pv b3 0), (6, .func (.func 108) #[] #[pv b2 0]), (7, pv b7 0), (178, .slice aw x.ws.length cw), (179, .int .i64 (x.ws.length : Int)), (180, .int .i64 (k : Int))]) (fun k => _) ?_ 0 ⟨Nat.zero_le _, Nat.zero_le _, hgl.symm⟩
  rintro k ⟨k1, k2, k3⟩ ih
  try dsimp only at k1 k2 k3 ih ⊢
  by_cases hlt : k < x.ws.length
  · obtain ⟨b, off, hbw, hkn⟩ := hkw.resolve_left (fun e => by have := whensV_len x.ws; rw [e] at this; simp at this; omega)
    subst hbw
    have hdr : x.ws.drop k = x.ws[k] :: x.ws.drop (k + 1) := List.drop_eq_getElem_cons hlt
    have hcell : ∀ j (h : j < (#[str x.ws[k].1, Value.int .i64 x.ws[k].2] : Array Value).size), Kn S w0 F b (off + ((k : Nat) : Int).toNat * 2 + j) (#[str x.ws[k].1, Value.int .i64 x.ws[k].2])[j] := by
     intro j h
     have h2 : j < 2 := h
     have := C8 (fun p : Bs × Int => [str p.1, Value.int .i64 p.2]) (fun _ => rfl) x.ws k j Y9 h2
     obtain ⟨h3, h4⟩ := List.getElem?_eq_some_iff.1 (this.trans (List.getElem?_eq_getElem (show j < [str x.ws[k].1, Value.int .i64 x.ws[k].2].length from h2)))
     have h5 : Kn S w0 F b (off + (k * 2 + j)) ((rowV (fun p : Bs × Int => [str p.1, Value.int .i64 p.2]) x.ws)[k * 2 + j]'h3) := hkn (k * 2 + j) h3
     rw [h4] at h5
     rw [show off + ((k : Nat) : Int).toNat * 2 + j = off + (k * 2 + j) by simp; omega]
     simpa using h5
    have hseen : ∀ {F' : List Ent} {b12 : Nat}, (∀ e ∈ F, e ∈ F') → Kn S w0 F' b12 0 (str x.ws[k].1) → Yields S w0 F' 111 [.slice (some ⟨b, off + 0 * 2, none⟩) (k - 0) (cw - 0), .func (.func 112) #[] #[pv b12 0]] (.bool (decide (((x.ws.take k).map (·.1)).contains x.ws[k].1 = true))) := fun {F'} {b12} hu h12 => by
     have hs : SlK S w0 F' (whensV (x.ws.take k)) (x.ws.take k).length (.slice (some ⟨b, off + 0 * 2, none⟩) (k - 0) (cw - 0)) := by
      refine ⟨_, cw - 0, by rw [List.length_take, Nat.min_eq_left k1]; rfl, by rw [List.length_take]; omega, .inr ⟨b, _, rfl, fun i hi => ?_⟩⟩
      have hl : i < (whensV x.ws).length := by rw [whensV_len] at hi ⊢; rw [List.length_take] at hi; omega
      have h5 := (hkn i hl).mono hu
      have h6 : (whensV (x.ws.take k))[i] = (whensV x.ws)[i] := by
       have : whensV x.ws = whensV (x.ws.take k) ++ whensV (x.ws.drop k) := by rw [← whensV_app, List.take_append_drop]
       simp only [this]
       rw [List.getElem_append_left]
      rw [h6, show off + 0 * 2 + i = off + i by omega]
      exact h5
     have := has_when hs (by rw [List.length_take]; omega) (p := fun v => decide (v.1 = x.ws[k].1)) (fv := .func (.func 112) #[] #[pv b12 0]) fun v _ => tells_fn en112 (when4_c (h := x.ws[k]) h12)
     rw [any_contains] at this
     exact Yields.dec this
    rw [hdr] at k3
    generalize hwk : x.ws[k] = wk at *
    have hstep : gw = (decide (x.ws.length ≤ 7) && (symOk wk.1 && inR wk.2 nb && !((x.ws.take k).map (·.1)).contains wk.1 && whensOk nb ((x.ws.take (k + 1)).map (·.1)) (x.ws.drop (k + 1)))) := by
     rw [k3, List.take_succ_eq_append_getElem hlt, hwk]; simp [whensOk]
    clear k3
    generalize hsn : ((x.ws.take k).map (·.1)).contains wk.1 = sn at *
    repeat' (first | (refine Ah rfl ?_) | (refine Ak rfl ?_) | (refine Al ?_) | (refine Am ?_) | (refine A1 rfl ?_) | (refine w_condD rfl (fun h => ?_) (fun h => ?_)) | (refine A5 ?_) | (refine AH ?_) | (refine AE ?_) | (refine AL Tryz.func75 rfl (fun w_ hi_ => ?_)) | ((refine Ab 34 ?_; try (refine Zv (A8 rfl rfl Y2) ?_; try ((refine Aa N2 ?_))))) | ((refine Ab 35 ?_; try (refine Zm rfl (Zv (Aq U66 sz75 rfl rfl Y9 Y9) ?_); try (refine Zv (AK (cs := #[str wk.1, Value.int .i64 wk.2]) U75 rfl inf75 rfl (fun j h => (hcell j h).mono Y11) rfl) ?_; try (refine A4 inf75 rfl rfl rfl rfl (fun b12 hb12 => ?_); try (refine Za rfl ?_; try (refine AI rfl rfl rfl sz75 Y3 Y15 rfl rfl ?_; try ((refine Aa N2 ?_))))))))) | ((refine Ab 36 ?_; try (refine Zm rfl (Zv (Bn rfl rfl Y2) ?_); try (refine Zm rfl ?_; try ((first | (refine Zk ?_) | ((refine Bj rfl rfl (fun h => ?_) (fun h => ?_)) <;> (first | (refine Zk ?_) | ((refine Zf fo75_0 rfl ?_))))) <;> try ((first | (refine Zk ?_) | ((refine Zv (Ac U9 rfl rfl Y0 Y5) ?_))) <;> try ((first | (refine Zk ?_) | ((refine Zv (Au (CallR.val rfl en68) (Yields.dec (sym_c _))) ?_))) <;> try ((first | (refine Zk ?_) | ((refine Zv (ov_not rfl) ?_))) <;> try ((first | (refine Zv (Av rfl rfl) ?_) | (refine Zv (AC rfl rfl) ?_)) <;> try (refine Zm rfl ?_; try ((first | (refine Zk ?_) | ((refine B5 rfl rfl (fun h => ?_) (fun h => ?_)) <;> (first | (refine Zk ?_) | ((refine Zm rfl ?_))))) <;> try ((first | (refine Zk ?_) | ((refine Zf fo75_1 rfl ?_))) <;> try ((first | (refine Zk ?_) | ((refine Zv (Ac U3 rfl rfl Y0 Y5) ?_))) <;> try ((first | (refine Zk ?_) | ((refine Zv (Au (CallR.fv rfl rfl (.fn _ _ _ _ _ rfl) en108) (blkR_c (by repeat (first | exact Kn.of (c := #[pv bf 0]) (.head _) rfl | apply Kn.cons | apply Kn.app)) (hf.up fun e h => by repeat (first | exact h | apply List.Mem.tail | apply List.mem_append_right)) hnb _)) ?_))) <;> try ((first | (refine Zk ?_) | ((refine Zv (ov_not rfl) ?_))) <;> try ((first | (refine Zv (Av rfl rfl) ?_) | (refine Zv (AC rfl rfl) ?_)) <;> try (refine Zm rfl ?_; try ((first | (refine Zk ?_) | ((refine B5 rfl rfl (fun h => ?_) (fun h => ?_)) <;> (first | (refine Zk ?_) | ((refine Zf fo68_7 rfl ?_))))) <;> try ((first | (refine Zk ?_) | ((refine Zv (Ac U66 rfl rfl Y0 Y5) ?_))) <;> try ((first | (refine Zk ?_) | ((refine Zm rfl ?_))) <;> try ((first | (refine Zk ?_) | ((refine Zv (ov_sliceLlt (a := 0) (b := k) U66 sz75 rfl rfl ⟨_, _, rfl, by omega, Int.toNat_natCast k⟩ (Nat.zero_le _) Y9 Y9) ?_))) <;> try ((first | (refine Zk ?_) | ((refine Zv (Bg rfl rfl) ?_))) <;> try ((first | (refine Zk ?_) | ((refine Zv (Au (CallR.val rfl en111) (hseen Y11 (Kn.of (.head _) rfl))) ?_))) <;> try ((first | (refine Zv (Av rfl rfl) ?_) | (refine Zv (AC rfl rfl) ?_)) <;> try ((refine Aa N2 ?_)))))))))))))))))))))))))) | ((refine Ab 37 ?_; try (refine Za rfl (Aa N2 ?_)))) | ((refine Ab 38 ?_; try (refine Zv (AG rfl rfl Y9 Y9) ?_; try (refine Zm rfl (Aa N2 ?_))))))
    all_goals first
     | (refine ⟨[], ⟨?_, rfl⟩, hi_.subset Y4⟩; show Ending.returned (Value.bool _) = _; congr 2; grind)
     | skip
    all_goals
     have hgo : gw = (decide (x.ws.length ≤ 7) && whensOk nb ((x.ws.take (k + 1)).map (·.1)) (x.ws.drop (k + 1))) := by
      rw [hstep]; clear hA hW hany hf hkn ih hcell hseen; grind
     refine CR ?_ (A0 Y10 (ih (k + 1) ⟨by omega, by omega, hgo⟩ Y9))
     repeat (first | exact List.Sublist.refl _ | apply List.Sublist.cons | apply List.sublist_append_of_sublist_right)
  · have hk : k = x.ws.length := by omega
    subst hk
    rw [List.drop_length] at k3
    have hgt : gw = true := by rw [k3]; simp [whensOk]; omega
    repeat' (first | (refine Ah rfl ?_) | (refine Ak rfl ?_) | (refine Al ?_) | (refine Am ?_) | (refine Az rfl ?_) | (refine Bp rfl ?_) | (refine AL Tryz.func75 rfl (fun w_ hi_ => ?_)) | ((refine Ab 34 ?_; try (refine Zv (A8 rfl rfl Y2) ?_; try ((refine Aa N2 ?_))))) | ((refine Ab 39 ?_; try (refine Zf C2 rfl (Zv (Ac U3 rfl rfl Y0 Y5) ?_); try (refine Zv (Aw rfl rfl Y2) ?_; try (refine Zm rfl ?_; try (((refine Bj rfl rfl (fun h => ?_) (fun h => ?_)) <;> (first | (refine Zk ?_) | ((refine Zf fo68_2 rfl ?_)))) <;> try ((first | (refine Zk ?_) | ((refine Zv (Ac U3 rfl rfl Y0 Y5) ?_))) <;> try ((first | (refine Zk ?_) | ((refine Zv (Aw rfl rfl Y2) ?_))) <;> try ((first | (refine Zv (Av rfl rfl) ?_) | (refine Zv (AC rfl rfl) ?_)) <;> try (refine Zm rfl ?_; try ((first | (refine Zk ?_) | ((refine Bj rfl rfl (fun h => ?_) (fun h => ?_)) <;> (first | (refine Zk ?_) | ((refine Zf CS rfl ?_))))) <;> try ((first | (refine Zk ?_) | ((refine Zv (Ac U3 rfl rfl Y0 Y5) ?_))) <;> try ((first | (refine Zk ?_) | ((refine Zv (Aw rfl rfl Y2) ?_))) <;> try ((first | (refine Zv (Av rfl rfl) ?_) | (refine Zv (AC rfl rfl) ?_)) <;> try (refine Zm rfl ?_; try ((first | (refine Zk ?_) | ((refine Bj rfl rfl (fun h => ?_) (fun h => ?_)) <;> (first | (refine Zk ?_) | ((refine Zf fo68_4 rfl ?_))))) <;> try ((first | (refine Zk ?_) | ((refine Zv (Ac U3 rfl rfl Y0 Y5) ?_))) <;> try ((first | (refine Zk ?_) | ((refine Zv (Aw rfl rfl Y2) ?_))) <;> try ((first | (refine Zv (Av rfl rfl) ?_) | (refine Zv (AC rfl rfl) ?_)) <;> try (refine Zm rfl ?_; try ((first | (refine Zk ?_) | ((refine Bj rfl rfl (fun h => ?_) (fun h => ?_)) <;> (first | (refine Zk ?_) | ((refine Zf fo68_5 rfl ?_))))) <;> try ((first | (refine Zk ?_) | ((refine Zv (Ac U9 rfl rfl Y0 Y5) ?_))) <;> try ((first | (refine Zk ?_) | ((refine Zv (BU rfl rfl Y18) ?_))) <;> try ((first | (refine Zv (Av rfl rfl) ?_) | (refine Zv (AC rfl rfl) ?_)) <;> try (refine Zm rfl ?_; try ((first | (refine Zk ?_) | ((refine Bj rfl rfl (fun h => ?_) (fun h => ?_)) <;> (first | (refine Zk ?_) | ((refine Zf fo68_8 rfl ?_))))) <;> try ((first | (refine Zk ?_) | ((refine Zv (Ac U3 rfl rfl Y0 Y5) ?_))) <;> try ((first | (refine Zk ?_) | ((refine Zv (Aw rfl rfl Y2) ?_))) <;> try ((first | (refine Zv (Av rfl rfl) ?_) | (refine Zv (AC rfl rfl) ?_)) <;> try (refine Za rfl (Aa N2 ?_))))))))))))))))))))))))))))))))
    all_goals (refine ⟨[], ⟨?_, rfl⟩, hi_.subset Y4⟩; show Ending.returned (Value.bool _) = _; congr 2; rw [hR, hgt]; grind)
end
end Go.Sl
namespace Go.Sl
open Go Go.RowKit Go.Shelf Go.Proofs
attribute [local irreducible] Calls
section
variable {C : Cx} {S : Nat → Prop} {w0 : World} {D : List Deferred} {E : List (Nat × Value)} {H : List Ent} {d : Option Tmp} {t xt yt : TypeId} {p : String} {af : Array Edge} {g : Option (Nat × Bool)} {x y : Operand}
theorem ov_geqS {l m : List UInt8} (hx : opv E x = some (str l)) (hy : opv E y = some (str m)) : OpV C S w0 H D E ⟨d, .binOp .geq xt x y yt, t, p, af, g⟩ (.bool (decide (bsLt l m = false))) := by
 rw [show decide (bsLt l m = false) = (!bsLt l m) by cases bsLt l m <;> rfl]
 exact ov_bin hx hy ⟨by simp, by simp⟩ fun w => by simp only [binOp, Op.stringOp, toList_list]; rfl
end
structure FlowL (x : FlowM) : Prop where
 len : x.regs.length ≤ 65535 ∧ x.raises.length ≤ 65535 ∧ x.blks.length ≤ 65535
 blks : ∀ b ∈ x.blks, b.ins.length ≤ 65535 ∧ b.en.args.length ≤ 65535 ∧ b.en.ws.length ≤ 65535 ∧ ∀ i ∈ b.ins, i.args.length ≤ 65535
def rOk : Option Bs → List Bs → Bool
 | _, [] => true
 | none, a :: r => symOk a && rOk (some a) r
 | some p, a :: r => symOk a && bsLt p a && rOk (some a) r
theorem rOk_some : ∀ (l : List Bs) (p : Bs), rOk (some p) l = match l with | [] => true | a :: r => bsLt p a && raisesOk (a :: r)
 | [], p => rfl
 | [a], p => by simp [rOk, raisesOk, Bool.and_comm]
 | a :: b :: r, p => by
   have := rOk_some (b :: r) a
   simp only [rOk, raisesOk] at this ⊢
   rw [this]
   cases symOk a <;> cases bsLt p a <;> simp
def prevAt (l : List Bs) : Nat → Option Bs
 | 0 => none
 | k + 1 => l[k]?
theorem raises_rOk (l : List Bs) : raisesOk l = rOk none l := by
 cases l with
 | nil => rfl
 | cons a r =>
   simp only [rOk, rOk_some]
   cases r with
   | nil => simp [raisesOk]
   | cons b r => simp only [raisesOk, Bool.and_assoc]
section
variable {S : Nat → Prop} {w0 : World} {F : List Ent}
theorem reg71_c (k : Int) : Yields S w0 F 71 [.int .u8 k] (.bool (!(decide (k = 1) || decide (k = 2)))) := by
 refine AA fun w hi => ?_
 simp only [List.nil_append] at hi
 refine Ai Tryz.func71 rfl rfl (hi) ?_
 by_cases h1 : k = 1
 · rw [show (!(decide (k = 1) || decide (k = 2))) = false by simp [h1]]
   repeat' (first | (refine Ah rfl ?_) | (refine Ak rfl ?_) | (refine Al ?_) | (refine Am ?_) | (refine AL Tryz.func71 rfl (fun w_ hi_ => ?_)) | ((refine Ab 0 ?_; try (refine Za rfl (Aa N16 ?_)))) | ((refine Ab 1 ?_; try (refine Zm rfl (Zv (AX rfl rfl (by first | exact A2 Y9 | exact Ay Y9 | exact rfl)) ?_); try (refine Zm rfl (Zk (Zk (Zv (AC rfl rfl) (Za rfl (Aa N16 ?_))))))))))
   exact ⟨[], ⟨rfl, rfl⟩, hi_⟩
 · by_cases h2 : k = 2
   · rw [show (!(decide (k = 1) || decide (k = 2))) = false by simp [h2]]
     repeat' (first | (refine Ah rfl ?_) | (refine Ak rfl ?_) | (refine Al ?_) | (refine Am ?_) | (refine AL Tryz.func71 rfl (fun w_ hi_ => ?_)) | ((refine Ab 0 ?_; try (refine Za rfl (Aa N16 ?_)))) | ((refine Ab 1 ?_; try (refine Zm rfl (Zv (AX rfl rfl (by first | exact A2 Y9 | exact Ay Y9 | exact rfl)) ?_); try (refine Zm rfl ?_; try (((refine Zm rfl ?_)) <;> try (((refine Zv (AX rfl rfl (by first | exact A2 Y9 | exact Ay Y9 | exact rfl)) ?_)) <;> try (refine Zv (Av rfl rfl) (Za rfl (Aa N16 ?_))))))))))
     exact ⟨[], ⟨rfl, rfl⟩, hi_⟩
   · rw [show (!(decide (k = 1) || decide (k = 2))) = true by simp [h1, h2]]
     repeat' (first | (refine Ah rfl ?_) | (refine Ak rfl ?_) | (refine Al ?_) | (refine Am ?_) | (refine AL Tryz.func71 rfl (fun w_ hi_ => ?_)) | ((refine Ab 0 ?_; try (refine Za rfl (Aa N16 ?_)))) | ((refine Ab 1 ?_; try (refine Zm rfl (Zv (AX rfl rfl (by first | exact A2 Y9 | exact Ay Y9 | exact rfl)) ?_); try (refine Zm rfl ?_; try (((refine Zm rfl ?_)) <;> try (((refine Zv (AX rfl rfl (by first | exact A2 Y9 | exact Ay Y9 | exact rfl)) ?_)) <;> try (refine Zv (Av rfl rfl) (Za rfl (Aa N16 ?_))))))))))
     exact ⟨[], ⟨rfl, rfl⟩, hi_⟩
theorem ins73_c {cv : Value} {b5 bf mp mq nr nb : Nat} {rw_ : Bool} {x : InsM} {av : Value} (hcv : okCell cv = true) (h5 : ∀ j (h : j < (#[cv, Value.map (some mp), Value.map (some mq)] : Array Value).size), Kn S w0 F b5 (0 + j) (#[cv, Value.map (some mp), Value.map (some mq)])[j]) (hmp : (⟨mp, rw_, mapBO partTab⟩ : Ent) ∈ F) (hf : FlowAt S w0 F bf nr nb) (hn : nr ≤ 65535) (hA : ArgsK S w0 F x.args av) (hal : x.args.length ≤ 65535) :
 Yields S w0 F 73 [.agg (insC x av).toArray, pv b5 0, pv bf 0] (.bool (!insPr nr x)) := by
 refine AA fun w hi => ?_
 simp only [List.nil_append] at hi
 have hq : ∀ {e : Ent}, Yields S w0 (e :: F) 74 [.agg #[cv, .map (some mp), .map (some mq)], pv bf 0, .agg (insC x av).toArray] (.bool (insPr nr x)) := fun {e} => tins_c (rw_ := rw_) hcv (.tail _ hmp) (hf.up fun e h => .tail _ h) hn (hA.up fun e h => .tail _ h) hal
 obtain ⟨a0, cap0, rfl, hcap0, hk0⟩ := id hA
 generalize insPr (nr : Int) x = q at *
 refine Ai Tryz.func73 rfl rfl (hi) ?_
 cases q
 · repeat' (first | (refine Ah rfl ?_) | (refine Ak rfl ?_) | (refine Al ?_) | (refine Am ?_) | (refine AL Tryz.func73 rfl (fun w_ hi_ => ?_)) | ((refine Ab 0 ?_; try (refine AF (cs := (insC x (.slice a0 x.args.length cap0)).toArray) rfl rfl rfl rfl (fun b3 hb3 => ?_); try (refine Za rfl (Aa N23 ?_))))) | ((refine Ab 1 ?_; try (refine Zv (AK (cs := #[cv, .map (some mp), .map (some mq)]) U117 rfl inf117 rfl (fun j h => (h5 j h).cons) rfl) (Zv (AV U73 rfl inf73 rfl Y0 Y15) ?_); try (refine Zv (Au (CallR.val rfl en74) hq) (Zv (Ci rfl) (Za rfl (Aa N23 ?_))))))))
   exact ⟨[], ⟨rfl, rfl⟩, hi_.subset Y4⟩
 · repeat' (first | (refine Ah rfl ?_) | (refine Ak rfl ?_) | (refine Al ?_) | (refine Am ?_) | (refine AL Tryz.func73 rfl (fun w_ hi_ => ?_)) | ((refine Ab 0 ?_; try (refine AF (cs := (insC x (.slice a0 x.args.length cap0)).toArray) rfl rfl rfl rfl (fun b3 hb3 => ?_); try (refine Za rfl (Aa N23 ?_))))) | ((refine Ab 1 ?_; try (refine Zv (AK (cs := #[cv, .map (some mp), .map (some mq)]) U117 rfl inf117 rfl (fun j h => (h5 j h).cons) rfl) (Zv (AV U73 rfl inf73 rfl Y0 Y15) ?_); try (refine Zv (Au (CallR.val rfl en74) hq) (Zv (BT rfl) (Za rfl (Aa N23 ?_))))))))
   exact ⟨[], ⟨rfl, rfl⟩, hi_.subset Y4⟩
def frontOk (x : FlowM) : Bool := symOk x.nm && decide (x.regs.length ≤ 400) && decide (0 ≤ x.ac ∧ x.ac ≤ 7 ∧ x.ac ≤ (x.regs.length : Int)) && decide (x.res ≤ 2) && decide (x.raises.length ≤ 6) && decide (1 ≤ x.blks.length ∧ x.blks.length ≤ 600)
theorem chk_split (x : FlowM) : chkOk x = (frontOk x && x.regs.all (fun r => decide (r = 1) || decide (r = 2)) && rOk none x.raises && x.blks.all (blkOk x.regs.length x.blks.length)) := by
 rw [← raises_rOk]
 unfold chkOk sndOk frontOk
 rw [Bool.eq_iff_iff]
 simp only [Bool.and_eq_true, decide_eq_true_eq]
 constructor
 · rintro ⟨h0, ⟨⟨⟨⟨⟨⟨⟨⟨⟨h1, h2⟩, h3⟩, h4⟩, h5⟩, h6⟩, h7⟩, h8⟩, h9⟩, h10⟩, h11⟩
   exact ⟨⟨⟨⟨⟨⟨⟨⟨h0, h1⟩, h2, h3, h4⟩, h5⟩, h6⟩, h7, h8⟩, h9⟩, h10⟩, h11⟩
 · rintro ⟨⟨⟨⟨⟨⟨⟨⟨h0, h1⟩, h2, h3, h4⟩, h5⟩, h6⟩, h7, h8⟩, h9⟩, h10⟩, h11⟩
   exact ⟨h0, ⟨⟨⟨⟨⟨⟨⟨⟨⟨h1, h2⟩, h3⟩, h4⟩, h5⟩, h6⟩, h7⟩, h8⟩, h9⟩, h10⟩, h11⟩
theorem inArgs_c (a : Int) (n : Nat) : Yields S w0 F 69 [.int .i64 a, .int .i64 0, .int .i64 (if (n : Int) < 7 then (n : Int) else 7)] (.bool (decide (0 ≤ a ∧ a ≤ 7 ∧ a ≤ (n : Int)))) := by
 have := in_c (S := S) (w0 := w0) (F := F) a 0 (if (n : Int) < 7 then (n : Int) else 7)
 rwa [show inP a 0 (if (n : Int) < 7 then (n : Int) else 7) = decide (0 ≤ a ∧ a ≤ 7 ∧ a ≤ (n : Int)) by rw [Bool.eq_iff_iff]; simp [inP]; split <;> omega] at this
theorem inBlks_c (n : Nat) : Yields S w0 F 69 [.int .i64 (n : Int), .int .i64 1, .int .i64 600] (.bool (decide (1 ≤ n ∧ n ≤ 600))) := by
 have := in_c (S := S) (w0 := w0) (F := F) (n : Int) 1 600
 rwa [show inP (n : Int) 1 600 = decide (1 ≤ n ∧ n ≤ 600) by rw [Bool.eq_iff_iff]; simp [inP]; omega] at this
theorem w_cutH {C : Cx} {k : List Item} {D : List Deferred} {E : List (Nat × Value)} {H : List Ent} {a b : Item} {β : Type} (EJ : β → List (Nat × Value)) (HJ : β → List Ent) (J : Prop) (rest : J → ∀ q, WF C S w0 k D (EJ q) (HJ q)) (body : ∀ k', (J → ∀ q, WF C S w0 k' D (EJ q) (HJ q)) → WF C S w0 (a :: b :: k') D E H) : WF C S w0 (a :: b :: k) D E H := body k rest
theorem nbD (b : Bool) : (!b) = decide (b = false) := by cases b <;> rfl
theorem sound_c {x : FlowM} {v : Value} (hK : FlowK S w0 F x v) (hL : FlowL x) : Yields S w0 F 40 [v] (.bool (chkOk x)) := by
 refine AA fun w hi => ?_
 simp only [List.nil_append] at hi
 obtain ⟨rv, sv, bv, rfl, hk1, hk2, ⟨ps, hps, hk3, hk4⟩⟩ := hK
 obtain ⟨ar, cr, rfl, hcr, hkr⟩ := id hk1
 obtain ⟨az, cz, rfl, hcs, hks⟩ := id hk2
 obtain ⟨ab, cb, rfl, hcb, hkb⟩ := id hk3
 have hE := chk_split x
 generalize chkOk x = R at *
 have n1 := hL.len.1
 have n2 := hL.len.2.1
 have n3 := hL.len.2.2
 have n4 : ps.length = x.blks.length := by rw [← hps]; simp
 unfold frontOk at hE
 have hreg : ∀ {F'}, (∀ e ∈ F, e ∈ F') → Yields S w0 F' 70 [.slice ar x.regs.length cr, .func (.func 71) #[] #[]] (.bool (decide (¬ x.regs.all (fun r => decide (r = 1) || decide (r = 2)) = true))) := fun hu => by
  have := has_u8 (hk1.up hu) n1 (p := fun r => !(decide (r = 1) || decide (r = 2))) (fv := .func (.func 71) #[] #[]) fun r _ => tells_fn en71 (reg71_c r)
  rw [any_not] at this
  have := Yields.dec this
  rwa [show decide ((!x.regs.all (fun r => decide (r = 1) || decide (r = 2))) = true) = decide (¬ x.regs.all (fun r => decide (r = 1) || decide (r = 2)) = true) from decide_eq_decide.2 Y26] at this
 generalize hg1 : x.regs.all (fun r => decide (r = 1) || decide (r = 2)) = g1 at *
 generalize hg2 : rOk none x.raises = g2 at *
 generalize hg3 : x.blks.all (blkOk x.regs.length x.blks.length) = g3 at *
 refine Ai Tryz.func40 rfl rfl (hi) ?_
 repeat' (first | (refine Ah rfl ?_) | (refine Ak rfl ?_) | (refine Al ?_) | (refine Am ?_) | (refine A1 rfl ?_) | (refine w_condD rfl (fun h => ?_) (fun h => ?_)) | (refine w_condN rfl (fun h => ?_) (fun h => ?_)) | (refine AE ?_) | (refine AL Tryz.func40 rfl (fun w_ hi_ => ?_)) | ((refine Ab 0 ?_; try (refine AF (cs := flowC x (.slice ar x.regs.length cr) (.slice az x.raises.length cz) (.slice ab x.blks.length cb)) rfl rfl rfl rfl (fun b1 hb1 => ?_); try (refine Za rfl (Aa N13 ?_))))) | ((refine Ab 1 ?_; try (refine Zf fo26_0 rfl (Zv (Ac U9 rfl rfl Y0 Y5) ?_); try (refine Zv (Au (CallR.val rfl en68) (Yields.dec (sym_c _))) (Zv (ov_not rfl) (Zm rfl ?_)); try (((refine B5 rfl rfl (fun h => ?_) (fun h => ?_)) <;> (first | (refine Zk ?_) | ((refine Zf Cc rfl ?_)))) <;> try ((first | (refine Zk ?_) | ((refine Zv (Ac U22 rfl rfl Y0 Y5) ?_))) <;> try ((first | (refine Zk ?_) | ((refine Zv (As rfl U22 rfl) ?_))) <;> try ((first | (refine Zk ?_) | ((refine Zv (B4 rfl rfl Y2) ?_))) <;> try ((first | (refine Zv (Av rfl rfl) ?_) | (refine Zv (AC rfl rfl) ?_)) <;> try (refine Zm rfl ?_; try ((first | (refine Zk ?_) | ((refine Bj rfl rfl (fun h => ?_) (fun h => ?_)) <;> (first | (refine Zk ?_) | ((refine Zf fo26_1 rfl ?_))))) <;> try ((first | (refine Zk ?_) | ((refine Zv (Ac U3 rfl rfl Y0 Y5) ?_))) <;> try ((first | (refine Zk ?_) | ((refine Zf Cc rfl ?_))) <;> try ((first | (refine Zk ?_) | ((refine Zv (Ac U22 rfl rfl Y0 Y5) ?_))) <;> try ((first | (refine Zk ?_) | ((refine Zv (As rfl U22 rfl) ?_))) <;> try ((first | (refine Zk ?_) | ((refine Zv (ov_min rfl rfl) ?_))) <;> try ((first | (refine Zk ?_) | ((refine Zv (Au (CallR.val rfl en69) (inArgs_c _ _)) ?_))) <;> try ((first | (refine Zk ?_) | ((refine Zv (ov_not rfl) ?_))) <;> try ((first | (refine Zv (Av rfl rfl) ?_) | (refine Zv (AC rfl rfl) ?_)) <;> try (refine Zm rfl ?_; try ((first | (refine Zk ?_) | ((refine B5 rfl rfl (fun h => ?_) (fun h => ?_)) <;> (first | (refine Zk ?_) | ((refine Zf fo26_2 rfl ?_))))) <;> try ((first | (refine Zk ?_) | ((refine Zv (Ac U5 rfl rfl Y0 Y5) ?_))) <;> try ((first | (refine Zk ?_) | ((refine Zv (B4 rfl rfl Y2) ?_))) <;> try ((first | (refine Zv (Av rfl rfl) ?_) | (refine Zv (AC rfl rfl) ?_)) <;> try (refine Zm rfl ?_; try ((first | (refine Zk ?_) | ((refine Bj rfl rfl (fun h => ?_) (fun h => ?_)) <;> (first | (refine Zk ?_) | ((refine Zf Co rfl ?_))))) <;> try ((first | (refine Zk ?_) | ((refine Zv (Ac U23 rfl rfl Y0 Y5) ?_))) <;> try ((first | (refine Zk ?_) | ((refine Zv (As rfl U23 rfl) ?_))) <;> try ((first | (refine Zk ?_) | ((refine Zv (B4 rfl rfl Y2) ?_))) <;> try ((first | (refine Zv (Av rfl rfl) ?_) | (refine Zv (AC rfl rfl) ?_)) <;> try (refine Zm rfl ?_; try ((first | (refine Zk ?_) | ((refine Bj rfl rfl (fun h => ?_) (fun h => ?_)) <;> (first | (refine Zk ?_) | ((refine Zf BJ rfl ?_))))) <;> try ((first | (refine Zk ?_) | ((refine Zv (Ac U24 rfl rfl Y0 Y5) ?_))) <;> try ((first | (refine Zk ?_) | ((refine Zv (As rfl U24 rfl) ?_))) <;> try ((first | (refine Zk ?_) | ((refine Zv (Au (CallR.val rfl en69) (inBlks_c _)) ?_))) <;> try ((first | (refine Zk ?_) | ((refine Zv (ov_not rfl) ?_))) <;> try ((first | (refine Zv (Av rfl rfl) ?_) | (refine Zv (AC rfl rfl) ?_)) <;> try ((refine Aa N13 ?_))))))))))))))))))))))))))))))))))))))) | ((refine Ab 2 ?_; try (refine Za rfl (Aa N13 ?_)))) | ((refine Ab 3 ?_; try (refine Zf Cc rfl (Zv (Ac U22 rfl rfl Y0 Y5) ?_); try (refine Zv (Au (CallR.val rfl en70) (hreg Y11)) ?_; try ((refine Aa N13 ?_)))))) | ((refine Ab 4 ?_; try (refine Za rfl (Aa N13 ?_)))))
 all_goals (try (refine ⟨[], ⟨?_, rfl⟩, hi_.subset Y4⟩; show Ending.returned (Value.bool _) = _; congr 2; clear hk1 hk2 hk3 hk4 hkr hks hkb hi_ hreg; grind))
 have hR : R = (g2 && g3) := by clear hk1 hk2 hk3 hk4 hkr hks hkb hreg; grind
 clear hE hreg
 repeat' (first | (refine Ah rfl ?_) | (refine Ak rfl ?_) | (refine Al ?_) | ((refine Ab 5 ?_; try (refine Zf Co rfl (Zv (Ac U23 rfl rfl Y0 Y5) ?_); try (refine Zv (As rfl U23 rfl) (Zm rfl (Aa N13 ?_)))))))
 refine A5 ?_
 refine w_cutH (fun _ : Unit => [(1, pv b1 0), (2, .bool false)]) (fun _ => ⟨b1, true, .cells (flowC x (.slice ar x.regs.length cr) (.slice az x.raises.length cz) (.slice ab x.blks.length cb)) 26 (0, 0)⟩ :: F) (g2 = true) ?_ ?_
 rotate_left
 · intro k' rest
   refine A0 (E' := (fun k : Nat => [(1, pv b1 0), (2, .bool false), (50, .slice az x.raises.length cz), (51, .int .i64 (x.raises.length : Int)), (52, .int .i64 (k : Int))]) 0) Y14 ?_
   refine Bf (fun k : Nat => k ≤ x.raises.length ∧ g2 = rOk (prevAt x.raises k) (x.raises.drop k)) (fun k => x.raises.length - k) (fun k : Nat => [(1, pv b1 0), (2, .bool false), (50, .slice az x.raises.length cz), (51, .int .i64 (x.raises.length : Int)), (52, .int .i64 (k : Int))]) (fun _ => _) ?_ 0 ⟨Nat.zero_le _, by rw [← hg2]; rfl⟩
   rintro k ⟨k1, k2⟩ ih
   try dsimp only at k1 k2 ih ⊢
   by_cases hlt : k < x.raises.length
   · obtain ⟨b, off, hb, hkn⟩ := hks.resolve_left (fun e => by have := By x.raises; rw [e] at this; simp at this; omega)
     subst hb
     have hcl : ∀ j, j < x.raises.length → Kn S w0 F b (off + j * 1) (str (x.raises[j]?.getD [])) := by
      intro j hj
      have := hkn j (by rw [By]; omega)
      rw [Nat.mul_one, List.getElem?_eq_getElem hj]
      simpa [strsV] using this
     have hdr : x.raises.drop k = x.raises[k]?.getD [] :: x.raises.drop (k + 1) := by rw [List.getElem?_eq_getElem hlt]; exact List.drop_eq_getElem_cons hlt
     have hc0 := hcl k hlt
     have hpn : prevAt x.raises (k + 1) = some (x.raises[k]?.getD []) := by simp [prevAt, List.getElem?_eq_getElem hlt]
     rw [hdr] at k2
     cases k with
     | zero =>
       generalize (x.raises[0]?.getD [] : Bs) = a at *
       have hg : g2 = (symOk a && rOk (some a) (x.raises.drop (0 + 1))) := k2
       repeat' (first | (refine Ah rfl ?_) | (refine Ak rfl ?_) | (refine Al ?_) | (refine Am ?_) | (refine A1 rfl ?_) | (refine Az rfl ?_) | (refine A5 ?_) | (refine AH ?_) | (refine AE ?_) | (refine AL Tryz.func40 rfl (fun w_ hi_ => ?_)) | ((refine Ab 6 ?_; try (refine Zv (A8 rfl rfl Y2) ?_; try ((refine Aa N13 ?_))))) | ((refine Ab 7 ?_; try (refine Zm rfl (Zv (Aq U23 sz9 rfl rfl Y9 Y9) ?_); try (refine Zv (A7 U9 rfl rfl (by repeat (first | exact hc0 | apply Kn.cons))) ?_; try (refine Za rfl (Za rfl (Aa N13 ?_))))))) | ((refine Ab 8 ?_; try (refine Zm rfl (Zv (Au (CallR.val rfl en68) (Yields.dec (sym_c _))) (Zv (ov_not rfl) (Zm rfl ?_))); try (((refine B5 rfl rfl (fun h => ?_) (fun h => ?_)) <;> (first | (refine Zk ?_) | ((refine Zm rfl ?_)))) <;> try ((first | (refine Zk ?_) | ((refine Zv (B4 rfl rfl Y2) ?_))) <;> try ((first | (refine Zk ?_) | ((refine Zm rfl ?_))) <;> try (refine Zk (Zk (Zk (Zk (Zk (Zk (Zk (Zk ?_))))))); try ((first | (refine Zk ?_) | ((refine Zv (AC rfl rfl) ?_))) <;> try ((first | (refine Zv (Av rfl rfl) ?_) | (refine Zv (AC rfl rfl) ?_)) <;> try ((refine Aa N13 ?_))))))))))) | ((refine Ab 9 ?_; try (refine Za rfl (Aa N13 ?_)))) | ((refine Ab 10 ?_; try (refine Zv (AG rfl rfl Y9 Y9) ?_; try (refine Zm rfl (Aa N13 ?_))))))
       all_goals first
        | (refine ⟨[], ⟨?_, rfl⟩, hi_.subset Y4⟩; show Ending.returned (Value.bool _) = _; congr 2; rw [hR, hg]; (simp [*]; done))
        | (refine A0 Y10 (ih (0 + 1) ⟨by omega, ?_⟩ Y9); rw [hpn, hg]; simp [*])
     | succ k =>
       have hc1 : Kn S w0 F b (off + (((k + 1 : Nat) : Int) - 1).toNat * 1) (str (x.raises[k]?.getD [])) := by rw [show (((k + 1 : Nat) : Int) - 1).toNat = k by omega]; exact hcl k Y9
       have hpk : prevAt x.raises (k + 1) = some (x.raises[k]?.getD []) := by simp [prevAt, List.getElem?_eq_getElem (show k < x.raises.length by omega)]
       rw [hpk] at k2
       generalize (x.raises[k + 1]?.getD [] : Bs) = a at *
       generalize (x.raises[k]?.getD [] : Bs) = q at *
       have hg : g2 = (symOk a && bsLt q a && rOk (some a) (x.raises.drop (k + 1 + 1))) := k2
       repeat' (first | (refine Ah rfl ?_) | (refine Ak rfl ?_) | (refine Al ?_) | (refine Am ?_) | (refine A1 rfl ?_) | (refine w_condD rfl (fun h => ?_) (fun h => ?_)) | (refine A5 ?_) | (refine AH ?_) | (refine AE ?_) | (refine AL Tryz.func40 rfl (fun w_ hi_ => ?_)) | ((refine Ab 6 ?_; try (refine Zv (A8 rfl rfl Y2) ?_; try ((refine Aa N13 ?_))))) | ((refine Ab 7 ?_; try (refine Zm rfl (Zv (Aq U23 sz9 rfl rfl Y9 Y9) ?_); try (refine Zv (A7 U9 rfl rfl (by repeat (first | exact hc0 | apply Kn.cons))) ?_; try (refine Za rfl (Za rfl (Aa N13 ?_))))))) | ((refine Ab 8 ?_; try (refine Zm rfl (Zv (Au (CallR.val rfl en68) (Yields.dec (sym_c _))) (Zv (ov_not rfl) (Zm rfl ?_))); try (((refine B5 rfl rfl (fun h => ?_) (fun h => ?_)) <;> (first | (refine Zk ?_) | ((refine Zm rfl ?_)))) <;> try ((first | (refine Zk ?_) | ((refine Zv (B4 rfl rfl Y2) ?_))) <;> try ((first | (refine Zk ?_) | ((refine Zm rfl ?_))) <;> try ((first | (refine Zk ?_) | ((refine Zf Co rfl ?_))) <;> try ((first | (refine Zk ?_) | ((refine Zv (Ac U23 rfl rfl Y0 Y5) ?_))) <;> try ((first | (refine Zk ?_) | ((refine Zm rfl ?_))) <;> try ((first | (refine Zk ?_) | ((refine Zv (Cf rfl rfl Y9 Y9) ?_))) <;> try ((first | (refine Zk ?_) | ((refine Zv (Aq U23 sz9 rfl rfl Y9 Y9) ?_))) <;> try ((first | (refine Zk ?_) | ((refine Zv (A7 U9 rfl rfl (by repeat (first | exact hc1 | apply Kn.cons))) ?_))) <;> try ((first | (refine Zk ?_) | ((refine Zm rfl ?_))) <;> try ((first | (refine Zk ?_) | ((refine Zv (ov_geqS rfl rfl) ?_))) <;> try ((first | (refine Zk ?_) | ((refine Zv (Av rfl rfl) ?_))) <;> try ((first | (refine Zv (Av rfl rfl) ?_) | (refine Zv (AC rfl rfl) ?_)) <;> try ((refine Aa N13 ?_)))))))))))))))))) | ((refine Ab 9 ?_; try (refine Za rfl (Aa N13 ?_)))) | ((refine Ab 10 ?_; try (refine Zv (AG rfl rfl Y9 Y9) ?_; try (refine Zm rfl (Aa N13 ?_))))))
       all_goals first
        | (refine ⟨[], ⟨?_, rfl⟩, hi_.subset Y4⟩; show Ending.returned (Value.bool _) = _; congr 2; rw [hR, hg]; (simp [*]; done))
        | (refine A0 Y10 (ih (k + 1 + 1) ⟨by omega, ?_⟩ Y9); rw [hpn, hg]; simp [*])
   · have hk : k = x.raises.length := by omega
     subst hk
     rw [List.drop_length] at k2
     have hg : g2 = true := by rw [k2]; cases prevAt x.raises x.raises.length <;> rfl
     repeat' (first | (refine Ah rfl ?_) | (refine Al ?_) | (refine Am ?_) | (refine Az rfl ?_) | (refine Bp rfl ?_) | ((refine Ab 6 ?_; try (refine Zv (A8 rfl rfl Y2) ?_; try ((refine Aa N13 ?_))))))
     exact A0 Y10 (rest hg ())
 intro hg2t _
 subst hg2t
 clear hg2 hks hk2
 have hR : R = g3 := by rw [hR]; rfl
 repeat' (first | (refine Ah rfl ?_) | (refine Ak rfl ?_) | (refine Al ?_) | (refine Am ?_) | ((refine Ab 11 ?_; try (refine Zv (Cq pl130 inf130 rfl) ?_; try (refine AF (cs := #[]) rfl rfl rfl rfl (fun bm hbm => ?_); try (refine Zv (C5 U128 rfl rfl) ?_; try ((refine AT (pre := []) (Take.nil _) (CallR.val rfl en62) rfl rfl with_c ?_; rintro v post ⟨mp, mq, rfl, rfl⟩) <;> try (refine A4 inf117 rfl rfl rfl rfl (fun b5 hb5 => ?_); try (refine AI rfl rfl rfl sz117 Y3 Y15 rfl rfl ?_; try ((refine Aa N13 ?_)))))))))))
 simp only [List.cons_append, List.nil_append]
 generalize hG : (⟨b5, true, .cells #[.iface 128 (pv bm 0), .map (some mp), .map (some mq)] 117 (0, 0)⟩ : Ent) :: _ = G
 have hsG : F.Sublist G := by rw [← hG]; exact .cons _ (.cons _ (.cons _ (.cons _ (.cons _ (List.Sublist.refl _)))))
 have hFG : ∀ e ∈ F, e ∈ G := fun e h => hsG.subset h
 have hmG : (⟨mp, true, mapBO partTab⟩ : Ent) ∈ G := by rw [← hG]; exact .tail _ (.head _)
 have m5 : (⟨b5, true, .cells #[.iface 128 (pv bm 0), .map (some mp), .map (some mq)] 117 (0, 0)⟩ : Ent) ∈ G := by rw [← hG]; exact .head _
 have m1 : (⟨b1, true, .cells (flowC x (.slice ar x.regs.length cr) (.slice az x.raises.length cz) (.slice ab x.blks.length cb)) 26 (0, 0)⟩ : Ent) ∈ G := by rw [← hG]; exact .tail _ (.tail _ (.tail _ (.tail _ (.head _))))
 have hfG : FlowAt S w0 G b1 x.regs.length x.blks.length := ⟨⟨ar, cr, Kn.of m1 rfl⟩, ⟨ab, cb, Kn.of m1 rfl⟩⟩
 clear hG
 repeat' (first | (refine Ah rfl ?_) | (refine Ak rfl ?_) | (refine Al ?_) | ((refine Ab 12 ?_; try (refine Zf BJ rfl (Zv (Ac U24 rfl rfl m1 rfl) (Zv (As rfl U24 rfl) (Zm rfl (Aa N13 ?_))))))))
 refine A5 ?_
 refine A0 (E' := (fun k : Nat => [(1, pv b1 0), (2, .bool false), (5, pv b5 0), (80, .slice ab x.blks.length cb), (81, .int .i64 (x.blks.length : Int)), (82, .int .i64 (k : Int))]) 0) Y14 ?_
 refine Bf (fun k : Nat => k ≤ x.blks.length ∧ g3 = (x.blks.drop k).all (blkOk x.regs.length x.blks.length)) (fun k => x.blks.length - k) (fun k : Nat => [(1, pv b1 0), (2, .bool false), (5, pv b5 0), (80, .slice ab x.blks.length cb), (81, .int .i64 (x.blks.length : Int)), (82, .int .i64 (k : Int))]) (fun _ => G) ?_ 0 ⟨Nat.zero_le _, hg3.symm⟩
 rintro k ⟨k1, k2⟩ ih
 try dsimp only at k1 k2 ih ⊢
 by_cases hlt : k < x.blks.length
 · obtain ⟨b, off, hb, hkn⟩ := hkb.resolve_left (fun e => by have := Ba pbC BP ps; rw [e] at this; simp at this; omega)
   subst hb
   have hpl : k < ps.length := by omega
   obtain ⟨p, hp⟩ : ∃ p, ps[k] = p := ⟨_, rfl⟩
   have hpm : p ∈ ps := hp ▸ List.getElem_mem hpl
   have hbk : x.blks[k] = p.blk := by simp only [← hps, List.getElem_map, hp]
   have hcell : ∀ j (h : j < (pbC p).toArray.size), Kn S w0 F b (off + ((k : Nat) : Int).toNat * 10 + j) (pbC p).toArray[j] := by
    intro j h
    have h2 : j < 10 := h
    have := C8 pbC BP ps k j hpl h2
    obtain ⟨h3, h4⟩ := List.getElem?_eq_some_iff.1 (this.trans (List.getElem?_eq_getElem (show j < (pbC ps[k]).length from h2)))
    have h5 := hkn (k * 10 + j) h3
    rw [h4] at h5
    rw [show off + ((k : Nat) : Int).toNat * 10 + j = off + (k * 10 + j) by simp; omega]
    simp only [hp] at h5
    simpa using h5
   have hK := hk4 p hpm
   obtain ⟨is, i1, i2, i3⟩ := hK.ins
   have hbm : p.blk ∈ x.blks := hbk ▸ List.getElem_mem hlt
   have hlb := hL.blks p.blk hbm
   have hil : is.length = p.blk.ins.length := by rw [← i1]; simp
   obtain ⟨ai, ci, hiv, hci, hki⟩ := id i2
   have hdr : x.blks.drop k = p.blk :: x.blks.drop (k + 1) := by rw [← hbk]; exact List.drop_eq_getElem_cons hlt
   have hins : ∀ {F'}, (∀ e ∈ G, e ∈ F') → Yields S w0 F' 72 [.slice ai p.blk.ins.length ci, .func (.func 73) #[] #[pv b5 0, pv b1 0]] (.bool (decide (p.blk.ins.all (fun i => insR x.regs.length i) = false))) := fun {F'} hu => by
    have hs : SlK S w0 F' (rowV insP is) is.length (.slice ai p.blk.ins.length ci) := by rw [hil, ← hiv]; exact i2.up fun e h => hu e (hFG e h)
    have := has_ins hs (by rw [hil]; exact hlb.1) (p := fun q => !insPr x.regs.length q.1) (fv := .func (.func 73) #[] #[pv b5 0, pv b1 0]) fun q hq => tells_fn en73 (ins73_c (cv := .iface 128 (pv bm 0)) (rw_ := true) rfl (fun j h => Kn.of (hu _ m5) (by rw [Nat.zero_add]; exact Array.getElem?_eq_getElem h)) (hu _ hmG) (hfG.up hu) n1 ((i3 q hq).up fun e h => hu e (hFG e h)) (hlb.2.2.2 q.1 (by rw [← i1]; exact List.mem_map_of_mem hq)))
    have e1 : (p.blk.ins.all fun i => insR x.regs.length i) = is.all (fun q => insPr x.regs.length q.1) := by
     rw [← i1, List.all_map]; congr 1; funext q; exact (insPr_R _ _).symm
    rw [any_not, ← e1, nbD] at this
    exact this
   have hen : ∀ {F'}, (∀ e ∈ G, e ∈ F') → Yields S w0 F' 75 [pv b1 0, .agg (endC p.blk.en p.av p.wv).toArray] (.bool (decide (endR x.regs.length x.blks.length p.blk.en = true))) := fun {F'} hu => by
    have := Yields.dec (ends_c (hfG.up hu) n1 n3 (hK.args.up fun e h => hu e (hFG e h)) hlb.2.1 (hK.whens.up fun e h => hu e (hFG e h)) hlb.2.2.1)
    rwa [endPr_R] at this
   have hst : (pbC p).toArray.toList.all okCell = true := by
    have h1 := CI (ps := [p]) (G := F) (fun q hq => by simp at hq; subst hq; exact hK)
    simpa [rowV] using h1
   rw [hdr, List.all_cons] at k2
   have hb1' : blkOk x.regs.length x.blks.length p.blk = (decide (p.blk.ins.length ≤ 200) && endR x.regs.length x.blks.length p.blk.en && p.blk.ins.all fun i => insR x.regs.length i) := rfl
   rw [hb1'] at k2
   generalize (p.blk.ins.all fun i => insR x.regs.length i) = gi at *
   generalize endR x.regs.length x.blks.length p.blk.en = ge at *
   have hld : ∀ {b7 : Nat} {F' : List Ent}, (⟨b7, true, .cells (pbC p).toArray 70 (0, 0)⟩ : Ent) ∈ F' → ∀ j (h : j < (endC p.blk.en p.av p.wv).toArray.size), Kn S w0 F' b7 (0 + 1 + j) (endC p.blk.en p.av p.wv).toArray[j] := fun hm j h => Kn.of hm (by rw [show 0 + 1 + j = j + 1 by omega]; simp [pbC, endC])
   have hiv0 : (pbC p).toArray[0 + 0]? = some (.slice ai p.blk.ins.length ci) := by rw [← hiv]; rfl
   repeat' (first | (refine Ah rfl ?_) | (refine Ak rfl ?_) | (refine Al ?_) | (refine Am ?_) | (refine A1 rfl ?_) | (refine w_condN rfl (fun h => ?_) (fun h => ?_)) | (refine A5 ?_) | (refine AH ?_) | (refine AE ?_) | (refine AL Tryz.func40 rfl (fun w_ hi_ => ?_)) | ((refine Ab 13 ?_; try (refine Zv (A8 rfl rfl Y2) ?_; try ((refine Aa N13 ?_))))) | ((refine Ab 14 ?_; try (refine Zv (Aq U24 sz70 rfl rfl Y9 Y9) ?_; try (refine Zv (AK (cs := (pbC p).toArray) U70 rfl inf70 rfl (fun j h => (hcell j h).mono hFG) rfl) ?_; try (refine A4 inf70 rfl rfl rfl rfl (fun b7 hb7 => ?_); try (refine AI rfl rfl hst sz70 Y3 (by rfl) rfl rfl ?_; try ((refine Aa N13 ?_)))))))) | ((refine Ab 15 ?_; try (refine Zf fo70_0 rfl (Zv (Ac U65 rfl rfl (.head _) hiv0) (Zv (As rfl U65 rfl) (Zv (B4 rfl rfl Y2) ?_))); try (refine Zm rfl ?_; try (((refine Bj rfl rfl (fun h => ?_) (fun h => ?_)) <;> (first | (refine Zk ?_) | ((refine Zf fo70_0 rfl ?_)))) <;> try ((first | (refine Zk ?_) | ((refine Zv (Ac U65 rfl rfl (.head _) hiv0) ?_))) <;> try ((first | (refine Zk ?_) | ((refine Zv (Bg rfl rfl) ?_))) <;> try ((first | (refine Zk ?_) | ((refine Zv (Au (CallR.val rfl en72) (hins (fun e h => .tail _ h))) ?_))) <;> try ((first | (refine Zv (Av rfl rfl) ?_) | (refine Zv (AC rfl rfl) ?_)) <;> try (refine Zm rfl ?_; try ((first | (refine Zk ?_) | ((refine Bj rfl rfl (fun h => ?_) (fun h => ?_)) <;> (first | (refine Zk ?_) | ((refine Zf fo70_1 rfl ?_))))) <;> try ((first | (refine Zk ?_) | ((refine Zv (AK (cs := (endC p.blk.en p.av p.wv).toArray) U68 rfl inf68 rfl (hld (.head _)) rfl) ?_))) <;> try ((first | (refine Zk ?_) | ((refine Zv (Au (CallR.val rfl en75) (hen (fun e h => .tail _ h))) ?_))) <;> try ((first | (refine Zk ?_) | ((refine Zv (ov_not rfl) ?_))) <;> try ((first | (refine Zv (Av rfl rfl) ?_) | (refine Zv (AC rfl rfl) ?_)) <;> try ((refine Aa N13 ?_))))))))))))))))) | ((refine Ab 16 ?_; try (refine Za rfl (Aa N13 ?_)))) | ((refine Ab 17 ?_; try (refine Zv (AG rfl rfl Y9 Y9) ?_; try (refine Zm rfl (Aa N13 ?_))))))
   all_goals first
    | (refine ⟨[], ⟨?_, rfl⟩, hi_.subset (.cons _ hsG)⟩; show Ending.returned (Value.bool _) = _; congr 2; rw [hR, k2]; (simp [*]; done))
    | (refine ⟨[], ⟨?_, rfl⟩, hi_.subset (.cons _ hsG)⟩; show Ending.returned (Value.bool _) = _; congr 2; rw [hR, k2]; (simp [*]; omega))
    | (refine CR (H' := G) (List.sublist_cons_self _ _) ?_; refine A0 Y10 (ih (k + 1) ⟨by omega, ?_⟩ Y9); rw [k2]; simp [*]; done)
    | (refine CR (H' := G) (List.sublist_cons_self _ _) ?_; refine A0 Y10 (ih (k + 1) ⟨by omega, ?_⟩ Y9); rw [k2]; simp [*]; omega)
 · have hk : k = x.blks.length := by omega
   subst hk
   rw [List.drop_length] at k2
   have hg : g3 = true := by rw [k2]; rfl
   repeat' (first | (refine Ah rfl ?_) | (refine Ak rfl ?_) | (refine Al ?_) | (refine Am ?_) | (refine Az rfl ?_) | (refine Bp rfl ?_) | (refine AL Tryz.func40 rfl (fun w_ hi_ => ?_)) | ((refine Ab 13 ?_; try (refine Zv (A8 rfl rfl Y2) ?_; try ((refine Aa N13 ?_))))) | ((refine Ab 18 ?_; try (refine Za rfl (Aa N13 ?_)))))
   exact ⟨[], ⟨by rw [hR, hg]; rfl, rfl⟩, hi_.subset hsG⟩
end
end Go.Sl
namespace Go.Sl
open Go Go.RowKit Go.Shelf Go.Proofs
attribute [local irreducible] Calls
def Guard (P : Prop) (v : Value) (post : List Ent) : Prop := ∃ q : Bool, v = .bool q ∧ post = [] ∧ (q = true → P)
structure LitB (b : BlkM) : Prop where
 len : b.ins.length ≤ 202 ∧ b.en.args.length ≤ 10 ∧ b.en.ws.length ≤ 10 ∧ b.en.nm.length ≤ 70
 ins : ∀ i ∈ b.ins, i.args.length ≤ 10 ∧ i.nm.length ≤ 70
 ws : ∀ w ∈ b.en.ws, w.1.length ≤ 70
structure LitF (x : FlowM) : Prop where
 len : x.nm.length ≤ 70 ∧ x.regs.length ≤ 404 ∧ x.raises.length ≤ 8 ∧ x.blks.length ≤ 602
 raises : ∀ t ∈ x.raises, t.length ≤ 70
 blks : ∀ b ∈ x.blks, LitB b
theorem LitF.flowL {x : FlowM} (h : LitF x) : FlowL x := ⟨by have := h.len; omega, fun b hb => by
 have h1 := (h.blks b hb).len
 exact ⟨by omega, by omega, by omega, fun i hi => by have := ((h.blks b hb).ins i hi).1; omega⟩⟩
theorem take_all {α : Type} {P : α → Prop} {l : List α} {k : Nat} (hk : k < l.length) (h : ∀ x ∈ l.take k, P x) (h2 : P l[k]) : ∀ x ∈ l.take (k + 1), P x := by
 intro x hx
 rw [List.take_succ_eq_append_getElem hk] at hx
 rcases List.mem_append.1 hx with hx | hx
 · exact h x hx
 · rw [List.mem_singleton.1 hx]; exact h2
section
variable {S : Nat → Prop} {w0 : World} {F : List Ent}
theorem kn_row {α : Type} {f : α → List Value} {m : Nat} (hf : ∀ a, (f a).length = m) {l : List α} {b off : Nat} (hkn : ∀ i (h : i < (rowV f l).length), Kn S w0 F b (off + i) (rowV f l)[i]) {k : Nat} (hk : k < l.length) {j : Nat} (hj : j < m) {v : Value} (hv : (f l[k])[j]? = some v) : Kn S w0 F b (off + ((k : Nat) : Int).toNat * m + j) v := by
 have := C8 f hf l k j hk hj
 rw [hv] at this
 obtain ⟨h3, h4⟩ := List.getElem?_eq_some_iff.1 this
 have h5 := hkn (k * m + j) h3
 rw [h4] at h5
 rw [show off + ((k : Nat) : Int).toNat * m + j = off + (k * m + j) by simp; omega]
 exact h5
end
end Go.Sl
namespace Go.Sl
inductive Seg | lit (b : Bs) | ref (q : Int) (nm : Bs) | blk
 deriving DecidableEq
def put1 (s : WS) : Seg → WS
 | .lit b => { s with bytes := s.bytes ++ b }
 | .ref q nm => { s with bytes := s.bytes ++ be 2 0, places := s.places ++ [((s.bytes.length : Int), q, nm)] }
 | .blk => { s with blocks := s.blocks ++ [(s.bytes.length : Int)] }
def puts (l : List Seg) (s : WS) : WS := l.foldl put1 s
theorem puts_cons (a : Seg) (l : List Seg) (s : WS) : puts (a :: l) s = puts l (put1 s a) := rfl
theorem puts_app (a b : List Seg) (s : WS) : puts (a ++ b) s = puts b (puts a s) := List.foldl_append
def sgN (sz : Nat) (n : Int) : List Seg := [.lit (be sz n)]
def sgT (t : Bs) : List Seg := [.lit (be 1 t.length ++ t)]
def sgLI : LI → InsM → List Seg
 | .to, x => sgN 2 x.to
 | .a, x => sgN 2 x.a
 | .b, x => sgN 2 x.b
 | .lo, x => sgN 4 x.lo
 | .hi, x => sgN 4 x.hi
 | .one, x => sgN 2 (arg1 x.args)
 | .sh, x => [.ref 2 x.nm]
 | .fi, x => [.ref 3 x.nm]
 | .me, x => [.ref 4 x.nm]
 | .gl, x => [.ref 5 x.nm]
def sgIns (x : InsM) : List Seg := sgN 1 x.op ++ ((formI x.op).getD []).flatMap fun l => sgLI l x
def sgWhen (w : Bs × Int) : List Seg := sgT w.1 ++ sgN 2 w.2
def sgL {α : Type} (sz : Nat) (g : α → List Seg) (l : List α) : List Seg := sgN sz l.length ++ l.flatMap g
def sgLJ : LJ → EndM → List Seg
 | .target, x => sgN 2 x.to
 | .other, x => sgN 2 x.el
 | .first, x => sgN 2 x.a
 | .second, x => sgN 2 x.b
 | .code, x => sgN 1 x.a
 | .raised, x => sgT x.nm
 | .called, x => [.ref 1 x.nm]
 | .asked, x => [.ref 4 x.nm]
 | .given, x => sgL 1 (sgN 2) x.args
 | .handlers, x => sgL 1 sgWhen x.ws ++ sgN 2 x.ot
def sgEnd (x : EndM) : List Seg := sgN 1 x.kd ++ ((formE x.kd).getD []).flatMap fun l => sgLJ l x
def sgBlk (b : BlkM) : List Seg := .blk :: (sgL 1 sgIns b.ins ++ sgEnd b.en)
def sgFlow (f : FlowM) : List Seg := sgN 1 f.ac ++ (sgN 1 f.res ++ (sgL 2 (sgN 1) f.regs ++ (sgL 1 sgT f.raises ++ sgL 2 sgBlk f.blks)))
def layF (f : FlowM) : WS := puts (sgFlow f) ws0
def msr (s : WS) : Nat := s.bytes.length + s.places.length + s.blocks.length
def Wr {α : Type} (k : Nat) (c : WS → Out (α × WS)) (a : α) (l : List Seg) : Prop := ∀ s, msr s + k ≤ maxB → c s = .ok (a, puts l s) ∧ msr (puts l s) ≤ msr s + k
theorem Wr.up {α : Type} {k k' : Nat} {c : WS → Out (α × WS)} {a : α} {l : List Seg} (h : Wr k c a l) (hk : k ≤ k') : Wr k' c a l := fun s hs => by
 have := h s Y9
 exact ⟨this.1, by omega⟩
theorem Wr.bind {α β : Type} {k k' : Nat} {c : WS → Out (α × WS)} {d : α × WS → Out (β × WS)} {a : α} {b : β} {l m : List Seg} (h : Wr k c a l) (h2 : Wr k' (fun s => d (a, s)) b m) : Wr (k + k') (fun s => (c s).bind d) b (l ++ m) := fun s hs => by
 have h1 := h s Y9
 have h3 := h2 (puts l s) Y9
 dsimp only at h3
 refine ⟨?_, ?_⟩
 · dsimp only; rw [h1.1, Out.ok_bind, h3.1, puts_app]
 · rw [puts_app]; omega
theorem Wr.map {α β : Type} {k : Nat} {c : WS → Out (α × WS)} {a : α} {b : β} {l : List Seg} (h : Wr k c a l) (f : α × WS → β) (hf : ∀ s, f (a, s) = b) : Wr k (fun s => (c s).bind fun r => .ok (f r, r.2)) b l := fun s hs => by
 have h1 := h s hs
 exact ⟨by dsimp only; rw [h1.1, Out.ok_bind, hf], h1.2⟩
theorem Wr.pure {α : Type} (a : α) : Wr 0 (fun s => .ok (a, s)) a [] := fun s _ => ⟨rfl, Nat.le_refl _⟩
theorem C9 (n : Int) (sz : Nat) : Wr sz (wKd.num n sz) n (sgN sz n) := fun s hs => by
 unfold msr at hs
 refine ⟨?_, ?_⟩
 · simp only [wKd]; rw [if_pos Y9]; rfl
 · simp [msr, sgN, puts, put1, Cp]; omega
theorem wr_small {p : Int} (h0 : 0 ≤ p) (h1 : p ≤ 255) : Wr 1 (small wKd p) p (sgN 1 p) := (C9 p 1).map _ fun s => by dsimp only; omega
theorem wr_txt {t : Bs} (h : t ≠ []) : Wr (1 + t.length) (wKd.txt t) t (sgT t) := fun s hs => by
 unfold msr at hs
 refine ⟨?_, ?_⟩
 · simp only [wKd]; rw [if_pos ⟨h, by omega⟩]; simp [sgT, puts, put1]
 · simp [msr, sgT, puts, put1, Cp]; omega
theorem wr_ref (nm : Bs) (q : Int) : Wr 3 (wKd.ref nm q) nm [.ref q nm] := fun s hs => by
 unfold msr at hs
 refine ⟨?_, ?_⟩
 · simp only [wKd]; rw [if_pos ⟨by omega, by omega⟩]; simp [puts, put1]
 · simp [msr, puts, put1, Cp]; omega
theorem wr_ltI {x : InsM} (l : LI) (h : l = .one → x.args.length = 1) : Wr 4 (ltI wKd l x) x (sgLI l x) := by
 cases l with
 | one =>
   have h := h rfl
   obtain ⟨n, hn⟩ : ∃ n, x.args = [n] := List.length_eq_one_iff.1 h
   refine Wr.up (k := 2) ((C9 (arg1 x.args) 2).map (b := x) (fun r => { x with args := [r.1] }) fun s => ?_) Y9
   simp only [hn, arg1]
   cases x; simp only at hn; subst hn; rfl
 | lo => exact (C9 x.lo 4).map (b := x) (fun r => { x with lo := r.1 }) fun s => rfl
 | hi => exact (C9 x.hi 4).map (b := x) (fun r => { x with hi := r.1 }) fun s => rfl
 | to => exact Wr.up (k := 2) ((C9 x.to 2).map (b := x) (fun r => { x with to := r.1 }) fun s => rfl) Y9
 | a => exact Wr.up (k := 2) ((C9 x.a 2).map (b := x) (fun r => { x with a := r.1 }) fun s => rfl) Y9
 | b => exact Wr.up (k := 2) ((C9 x.b 2).map (b := x) (fun r => { x with b := r.1 }) fun s => rfl) Y9
 | sh => exact Wr.up (k := 3) ((wr_ref x.nm 2).map (b := x) (fun r => { x with nm := r.1 }) fun s => rfl) Y9
 | fi => exact Wr.up (k := 3) ((wr_ref x.nm 3).map (b := x) (fun r => { x with nm := r.1 }) fun s => rfl) Y9
 | me => exact Wr.up (k := 3) ((wr_ref x.nm 4).map (b := x) (fun r => { x with nm := r.1 }) fun s => rfl) Y9
 | gl => exact Wr.up (k := 3) ((wr_ref x.nm 5).map (b := x) (fun r => { x with nm := r.1 }) fun s => rfl) Y9
theorem wr_runs {α β : Type} {step : β → α → WS → Out (α × WS)} {x : α} {g : β → List Seg} {k : Nat} : ∀ (ls : List β), (∀ l ∈ ls, Wr k (step l x) x (g l)) → Wr (ls.length * k) (runs step ls x) x (ls.flatMap g)
 | [], _ => (Wr.pure x).up (Nat.zero_le _)
 | l :: r, h => by
   have := (h l (.head _)).bind (d := fun q => runs step r q.1 q.2) (wr_runs r fun m hm => h m (.tail _ hm))
   exact this.up (by simp [Nat.succ_mul]; omega)
theorem wr_iter {α : Type} {step : α → WS → Out (α × WS)} {g : α → List Seg} {k : Nat} : ∀ (l : List α), (∀ x ∈ l, Wr k (step x) x (g x)) → Wr (l.length * k) (iter step l) l (l.flatMap g)
 | [], _ => (Wr.pure _).up (Nat.zero_le _)
 | x :: r, h => by
   have := (h x (.head _)).bind (d := fun q => (iter step r q.2).bind fun q2 => .ok (q.1 :: q2.1, q2.2)) ((wr_iter r fun m hm => h m (.tail _ hm)).map (b := x :: r) (fun q2 => x :: q2.1) fun s => rfl)
   exact this.up (by simp [Nat.succ_mul]; omega)
theorem wr_lst {α : Type} {step : α → WS → Out (α × WS)} {g : α → List Seg} {k sz : Nat} {z : α} {l : List α} (h : ∀ x ∈ l, Wr k (step x) x (g x)) : Wr (sz + l.length * k) (lst wKd sz z step l) l (sgL sz g l) := by
 refine (C9 (l.length : Int) sz).bind ?_
 have := wr_iter l h
 intro s hs
 have h1 := this s hs
 refine ⟨?_, h1.2⟩
 dsimp only
 rw [if_neg Y9, if_pos rfl]
 exact h1.1
theorem formI_len {op : Int} {ls : List LI} (h : formI op = some ls) : ls.length ≤ 3 := (formI_ok h).1
theorem formE_len {op : Int} {ls : List LJ} (h : formE op = some ls) : ls.length ≤ 5 := (formE_ok h).1
structure InsW (x : InsM) : Prop where
 op0 : 0 ≤ x.op
 op1 : x.op ≤ 255
 form : formI x.op ≠ none
 one : ∀ ls, formI x.op = some ls → LI.one ∈ ls → x.args.length = 1
theorem wr_ins {x : InsM} (h : InsW x) : Wr 13 (codeIns wKd x) x (sgIns x) := by
 refine (wr_small h.op0 h.op1).bind (k' := 12) ?_
 cases hf : formI x.op with
 | none => exact absurd hf h.form
 | some ls =>
   have h2 := wr_runs (step := ltI wKd) (x := x) (g := fun l => sgLI l x) ls (k := 4) fun l hl => wr_ltI l fun e => h.one ls hf (e ▸ hl)
   have := formI_len hf
   have h3 := h2.up (k' := 12) Y9
   intro s hs
   have h4 := h3 s hs
   simp only [hf, Option.getD_some]
   exact h4
structure EndW (x : EndM) : Prop where
 kd0 : 0 ≤ x.kd
 kd1 : x.kd ≤ 255
 form : formE x.kd ≠ none
 nm : ∀ ls, formE x.kd = some ls → LJ.raised ∈ ls → x.nm ≠ [] ∧ x.nm.length ≤ 60
 args : x.args.length ≤ 7
 ws : x.ws.length ≤ 7 ∧ ∀ w ∈ x.ws, w.1 ≠ [] ∧ w.1.length ≤ 60
theorem wr_when {w : Bs × Int} (h : w.1 ≠ [] ∧ w.1.length ≤ 60) : Wr 63 (codeWhen wKd w) w (sgWhen w) := by
 have := (wr_txt h.1).bind (d := fun r => (wKd.num w.2 2 r.2).bind fun r2 => .ok ((r.1, r2.1), r2.2)) ((C9 w.2 2).map (b := w) (fun r2 => (w.1, r2.1)) fun s => rfl)
 exact this.up Y9
theorem wr_ltE {x : EndM} (l : LJ) (h : EndW x) (hr : l = .raised → x.nm ≠ [] ∧ x.nm.length ≤ 60) : Wr 450 (ltE wKd l x) x (sgLJ l x) := by
 cases l with
 | target => exact Wr.up (k := 2) ((C9 x.to 2).map (b := x) (fun r => { x with to := r.1 }) fun s => rfl) Y9
 | other => exact Wr.up (k := 2) ((C9 x.el 2).map (b := x) (fun r => { x with el := r.1 }) fun s => rfl) Y9
 | first => exact Wr.up (k := 2) ((C9 x.a 2).map (b := x) (fun r => { x with a := r.1 }) fun s => rfl) Y9
 | second => exact Wr.up (k := 2) ((C9 x.b 2).map (b := x) (fun r => { x with b := r.1 }) fun s => rfl) Y9
 | code => exact Wr.up (k := 1) ((C9 x.a 1).map (b := x) (fun r => { x with a := r.1 }) fun s => rfl) Y9
 | raised => have := hr rfl; exact Wr.up ((wr_txt this.1).map (b := x) (fun r => { x with nm := r.1 }) fun s => rfl) Y9
 | called => exact Wr.up (k := 3) ((wr_ref x.nm 1).map (b := x) (fun r => { x with nm := r.1 }) fun s => rfl) Y9
 | asked => exact Wr.up (k := 3) ((wr_ref x.nm 4).map (b := x) (fun r => { x with nm := r.1 }) fun s => rfl) Y9
 | given =>
   have := h.args
   exact Wr.up ((wr_lst (k := 2) (sz := 1) (z := 0) (step := fun n => wKd.num n 2) (g := sgN 2) (l := x.args) fun n _ => C9 n 2).map (b := x) (fun r => { x with args := r.1 }) fun s => rfl) Y9
 | handlers =>
   have h1 := h.ws.1
   have := (wr_lst (sz := 1) (z := (([], 0) : Bs × Int)) (fun w hw => wr_when (h.ws.2 w hw))).bind (d := fun r => (wKd.num x.ot 2 r.2).bind fun r2 => .ok ({ x with ws := r.1, ot := r2.1 }, r2.2)) ((C9 x.ot 2).map (b := x) (fun r2 => { x with ws := x.ws, ot := r2.1 }) fun s => rfl)
   exact this.up Y9
theorem wr_end {x : EndM} (h : EndW x) : Wr 2251 (codeEnd wKd x) x (sgEnd x) := by
 refine ((wr_small h.kd0 h.kd1).bind (k' := 2250) ?_)
 cases hf : formE x.kd with
 | none => exact absurd hf h.form
 | some ls =>
   have h2 := wr_runs (step := ltE wKd) (x := x) (g := fun l => sgLJ l x) ls (k := 450) fun l hl => wr_ltE l h fun e => h.nm ls hf (e ▸ hl)
   have := formE_len hf
   have h3 := h2.up (k' := 2250) Y9
   intro s hs
   have h4 := h3 s hs
   simp only [hf, Option.getD_some]
   exact h4
structure BlkW (b : BlkM) : Prop where
 ins : b.ins.length ≤ 200 ∧ ∀ x ∈ b.ins, InsW x
 en : EndW b.en
theorem wr_blkm : Wr 1 (fun s => (wKd.blk s).bind fun s => .ok ((), s)) () [.blk] := fun s hs => by
 unfold msr at hs
 refine ⟨?_, ?_⟩
 · simp only [wKd]; rw [if_pos Y9]; simp [puts, put1, Out.bind]
 · simp [msr, puts, put1]; omega
theorem wr_blk {b : BlkM} (h : BlkW b) : Wr 5000 (codeBlk wKd b) b (sgBlk b) := by
 have hk : fixOt b.en = b.en := by
  unfold fixOt
  rw [if_neg]
  intro e
  refine h.en.form ?_
  rw [e]; rfl
 have h1 := h.ins.1
 have hl := wr_lst (sz := 1) (z := ins0) (fun x hx => wr_ins (h.ins.2 x hx))
 have he := wr_end h.en
 have h2 := (hl.bind (d := fun r => (codeEnd wKd (fixOt b.en) r.2).bind fun r2 => .ok (BlkM.mk r.1 r2.1, r2.2)) (by rw [hk]; exact he.map (b := b) (fun r2 => BlkM.mk b.ins r2.1) fun s => rfl))
 have h3 := (wr_blkm.bind (d := fun r => (lst wKd 1 ins0 (codeIns wKd) b.ins r.2).bind fun r => (codeEnd wKd (fixOt b.en) r.2).bind fun r2 => .ok (BlkM.mk r.1 r2.1, r2.2)) h2).up (k' := 5000) Y9
 intro s hs
 have h4 := h3 s hs
 refine ⟨?_, h4.2⟩
 rw [show codeBlk wKd b s = _ from rfl]
 have := h4.1
 dsimp only at this
 rw [Out.bind_assoc] at this
 exact this
structure FlowW (f : FlowM) : Prop where
 res : 0 ≤ f.res ∧ f.res ≤ 255
 regs : f.regs.length ≤ 400 ∧ ∀ r ∈ f.regs, 0 ≤ r ∧ r ≤ 255
 raises : f.raises.length ≤ 6 ∧ ∀ t ∈ f.raises, t ≠ [] ∧ t.length ≤ 60
 blks : f.blks.length ≤ 600 ∧ ∀ b ∈ f.blks, BlkW b
theorem wr_flow {f : FlowM} (h : FlowW f) : codeFlow wKd f ws0 = .ok (f, layF f) := by
 obtain ⟨h1, ⟨h2, h3⟩, ⟨h4, h5⟩, h6, h7⟩ := h
 have a1 := C9 f.ac 1
 have a2 := wr_small h1.1 h1.2
 have a3 := wr_lst (sz := 2) (z := 0) (step := small wKd) (g := sgN 1) (k := 1) (fun r hr => wr_small (h3 r hr).1 (h3 r hr).2)
 have a4 := wr_lst (sz := 1) (z := ([] : Bs)) (step := wKd.txt) (g := sgT) (k := 61) (fun t ht => (wr_txt (h5 t ht).1).up (by have := (h5 t ht).2; omega))
 have a5 := wr_lst (sz := 2) (z := blk0) (fun b hb => wr_blk (h7 b hb))
 have b5 := a5.map (fun r5 => { f with ac := f.ac, res := f.res, regs := f.regs, raises := f.raises, blks := r5.1 }) (b := f) fun s => rfl
 have b4 := a4.bind (d := fun r4 => (lst wKd 2 blk0 (codeBlk wKd) f.blks r4.2).bind fun r5 => .ok ({ f with ac := f.ac, res := f.res, regs := f.regs, raises := r4.1, blks := r5.1 }, r5.2)) b5
 have b3 := a3.bind (d := fun r3 => (lst wKd 1 [] wKd.txt f.raises r3.2).bind fun r4 => (lst wKd 2 blk0 (codeBlk wKd) f.blks r4.2).bind fun r5 => .ok ({ f with ac := f.ac, res := f.res, regs := r3.1, raises := r4.1, blks := r5.1 }, r5.2)) b4
 have b2 := a2.bind (d := fun r2 => (lst wKd 2 0 (small wKd) f.regs r2.2).bind fun r3 => (lst wKd 1 [] wKd.txt f.raises r3.2).bind fun r4 => (lst wKd 2 blk0 (codeBlk wKd) f.blks r4.2).bind fun r5 => .ok ({ f with ac := f.ac, res := r2.1, regs := r3.1, raises := r4.1, blks := r5.1 }, r5.2)) b3
 have b1 := a1.bind (d := fun r1 => (small wKd f.res r1.2).bind fun r2 => (lst wKd 2 0 (small wKd) f.regs r2.2).bind fun r3 => (lst wKd 1 [] wKd.txt f.raises r3.2).bind fun r4 => (lst wKd 2 blk0 (codeBlk wKd) f.blks r4.2).bind fun r5 => .ok ({ f with ac := r1.1, res := r2.1, regs := r3.1, raises := r4.1, blks := r5.1 }, r5.2)) b2
 exact (b1 ws0 (by simp [msr, ws0, maxB]; omega)).1
theorem symOk_w {s : Bs} (h : symOk s = true) : s ≠ [] ∧ s.length ≤ 60 := by
 simp only [symOk, Bool.and_eq_true, decide_eq_true_eq] at h
 exact ⟨by rintro rfl; simp at h, h.1.1.2⟩
theorem raises_w : ∀ (l : List Bs), raisesOk l = true → ∀ t ∈ l, symOk t = true
 | [], _, t, ht => (List.not_mem_nil ht).elim
 | [a], h, t, ht => by simp at ht; subst ht; exact h
 | a :: b :: r, h, t, ht => by
   simp only [raisesOk, Bool.and_eq_true] at h
   rcases List.mem_cons.1 ht with rfl | ht
   · exact h.1.1
   · exact raises_w (b :: r) h.2 t ht
theorem insW_of {n : Int} {x : InsM} (h : insR n x = true) : InsW x := by
 rw [← insPr_R] at h
 unfold insPr at h
 cases hf : formI x.op with
 | none => rw [hf] at h; cases h
 | some ls =>
   rw [hf] at h
   have h1 := formI_some hf
   refine ⟨?_, ?_, by rw [hf]; simp, ?_⟩
   · simp only [opsL, List.mem_cons, List.not_mem_nil, or_false] at h1; omega
   · simp only [opsL, List.mem_cons, List.not_mem_nil, or_false] at h1; omega
   · intro ls' h2 h3
     rw [hf] at h2; cases h2
     have key : ∀ (ls : List LI) (x : InsM), wantsP n ls x = true → LI.one ∈ ls → ls.Nodup → x.args.length = 1 := by
      intro ls
      induction ls with
      | nil => intro x _ h _; exact (List.not_mem_nil h).elim
      | cons l r ih =>
        intro x h1 h2 h3
        simp only [wantsP] at h1
        split at h1
        · rename_i h4
          rcases List.mem_cons.1 h2 with rfl | h2
          · simp only [wantP, Bool.and_eq_true, decide_eq_true_eq] at h4
            exact h4.1
          · have h5 := ih _ h1 h2 (List.nodup_cons.1 h3).2
            have hne : l ≠ .one := fun e => (List.nodup_cons.1 h3).1 (e ▸ h2)
            rw [← h5]
            cases l <;> first | rfl | exact absurd rfl hne | (simp only [wantP]; split <;> rfl)
        · cases h1
     exact key ls x h h3 (formI_ok hf).2
theorem whens_w {nb : Int} : ∀ (l : List (Bs × Int)) (seen : List Bs), whensOk nb seen l = true → ∀ w ∈ l, symOk w.1 = true
 | [], _, _, w, hw => (List.not_mem_nil hw).elim
 | a :: r, seen, h, w, hw => by
   simp only [whensOk, Bool.and_eq_true] at h
   rcases List.mem_cons.1 hw with rfl | hw
   · exact h.1.1.1
   · exact whens_w r _ h.2 w hw
theorem endW_of {n nb : Int} {x : EndM} (h : endR n nb x = true) : EndW x := by
 rw [← endPr_R] at h
 have hkd : x.kd = 1 ∨ x.kd = 2 ∨ x.kd = 3 ∨ x.kd = 4 ∨ x.kd = 5 ∨ x.kd = 6 ∨ x.kd = 7 ∨ x.kd = 8 ∨ x.kd = 9 := by
  refine Decidable.byContradiction fun hn => ?_
  simp only [not_or] at hn
  simp [endPr, endLook, hn] at h
 unfold endPr at h
 simp only at h
 split at h
 · cases h
 · rename_i h1
   simp only [Bool.or_eq_true, not_or, Bool.not_eq_true, Bool.and_eq_false_iff, decide_eq_false_iff_not] at h1
   split at h
   · cases h
   · split at h
     · cases h
     · split at h
       · rename_i h4
         simp only [Bool.and_eq_true, decide_eq_true_eq] at h4
         refine ⟨by omega, by omega, ?_, ?_, by omega, h4.1, fun w hw => symOk_w (whens_w _ _ h4.2 w hw)⟩
         · rcases hkd with e | e | e | e | e | e | e | e | e <;> simp [e, formE]
         · intro ls hf hr
           have e4 : x.kd = 4 := by
            rcases hkd with e | e | e | e | e | e | e | e | e <;> simp [e, formE] at hf <;> subst hf <;> simp_all
           have := h1.1.1.1
           simp [endLook, e4] at this
           exact symOk_w this
       · cases h
theorem flowW_of {f : FlowM} (h : sndOk f = true) (hres : 0 ≤ f.res) : FlowW f := by
 simp only [sndOk, Bool.and_eq_true, decide_eq_true_eq, List.all_eq_true, Bool.or_eq_true] at h
 obtain ⟨⟨⟨⟨⟨⟨⟨⟨⟨⟨h1, h2⟩, h3⟩, h4⟩, h5⟩, h6⟩, h7⟩, h8⟩, h9⟩, h10⟩, h11⟩ := h
 refine ⟨⟨hres, by omega⟩, ⟨h1, fun r hr => by have := h9 r hr; omega⟩, ⟨h6, fun t ht => symOk_w (raises_w _ h10 t ht)⟩, h8, fun b hb => ?_⟩
 have hb := h11 b hb
 simp only [blkOk, Bool.and_eq_true, decide_eq_true_eq, List.all_eq_true] at hb
 exact ⟨⟨hb.1.1, fun x hx => insW_of (hb.2 x hx)⟩, endW_of hb.1.2⟩
end Go.Sl
namespace Go.Sl
structure RS (τ : Type) where
 read : Nat
 places : List (Int × Int × Bs)
 blocks : List Int
 st : τ
def beV (l : Bs) : Int := l.foldl (fun n c => n * 256 + (c.toNat : Int)) 0
def numV (sz : Nat) (v : Int) : Int := if sz = 2 ∧ v = 65535 then -1 else if sz = 4 ∧ 2147483648 ≤ v then v - 4294967296 else v
def rKd {τ : Type} (b : Bs) (ν : Int → Int → τ → Bs × τ) : Kd (RS τ) where
 num _ sz s := if s.read + sz ≤ b.length then .ok (numV sz (beV ((b.drop s.read).take sz)), { s with read := s.read + sz }) else .bad
 txt _ s := if s.read + 1 ≤ b.length then (if s.read + 1 + (beV ((b.drop s.read).take 1)).toNat ≤ b.length then .ok ((b.drop (s.read + 1)).take (beV ((b.drop s.read).take 1)).toNat, { s with read := s.read + 1 + (beV ((b.drop s.read).take 1)).toNat }) else .bad) else .bad
 ref _ q s := if s.places.length < maxB then (if s.read + 2 ≤ b.length then .ok ((ν q (beV ((b.drop s.read).take 2)) s.st).1, { read := s.read + 2, places := s.places ++ [((s.read : Int), q, [])], blocks := s.blocks, st := (ν q (beV ((b.drop s.read).take 2)) s.st).2 }) else .bad) else .full
 blk s := if s.blocks.length < maxB then .ok { s with blocks := s.blocks ++ [(s.read : Int)] } else .full
def rawN : Int → Int → Unit → Bs × Unit := fun _ n _ => (be 2 n, ())
abbrev rawKd (b : Bs) : Kd (RS Unit) := rKd b rawN
def rawOf1 : Seg → Bs
 | .lit b => b
 | .ref _ nm => nm
 | .blk => []
def rawOf (l : List Seg) : Bs := l.flatMap rawOf1
def adv1 (s : RS Unit) : Seg → RS Unit
 | .lit b => { s with read := s.read + b.length }
 | .ref q nm => { s with read := s.read + 2, places := s.places ++ [((s.read : Int), q, [])] }
 | .blk => { s with blocks := s.blocks ++ [(s.read : Int)] }
def adv (l : List Seg) (s : RS Unit) : RS Unit := l.foldl adv1 s
theorem adv_app (l m : List Seg) (s : RS Unit) : adv (l ++ m) s = adv m (adv l s) := List.foldl_append
theorem rawOf_app (l m : List Seg) : rawOf (l ++ m) = rawOf l ++ rawOf m := List.flatMap_append
theorem beV1 (a : UInt8) : beV [a] = a.toNat := by simp [beV]
theorem beV2 (a b : UInt8) : beV [a, b] = a.toNat * 256 + b.toNat := by simp [beV]
theorem beV4 (a b c d : UInt8) : beV [a, b, c, d] = ((a.toNat * 256 + b.toNat) * 256 + c.toNat) * 256 + d.toNat := by simp [beV]
theorem beB0 (n : Int) : beB n 0 = n % 256 := by
 unfold beB; rw [show (2 : Int) ^ (min (8 * 0) 64) = 1 by decide, Int.fdiv_one]
theorem beB1 (n : Int) : beB n 1 = n / 256 % 256 := by
 unfold beB; rw [show (2 : Int) ^ (min (8 * 1) 64) = 256 by decide, Int.fdiv_eq_ediv_of_nonneg _ Y22]
theorem beB2 (n : Int) : beB n 2 = n / 65536 % 256 := by
 unfold beB; rw [show (2 : Int) ^ (min (8 * 2) 64) = 65536 by decide, Int.fdiv_eq_ediv_of_nonneg _ Y22]
theorem beB3 (n : Int) : beB n 3 = n / 16777216 % 256 := by
 unfold beB; rw [show (2 : Int) ^ (min (8 * 3) 64) = 16777216 by decide, Int.fdiv_eq_ediv_of_nonneg _ Y22]
theorem be1 (n : Int) : be 1 n = [UInt8.ofNat (n % 256).toNat] := by simp [be, List.range_succ, beB0]
theorem be2 (n : Int) : be 2 n = [UInt8.ofNat (n / 256 % 256).toNat, UInt8.ofNat (n % 256).toNat] := by simp [be, List.range_succ, beB0, beB1]
theorem be4 (n : Int) : be 4 n = [UInt8.ofNat (n / 16777216 % 256).toNat, UInt8.ofNat (n / 65536 % 256).toNat, UInt8.ofNat (n / 256 % 256).toNat, UInt8.ofNat (n % 256).toNat] := by simp [be, List.range_succ, beB0, beB1, beB2, beB3]
theorem u8n (n : Nat) (h : n < 256) : (UInt8.ofNat n).toNat = n := by rw [UInt8.toNat_ofNat']; omega
theorem u8o (c : UInt8) {n : Nat} (h : n = c.toNat) : UInt8.ofNat n = c := by
 subst h
 exact UInt8.toNat_inj.1 (by rw [u8n _ c.toNat_lt])
theorem len_two {α : Type} {l : List α} (h : l.length = 2) : ∃ a b, l = [a, b] := by
 match l, h with
 | [a, b], _ => exact ⟨a, b, rfl⟩
def fits (sz : Nat) (n : Int) : Prop := if sz = 1 then 0 ≤ n ∧ n ≤ 255 else if sz = 2 then -1 ≤ n ∧ n ≤ 65534 else -2147483648 ≤ n ∧ n ≤ 2147483647
theorem num_back {sz : Nat} (hsz : sz = 1 ∨ sz = 2 ∨ sz = 4) {n : Int} (h : fits sz n) : numV sz (beV (be sz n)) = n := by
 rcases hsz with rfl | rfl | rfl
 · simp only [fits, if_true] at h
   rw [be1, beV1, u8n _ Y9]
   simp [numV]; omega
 · simp [fits] at h
   rw [be2, beV2, u8n _ Y9, u8n _ Y9]
   unfold numV
   split
   · omega
   · simp; omega
 · simp [fits] at h
   rw [be4, beV4, u8n _ Y9, u8n _ Y9, u8n _ Y9, u8n _ Y9]
   unfold numV
   simp
   split <;> omega
theorem be_back {sz : Nat} (hsz : sz = 1 ∨ sz = 2 ∨ sz = 4) {l : Bs} (h : l.length = sz) : be sz (numV sz (beV l)) = l := by
 rcases hsz with rfl | rfl | rfl
 · obtain ⟨a, rfl⟩ := List.length_eq_one_iff.1 h
   have := a.toNat_lt
   rw [beV1, be1, show numV 1 (a.toNat : Int) = a.toNat from rfl, u8o a Y9]
 · obtain ⟨a, b, rfl⟩ := len_two h
   have := a.toNat_lt
   have := b.toNat_lt
   rw [beV2, be2]
   unfold numV
   split
   · rename_i h1
     rw [u8o a Y9, u8o b Y9]
   · rw [if_neg Y9, u8o a Y9, u8o b Y9]
 · obtain ⟨a, b, c, d, rfl⟩ : ∃ a b c d, l = [a, b, c, d] := by
    match l, h with
    | [a, b, c, d], _ => exact ⟨a, b, c, d, rfl⟩
   have := a.toNat_lt
   have := b.toNat_lt
   have := c.toNat_lt
   have := d.toNat_lt
   rw [beV4, be4]
   unfold numV
   rw [if_neg Y9]
   split
   · rw [u8o a Y9, u8o b Y9, u8o c Y9, u8o d Y9]
   · rw [u8o a Y9, u8o b Y9, u8o c Y9, u8o d Y9]
theorem raw_back {l : Bs} (h : l.length = 2) : be 2 (beV l) = l := by
 obtain ⟨a, b, rfl⟩ := len_two h
 have := a.toNat_lt
 have := b.toNat_lt
 rw [beV2, be2, u8o a Y9, u8o b Y9]
section
variable (b : Bs)
def Rd (l : List Seg) (s s' : RS Unit) : Prop := s' = adv l s ∧ (s.read ≤ b.length → s'.read ≤ b.length ∧ rawOf l ++ b.drop s'.read = b.drop s.read)
variable {b}
theorem Rd.nil (s : RS Unit) : Rd b [] s s := ⟨rfl, fun h => ⟨h, rfl⟩⟩
theorem Rd.app {l m : List Seg} {s s' s2 : RS Unit} (h : Rd b l s s') (h2 : Rd b m s' s2) : Rd b (l ++ m) s s2 := by
 refine ⟨by rw [adv_app, ← h.1, h2.1], fun hs => ?_⟩
 have h3 := h.2 hs
 have h4 := h2.2 h3.1
 exact ⟨h4.1, by rw [rawOf_app, List.append_assoc, h4.2, h3.2]⟩
theorem drop_take (s n : Nat) : (b.drop s).take n ++ b.drop (s + n) = b.drop s := by
 rw [← List.drop_drop, List.take_append_drop]
theorem Cy {s n : Nat} (h : s + n ≤ b.length) : ((b.drop s).take n).length = n := by simp; omega
theorem rd_num {n0 n : Int} {sz : Nat} (hsz : sz = 1 ∨ sz = 2 ∨ sz = 4) {s s' : RS Unit} (h : (rawKd b).num n0 sz s = .ok (n, s')) : Rd b (sgN sz n) s s' := by
 simp only [rKd] at h
 split at h
 · rename_i h1
   cases h
   refine ⟨by simp [adv, adv1, sgN, Cp], fun _ => ⟨h1, ?_⟩⟩
   simp only [sgN, rawOf, List.flatMap_cons, rawOf1, List.flatMap_nil, List.append_nil]
   rw [be_back hsz (Cy h1), drop_take]
 · cases h
theorem rd_txt {n0 n : Bs} {s s' : RS Unit} (h : (rawKd b).txt n0 s = .ok (n, s')) : Rd b (sgT n) s s' ∧ n.length ≤ 255 := by
 simp only [rKd] at h
 split at h
 · rename_i h1
   split at h
   · rename_i h2
     obtain ⟨a, ha⟩ := List.length_eq_one_iff.1 (Cy h1)
     have e : beV ((b.drop s.read).take 1) = a.toNat := by rw [ha, beV1]
     rw [e] at h h2
     simp only [Int.toNat_natCast] at h h2
     cases h
     have hl := Cy (b := b) (s := s.read + 1) (n := a.toNat) Y9
     have := a.toNat_lt
     refine ⟨⟨?_, fun _ => ⟨h2, ?_⟩⟩, by omega⟩
     · simp only [sgT, hl]
       simp [adv, adv1, Cp]; omega
     · simp only [sgT, rawOf, List.flatMap_cons, rawOf1, List.flatMap_nil, List.append_nil, hl]
       rw [List.append_assoc, drop_take, be1, u8o a Y9, ← ha, drop_take]
   · cases h
 · cases h
theorem rd_ref {n0 n : Bs} {q : Int} {s s' : RS Unit} (h : (rawKd b).ref n0 q s = .ok (n, s')) : Rd b [.ref q n] s s' := by
 simp only [rKd] at h
 split at h
 · split at h
   · rename_i h1
     cases h
     refine ⟨by simp [adv, adv1], fun _ => ⟨h1, ?_⟩⟩
     simp only [rawOf, List.flatMap_cons, rawOf1, List.flatMap_nil, List.append_nil, rawN]
     rw [raw_back (Cy h1), drop_take]
   · cases h
 · cases h
theorem rd_blk {s s' : RS Unit} (h : (rawKd b).blk s = .ok s') : Rd b [.blk] s s' := by
 simp only [rKd] at h
 split at h
 · cases h
   exact ⟨by simp [adv, adv1], fun h => ⟨h, by simp [rawOf, rawOf1]⟩⟩
 · cases h
theorem rd_small {p0 p : Int} {s s' : RS Unit} (h : small (rawKd b) p0 s = .ok (p, s')) : Rd b (sgN 1 p) s s' ∧ 0 ≤ p ∧ p ≤ 255 := by
 obtain ⟨r, h1, h2⟩ := Out.bind_ok h
 cases h2
 have h3 := rd_num (.inl rfl) h1
 have e : be 1 (r.1 % 256) = be 1 r.1 := by rw [be1, be1]; congr 2; omega
 refine ⟨?_, by omega, by omega⟩
 simp only [sgN, e]
 exact h3
inductive FI | to | a | b | lo | hi | nm | args
 deriving DecidableEq
def fieldI : LI → FI
 | .to => .to | .a => .a | .b => .b | .lo => .lo | .hi => .hi | .one => .args | .sh => .nm | .fi => .nm | .me => .nm | .gl => .nm
inductive FE | to | el | a | b | nm | args | ws
 deriving DecidableEq
def fieldE : LJ → FE
 | .target => .to | .other => .el | .first => .a | .second => .b | .code => .a | .raised => .nm | .called => .nm | .asked => .nm | .given => .args | .handlers => .ws
theorem formI_fields {op : Int} {ls : List LI} (h : formI op = some ls) : (ls.map fieldI).Nodup := by
 have h1 := formI_some h
 simp only [opsL, List.mem_cons, List.not_mem_nil, or_false] at h1
 rcases h1 with rfl | rfl | rfl | rfl | rfl | rfl | rfl | rfl | rfl | rfl | rfl | rfl | rfl | rfl | rfl | rfl | rfl | rfl | rfl | rfl | rfl | rfl | rfl | rfl | rfl | rfl | rfl | rfl | rfl | rfl | rfl | rfl | rfl | rfl <;> (cases h; decide)
theorem formE_kd {kd : Int} {ls : List LJ} (h : formE kd = some ls) : kd = 1 ∨ kd = 2 ∨ kd = 3 ∨ kd = 4 ∨ kd = 5 ∨ kd = 6 ∨ kd = 7 ∨ kd = 8 ∨ kd = 9 := by
 refine Decidable.byContradiction fun hn => ?_
 simp only [not_or] at hn
 simp [formE, hn] at h
theorem formE_fields {kd : Int} {ls : List LJ} (h : formE kd = some ls) : (ls.map fieldE).Nodup := by
 rcases formE_kd h with rfl | rfl | rfl | rfl | rfl | rfl | rfl | rfl | rfl <;> (cases h; decide)
theorem ltI_other {σ : Type} {κ : Kd σ} {l l' : LI} {x x' : InsM} {s s' : σ} (hne : fieldI l ≠ fieldI l') (h : ltI κ l' x s = .ok (x', s')) : sgLI l x' = sgLI l x := by
 cases l' <;> (obtain ⟨r, _, h2⟩ := Out.bind_ok h; cases h2; cases l <;> first | rfl | exact absurd rfl hne)
theorem ltI_op {σ : Type} {κ : Kd σ} {l' : LI} {x x' : InsM} {s s' : σ} (h : ltI κ l' x s = .ok (x', s')) : x'.op = x.op := by
 cases l' <;> (obtain ⟨r, _, h2⟩ := Out.bind_ok h; cases h2; rfl)
theorem ltE_other {σ : Type} {κ : Kd σ} {l l' : LJ} {x x' : EndM} {s s' : σ} (hne : fieldE l ≠ fieldE l') (h : ltE κ l' x s = .ok (x', s')) : sgLJ l x' = sgLJ l x := by
 cases l' with
 | handlers =>
   obtain ⟨r, _, h2⟩ := Out.bind_ok h
   obtain ⟨r2, _, h3⟩ := Out.bind_ok h2
   cases h3; cases l <;> first | rfl | exact absurd rfl hne
 | _ => obtain ⟨r, _, h2⟩ := Out.bind_ok h; cases h2; cases l <;> first | rfl | exact absurd rfl hne
theorem ltE_kd {σ : Type} {κ : Kd σ} {l' : LJ} {x x' : EndM} {s s' : σ} (h : ltE κ l' x s = .ok (x', s')) : x'.kd = x.kd := by
 cases l' with
 | handlers =>
   obtain ⟨r, _, h2⟩ := Out.bind_ok h
   obtain ⟨r2, _, h3⟩ := Out.bind_ok h2
   cases h3; rfl
 | _ => obtain ⟨r, _, h2⟩ := Out.bind_ok h; cases h2; rfl
theorem rd_ltI {l : LI} {x x' : InsM} {s s' : RS Unit} (h : ltI (rawKd b) l x s = .ok (x', s')) : Rd b (sgLI l x') s s' := by
 cases l <;> (obtain ⟨r, h1, h2⟩ := Out.bind_ok h; cases h2; first | exact rd_num Y9 h1 | exact rd_ref h1)
theorem rd_runs {α β φ : Type} [DecidableEq φ] {step : β → α → RS Unit → Out (α × RS Unit)} {g : β → α → List Seg} {fld : β → φ} (h1 : ∀ l x s x' s', step l x s = .ok (x', s') → Rd b (g l x') s s') (h2 : ∀ l l' x s x' s', fld l ≠ fld l' → step l' x s = .ok (x', s') → g l x' = g l x) :
 ∀ (ls : List β) (x : α) (s : RS Unit) (x' : α) (s' : RS Unit), (ls.map fld).Nodup → runs step ls x s = .ok (x', s') → Rd b (ls.flatMap fun l => g l x') s s' ∧ ∀ l, fld l ∉ ls.map fld → g l x' = g l x
 | [], x, s, x', s', _, h => by cases h; exact ⟨Rd.nil _, fun _ _ => rfl⟩
 | l :: r, x, s, x', s', hd, h => by
   obtain ⟨⟨x1, s1⟩, h3, h4⟩ := Out.bind_ok h
   have hd := List.nodup_cons.1 hd
   obtain ⟨k1, k2⟩ := rd_runs h1 h2 r x1 s1 x' s' hd.2 h4
   refine ⟨?_, fun m hm => ?_⟩
   · rw [List.flatMap_cons, k2 l hd.1]
     exact (h1 _ _ _ _ _ h3).app k1
   · simp only [List.map_cons, List.mem_cons, not_or] at hm
     rw [k2 m hm.2, h2 m l _ _ _ _ hm.1 h3]
theorem runs_inv {σ α β γ : Type} {step : β → α → σ → Out (α × σ)} (p : α → γ) (h : ∀ l x s x' s', step l x s = .ok (x', s') → p x' = p x) : ∀ (ls : List β) (x : α) (s : σ) (x' : α) (s' : σ), runs step ls x s = .ok (x', s') → p x' = p x
 | [], x, s, x', s', e => by cases e; rfl
 | l :: r, x, s, x', s', e => by
   obtain ⟨⟨x1, s1⟩, h3, h4⟩ := Out.bind_ok e
   rw [runs_inv p h r _ _ _ _ h4, h _ _ _ _ _ h3]
theorem rd_ins {x x' : InsM} {s s' : RS Unit} (h : codeIns (rawKd b) x s = .ok (x', s')) : Rd b (sgIns x') s s' := by
 obtain ⟨⟨op, s1⟩, h1, h2⟩ := Out.bind_ok h
 dsimp only at h2
 cases hf : formI op with
 | none => rw [hf] at h2; cases h2
 | some ls =>
   rw [hf] at h2
   have ho := runs_inv (fun x : InsM => x.op) (fun l x s x' s' e => ltI_op e) ls _ _ _ _ h2
   dsimp only at ho
   have := (rd_runs (b := b) (g := fun l x => sgLI l x) (fld := fieldI) (fun l x s x' s' e => rd_ltI e) (fun l l' x s x' s' hn e => ltI_other hn e) ls _ _ _ _ (formI_fields hf) h2).1
   unfold sgIns
   rw [ho, hf]
   exact (rd_small h1).1.app this
theorem rd_iter {α : Type} {step : α → RS Unit → Out (α × RS Unit)} {g : α → List Seg} (h1 : ∀ x s x' s', step x s = .ok (x', s') → Rd b (g x') s s') : ∀ (l : List α) (s : RS Unit) (l' : List α) (s' : RS Unit), iter step l s = .ok (l', s') → Rd b (l'.flatMap g) s s'
 | [], s, l', s', e => by cases e; exact Rd.nil _
 | x :: r, s, l', s', e => by
   obtain ⟨q, h3, e⟩ := Out.bind_ok e
   obtain ⟨q2, h4, e⟩ := Out.bind_ok e
   cases e
   exact (h1 _ _ _ _ h3).app (rd_iter h1 r _ _ _ h4)
theorem rd_lst {α : Type} {sz : Nat} (hsz : sz = 1 ∨ sz = 2 ∨ sz = 4) {z : α} {step : α → RS Unit → Out (α × RS Unit)} {g : α → List Seg} (h1 : ∀ x s x' s', step x s = .ok (x', s') → Rd b (g x') s s') {l l' : List α} {s s' : RS Unit} (h : lst (rawKd b) sz z step l s = .ok (l', s')) : Rd b (sgL sz g l') s s' := by
 obtain ⟨⟨n, s1⟩, h2, h3⟩ := Out.bind_ok h
 dsimp only at h3
 split at h3
 · cases h3
 · have hl := iter_len _ _ _ _ _ h3
   have hn : (l'.length : Int) = n := by
    rw [hl]
    split
    · rename_i e; rw [e]
    · simp; omega
   unfold sgL
   rw [hn]
   exact (rd_num hsz h2).app (rd_iter h1 _ _ _ _ h3)
theorem rd_when {w w' : Bs × Int} {s s' : RS Unit} (h : codeWhen (rawKd b) w s = .ok (w', s')) : Rd b (sgWhen w') s s' := by
 obtain ⟨r, h1, h2⟩ := Out.bind_ok h
 obtain ⟨r2, h3, h4⟩ := Out.bind_ok h2
 cases h4
 exact (rd_txt h1).1.app (rd_num Y9 h3)
theorem rd_ltE {l : LJ} {x x' : EndM} {s s' : RS Unit} (h : ltE (rawKd b) l x s = .ok (x', s')) : Rd b (sgLJ l x') s s' := by
 cases l with
 | handlers =>
   obtain ⟨r, h1, h2⟩ := Out.bind_ok h
   obtain ⟨r2, h3, h4⟩ := Out.bind_ok h2
   cases h4
   exact (rd_lst Y9 (fun _ _ _ _ e => rd_when e) h1).app (rd_num Y9 h3)
 | given =>
   obtain ⟨r, h1, h2⟩ := Out.bind_ok h
   cases h2
   exact rd_lst Y9 (fun _ _ _ _ e => rd_num Y9 e) h1
 | _ => obtain ⟨r, h1, h2⟩ := Out.bind_ok h; cases h2; first | exact rd_num Y9 h1 | exact rd_ref h1 | exact (rd_txt h1).1
theorem rd_end {x x' : EndM} {s s' : RS Unit} (h : codeEnd (rawKd b) x s = .ok (x', s')) : Rd b (sgEnd x') s s' := by
 obtain ⟨⟨kd, s1⟩, h1, h2⟩ := Out.bind_ok h
 dsimp only at h2
 cases hf : formE kd with
 | none => rw [hf] at h2; cases h2
 | some ls =>
   rw [hf] at h2
   have ho := runs_inv (fun x : EndM => x.kd) (fun l x s x' s' e => ltE_kd e) ls _ _ _ _ h2
   dsimp only at ho
   have := (rd_runs (b := b) (g := fun l x => sgLJ l x) (fld := fieldE) (fun l x s x' s' e => rd_ltE e) (fun l l' x s x' s' hn e => ltE_other hn e) ls _ _ _ _ (formE_fields hf) h2).1
   unfold sgEnd
   rw [ho, hf]
   exact (rd_small h1).1.app this
theorem rd_blkm {x x' : BlkM} {s s' : RS Unit} (h : codeBlk (rawKd b) x s = .ok (x', s')) : Rd b (sgBlk x') s s' := by
 obtain ⟨s1, h1, h2⟩ := Out.bind_ok h
 obtain ⟨r, h3, h4⟩ := Out.bind_ok h2
 obtain ⟨r2, h5, h6⟩ := Out.bind_ok h4
 cases h6
 exact (rd_blk h1).app ((rd_lst Y9 (fun _ _ _ _ e => rd_ins e) h3).app (rd_end h5))
theorem rd_flow {x x' : FlowM} {s s' : RS Unit} (h : codeFlow (rawKd b) x s = .ok (x', s')) : Rd b (sgFlow x') s s' := by
 obtain ⟨r1, h1, h⟩ := Out.bind_ok h
 obtain ⟨r2, h2, h⟩ := Out.bind_ok h
 obtain ⟨r3, h3, h⟩ := Out.bind_ok h
 obtain ⟨r4, h4, h⟩ := Out.bind_ok h
 obtain ⟨r5, h5, h⟩ := Out.bind_ok h
 cases h
 exact (rd_num Y9 h1).app ((rd_small h2).1.app ((rd_lst Y9 (fun _ _ _ _ e => (rd_small e).1) h3).app ((rd_lst Y9 (fun _ _ _ _ e => (rd_txt e).1) h4).app (rd_lst Y9 (fun _ _ _ _ e => rd_blkm e) h5))))
end
end Go.Sl
namespace Go.Sl
def cnt (l : List Seg) : Nat := l.countP fun s => match s with | .lit _ => false | _ => true
theorem cnt_app (l m : List Seg) : cnt (l ++ m) = cnt l + cnt m := List.countP_append
theorem adv_cnt (l : List Seg) : ∀ s : RS Unit, (adv l s).places.length + (adv l s).blocks.length = s.places.length + s.blocks.length + cnt l := by
 induction l with
 | nil => intro s; rfl
 | cons a l ih =>
   intro s
   show (adv l (adv1 s a)).places.length + (adv l (adv1 s a)).blocks.length = _
   rw [ih]
   cases a <;> simp [adv1, cnt, List.countP_cons] <;> omega
section
variable (b : Bs)
def Bk {α : Type} (c : RS Unit → Out (α × RS Unit)) (x : α) (l : List Seg) : Prop :=
 ∀ s rest, s.read ≤ b.length → b.drop s.read = rawOf l ++ rest → s.places.length + s.blocks.length + cnt l ≤ maxB → c s = .ok (x, adv l s) ∧ (adv l s).read ≤ b.length ∧ b.drop (adv l s).read = rest
variable {b}
theorem Bk.bind {α β : Type} {c : RS Unit → Out (α × RS Unit)} {d : α × RS Unit → Out (β × RS Unit)} {x : α} {y : β} {l m : List Seg} (h : Bk b c x l) (h2 : Bk b (fun s => d (x, s)) y m) : Bk b (fun s => (c s).bind d) y (l ++ m) := by
 intro s rest hs hd hc
 rw [rawOf_app, List.append_assoc] at hd
 rw [cnt_app] at hc
 obtain ⟨k1, k2, k3⟩ := h s _ hs hd Y9
 have ha := adv_cnt l s
 obtain ⟨k4, k5, k6⟩ := h2 (adv l s) rest k2 k3 Y9
 refine ⟨?_, by rw [adv_app]; exact k5, by rw [adv_app]; exact k6⟩
 dsimp only at k4 ⊢
 rw [k1, Out.ok_bind, k4, adv_app]
theorem Bk.map {α β : Type} {c : RS Unit → Out (α × RS Unit)} {x : α} {y : β} {l : List Seg} (h : Bk b c x l) (f : α × RS Unit → β) (hf : ∀ s, f (x, s) = y) : Bk b (fun s => (c s).bind fun r => .ok (f r, r.2)) y l := by
 intro s rest hs hd hc
 obtain ⟨k1, k2⟩ := h s _ hs hd hc
 exact ⟨by dsimp only; rw [k1, Out.ok_bind, hf], k2⟩
theorem Bk.nil {α : Type} (x : α) : Bk b (fun s => .ok (x, s)) x [] := fun s rest hs hd _ => ⟨rfl, hs, hd⟩
theorem drop_of {s : Nat} {l rest : Bs} (hs : s ≤ b.length) (hd : b.drop s = l ++ rest) : s + l.length ≤ b.length ∧ (b.drop s).take l.length = l ∧ b.drop (s + l.length) = rest := by
 have h1 := congrArg List.length hd
 simp at h1
 refine ⟨by omega, by rw [hd]; simp, by rw [← List.drop_drop, hd]; simp⟩
theorem CG {n0 n : Int} {sz : Nat} (hsz : sz = 1 ∨ sz = 2 ∨ sz = 4) (hf : fits sz n) : Bk b ((rawKd b).num n0 sz) n (sgN sz n) := by
 intro s rest hs hd hc
 simp only [sgN, rawOf, List.flatMap_cons, rawOf1, List.flatMap_nil, List.append_nil] at hd
 obtain ⟨h1, h2, h3⟩ := drop_of hs hd
 rw [Cp] at h1 h2 h3
 refine ⟨?_, ?_, ?_⟩
 · simp only [rKd]
   rw [if_pos h1, h2, num_back hsz hf]
   simp [adv, adv1, sgN, Cp]
 · simpa [adv, adv1, sgN, Cp] using h1
 · simpa [adv, adv1, sgN, Cp] using h3
theorem bk_txt {n0 t : Bs} (ht : t.length ≤ 255) : Bk b ((rawKd b).txt n0) t (sgT t) := by
 intro s rest hs hd hc
 simp only [sgT, rawOf, List.flatMap_cons, rawOf1, List.flatMap_nil, List.append_nil, List.append_assoc] at hd
 obtain ⟨h1, h2, h3⟩ := drop_of hs hd
 rw [Cp] at h1 h2 h3
 obtain ⟨h4, h5, h6⟩ := drop_of h1 h3
 have e : beV ((b.drop s.read).take 1) = t.length := by rw [h2, be1, beV1, u8n _ Y9]; omega
 refine ⟨?_, ?_, ?_⟩
 · simp only [rKd]
   rw [if_pos h1, e]
   simp only [Int.toNat_natCast]
   rw [if_pos h4, h5]
   simp [adv, adv1, sgT, Cp]; omega
 · simp [adv, adv1, sgT, Cp]; omega
 · simp only [adv, adv1, sgT, Cp, List.foldl_cons, List.foldl_nil, List.length_append]
   rw [← Nat.add_assoc]
   exact h6
theorem bk_ref {n0 nm : Bs} {q : Int} (h : nm.length = 2) : Bk b ((rawKd b).ref n0 q) nm [.ref q nm] := by
 intro s rest hs hd hc
 simp only [rawOf, List.flatMap_cons, rawOf1, List.flatMap_nil, List.append_nil] at hd
 obtain ⟨h1, h2, h3⟩ := drop_of hs hd
 rw [h] at h1 h2 h3
 have : cnt [Seg.ref q nm] = 1 := rfl
 refine ⟨?_, ?_, ?_⟩
 · simp only [rKd]
   rw [if_pos Y9, if_pos h1, h2]
   simp only [rawN, raw_back h]
   simp [adv, adv1]
 · simpa [adv, adv1] using h1
 · simpa [adv, adv1] using h3
theorem bk_blk : Bk b (fun s => ((rawKd b).blk s).bind fun s => .ok ((), s)) () [.blk] := by
 intro s rest hs hd hc
 have : cnt [Seg.blk] = 1 := rfl
 refine ⟨?_, by simpa [adv, adv1] using hs, by simpa [adv, adv1, rawOf, rawOf1] using hd⟩
 simp only [rKd]
 rw [if_pos Y9]
 simp [adv, adv1, Out.bind]
theorem bk_small {p0 p : Int} (h0 : 0 ≤ p) (h1 : p ≤ 255) : Bk b (small (rawKd b) p0) p (sgN 1 p) := (CG (.inl rfl) (by simp only [fits, if_true]; omega)).map _ fun s => by dsimp only; omega
def setI : LI → InsM → InsM → InsM
 | .to, x, y => { y with to := x.to }
 | .a, x, y => { y with a := x.a }
 | .b, x, y => { y with b := x.b }
 | .lo, x, y => { y with lo := x.lo }
 | .hi, x, y => { y with hi := x.hi }
 | .one, x, y => { y with args := [arg1 x.args] }
 | .sh, x, y => { y with nm := x.nm }
 | .fi, x, y => { y with nm := x.nm }
 | .me, x, y => { y with nm := x.nm }
 | .gl, x, y => { y with nm := x.nm }
def fitsI : LI → InsM → Prop
 | .to, x => fits 2 x.to
 | .a, x => fits 2 x.a
 | .b, x => fits 2 x.b
 | .lo, x => fits 4 x.lo
 | .hi, x => fits 4 x.hi
 | .one, x => fits 2 (arg1 x.args)
 | .sh, x => x.nm.length = 2
 | .fi, x => x.nm.length = 2
 | .me, x => x.nm.length = 2
 | .gl, x => x.nm.length = 2
theorem bk_ltI {x y : InsM} (l : LI) (h : fitsI l x) : Bk b (ltI (rawKd b) l y) (setI l x y) (sgLI l x) := by
 cases l with
 | to => exact (CG Y9 h).map (y := setI .to x y) (fun r => { y with to := r.1 }) fun s => rfl
 | a => exact (CG Y9 h).map (y := setI .a x y) (fun r => { y with a := r.1 }) fun s => rfl
 | b => exact (CG Y9 h).map (y := setI .b x y) (fun r => { y with b := r.1 }) fun s => rfl
 | lo => exact (CG Y9 h).map (y := setI .lo x y) (fun r => { y with lo := r.1 }) fun s => rfl
 | hi => exact (CG Y9 h).map (y := setI .hi x y) (fun r => { y with hi := r.1 }) fun s => rfl
 | one => exact (CG Y9 h).map (y := setI .one x y) (fun r => { y with args := [r.1] }) fun s => rfl
 | sh => exact (bk_ref h).map (y := setI .sh x y) (fun r => { y with nm := r.1 }) fun s => rfl
 | fi => exact (bk_ref h).map (y := setI .fi x y) (fun r => { y with nm := r.1 }) fun s => rfl
 | me => exact (bk_ref h).map (y := setI .me x y) (fun r => { y with nm := r.1 }) fun s => rfl
 | gl => exact (bk_ref h).map (y := setI .gl x y) (fun r => { y with nm := r.1 }) fun s => rfl
theorem bk_runs {α β : Type} {step : β → α → RS Unit → Out (α × RS Unit)} {set : β → α → α → α} {g : β → α → List Seg} {x : α} : ∀ (ls : List β) (y : α), (∀ l ∈ ls, ∀ y, Bk b (step l y) (set l x y) (g l x)) → Bk b (runs step ls y) (ls.foldl (fun y l => set l x y) y) (ls.flatMap fun l => g l x)
 | [], y, _ => Bk.nil y
 | l :: r, y, h => (h l (.head _) y).bind (d := fun q => runs step r q.1 q.2) (bk_runs r _ fun m hm => h m (.tail _ hm))
structure InsB (x : InsM) : Prop where
 op0 : 0 ≤ x.op
 op1 : x.op ≤ 255
 form : ∃ ls, formI x.op = some ls ∧ (∀ l ∈ ls, fitsI l x) ∧ ls.foldl (fun y l => setI l x y) { ins0 with op := x.op } = x
theorem bk_ins {x : InsM} (h : InsB x) : Bk b (codeIns (rawKd b) ins0) x (sgIns x) := by
 obtain ⟨ls, h1, h2, h3⟩ := h.form
 refine (bk_small h.op0 h.op1).bind (m := ((formI x.op).getD []).flatMap fun l => sgLI l x) ?_
 have := bk_runs (b := b) (step := ltI (rawKd b)) (set := setI) (g := sgLI) (x := x) ls { ins0 with op := x.op } fun l hl y => bk_ltI l (h2 l hl)
 rw [h3] at this
 simp only [h1, Option.getD_some]
 exact this
theorem bk_iter {α : Type} {step : α → RS Unit → Out (α × RS Unit)} {g : α → List Seg} {z : α} : ∀ (l : List α), (∀ x ∈ l, Bk b (step z) x (g x)) → Bk b (iter step (List.replicate l.length z)) l (l.flatMap g)
 | [], _ => Bk.nil _
 | x :: r, h => (h x (.head _)).bind (d := fun q => (iter step (List.replicate r.length z) q.2).bind fun q2 => .ok (q.1 :: q2.1, q2.2)) ((bk_iter r fun m hm => h m (.tail _ hm)).map (y := x :: r) (fun q2 => x :: q2.1) fun s => rfl)
theorem bk_lst {α : Type} {sz : Nat} (hsz : sz = 1 ∨ sz = 2) {step : α → RS Unit → Out (α × RS Unit)} {g : α → List Seg} {z : α} {l : List α} (hl : l.length ≤ 255 ∨ sz = 2 ∧ l.length ≤ 65534) (h : ∀ x ∈ l, Bk b (step z) x (g x)) : Bk b (lst (rawKd b) sz z step []) l (sgL sz g l) := by
 refine (CG (n := (l.length : Int)) Y9 (by rcases hsz with rfl | rfl <;> simp [fits] <;> omega)).bind ?_
 have h1 := bk_iter l h
 intro s rest hs hd hc
 have h2 := h1 s rest hs hd hc
 refine ⟨?_, h2.2⟩
 dsimp only
 rw [if_neg Y9]
 have : (if (l.length : Int) = (([] : List α).length : Int) then ([] : List α) else List.replicate (l.length : Int).toNat z) = List.replicate l.length z := by
  split
  · rename_i e
    simp at e
    subst e
    rfl
  · simp
 rw [this]
 exact h2.1
def setJ : LJ → EndM → EndM → EndM
 | .target, x, y => { y with to := x.to }
 | .other, x, y => { y with el := x.el }
 | .first, x, y => { y with a := x.a }
 | .second, x, y => { y with b := x.b }
 | .code, x, y => { y with a := x.a }
 | .raised, x, y => { y with nm := x.nm }
 | .called, x, y => { y with nm := x.nm }
 | .asked, x, y => { y with nm := x.nm }
 | .given, x, y => { y with args := x.args }
 | .handlers, x, y => { y with ws := x.ws, ot := x.ot }
def fitsJ : LJ → EndM → Prop
 | .target, x => fits 2 x.to
 | .other, x => fits 2 x.el
 | .first, x => fits 2 x.a
 | .second, x => fits 2 x.b
 | .code, x => fits 1 x.a
 | .raised, x => x.nm.length ≤ 255
 | .called, x => x.nm.length = 2
 | .asked, x => x.nm.length = 2
 | .given, x => x.args.length ≤ 255 ∧ ∀ a ∈ x.args, fits 2 a
 | .handlers, x => x.ws.length ≤ 255 ∧ (∀ w ∈ x.ws, w.1.length ≤ 255 ∧ fits 2 w.2) ∧ fits 2 x.ot
def okJ : LJ → EndM → Prop
 | .given, y => y.args = []
 | .handlers, y => y.ws = []
 | _, _ => True
theorem bk_when {w0 w : Bs × Int} (h : w.1.length ≤ 255 ∧ fits 2 w.2) : Bk b (codeWhen (rawKd b) w0) w (sgWhen w) :=
 (bk_txt h.1).bind (d := fun r => ((rawKd b).num w0.2 2 r.2).bind fun r2 => .ok ((r.1, r2.1), r2.2)) ((CG Y9 h.2).map (y := w) (fun r2 => (w.1, r2.1)) fun s => rfl)
theorem bk_ltE {x y : EndM} (l : LJ) (h : fitsJ l x) (h0 : okJ l y) : Bk b (ltE (rawKd b) l y) (setJ l x y) (sgLJ l x) := by
 cases l with
 | target => exact (CG Y9 h).map (y := setJ .target x y) (fun r => { y with to := r.1 }) fun s => rfl
 | other => exact (CG Y9 h).map (y := setJ .other x y) (fun r => { y with el := r.1 }) fun s => rfl
 | first => exact (CG Y9 h).map (y := setJ .first x y) (fun r => { y with a := r.1 }) fun s => rfl
 | second => exact (CG Y9 h).map (y := setJ .second x y) (fun r => { y with b := r.1 }) fun s => rfl
 | code => exact (CG Y9 h).map (y := setJ .code x y) (fun r => { y with a := r.1 }) fun s => rfl
 | raised => exact (bk_txt h).map (y := setJ .raised x y) (fun r => { y with nm := r.1 }) fun s => rfl
 | called => exact (bk_ref h).map (y := setJ .called x y) (fun r => { y with nm := r.1 }) fun s => rfl
 | asked => exact (bk_ref h).map (y := setJ .asked x y) (fun r => { y with nm := r.1 }) fun s => rfl
 | given =>
   have h0 : y.args = [] := h0
   have := (bk_lst (b := b) (sz := 1) (.inl rfl) (z := 0) (step := fun n => (rawKd b).num n 2) (g := sgN 2) (l := x.args) (.inl h.1) fun n hn => CG Y9 (h.2 n hn)).map (y := setJ .given x y) (fun r => { y with args := r.1 }) fun s => rfl
   rw [← h0] at this
   exact this
 | handlers =>
   have h0 : y.ws = [] := h0
   have := (bk_lst (b := b) (sz := 1) (.inl rfl) (z := ([], 0)) (step := codeWhen (rawKd b)) (g := sgWhen) (l := x.ws) (.inl h.1) fun w hw => bk_when (h.2.1 w hw)).bind (d := fun r => ((rawKd b).num y.ot 2 r.2).bind fun r2 => .ok ({ y with ws := r.1, ot := r2.1 }, r2.2)) ((CG (n := x.ot) Y9 h.2.2).map (y := setJ .handlers x y) (fun r2 => { y with ws := x.ws, ot := r2.1 }) fun s => rfl)
   rw [← h0] at this
   exact this
theorem bk_runsE {x : EndM} : ∀ (ls : List LJ) (y : EndM), (ls.map fieldE).Nodup → (∀ l ∈ ls, fitsJ l x) → (∀ l ∈ ls, okJ l y) → Bk b (runs (ltE (rawKd b)) ls y) (ls.foldl (fun y l => setJ l x y) y) (ls.flatMap fun l => sgLJ l x)
 | [], y, _, _, _ => Bk.nil y
 | l :: r, y, hd, h, h0 => by
   have hd := List.nodup_cons.1 hd
   refine (bk_ltE l (h l (.head _)) (h0 l (.head _))).bind (d := fun q => runs (ltE (rawKd b)) r q.1 q.2) (bk_runsE r _ hd.2 (fun m hm => h m (.tail _ hm)) fun m hm => ?_)
   have h1 := h0 m (.tail _ hm)
   have h2 : fieldE m ≠ fieldE l := fun e => hd.1 (e ▸ List.mem_map_of_mem hm)
   cases m <;> first | trivial | (cases l <;> first | exact h1 | exact absurd rfl h2)
structure EndB (x : EndM) : Prop where
 kd0 : 0 ≤ x.kd
 kd1 : x.kd ≤ 255
 form : ∃ ls, formE x.kd = some ls ∧ (∀ l ∈ ls, fitsJ l x) ∧ ls.foldl (fun y l => setJ l x y) { end0 with kd := x.kd, ot := -1 } = x
theorem bk_end {x : EndM} (h : EndB x) : Bk b (codeEnd (rawKd b) { end0 with ot := -1 }) x (sgEnd x) := by
 obtain ⟨ls, h1, h2, h3⟩ := h.form
 refine (bk_small h.kd0 h.kd1).bind (m := ((formE x.kd).getD []).flatMap fun l => sgLJ l x) ?_
 have := bk_runsE (b := b) (x := x) ls { end0 with kd := x.kd, ot := -1 } (formE_fields h1) h2 fun l _ => by cases l <;> first | trivial | rfl
 rw [h3] at this
 simp only [h1, Option.getD_some]
 exact this
structure BlkB (x : BlkM) : Prop where
 ins : x.ins.length ≤ 200 ∧ ∀ i ∈ x.ins, InsB i
 en : EndB x.en
theorem bk_blkm {x : BlkM} (h : BlkB x) : Bk b (codeBlk (rawKd b) blk0) x (sgBlk x) := by
 have h1 := h.ins.1
 have hl := bk_lst (b := b) (sz := 1) (.inl rfl) (z := ins0) (step := codeIns (rawKd b)) (g := sgIns) (l := x.ins) (.inl Y9) (fun i hi => bk_ins (h.ins.2 i hi))
 have h2 := hl.bind (d := fun r => (codeEnd (rawKd b) { end0 with ot := -1 } r.2).bind fun r2 => .ok (BlkM.mk r.1 r2.1, r2.2)) ((bk_end h.en).map (y := x) (fun r2 => BlkM.mk x.ins r2.1) fun s => rfl)
 have h3 := (bk_blk (b := b)).bind (d := fun r => (lst (rawKd b) 1 ins0 (codeIns (rawKd b)) [] r.2).bind fun r => (codeEnd (rawKd b) { end0 with ot := -1 } r.2).bind fun r2 => .ok (BlkM.mk r.1 r2.1, r2.2)) h2
 intro s rest hs hd hc
 have h4 := h3 s rest hs hd hc
 refine ⟨?_, h4.2⟩
 have := h4.1
 dsimp only at this
 rw [Out.bind_assoc] at this
 exact this
structure FlowB (f : FlowM) : Prop where
 nm : f.nm = []
 ac : 0 ≤ f.ac ∧ f.ac ≤ 255
 res : 0 ≤ f.res ∧ f.res ≤ 255
 regs : f.regs.length ≤ 65534 ∧ ∀ r ∈ f.regs, 0 ≤ r ∧ r ≤ 255
 raises : f.raises.length ≤ 255 ∧ ∀ t ∈ f.raises, t.length ≤ 255
 blks : f.blks.length ≤ 65534 ∧ ∀ b ∈ f.blks, BlkB b
theorem bk_flow {f : FlowM} (h : FlowB f) : Bk b (codeFlow (rawKd b) flow0) f (sgFlow f) := by
 obtain ⟨h0, h1, h2, ⟨h3, h4⟩, ⟨h5, h6⟩, h7, h8⟩ := h
 have a1 := CG (b := b) (n0 := 0) (n := f.ac) (sz := 1) (.inl rfl) (by simp only [fits, if_true]; omega)
 have a2 := bk_small (b := b) (p0 := 0) h2.1 h2.2
 have a3 := bk_lst (b := b) (sz := 2) (.inr rfl) (z := 0) (step := small (rawKd b)) (g := sgN 1) (l := f.regs) (.inr ⟨rfl, h3⟩) (fun r hr => bk_small (h4 r hr).1 (h4 r hr).2)
 have a4 := bk_lst (b := b) (sz := 1) (.inl rfl) (z := ([] : Bs)) (step := (rawKd b).txt) (g := sgT) (l := f.raises) (.inl h5) (fun t ht => bk_txt (h6 t ht))
 have a5 := bk_lst (b := b) (sz := 2) (.inr rfl) (z := blk0) (step := codeBlk (rawKd b)) (g := sgBlk) (l := f.blks) (.inr ⟨rfl, h7⟩) (fun x hx => bk_blkm (h8 x hx))
 have b5 := a5.map (y := f) (fun r5 => { flow0 with ac := f.ac, res := f.res, regs := f.regs, raises := f.raises, blks := r5.1 }) fun s => by cases f; simp only at h0; subst h0; rfl
 have b4 := a4.bind (d := fun r4 => (lst (rawKd b) 2 blk0 (codeBlk (rawKd b)) [] r4.2).bind fun r5 => .ok ({ flow0 with ac := f.ac, res := f.res, regs := f.regs, raises := r4.1, blks := r5.1 }, r5.2)) b5
 have b3 := a3.bind (d := fun r3 => (lst (rawKd b) 1 [] (rawKd b).txt [] r3.2).bind fun r4 => (lst (rawKd b) 2 blk0 (codeBlk (rawKd b)) [] r4.2).bind fun r5 => .ok ({ flow0 with ac := f.ac, res := f.res, regs := r3.1, raises := r4.1, blks := r5.1 }, r5.2)) b4
 have b2 := a2.bind (d := fun r2 => (lst (rawKd b) 2 0 (small (rawKd b)) [] r2.2).bind fun r3 => (lst (rawKd b) 1 [] (rawKd b).txt [] r3.2).bind fun r4 => (lst (rawKd b) 2 blk0 (codeBlk (rawKd b)) [] r4.2).bind fun r5 => .ok ({ flow0 with ac := f.ac, res := r2.1, regs := r3.1, raises := r4.1, blks := r5.1 }, r5.2)) b3
 have b1 := a1.bind (d := fun r1 => (small (rawKd b) 0 r1.2).bind fun r2 => (lst (rawKd b) 2 0 (small (rawKd b)) [] r2.2).bind fun r3 => (lst (rawKd b) 1 [] (rawKd b).txt [] r3.2).bind fun r4 => (lst (rawKd b) 2 blk0 (codeBlk (rawKd b)) [] r4.2).bind fun r5 => .ok ({ flow0 with ac := r1.1, res := r2.1, regs := r3.1, raises := r4.1, blks := r5.1 }, r5.2)) b2
 exact b1
end
def dmy : Bs := [120]
def refI (op : Int) : Bool := has (formR op) 110
def refE (kd : Int) : Bool := decide (kd = 5) || decide (kd = 6)
def dmI (x : InsM) : InsM := if refI x.op then { x with nm := dmy } else x
def dmE (x : EndM) : EndM := if refE x.kd then { x with nm := dmy } else x
def dmB (b : BlkM) : BlkM := ⟨b.ins.map dmI, dmE b.en⟩
def dmF (f : FlowM) : FlowM := { f with nm := dmy, blks := f.blks.map dmB }
def rawI (x : InsM) : Prop := refI x.op = true → x.nm.length = 2
def rawE (x : EndM) : Prop := refE x.kd = true → x.nm.length = 2
structure RawF (f : FlowM) : Prop where
 nm : f.nm = []
 ins : ∀ b ∈ f.blks, ∀ x ∈ b.ins, rawI x
 en : ∀ b ∈ f.blks, rawE b.en
theorem arg1_one : ∀ {l : List Int}, l.length = 1 → [arg1 l] = l
 | [_], _ => rfl
set_option maxHeartbeats 4000000 in
theorem insB_of {n : Int} (hn : n ≤ 400) {x : InsM} (hr : rawI x) (h : insR n (dmI x) = true) : InsB x := by
 have hop : x.op ∈ opsL := by
  refine Decidable.byContradiction fun hc => ?_
  have h1 := formR_nil hc
  have h2 : (dmI x).op = x.op := by unfold dmI; split <;> rfl
  simp [insR, h2, h1] at h
 obtain ⟨op, to, a, b, lo, hi, nm, args⟩ := x
 simp only [opsL, List.mem_cons, List.not_mem_nil, or_false] at hop
 rcases hop with rfl | rfl | rfl | rfl | rfl | rfl | rfl | rfl | rfl | rfl | rfl | rfl | rfl | rfl | rfl | rfl | rfl | rfl | rfl | rfl | rfl | rfl | rfl | rfl | rfl | rfl | rfl | rfl | rfl | rfl | rfl | rfl | rfl | rfl
 all_goals
  simp [insR, dmI, refI, formR, has, inR, rawI] at h hr
  refine ⟨by simp, by simp, _, rfl, ?_, ?_⟩
  · simp [fitsI, fits] <;> omega
  · simp [setI, ins0] <;> grind [arg1_one]
theorem whens_fits {nb : Int} (hn : nb ≤ 600) : ∀ (l : List (Bs × Int)) (seen : List Bs), whensOk nb seen l = true → ∀ w ∈ l, w.1.length ≤ 255 ∧ fits 2 w.2
 | [], _, _, w, hw => (List.not_mem_nil hw).elim
 | a :: r, seen, h, w, hw => by
   simp only [whensOk, Bool.and_eq_true] at h
   rcases List.mem_cons.1 hw with rfl | hw
   · refine ⟨by have := (symOk_w h.1.1.1).2; omega, ?_⟩
     have := h.1.1.2
     simp [inR, fits] at this ⊢; omega
   · exact whens_fits hn r _ h.2 w hw
set_option maxHeartbeats 4000000 in
theorem endB_of {n nb : Int} (hn : n ≤ 400) (hb : nb ≤ 600) {x : EndM} (hr : rawE x) (h : endR n nb (dmE x) = true) : EndB x := by
 have hk : (dmE x).kd = x.kd ∧ (dmE x).ws = x.ws ∧ (dmE x).args = x.args := by unfold dmE; split <;> exact ⟨rfl, rfl, rfl⟩
 have hkd : x.kd = 1 ∨ x.kd = 2 ∨ x.kd = 3 ∨ x.kd = 4 ∨ x.kd = 5 ∨ x.kd = 6 ∨ x.kd = 7 ∨ x.kd = 8 ∨ x.kd = 9 := by
  refine Decidable.byContradiction fun hn => ?_
  simp only [not_or] at hn
  simp [endR, formEnd, hk.1, hn] at h
 obtain ⟨kd, a, b, to, el, nm, args, ws, ot⟩ := x
 simp only at hkd hk
 rcases hkd with rfl | rfl | rfl | rfl | rfl | rfl | rfl | rfl | rfl
 all_goals
  simp [endR, dmE, refE, formEnd, has, inR, rawE, handlersR] at h hr
  refine ⟨by simp, by simp, _, rfl, ?_, ?_⟩
  · simp [fitsJ, fits] <;> first
     | omega
     | (have := symOk_w (s := nm); grind)
     | (have := whens_fits hb ws []; simp [fits] at this; grind)
  · simp [setJ, end0] <;> grind
theorem flowB_of {f : FlowM} (hr : RawF f) (hres : 0 ≤ f.res) (h : sndOk (dmF f) = true) : FlowB f := by
 unfold sndOk dmF at h
 dsimp only at h
 simp only [Bool.and_eq_true, decide_eq_true_eq, List.all_eq_true, Bool.or_eq_true, List.length_map, List.mem_map, forall_exists_index, and_imp, forall_apply_eq_imp_iff₂] at h
 obtain ⟨⟨⟨⟨⟨⟨⟨⟨⟨⟨h1, h2⟩, h3⟩, h4⟩, h5⟩, h6⟩, h7⟩, h8⟩, h9⟩, h10⟩, h11⟩ := h
 refine ⟨hr.nm, by omega, by omega, ⟨by omega, fun r hr => by have := h9 r hr; omega⟩, ⟨by omega, fun t ht => by have := (symOk_w (raises_w _ h10 t ht)).2; omega⟩, by omega, fun x hx => ?_⟩
 have hb := h11 x hx
 simp only [blkOk, Bool.and_eq_true, decide_eq_true_eq, List.all_eq_true, dmB, List.length_map, List.mem_map, forall_exists_index, and_imp, forall_apply_eq_imp_iff₂] at hb
 exact ⟨⟨hb.1.1, fun i hi => insB_of Y9 (hr.ins x hx i hi) (hb.2 i hi)⟩, endB_of Y9 Y9 (hr.en x hx) hb.1.2⟩
end Go.Sl
namespace Go.Sl
def sortR (op : Int) : Int := if op = 32 ∨ op = 33 then 3 else if op = 37 ∨ op = 38 then 5 else if op = 55 then 4 else 2
def emb {τ : Type} (s : RS Unit) (t : τ) : RS τ := ⟨s.read, s.places, s.blocks, t⟩
section
variable {τ : Type} (ν : Int → Int → τ → Bs × τ)
def renI (x : InsM) (t : τ) : InsM × τ := if refI x.op then ({ x with nm := (ν (sortR x.op) (beV x.nm) t).1 }, (ν (sortR x.op) (beV x.nm) t).2) else (x, t)
def renE (x : EndM) (t : τ) : EndM × τ := if refE x.kd then ({ x with nm := (ν (if x.kd = 5 then 1 else 4) (beV x.nm) t).1 }, (ν (if x.kd = 5 then 1 else 4) (beV x.nm) t).2) else (x, t)
def acc {α : Type} (f : α → τ → α × τ) : List α → τ → List α × τ
 | [], t => ([], t)
 | x :: r, t => ((f x t).1 :: (acc f r (f x t).2).1, (acc f r (f x t).2).2)
def renB (x : BlkM) (t : τ) : BlkM × τ := (⟨(acc (renI ν) x.ins t).1, (renE ν x.en (acc (renI ν) x.ins t).2).1⟩, (renE ν x.en (acc (renI ν) x.ins t).2).2)
def renF (x : FlowM) (t : τ) : FlowM × τ := ({ x with blks := (acc (renB ν) x.blks t).1 }, (acc (renB ν) x.blks t).2)
end
section
variable {τ : Type} {ν : Int → Int → τ → Bs × τ} {b : Bs}
def Nm {α : Type} (c : RS τ → Out (α × RS τ)) (d : RS Unit → Out (α × RS Unit)) (f : α → τ → α × τ) : Prop := ∀ s t, c (emb s t) = (d s).bind fun r => .ok ((f r.1 t).1, emb r.2 (f r.1 t).2)
abbrev same {α : Type} : α → τ → α × τ := fun x t => (x, t)
theorem CD (n : Int) (sz : Nat) : Nm ((rKd b ν).num n sz) ((rawKd b).num n sz) same := fun s t => by
 simp only [rKd, emb]
 split <;> rfl
theorem nm_txt (n : Bs) : Nm ((rKd b ν).txt n) ((rawKd b).txt n) same := fun s t => by
 simp only [rKd, emb]
 split
 · split <;> rfl
 · rfl
theorem nm_ref (n : Bs) (q : Int) : Nm ((rKd b ν).ref n q) ((rawKd b).ref n q) fun x t => ν q (beV x) t := fun s t => by
 simp only [rKd, emb]
 split
 · split
   · rename_i h
     simp only [Out.ok_bind, rawN, raw_back (Cy h)]
   · rfl
 · rfl
theorem nm_blk (s : RS Unit) (t : τ) : (rKd b ν).blk (emb s t) = ((rawKd b).blk s).bind fun r => .ok (emb r t) := by
 simp only [rKd, emb]
 split <;> rfl
theorem Nm.bind {α β : Type} {c : RS τ → Out (α × RS τ)} {d : RS Unit → Out (α × RS Unit)} (h : Nm c d same) {c2 : α × RS τ → Out (β × RS τ)} {d2 : α × RS Unit → Out (β × RS Unit)} {f : β → τ → β × τ} (h2 : ∀ x, Nm (fun s => c2 (x, s)) (fun s => d2 (x, s)) f) : Nm (fun s => (c s).bind c2) (fun s => (d s).bind d2) f := fun s t => by
 dsimp only
 rw [h s t, Out.bind_assoc, Out.bind_assoc]
 cases d s with
 | ok r => exact h2 r.1 r.2 t
 | bad => rfl
 | full => rfl
theorem Nm.map {α β : Type} {c : RS τ → Out (α × RS τ)} {d : RS Unit → Out (α × RS Unit)} {f : α → τ → α × τ} (h : Nm c d f) {g : β → τ → β × τ} (m : α → β) (hg : ∀ x t, g (m x) t = (m (f x t).1, (f x t).2)) : Nm (fun s => (c s).bind fun r => .ok (m r.1, r.2)) (fun s => (d s).bind fun r => .ok (m r.1, r.2)) g := fun s t => by
 dsimp only
 rw [h s t, Out.bind_assoc, Out.bind_assoc]
 cases d s with
 | ok r => simp only [Out.ok_bind, hg]
 | bad => rfl
 | full => rfl
theorem nm_small (p : Int) : Nm (small (rKd b ν) p) (small (rawKd b) p) same := (CD p 1).map (fun n => n % 256) fun _ _ => rfl
def isRef : LI → Bool
 | .sh => true | .fi => true | .me => true | .gl => true | _ => false
def sortL : LI → Int
 | .fi => 3 | .me => 4 | .gl => 5 | _ => 2
theorem nm_ltI {l : LI} (hl : isRef l = false) (x : InsM) : Nm (ltI (rKd b ν) l x) (ltI (rawKd b) l x) same := by
 cases l with
 | to => exact (CD _ _).map (fun n => { x with to := n }) fun _ _ => rfl
 | a => exact (CD _ _).map (fun n => { x with a := n }) fun _ _ => rfl
 | b => exact (CD _ _).map (fun n => { x with b := n }) fun _ _ => rfl
 | lo => exact (CD _ _).map (fun n => { x with lo := n }) fun _ _ => rfl
 | hi => exact (CD _ _).map (fun n => { x with hi := n }) fun _ _ => rfl
 | one => exact (CD _ _).map (fun n => { x with args := [n] }) fun _ _ => rfl
 | _ => cases hl
theorem nm_ltR {l : LI} (hl : isRef l = true) (x : InsM) : Nm (ltI (rKd b ν) l x) (ltI (rawKd b) l x) fun y t => ({ y with nm := (ν (sortL l) (beV y.nm) t).1 }, (ν (sortL l) (beV y.nm) t).2) := by
 cases l with
 | sh => exact (nm_ref (ν := ν) (b := b) x.nm 2).map (g := fun y t => ({ y with nm := (ν 2 (beV y.nm) t).1 }, (ν 2 (beV y.nm) t).2)) (fun n => { x with nm := n }) fun _ _ => rfl
 | fi => exact (nm_ref (ν := ν) (b := b) x.nm 3).map (g := fun y t => ({ y with nm := (ν 3 (beV y.nm) t).1 }, (ν 3 (beV y.nm) t).2)) (fun n => { x with nm := n }) fun _ _ => rfl
 | me => exact (nm_ref (ν := ν) (b := b) x.nm 4).map (g := fun y t => ({ y with nm := (ν 4 (beV y.nm) t).1 }, (ν 4 (beV y.nm) t).2)) (fun n => { x with nm := n }) fun _ _ => rfl
 | gl => exact (nm_ref (ν := ν) (b := b) x.nm 5).map (g := fun y t => ({ y with nm := (ν 5 (beV y.nm) t).1 }, (ν 5 (beV y.nm) t).2)) (fun n => { x with nm := n }) fun _ _ => rfl
 | _ => cases hl
theorem nm_pure {α : Type} (x : α) : Nm (fun s : RS τ => .ok (x, s)) (fun s : RS Unit => .ok (x, s)) same := fun s t => rfl
theorem nm_runs : ∀ (ls : List LI) (x : InsM), (∀ l ∈ ls, isRef l = false) → Nm (runs (ltI (rKd b ν)) ls x) (runs (ltI (rawKd b)) ls x) same
 | [], x, _ => nm_pure x
 | l :: r, x, h => (nm_ltI (h l (.head _)) x).bind (c2 := fun q => runs (ltI (rKd b ν)) r q.1 q.2) (d2 := fun q => runs (ltI (rawKd b)) r q.1 q.2) fun y => nm_runs r y fun m hm => h m (.tail _ hm)
theorem runs_snoc {σ α β : Type} (step : β → α → σ → Out (α × σ)) (l : β) : ∀ (ls : List β) (x : α) (s : σ), runs step (ls ++ [l]) x s = (runs step ls x s).bind fun q => step l q.1 q.2
 | [], x, s => by
   show (step l x s).bind (fun q => Out.ok (q.1, q.2)) = step l x s
   cases step l x s <;> rfl
 | m :: r, x, s => by
   show (step m x s).bind (fun q => runs step (r ++ [l]) q.1 q.2) = ((step m x s).bind fun q => runs step r q.1 q.2).bind _
   rw [Out.bind_assoc]
   congr 1
   funext q
   exact runs_snoc step l r q.1 q.2
theorem form_ref {op : Int} {ls : List LI} (h : formI op = some ls) : (refI op = false ∧ ∀ l ∈ ls, isRef l = false) ∨ (refI op = true ∧ ∃ ns l, ls = ns ++ [l] ∧ (∀ n ∈ ns, isRef n = false) ∧ isRef l = true ∧ sortL l = sortR op) := by
 have h1 := formI_some h
 simp only [opsL, List.mem_cons, List.not_mem_nil, or_false] at h1
 rcases h1 with rfl | rfl | rfl | rfl | rfl | rfl | rfl | rfl | rfl | rfl | rfl | rfl | rfl | rfl | rfl | rfl | rfl | rfl | rfl | rfl | rfl | rfl | rfl | rfl | rfl | rfl | rfl | rfl | rfl | rfl | rfl | rfl | rfl | rfl <;> cases h <;> first
  | (left; exact ⟨by decide, by decide⟩)
  | (right; refine ⟨by decide, [.a], _, rfl, by decide, by decide, by decide⟩)
  | (right; refine ⟨by decide, [.to], _, rfl, by decide, by decide, by decide⟩)
  | (right; refine ⟨by decide, [.to, .a], _, rfl, by decide, by decide, by decide⟩)
  | (right; refine ⟨by decide, [.a, .b], _, rfl, by decide, by decide, by decide⟩)
theorem nm_ins (x : InsM) : Nm (codeIns (rKd b ν) x) (codeIns (rawKd b) x) (renI ν) := by
 refine (nm_small x.op).bind fun op => ?_
 dsimp only
 cases hf : formI op with
 | none => intro s t; rfl
 | some ls =>
   intro s t
   dsimp only
   have ho : ∀ r, runs (ltI (rawKd b)) ls { x with op := op } s = .ok r → r.1.op = op := fun r hr => runs_inv (fun x : InsM => x.op) (fun l x s x' s' e => ltI_op e) ls _ _ _ _ hr
   rcases form_ref hf with ⟨h1, h2⟩ | ⟨h1, ns, l, rfl, h2, h3, h4⟩
   · rw [nm_runs ls { x with op := op } h2 s t]
     cases hr : runs (ltI (rawKd b)) ls { x with op := op } s with
     | ok r => simp only [Out.ok_bind, renI, ho r hr, h1]; rfl
     | bad => rfl
     | full => rfl
   · have := (nm_runs (b := b) (ν := ν) ns { x with op := op } h2).bind (c2 := fun q => ltI (rKd b ν) l q.1 q.2) (d2 := fun q => ltI (rawKd b) l q.1 q.2) (fun y => nm_ltR h3 y) s t
     dsimp only at this
     rw [← runs_snoc, ← runs_snoc] at this
     rw [this]
     cases hr : runs (ltI (rawKd b)) (ns ++ [l]) { x with op := op } s with
     | ok r => simp only [Out.ok_bind, renI, ho r hr, h1, h4, if_true]
     | bad => rfl
     | full => rfl
theorem nm_iter {α : Type} {c : α → RS τ → Out (α × RS τ)} {d : α → RS Unit → Out (α × RS Unit)} {f : α → τ → α × τ} (h : ∀ x, Nm (c x) (d x) f) : ∀ l : List α, Nm (iter c l) (iter d l) (acc f)
 | [] => fun s t => rfl
 | x :: r => fun s t => by
   show (c x (emb s t)).bind (fun q => (iter c r q.2).bind fun q2 => .ok (q.1 :: q2.1, q2.2)) = ((d x s).bind fun q => (iter d r q.2).bind fun q2 => .ok (q.1 :: q2.1, q2.2)).bind _
   rw [h x s t, Out.bind_assoc, Out.bind_assoc]
   cases d x s with
   | ok q =>
     simp only [Out.ok_bind]
     rw [nm_iter h r q.2 (f q.1 t).2, Out.bind_assoc, Out.bind_assoc]
     cases iter d r q.2 <;> rfl
   | bad => rfl
   | full => rfl
theorem nm_lst {α : Type} {sz : Nat} {z : α} {c : α → RS τ → Out (α × RS τ)} {d : α → RS Unit → Out (α × RS Unit)} {f : α → τ → α × τ} (h : ∀ x, Nm (c x) (d x) f) (l : List α) : Nm (lst (rKd b ν) sz z c l) (lst (rawKd b) sz z d l) (acc f) := fun s t => by
 show ((rKd b ν).num l.length sz (emb s t)).bind _ = (((rawKd b).num l.length sz s).bind _).bind _
 rw [CD, Out.bind_assoc, Out.bind_assoc]
 cases (rawKd b).num l.length sz s with
 | ok r =>
   simp only [Out.ok_bind]
   split
   · rfl
   · exact nm_iter h _ r.2 t
 | bad => rfl
 | full => rfl
theorem acc_same {α : Type} : ∀ (l : List α) (t : τ), acc same l t = (l, t)
 | [], t => rfl
 | x :: r, t => by simp only [acc, acc_same r t]
theorem nm_lstS {α : Type} {sz : Nat} {z : α} {c : α → RS τ → Out (α × RS τ)} {d : α → RS Unit → Out (α × RS Unit)} (h : ∀ x, Nm (c x) (d x) same) (l : List α) : Nm (lst (rKd b ν) sz z c l) (lst (rawKd b) sz z d l) same := by
 have := nm_lst (b := b) (ν := ν) (sz := sz) (z := z) h l
 rwa [show (acc same : List α → τ → List α × τ) = same from funext fun l => funext fun t => acc_same l t] at this
def isRefE : LJ → Bool
 | .called => true | .asked => true | _ => false
theorem nm_when (w : Bs × Int) : Nm (codeWhen (rKd b ν) w) (codeWhen (rawKd b) w) same :=
 (nm_txt w.1).bind (c2 := fun r => ((rKd b ν).num w.2 2 r.2).bind fun r2 => .ok ((r.1, r2.1), r2.2)) (d2 := fun r => ((rawKd b).num w.2 2 r.2).bind fun r2 => .ok ((r.1, r2.1), r2.2)) fun y => (CD _ _).map (fun n => (y, n)) fun _ _ => rfl
theorem nm_ltE {l : LJ} (hl : isRefE l = false) (x : EndM) : Nm (ltE (rKd b ν) l x) (ltE (rawKd b) l x) same := by
 cases l with
 | target => exact (CD _ _).map (fun n => { x with to := n }) fun _ _ => rfl
 | other => exact (CD _ _).map (fun n => { x with el := n }) fun _ _ => rfl
 | first => exact (CD _ _).map (fun n => { x with a := n }) fun _ _ => rfl
 | second => exact (CD _ _).map (fun n => { x with b := n }) fun _ _ => rfl
 | code => exact (CD _ _).map (fun n => { x with a := n }) fun _ _ => rfl
 | raised => exact (nm_txt _).map (fun n => { x with nm := n }) fun _ _ => rfl
 | given => exact (nm_lstS (c := fun n => (rKd b ν).num n 2) (d := fun n => (rawKd b).num n 2) (fun n => CD n 2) x.args).map (fun n => { x with args := n }) fun _ _ => rfl
 | handlers => exact (nm_lstS nm_when x.ws).bind (c2 := fun r => ((rKd b ν).num x.ot 2 r.2).bind fun r2 => .ok ({ x with ws := r.1, ot := r2.1 }, r2.2)) (d2 := fun r => ((rawKd b).num x.ot 2 r.2).bind fun r2 => .ok ({ x with ws := r.1, ot := r2.1 }, r2.2)) fun y => (CD _ _).map (fun n => { x with ws := y, ot := n }) fun _ _ => rfl
 | called => cases hl
 | asked => cases hl
theorem nm_runsE : ∀ (ls : List LJ) (x : EndM), (∀ l ∈ ls, isRefE l = false) → Nm (runs (ltE (rKd b ν)) ls x) (runs (ltE (rawKd b)) ls x) same
 | [], x, _ => nm_pure x
 | l :: r, x, h => (nm_ltE (h l (.head _)) x).bind (c2 := fun q => runs (ltE (rKd b ν)) r q.1 q.2) (d2 := fun q => runs (ltE (rawKd b)) r q.1 q.2) fun y => nm_runsE r y fun m hm => h m (.tail _ hm)
theorem lt_nm {σ : Type} {κ : Kd σ} {l : LJ} (h : fieldE l ≠ .nm) (x : EndM) (n : Bs) (s : σ) : ltE κ l { x with nm := n } s = (ltE κ l x s).bind fun r => .ok ({ r.1 with nm := n }, r.2) := by
 cases l with
 | raised => exact absurd rfl h
 | called => exact absurd rfl h
 | asked => exact absurd rfl h
 | handlers => simp only [ltE, Out.bind_assoc, Out.ok_bind]
 | _ => simp only [ltE, Out.bind_assoc, Out.ok_bind]
theorem runs_nm {σ : Type} {κ : Kd σ} : ∀ (ls : List LJ) (x : EndM) (n : Bs) (s : σ), (∀ l ∈ ls, fieldE l ≠ .nm) → runs (ltE κ) ls { x with nm := n } s = (runs (ltE κ) ls x s).bind fun r => .ok ({ r.1 with nm := n }, r.2)
 | [], x, n, s, _ => rfl
 | l :: r, x, n, s, h => by
   show (ltE κ l { x with nm := n } s).bind _ = ((ltE κ l x s).bind _).bind _
   rw [lt_nm (h l (.head _)), Out.bind_assoc, Out.bind_assoc]
   cases ltE κ l x s with
   | ok q => simp only [Out.ok_bind]; exact runs_nm r q.1 n q.2 fun m hm => h m (.tail _ hm)
   | bad => rfl
   | full => rfl
theorem formE_ref {kd : Int} {ls : List LJ} (h : formE kd = some ls) : (refE kd = false ∧ ∀ l ∈ ls, isRefE l = false) ∨ (kd = 5 ∧ ls = .called :: [.given, .first, .target, .handlers]) ∨ (kd = 6 ∧ ls = .asked :: [.given, .first, .target, .handlers]) := by
 rcases formE_kd h with rfl | rfl | rfl | rfl | rfl | rfl | rfl | rfl | rfl <;> cases h <;> first | (left; exact ⟨by decide, by decide⟩) | (right; left; exact ⟨rfl, rfl⟩) | (right; right; exact ⟨rfl, rfl⟩)
theorem nm_call {l : LJ} {q : Int} (hl : ∀ (σ : Type) (κ : Kd σ) (x : EndM) (s : σ), ltE κ l x s = (κ.ref x.nm q s).bind fun r => .ok ({ x with nm := r.1 }, r.2)) (x : EndM) :
 Nm (runs (ltE (rKd b ν)) (l :: [.given, .first, .target, .handlers]) x) (runs (ltE (rawKd b)) (l :: [.given, .first, .target, .handlers]) x) fun y t => ({ y with nm := (ν q (beV y.nm) t).1 }, (ν q (beV y.nm) t).2) := fun s t => by
 have hr : ∀ l ∈ [LJ.given, .first, .target, .handlers], isRefE l = false := by decide
 have hn : ∀ l ∈ [LJ.given, .first, .target, .handlers], fieldE l ≠ .nm := by decide
 generalize [LJ.given, .first, .target, .handlers] = r at *
 show (ltE (rKd b ν) l x (emb s t)).bind (fun q => runs (ltE (rKd b ν)) r q.1 q.2) = ((ltE (rawKd b) l x s).bind fun q => runs (ltE (rawKd b)) r q.1 q.2).bind _
 rw [hl, hl, nm_ref x.nm q s t]
 simp only [Out.bind_assoc, Out.ok_bind]
 cases (rawKd b).ref x.nm q s with
 | ok a =>
   simp only [Out.ok_bind]
   rw [runs_nm r x (ν q (beV a.1) t).1 _ hn, runs_nm r x a.1 a.2 hn, nm_runsE r x hr]
   simp only [Out.bind_assoc, Out.ok_bind]
 | bad => rfl
 | full => rfl
theorem nm_end (x : EndM) : Nm (codeEnd (rKd b ν) x) (codeEnd (rawKd b) x) (renE ν) := by
 refine (nm_small x.kd).bind fun kd => ?_
 dsimp only
 cases hf : formE kd with
 | none => intro s t; rfl
 | some ls =>
   intro s t
   dsimp only
   have ho : ∀ r, runs (ltE (rawKd b)) ls { x with kd := kd } s = .ok r → r.1.kd = kd := fun r hr => runs_inv (fun x : EndM => x.kd) (fun l x s x' s' e => ltE_kd e) ls _ _ _ _ hr
   rcases formE_ref hf with ⟨h1, h2⟩ | ⟨rfl, rfl⟩ | ⟨rfl, rfl⟩
   · rw [nm_runsE ls { x with kd := kd } h2 s t]
     cases hr : runs (ltE (rawKd b)) ls { x with kd := kd } s with
     | ok r => simp only [Out.ok_bind, renE, ho r hr, h1]; rfl
     | bad => rfl
     | full => rfl
   · rw [nm_call (q := 1) (fun _ _ _ _ => rfl) { x with kd := 5 } s t]
     cases hr : runs (ltE (rawKd b)) (.called :: [.given, .first, .target, .handlers]) { x with kd := 5 } s with
     | ok r => simp only [Out.ok_bind, renE, ho r hr]; rfl
     | bad => rfl
     | full => rfl
   · rw [nm_call (q := 4) (fun _ _ _ _ => rfl) { x with kd := 6 } s t]
     cases hr : runs (ltE (rawKd b)) (.asked :: [.given, .first, .target, .handlers]) { x with kd := 6 } s with
     | ok r => simp only [Out.ok_bind, renE, ho r hr]; rfl
     | bad => rfl
     | full => rfl
theorem nm_blkm (x : BlkM) : Nm (codeBlk (rKd b ν) x) (codeBlk (rawKd b) x) (renB ν) := fun s t => by
 show ((rKd b ν).blk (emb s t)).bind _ = (((rawKd b).blk s).bind _).bind _
 rw [nm_blk, Out.bind_assoc, Out.bind_assoc]
 cases (rawKd b).blk s with
 | ok s =>
   simp only [Out.ok_bind]
   rw [nm_lst (b := b) (fun x => nm_ins x) x.ins s t, Out.bind_assoc, Out.bind_assoc]
   cases lst (rawKd b) 1 ins0 (codeIns (rawKd b)) x.ins s with
   | ok r =>
     simp only [Out.ok_bind]
     rw [nm_end (fixOt x.en) r.2, Out.bind_assoc, Out.bind_assoc]
     cases codeEnd (rawKd b) (fixOt x.en) r.2 <;> rfl
   | bad => rfl
   | full => rfl
 | bad => rfl
 | full => rfl
theorem nm_flow (x : FlowM) : Nm (codeFlow (rKd b ν) x) (codeFlow (rawKd b) x) (renF ν) := by
 refine (CD _ _).bind (c2 := fun r1 => (small (rKd b ν) x.res r1.2).bind fun r2 => (lst (rKd b ν) 2 0 (small (rKd b ν)) x.regs r2.2).bind fun r3 => (lst (rKd b ν) 1 [] (rKd b ν).txt x.raises r3.2).bind fun r4 => (lst (rKd b ν) 2 blk0 (codeBlk (rKd b ν)) x.blks r4.2).bind fun r5 => .ok ({ x with ac := r1.1, res := r2.1, regs := r3.1, raises := r4.1, blks := r5.1 }, r5.2)) (d2 := fun r1 => (small (rawKd b) x.res r1.2).bind fun r2 => (lst (rawKd b) 2 0 (small (rawKd b)) x.regs r2.2).bind fun r3 => (lst (rawKd b) 1 [] (rawKd b).txt x.raises r3.2).bind fun r4 => (lst (rawKd b) 2 blk0 (codeBlk (rawKd b)) x.blks r4.2).bind fun r5 => .ok ({ x with ac := r1.1, res := r2.1, regs := r3.1, raises := r4.1, blks := r5.1 }, r5.2)) fun a => ?_
 refine (nm_small _).bind (c2 := fun r2 => (lst (rKd b ν) 2 0 (small (rKd b ν)) x.regs r2.2).bind fun r3 => (lst (rKd b ν) 1 [] (rKd b ν).txt x.raises r3.2).bind fun r4 => (lst (rKd b ν) 2 blk0 (codeBlk (rKd b ν)) x.blks r4.2).bind fun r5 => .ok ({ x with ac := a, res := r2.1, regs := r3.1, raises := r4.1, blks := r5.1 }, r5.2)) (d2 := fun r2 => (lst (rawKd b) 2 0 (small (rawKd b)) x.regs r2.2).bind fun r3 => (lst (rawKd b) 1 [] (rawKd b).txt x.raises r3.2).bind fun r4 => (lst (rawKd b) 2 blk0 (codeBlk (rawKd b)) x.blks r4.2).bind fun r5 => .ok ({ x with ac := a, res := r2.1, regs := r3.1, raises := r4.1, blks := r5.1 }, r5.2)) fun a2 => ?_
 refine (nm_lstS nm_small _).bind (c2 := fun r3 => (lst (rKd b ν) 1 [] (rKd b ν).txt x.raises r3.2).bind fun r4 => (lst (rKd b ν) 2 blk0 (codeBlk (rKd b ν)) x.blks r4.2).bind fun r5 => .ok ({ x with ac := a, res := a2, regs := r3.1, raises := r4.1, blks := r5.1 }, r5.2)) (d2 := fun r3 => (lst (rawKd b) 1 [] (rawKd b).txt x.raises r3.2).bind fun r4 => (lst (rawKd b) 2 blk0 (codeBlk (rawKd b)) x.blks r4.2).bind fun r5 => .ok ({ x with ac := a, res := a2, regs := r3.1, raises := r4.1, blks := r5.1 }, r5.2)) fun a3 => ?_
 refine (nm_lstS nm_txt _).bind (c2 := fun r4 => (lst (rKd b ν) 2 blk0 (codeBlk (rKd b ν)) x.blks r4.2).bind fun r5 => .ok ({ x with ac := a, res := a2, regs := a3, raises := r4.1, blks := r5.1 }, r5.2)) (d2 := fun r4 => (lst (rawKd b) 2 blk0 (codeBlk (rawKd b)) x.blks r4.2).bind fun r5 => .ok ({ x with ac := a, res := a2, regs := a3, raises := r4.1, blks := r5.1 }, r5.2)) fun a4 => ?_
 exact (nm_lst nm_blkm x.blks).map (g := renF ν) (fun bl => { x with ac := a, res := a2, regs := a3, raises := a4, blks := bl }) fun _ _ => rfl
structure Roomy (s : RS Unit) : Prop where
 p : s.places.length ≤ s.read
 k : s.blocks.length ≤ s.read
 b : s.read ≤ b.length
def NF {α : Type} (o : Out (α × RS Unit)) : Prop := o ≠ .full ∧ ∀ x s', o = .ok (x, s') → Roomy (b := b) s'
theorem nf_num (n : Int) (sz : Nat) {s : RS Unit} (h : Roomy (b := b) s) : NF (b := b) ((rawKd b).num n sz s) := by
 obtain ⟨h1, h2, h3⟩ := h
 simp only [rKd]
 split
 · exact ⟨by simp, fun x s' e => by cases e; exact ⟨by simp; omega, by simp; omega, by simp; omega⟩⟩
 · exact ⟨by simp, fun x s' e => by cases e⟩
theorem nf_txt (n : Bs) {s : RS Unit} (h : Roomy (b := b) s) : NF (b := b) ((rawKd b).txt n s) := by
 obtain ⟨h1, h2, h3⟩ := h
 simp only [rKd]
 split
 · split
   · exact ⟨by simp, fun x s' e => by cases e; exact ⟨by simp; omega, by simp; omega, by simp; omega⟩⟩
   · exact ⟨by simp, fun x s' e => by cases e⟩
 · exact ⟨by simp, fun x s' e => by cases e⟩
theorem NF.bind {α β : Type} {o : Out (α × RS Unit)} (h : NF (b := b) o) {d : α × RS Unit → Out (β × RS Unit)} (h2 : ∀ r, Roomy (b := b) r.2 → NF (b := b) (d r)) : NF (b := b) (o.bind d) := by
 cases o with
 | ok r => exact h2 r (h.2 r.1 r.2 rfl)
 | bad => exact ⟨by simp [Out.bind], fun x s' e => by cases e⟩
 | full => exact absurd rfl h.1
theorem NF.ok {α : Type} {x : α} {s : RS Unit} (h : Roomy (b := b) s) : NF (b := b) (.ok (x, s)) := ⟨by simp, fun y s' e => by cases e; exact h⟩
theorem NF.bad {α : Type} : NF (b := b) (.bad : Out (α × RS Unit)) := ⟨by simp, fun y s' e => by cases e⟩
theorem nf_ref (hb : b.length ≤ 65535) (n : Bs) (q : Int) {s : RS Unit} (h : Roomy (b := b) s) : NF (b := b) ((rawKd b).ref n q s) := by
 obtain ⟨h1, h2, h3⟩ := h
 simp only [rKd]
 rw [if_pos (show s.places.length < 1099511627776 by omega)]
 split
 · exact ⟨by simp, fun x s' e => by cases e; exact ⟨by simp; omega, by simp; omega, by simp; omega⟩⟩
 · exact ⟨by simp, fun x s' e => by cases e⟩
section
variable {s : RS Unit}
theorem nf_small (p : Int) (h : Roomy (b := b) s) : NF (b := b) (small (rawKd b) p s) := (nf_num p 1 h).bind fun r hr => NF.ok hr
theorem nf_ltI (hb : b.length ≤ 65535) (l : LI) (x : InsM) (h : Roomy (b := b) s) : NF (b := b) (ltI (rawKd b) l x s) := by
 cases l <;> unfold ltI <;> first | exact (nf_num _ _ h).bind fun r hr => NF.ok hr | exact (nf_ref hb _ _ h).bind fun r hr => NF.ok hr
end
theorem nf_runs {α β : Type} {step : β → α → RS Unit → Out (α × RS Unit)} (h : ∀ l x s, Roomy (b := b) s → NF (b := b) (step l x s)) : ∀ (ls : List β) (x : α) (s : RS Unit), Roomy (b := b) s → NF (b := b) (runs step ls x s)
 | [], x, s, hs => NF.ok hs
 | l :: r, x, s, hs => (h l x s hs).bind fun q hq => nf_runs h r q.1 q.2 hq
theorem nf_ins (hb : b.length ≤ 65535) (x : InsM) (s : RS Unit) (h : Roomy (b := b) s) : NF (b := b) (codeIns (rawKd b) x s) := (nf_small x.op h).bind fun r hr => by
 cases formI r.1 with
 | none => exact NF.bad
 | some ls => exact nf_runs (fun l x s => nf_ltI hb l x) ls _ _ hr
theorem nf_iter {α : Type} {step : α → RS Unit → Out (α × RS Unit)} (h : ∀ x s, Roomy (b := b) s → NF (b := b) (step x s)) : ∀ (l : List α) (s : RS Unit), Roomy (b := b) s → NF (b := b) (iter step l s)
 | [], s, hs => NF.ok hs
 | x :: r, s, hs => (h x s hs).bind fun q hq => (nf_iter h r q.2 hq).bind fun q2 hq2 => NF.ok hq2
theorem nf_lst {α : Type} {sz : Nat} {z : α} {step : α → RS Unit → Out (α × RS Unit)} (h : ∀ x s, Roomy (b := b) s → NF (b := b) (step x s)) (l : List α) {s : RS Unit} (hs : Roomy (b := b) s) : NF (b := b) (lst (rawKd b) sz z step l s) := (nf_num _ sz hs).bind fun r hr => by
 split
 · exact NF.bad
 · exact nf_iter h _ _ hr
theorem nf_when (w : Bs × Int) (s : RS Unit) (h : Roomy (b := b) s) : NF (b := b) (codeWhen (rawKd b) w s) := (nf_txt w.1 h).bind fun r hr => (nf_num _ _ hr).bind fun r2 hr2 => NF.ok hr2
theorem nf_ltE (hb : b.length ≤ 65535) (l : LJ) (x : EndM) (s : RS Unit) (h : Roomy (b := b) s) : NF (b := b) (ltE (rawKd b) l x s) := by
 cases l <;> unfold ltE <;> first
  | exact (nf_num _ _ h).bind fun r hr => NF.ok hr
  | exact (nf_ref hb _ _ h).bind fun r hr => NF.ok hr
  | exact (nf_txt _ h).bind fun r hr => NF.ok hr
  | exact (nf_lst (fun n s hs => nf_num n 2 hs) x.args h).bind fun r hr => NF.ok hr
  | exact (nf_lst nf_when x.ws h).bind fun r hr => (nf_num _ _ hr).bind fun r2 hr2 => NF.ok hr2
theorem nf_end (hb : b.length ≤ 65535) (x : EndM) (s : RS Unit) (h : Roomy (b := b) s) : NF (b := b) (codeEnd (rawKd b) x s) := (nf_small x.kd h).bind fun r hr => by
 cases formE r.1 with
 | none => exact NF.bad
 | some ls => exact nf_runs (fun l x s => nf_ltE hb l x s) ls _ _ hr
theorem nf_blkm (hb : b.length ≤ 65535) (x : BlkM) (s : RS Unit) (h : Roomy (b := b) s) : NF (b := b) (codeBlk (rawKd b) x s) := by
 obtain ⟨h1, h2, h3⟩ := h
 unfold codeBlk
 rw [show (rawKd b).blk s = .ok { s with blocks := s.blocks ++ [(s.read : Int)] } by simp only [rKd]; rw [if_pos (show s.blocks.length < 1099511627776 by omega)]]
 simp only [Out.ok_bind]
 by_cases hr : s.read + 1 ≤ b.length
 · have hR : Roomy (b := b) { s with blocks := s.blocks ++ [(s.read : Int)], read := s.read + 1 } := ⟨by simp; omega, by simp; omega, hr⟩
   refine NF.bind ?_ fun r hr => (nf_end hb _ _ hr).bind fun r2 hr2 => NF.ok hr2
   unfold lst
   rw [show (rawKd b).num x.ins.length 1 { s with blocks := s.blocks ++ [(s.read : Int)] } = .ok (numV 1 (beV ((b.drop s.read).take 1)), { s with blocks := s.blocks ++ [(s.read : Int)], read := s.read + 1 }) by simp only [rKd]; rw [if_pos hr]]
   simp only [Out.ok_bind]
   split
   · exact NF.bad
   · exact nf_iter (nf_ins hb) _ _ hR
 · unfold lst
   rw [show (rawKd b).num x.ins.length 1 { s with blocks := s.blocks ++ [(s.read : Int)] } = .bad by simp only [rKd]; rw [if_neg hr]]
   exact ⟨by simp [Out.bind], fun y s' e => by cases e⟩
theorem nf_flow (hb : b.length ≤ 65535) (x : FlowM) (s : RS Unit) (h : Roomy (b := b) s) : NF (b := b) (codeFlow (rawKd b) x s) :=
 (nf_num _ _ h).bind fun _ h => (nf_small _ h).bind fun _ h => (nf_lst (fun n s h => nf_small n h) _ h).bind fun _ h => (nf_lst (fun n s h => nf_txt n h) _ h).bind fun _ h => (nf_lst (nf_blkm hb) _ h).bind fun _ h => NF.ok h
def rs0 {τ : Type} (t : τ) : RS τ := ⟨0, [], [], t⟩
theorem flow_nf (hb : b.length ≤ 65535) (t : τ) : codeFlow (rKd b ν) flow0 (rs0 t) ≠ .full := by
 rw [show (rs0 t : RS τ) = emb (rs0 ()) t from rfl, nm_flow flow0 (rs0 ()) t]
 have := (nf_flow hb flow0 (rs0 ()) ⟨Nat.zero_le _, Nat.zero_le _, Nat.zero_le _⟩).1
 cases h : codeFlow (rawKd b) flow0 (rs0 ()) with
 | ok r => simp [Out.bind]
 | bad => simp [Out.bind]
 | full => exact absurd h this
end
end Go.Sl
namespace Go.Sl
abbrev Plc := Int × Int × Bs
def pl : List Seg → Nat → List Plc
 | [], _ => []
 | .lit b :: r, n => pl r (n + b.length)
 | .ref q nm :: r, n => ((n : Int), q, nm) :: pl r (n + 2)
 | .blk :: r, n => pl r n
def bkp : List Seg → Nat → List Int
 | [], _ => []
 | .lit b :: r, n => bkp r (n + b.length)
 | .ref _ _ :: r, n => bkp r (n + 2)
 | .blk :: r, n => (n : Int) :: bkp r n
def out1 : Seg → Bs
 | .lit b => b
 | .ref _ _ => be 2 0
 | .blk => []
def out (l : List Seg) : Bs := l.flatMap out1
theorem out_cons (a : Seg) (l : List Seg) : out (a :: l) = out1 a ++ out l := rfl
theorem out_app (l m : List Seg) : out (l ++ m) = out l ++ out m := List.flatMap_append
theorem puts_eq : ∀ (l : List Seg) (s : WS), puts l s = ⟨s.bytes ++ out l, s.places ++ pl l s.bytes.length, s.blocks ++ bkp l s.bytes.length⟩
 | [], s => by simp [puts, out, pl, bkp]
 | a :: l, s => by
   rw [puts_cons, puts_eq l]
   cases a <;> simp [put1, out, out1, pl, bkp, Cp]
def noNm (p : Plc) : Plc := (p.1, p.2.1, [])
theorem adv_eq : ∀ (l : List Seg) (s : RS Unit), adv l s = ⟨s.read + (out l).length, s.places ++ (pl l s.read).map noNm, s.blocks ++ bkp l s.read, ()⟩
 | [], s => by simp [adv, out, pl, bkp]
 | a :: l, s => by
   show adv l (adv1 s a) = _
   rw [adv_eq l]
   cases a <;> simp [adv1, out, out1, pl, bkp, Cp, noNm] <;> omega
theorem layF_eq (f : FlowM) : layF f = ⟨out (sgFlow f), pl (sgFlow f) 0, bkp (sgFlow f) 0⟩ := by
 unfold layF; rw [puts_eq]; simp [ws0]
theorem pl_app : ∀ (l m : List Seg) (n : Nat), pl (l ++ m) n = pl l n ++ pl m (n + (out l).length)
 | [], m, n => by simp [pl, out]
 | a :: l, m, n => by
   cases a <;> simp [pl, out_cons, out1, Cp, pl_app l m] <;> (congr 1; omega)
theorem CQ : ∀ (l m : List Seg) (n : Nat), bkp (l ++ m) n = bkp l n ++ bkp m (n + (out l).length)
 | [], m, n => by simp [bkp, out]
 | a :: l, m, n => by
   cases a <;> simp [bkp, out_cons, out1, Cp, CQ l m] <;> (congr 1; omega)
def sk : Seg → Seg
 | .ref q _ => .ref q []
 | s => s
theorem sk_out : ∀ (l m : List Seg), l.map sk = m.map sk → out l = out m
 | [], [], _ => rfl
 | [], b :: m, h => by simp at h
 | a :: l, [], h => by simp at h
 | a :: l, b :: m, h => by
   simp only [List.map_cons, List.cons.injEq] at h
   obtain ⟨h, h2⟩ := h
   rw [out_cons, out_cons, sk_out l m h2]
   congr 1
   cases a <;> cases b <;> simp [sk] at h <;> simp [out1, *]
def litI (x : InsM) : List Seg := sgN 1 x.op ++ (((formI x.op).getD []).filter fun l => !isRef l).flatMap fun l => sgLI l x
theorem sgLI_ref {l : LI} (h : isRef l = true) (x : InsM) : sgLI l x = [.ref (sortL l) x.nm] := by cases l <;> first | rfl | cases h
theorem refI_none {op : Int} (h : formI op = none) : refI op = false := by
 have : op ∉ opsL := by
  intro hm
  simp only [opsL, List.mem_cons, List.not_mem_nil, or_false] at hm
  rcases hm with rfl | rfl | rfl | rfl | rfl | rfl | rfl | rfl | rfl | rfl | rfl | rfl | rfl | rfl | rfl | rfl | rfl | rfl | rfl | rfl | rfl | rfl | rfl | rfl | rfl | rfl | rfl | rfl | rfl | rfl | rfl | rfl | rfl | rfl <;> cases h
 unfold refI
 rw [formR_nil this]; rfl
theorem sgIns_nf (x : InsM) : sgIns x = litI x ++ if refI x.op then [.ref (sortR x.op) x.nm] else [] := by
 unfold sgIns litI
 cases hf : formI x.op with
 | none => simp [refI_none hf]
 | some ls =>
   simp only [Option.getD_some]
   rcases form_ref hf with ⟨h1, h2⟩ | ⟨h1, ns, l, rfl, h2, h3, h4⟩
   · rw [h1, List.filter_eq_self.2 fun l hl => by simp [h2 l hl]]; simp
   · rw [h1, List.filter_append, List.filter_eq_self.2 fun l hl => by simp [h2 l hl]]
     simp [h3, sgLI_ref h3, h4]
theorem sgLI_nm {l : LI} (h : isRef l = false) (x : InsM) (n : Bs) : sgLI l { x with nm := n } = sgLI l x := by cases l <;> first | rfl | cases h
theorem litI_nm (x : InsM) (n : Bs) : litI { x with nm := n } = litI x := by
 unfold litI
 congr 1
 simp only [List.flatMap_def]
 congr 1
 exact List.map_congr_left fun l hl => sgLI_nm (by simpa using (List.mem_filter.1 hl).2) x n
def Lits (l : List Seg) : Prop := ∀ s ∈ l, ∃ b, s = .lit b
theorem lits_pl : ∀ (l : List Seg) (n : Nat), Lits l → pl l n = []
 | [], _, _ => rfl
 | a :: l, n, h => by
   obtain ⟨b, rfl⟩ := h a (.head _)
   exact lits_pl l _ fun s hs => h s (.tail _ hs)
theorem lits_litI (x : InsM) : Lits (litI x) := by
 intro s hs
 simp only [litI, sgN, List.mem_append, List.mem_cons, List.not_mem_nil, or_false, List.mem_flatMap, List.mem_filter] at hs
 rcases hs with rfl | ⟨l, ⟨_, hl⟩, hs⟩
 · exact ⟨_, rfl⟩
 · cases l <;> simp [isRef] at hl <;> simp only [sgLI, sgN, List.mem_cons, List.not_mem_nil, or_false] at hs <;> exact ⟨_, hs⟩
def sortE (kd : Int) : Int := if kd = 5 then 1 else 4
def litE (x : EndM) : List Seg := (((formE x.kd).getD []).filter fun l => !isRefE l).flatMap fun l => sgLJ l x
theorem refE_none {kd : Int} (h : formE kd = none) : refE kd = false := by
 unfold refE
 have h5 : kd ≠ 5 := by rintro rfl; cases h
 have h6 : kd ≠ 6 := by rintro rfl; cases h
 simp [h5, h6]
theorem sgEnd_nf (x : EndM) : sgEnd x = sgN 1 x.kd ++ ((if refE x.kd then [.ref (sortE x.kd) x.nm] else []) ++ litE x) := by
 unfold sgEnd litE
 cases hf : formE x.kd with
 | none => simp [refE_none hf]
 | some ls =>
   simp only [Option.getD_some]
   rcases formE_ref hf with ⟨h1, h2⟩ | ⟨h1, rfl⟩ | ⟨h1, rfl⟩
   · rw [h1, List.filter_eq_self.2 fun l hl => by simp [h2 l hl]]; simp
   · rw [h1]; simp [refE, sortE, isRefE, List.filter, sgLJ]
   · rw [h1]; simp [refE, sortE, isRefE, List.filter, sgLJ]
theorem litE_nm (x : EndM) (n : Bs) (h : refE x.kd = true) : litE { x with nm := n } = litE x := by
 unfold litE
 have : x.kd = 5 ∨ x.kd = 6 := by simpa [refE] using h
 dsimp only
 rcases this with e | e <;> rw [e] <;> simp [formE, isRefE, List.filter, sgLJ]
theorem lits_app {l m : List Seg} (h : Lits l) (h2 : Lits m) : Lits (l ++ m) := fun s hs => (List.mem_append.1 hs).elim (h s) (h2 s)
theorem lits_flat {α : Type} {g : α → List Seg} (h : ∀ x, Lits (g x)) (l : List α) : Lits (l.flatMap g) := fun s hs => by
 obtain ⟨x, _, hx⟩ := List.mem_flatMap.1 hs
 exact h x s hx
theorem Cm (sz : Nat) (n : Int) : Lits (sgN sz n) := fun s hs => ⟨_, by simpa [sgN] using hs⟩
theorem lits_T (t : Bs) : Lits (sgT t) := fun s hs => ⟨_, by simpa [sgT] using hs⟩
theorem lits_L {α : Type} {sz : Nat} {g : α → List Seg} (h : ∀ x, Lits (g x)) (l : List α) : Lits (sgL sz g l) := lits_app (Cm _ _) (lits_flat h l)
theorem lits_litE (x : EndM) : Lits (litE x) := by
 intro s hs
 obtain ⟨l, hl, hs⟩ := List.mem_flatMap.1 hs
 have hl := (List.mem_filter.1 hl).2
 cases l <;> first
  | exact Cm _ _ s hs
  | exact lits_T _ s hs
  | exact lits_L (fun n => Cm 2 n) _ s hs
  | exact lits_app (lits_L (fun w => lits_app (lits_T _) (Cm _ _)) _) (Cm _ _) s hs
  | simp [isRefE] at hl
section
variable {τ : Type} (ν : Int → Int → τ → Bs × τ)
def plR (p : Plc) (t : τ) : Plc × τ := ((p.1, p.2.1, (ν p.2.1 (beV p.2.2) t).1), (ν p.2.1 (beV p.2.2) t).2)
structure Ren (l m : List Seg) (t t' : τ) : Prop where
 sk : m.map sk = l.map sk
 pl : ∀ n, acc (plR ν) (pl l n) t = (pl m n, t')
variable {ν}
theorem acc_app {α : Type} (f : α → τ → α × τ) : ∀ (l m : List α) (t : τ), acc f (l ++ m) t = ((acc f l t).1 ++ (acc f m (acc f l t).2).1, (acc f m (acc f l t).2).2)
 | [], m, t => rfl
 | a :: l, m, t => by simp [acc, acc_app f l m]
theorem Ren.app {l m l2 m2 : List Seg} {t t' t2 : τ} (h : Ren ν l m t t') (h2 : Ren ν l2 m2 t' t2) : Ren ν (l ++ l2) (m ++ m2) t t2 := by
 refine ⟨by rw [List.map_append, List.map_append, h.sk, h2.sk], fun n => ?_⟩
 rw [pl_app, pl_app, acc_app, h.pl, h2.pl, sk_out _ _ h.sk]
theorem Ren.lits {l : List Seg} (h : Lits l) (t : τ) : Ren ν l l t t := ⟨rfl, fun n => by rw [lits_pl l n h]; rfl⟩
theorem ren_ins (x : InsM) (t : τ) : Ren ν (sgIns x) (sgIns (renI ν x t).1) t (renI ν x t).2 := by
 rw [sgIns_nf, sgIns_nf]
 unfold renI
 by_cases h : refI x.op = true
 · simp only [h, if_true, litI_nm]
   refine Ren.app (Ren.lits (lits_litI x) t) ⟨rfl, fun n => rfl⟩
 · simp only [h, if_false, Bool.false_eq_true, List.append_nil]
   exact Ren.lits (lits_litI x) t
theorem ren_end (x : EndM) (t : τ) : Ren ν (sgEnd x) (sgEnd (renE ν x t).1) t (renE ν x t).2 := by
 rw [sgEnd_nf, sgEnd_nf]
 unfold renE
 by_cases h : refE x.kd = true
 · simp only [h, if_true, litE_nm x _ h]
   exact Ren.app (Ren.lits (Cm _ _) t) (Ren.app (t' := (ν (if x.kd = 5 then 1 else 4) (beV x.nm) t).2) ⟨rfl, fun n => rfl⟩ (Ren.lits (lits_litE x) _))
 · simp only [h, if_false, Bool.false_eq_true, List.nil_append]
   exact Ren.lits (lits_app (Cm _ _) (lits_litE x)) t
theorem acc_len {α : Type} (f : α → τ → α × τ) : ∀ (l : List α) (t : τ), (acc f l t).1.length = l.length
 | [], _ => rfl
 | a :: l, t => by simp [acc, acc_len f l]
theorem ren_list {α : Type} {g : α → List Seg} {f : α → τ → α × τ} (h : ∀ x t, Ren ν (g x) (g (f x t).1) t (f x t).2) : ∀ (l : List α) (t : τ), Ren ν (l.flatMap g) ((acc f l t).1.flatMap g) t (acc f l t).2
 | [], t => ⟨rfl, fun n => rfl⟩
 | a :: l, t => (h a t).app (ren_list h l (f a t).2)
theorem ren_L {α : Type} {sz : Nat} {g : α → List Seg} {f : α → τ → α × τ} (h : ∀ x t, Ren ν (g x) (g (f x t).1) t (f x t).2) (l : List α) (t : τ) : Ren ν (sgL sz g l) (sgL sz g (acc f l t).1) t (acc f l t).2 := by
 unfold sgL
 rw [acc_len]
 exact (Ren.lits (Cm _ _) t).app (ren_list h l t)
theorem ren_blk (x : BlkM) (t : τ) : Ren ν (sgBlk x) (sgBlk (renB ν x t).1) t (renB ν x t).2 :=
 Ren.app (l := [.blk]) (m := [.blk]) ⟨rfl, fun n => rfl⟩ ((ren_L (fun x t => ren_ins x t) x.ins t).app (ren_end x.en _))
theorem ren_flow (x : FlowM) (t : τ) : Ren ν (sgFlow x) (sgFlow (renF ν x t).1) t (renF ν x t).2 :=
 (Ren.lits (Cm _ _) t).app ((Ren.lits (Cm _ _) t).app ((Ren.lits (lits_L (fun r => Cm 1 r) _) t).app ((Ren.lits (lits_L lits_T _) t).app (ren_L (fun b t => ren_blk b t) x.blks t))))
theorem dmI_ren (x : InsM) (t : τ) : dmI (renI ν x t).1 = dmI x := by
 unfold renI
 by_cases h : refI x.op = true
 · simp [dmI, h]
 · simp [h]
theorem dmE_ren (x : EndM) (t : τ) : dmE (renE ν x t).1 = dmE x := by
 unfold renE
 by_cases h : refE x.kd = true
 · simp [dmE, h]
 · simp [h]
theorem acc_map {α β : Type} (f : α → τ → α × τ) (g : α → β) (h : ∀ x t, g (f x t).1 = g x) : ∀ (l : List α) (t : τ), (acc f l t).1.map g = l.map g
 | [], _ => rfl
 | a :: l, t => by simp [acc, h, acc_map f g h l]
theorem dmB_ren (x : BlkM) (t : τ) : dmB (renB ν x t).1 = dmB x := by
 simp only [dmB, renB, dmE_ren, acc_map (renI ν) dmI dmI_ren]
theorem dmF_ren (x : FlowM) (t : τ) : dmF (renF ν x t).1 = dmF x := by
 simp only [dmF, renF, acc_map (renB ν) dmB dmB_ren]
end
def nmsOf (l : List Seg) : List Bs := (pl l 0).map (·.2.2)
theorem pl_nms : ∀ (l : List Seg) (n : Nat), (pl l n).map (·.2.2) = nmsOf l := by
 intro l
 unfold nmsOf
 suffices h : ∀ (l : List Seg) (n m : Nat), (pl l n).map (·.2.2) = (pl l m).map (·.2.2) from fun n => h l n 0
 intro l
 induction l with
 | nil => intros; rfl
 | cons a l ih => intro n m; cases a <;> simp [pl, ih _ (m + _)] <;> exact ih _ _
theorem Cr (l m : List Seg) : nmsOf (l ++ m) = nmsOf l ++ nmsOf m := by
 unfold nmsOf; rw [pl_app, List.map_append, pl_nms m]; rfl
theorem CL {l : List Seg} (h : Lits l) : nmsOf l = [] := by unfold nmsOf; rw [lits_pl l 0 h]; rfl
theorem nms_L {α : Type} {sz : Nat} {g : α → List Seg} (l : List α) : nmsOf (sgL sz g l) = nmsOf (l.flatMap g) := by
 unfold sgL; rw [Cr, CL (Cm _ _)]; rfl
theorem nms_blk (x : BlkM) : nmsOf (sgBlk x) = nmsOf (x.ins.flatMap sgIns) ++ nmsOf (sgEnd x.en) := by
 unfold sgBlk
 rw [show (Seg.blk :: (sgL 1 sgIns x.ins ++ sgEnd x.en)) = [Seg.blk] ++ (sgL 1 sgIns x.ins ++ sgEnd x.en) from rfl, Cr, Cr, nms_L]
 rfl
theorem nms_flow (x : FlowM) : nmsOf (sgFlow x) = nmsOf (x.blks.flatMap sgBlk) := by
 unfold sgFlow
 rw [Cr, Cr, Cr, Cr, CL (Cm _ _), CL (Cm _ _), CL (lits_L (fun r => Cm 1 r) _), CL (lits_L lits_T _), nms_L]
 rfl
def patch1 (b a : Bs) (n : Nat) : Bs := a.take n ++ ((b.drop n).take 2 ++ a.drop (n + 2))
theorem patch_raw (b : Bs) : ∀ (l : List Seg) (A B : Bs), b = A ++ (rawOf l ++ B) → (∀ p ∈ pl l 0, p.2.2.length = 2) → (pl l A.length).foldl (fun a p => patch1 b a p.1.toNat) (A ++ out l) = A ++ rawOf l
 | [], A, B, h, _ => by simp [pl, out, rawOf]
 | .lit x :: l, A, B, h, hl => by
   have := patch_raw b l (A ++ x) B (by rw [h]; simp [rawOf, rawOf1]) (by
    intro p hp
    have hm : p.2.2 ∈ nmsOf l := List.mem_map_of_mem hp
    rw [← pl_nms l (0 + x.length)] at hm
    obtain ⟨p', hp', e⟩ := List.mem_map.1 hm
    rw [← e]
    exact hl p' hp')
   simpa [pl, out, out1, rawOf, rawOf1] using this
 | .blk :: l, A, B, h, hl => by
   have := patch_raw b l A B (by rw [h]; simp [rawOf, rawOf1]) hl
   simpa [pl, out, out1, rawOf, rawOf1] using this
 | .ref q nm :: l, A, B, h, hl => by
   have h2 : nm.length = 2 := hl (((0 : Nat) : Int), q, nm) (.head _)
   have := patch_raw b l (A ++ nm) B (by rw [h]; simp [rawOf, rawOf1]) (by
    intro p hp
    have hm : p.2.2 ∈ nmsOf l := List.mem_map_of_mem hp
    rw [← pl_nms l (0 + 2)] at hm
    obtain ⟨p', hp', e⟩ := List.mem_map.1 hm
    rw [← e]
    exact hl p' (.tail _ hp'))
   have h3 : patch1 b (A ++ (be 2 0 ++ out l)) A.length = A ++ (nm ++ out l) := by
    unfold patch1
    have e0 : be 2 0 = [0, 0] := by rw [be2]; rfl
    rw [h, e0]
    simp only [rawOf, rawOf1, List.flatMap_cons]
    rw [List.take_append_of_le_length Y26, List.take_length, List.drop_append_of_le_length Y26, List.drop_length]
    obtain ⟨x0, x1, rfl⟩ := len_two h2
    simp [List.append_assoc]
   show (pl l (A.length + 2)).foldl (fun a p => patch1 b a p.1.toNat) (patch1 b (A ++ (be 2 0 ++ out l)) ((A.length : Int)).toNat) = _
   rw [Int.toNat_natCast, h3]
   simpa [rawOf, rawOf1, h2] using this
end Go.Sl
namespace Go.Sl
theorem ins_split (n : Int) (x : InsM) : insR n x = (insR n (dmI x) && (nmsOf (sgIns x)).all symOk) := by
 rw [sgIns_nf, Cr, CL (lits_litI x)]
 by_cases h : refI x.op = true
 · have h2 : has (formR x.op) 110 = true := h
   have h3 : symOk dmy = true := by decide
   have h4 : nmsOf [Seg.ref (sortR x.op) x.nm] = [x.nm] := rfl
   rw [if_pos h, h4]
   unfold insR dmI
   rw [if_pos h]
   simp only [h2, h3, List.nil_append, List.all_cons, List.all_nil, Bool.and_true, Bool.not_true, Bool.and_false, Bool.or_false, Bool.false_and, Bool.true_and]
   cases symOk x.nm <;> simp
 · have h2 : dmI x = x := by unfold dmI; rw [if_neg h]
   have h4 : nmsOf ([] : List Seg) = [] := rfl
   rw [if_neg h, h2, h4]; simp
theorem end_split (n nb : Int) (x : EndM) : endR n nb x = (endR n nb (dmE x) && (nmsOf (sgEnd x)).all symOk) := by
 rw [sgEnd_nf, Cr, Cr, CL (Cm _ _), CL (lits_litE x)]
 by_cases h : refE x.kd = true
 · have h3 : symOk dmy = true := by decide
   have h4 : nmsOf [Seg.ref (sortE x.kd) x.nm] = [x.nm] := rfl
   have h5 : has (formEnd x.kd) 114 = true := by
    have : x.kd = 5 ∨ x.kd = 6 := by simpa [refE] using h
    rcases this with e | e <;> rw [e] <;> decide
   rw [if_pos h, h4]
   unfold endR dmE
   rw [if_pos h]
   simp only [h5, h3, List.nil_append, List.append_nil, List.all_cons, List.all_nil, Bool.and_true, Bool.not_true, Bool.and_false, Bool.or_false, Bool.false_and, Bool.true_and, Bool.or_true, Bool.false_or, handlersR]
   cases symOk x.nm <;> simp
 · have h2 : dmE x = x := by unfold dmE; rw [if_neg h]
   have h4 : nmsOf ([] : List Seg) = [] := rfl
   rw [if_neg h, h2, h4]; simp
theorem all_split {α β : Type} {p : α → Bool} {q : β → Bool} {d : α → β} {g : α → List Seg} (h : ∀ x, p x = (q (d x) && (nmsOf (g x)).all symOk)) : ∀ l : List α, l.all p = ((l.map d).all q && (nmsOf (l.flatMap g)).all symOk)
 | [] => rfl
 | x :: l => by
   rw [List.flatMap_cons, Cr, List.all_cons, all_split h l, h x, List.map_cons, List.all_cons, List.all_append]
   cases q (d x) <;> cases (nmsOf (g x)).all symOk <;> cases (l.map d).all q <;> simp
theorem blk_split (n nb : Int) (b : BlkM) : blkOk n nb b = (blkOk n nb (dmB b) && (nmsOf (sgBlk b)).all symOk) := by
 unfold blkOk
 rw [nms_blk, all_split (ins_split n) b.ins, end_split n nb b.en, List.all_append]
 simp only [dmB, List.length_map]
 cases endR n nb (dmE b.en) <;> cases (nmsOf (sgEnd b.en)).all symOk <;> cases (nmsOf (b.ins.flatMap sgIns)).all symOk <;> simp
theorem snd_split (f : FlowM) : sndOk f = (sndOk (dmF f) && (nmsOf (sgFlow f)).all symOk) := by
 unfold sndOk
 rw [nms_flow, all_split (blk_split f.regs.length f.blks.length) f.blks]
 simp only [dmF, List.length_map, Bool.and_assoc]
 rfl
def rawRead (b : Bs) : Out (FlowM × RS Unit) := codeFlow (rawKd b) flow0 (rs0 ())
def decP (b : Bs) : Option (FlowM × RS Unit) := if 20000 < b.length then none else match rawRead b with
 | .ok r => if r.2.read = b.length ∧ r.2.places.length ≤ 500 then some r else none
 | _ => none
def codeP (b : Bs) : Option FlowM := match decP b with
 | some r => if sndOk (dmF r.1) then some r.1 else none
 | none => none
structure GoodF (f : FlowM) (b : Bs) : Prop where
 nm : f.nm = []
 two : ∀ n ∈ nmsOf (sgFlow f), n.length = 2
 res : 0 ≤ f.res
 snd : sndOk (dmF f) = true
 raw : rawOf (sgFlow f) = b
 len : b.length ≤ 20000
 pls : (pl (sgFlow f) 0).length ≤ 500
theorem mem_nmsI {f : FlowM} {b : BlkM} (hb : b ∈ f.blks) {x : InsM} (hx : x ∈ b.ins) (h : refI x.op = true) : x.nm ∈ nmsOf (sgFlow f) := by
 rw [nms_flow]
 have h1 : ∀ (l : List BlkM), b ∈ l → x.nm ∈ nmsOf (l.flatMap sgBlk) := by
  intro l
  induction l with
  | nil => intro h; exact (List.not_mem_nil h).elim
  | cons c l ih =>
    intro hm
    rw [List.flatMap_cons, Cr, List.mem_append]
    rcases List.mem_cons.1 hm with rfl | hm
    · left
      rw [nms_blk, List.mem_append]
      left
      have h2 : ∀ (l : List InsM), x ∈ l → x.nm ∈ nmsOf (l.flatMap sgIns) := by
       intro l
       induction l with
       | nil => intro h; exact (List.not_mem_nil h).elim
       | cons c l ih =>
         intro hm
         rw [List.flatMap_cons, Cr, List.mem_append]
         rcases List.mem_cons.1 hm with rfl | hm
         · left
           rw [sgIns_nf, Cr, CL (lits_litI x), if_pos h]
           exact .head _
         · right; exact ih hm
      exact h2 _ hx
    · right; exact ih hm
 exact h1 _ hb
theorem mem_nmsE {f : FlowM} {b : BlkM} (hb : b ∈ f.blks) (h : refE b.en.kd = true) : b.en.nm ∈ nmsOf (sgFlow f) := by
 rw [nms_flow]
 have h1 : ∀ (l : List BlkM), b ∈ l → b.en.nm ∈ nmsOf (l.flatMap sgBlk) := by
  intro l
  induction l with
  | nil => intro h; exact (List.not_mem_nil h).elim
  | cons c l ih =>
    intro hm
    rw [List.flatMap_cons, Cr, List.mem_append]
    rcases List.mem_cons.1 hm with rfl | hm
    · left
      rw [nms_blk, List.mem_append, sgEnd_nf, Cr, Cr, CL (Cm _ _), if_pos h]
      right
      exact .head _
    · right; exact ih hm
 exact h1 _ hb
theorem GoodF.rawF {f : FlowM} {b : Bs} (h : GoodF f b) : RawF f := ⟨h.nm, fun b hb x hx hr => h.two _ (mem_nmsI hb hx hr), fun b hb hr => h.two _ (mem_nmsE hb hr)⟩
theorem flow_nm {σ : Type} {κ : Kd σ} {x x' : FlowM} {s s' : σ} (h : codeFlow κ x s = .ok (x', s')) : x'.nm = x.nm := by
 obtain ⟨r1, h1, h⟩ := Out.bind_ok h
 obtain ⟨r2, h2, h⟩ := Out.bind_ok h
 obtain ⟨r3, h3, h⟩ := Out.bind_ok h
 obtain ⟨r4, h4, h⟩ := Out.bind_ok h
 obtain ⟨r5, h5, h⟩ := Out.bind_ok h
 cases h; rfl
theorem flow_res {b : Bs} {x x' : FlowM} {s s' : RS Unit} (h : codeFlow (rawKd b) x s = .ok (x', s')) : 0 ≤ x'.res ∧ x'.res ≤ 255 := by
 obtain ⟨r1, h1, h⟩ := Out.bind_ok h
 obtain ⟨r2, h2, h⟩ := Out.bind_ok h
 obtain ⟨r3, h3, h⟩ := Out.bind_ok h
 obtain ⟨r4, h4, h⟩ := Out.bind_ok h
 obtain ⟨r5, h5, h⟩ := Out.bind_ok h
 cases h; exact (rd_small h2).2
theorem acc_two : ∀ (l : List Plc) (t : Unit) , ∀ p ∈ (acc (plR rawN) l t).1, p.2.2.length = 2
 | [], t, p, hp => (List.not_mem_nil hp).elim
 | a :: l, t, p, hp => by
   rcases List.mem_cons.1 hp with rfl | hp
   · exact Cp _ _
   · exact acc_two l _ p hp
theorem read_two {b : Bs} {x x' : FlowM} {s s' : RS Unit} (h : codeFlow (rawKd b) x s = .ok (x', s')) : ∀ n ∈ nmsOf (sgFlow x'), n.length = 2 := by
 have h1 := nm_flow (b := b) (ν := rawN) x s ()
 rw [show (emb s () : RS Unit) = s from rfl, h] at h1
 have h2 : x' = (renF rawN x' ()).1 := congrArg Prod.fst (Out.ok.inj h1)
 have h3 := (ren_flow (ν := rawN) x' ()).pl 0
 rw [← h2] at h3
 intro n hn
 obtain ⟨p, hp, rfl⟩ := List.mem_map.1 hn
 have h4 := acc_two (pl (sgFlow x') 0) ()
 rw [h3] at h4
 exact h4 p hp
theorem rlen_out : ∀ (l : List Seg), (∀ n ∈ nmsOf l, n.length = 2) → (rawOf l).length = (out l).length
 | [], _ => rfl
 | a :: l, h => by
   have h2 : nmsOf (a :: l) = nmsOf [a] ++ nmsOf l := Cr [a] l
   rw [h2] at h
   have ih := rlen_out l fun n hn => h n (List.mem_append_right _ hn)
   have e1 : rawOf (a :: l) = rawOf1 a ++ rawOf l := rfl
   rw [e1, out_cons, List.length_append, List.length_append, ih]
   congr 1
   cases a with
   | lit x => rfl
   | blk => rfl
   | ref q nm =>
     have := h nm (List.mem_append_left _ (.head _))
     simp [rawOf1, out1, Cp, this]
theorem cnt_eq : ∀ (l : List Seg) (n : Nat), cnt l = (pl l n).length + (bkp l n).length
 | [], _ => rfl
 | a :: l, n => by
   cases a <;> simp [pl, bkp, cnt, List.countP_cons] <;> have := cnt_eq l <;> simp only [cnt] at this
   · exact this _
   · rw [this (n + 2)]; omega
   · rw [this n]; omega
theorem blk_count : ∀ (l : List Seg), Lits l → bkp l 0 = [] := by
 suffices h : ∀ (l : List Seg) (n : Nat), Lits l → bkp l n = [] from fun l => h l 0
 intro l
 induction l with
 | nil => intros; rfl
 | cons a l ih => intro n h; obtain ⟨b, rfl⟩ := h a (.head _); exact ih _ fun s hs => h s (.tail _ hs)
theorem bkp_len (l : List Seg) (n m : Nat) : (bkp l n).length = (bkp l m).length := by
 induction l generalizing n m with
 | nil => rfl
 | cons a l ih => cases a <;> simp [bkp] <;> exact ih _ _
theorem bkp_ins (x : InsM) : bkp (sgIns x) 0 = [] := by
 rw [sgIns_nf, CQ, blk_count _ (lits_litI x)]
 split <;> rfl
theorem bkp_end (x : EndM) : bkp (sgEnd x) 0 = [] := by
 rw [sgEnd_nf, CQ, blk_count _ (Cm _ _)]
 have : bkp ((if refE x.kd then [Seg.ref (sortE x.kd) x.nm] else []) ++ litE x) 0 = [] := by
  rw [CQ]
  have h2 := bkp_len (litE x) (0 + (out (if refE x.kd = true then [Seg.ref (sortE x.kd) x.nm] else [])).length) 0
  rw [blk_count _ (lits_litE x)] at h2
  rw [List.length_eq_zero_iff.1 h2]
  split <;> rfl
 have h2 := bkp_len ((if refE x.kd then [Seg.ref (sortE x.kd) x.nm] else []) ++ litE x) (0 + (out (sgN 1 x.kd)).length) 0
 rw [this] at h2
 rw [List.length_eq_zero_iff.1 h2]; rfl
theorem bkp_flat {α : Type} {g : α → List Seg} {k : Nat} (h : ∀ x, (bkp (g x) 0).length = k) : ∀ (l : List α), (bkp (l.flatMap g) 0).length = l.length * k
 | [] => by simp [bkp]
 | x :: l => by
   rw [List.flatMap_cons, CQ, List.length_append, bkp_len _ (0 + _) 0, bkp_flat h l, h, List.length_cons, Nat.succ_mul]; omega
theorem bkp_lit {l : List Seg} (h : Lits l) (n : Nat) : bkp l n = [] := by
 have := bkp_len l n 0
 rw [blk_count l h] at this
 exact List.length_eq_zero_iff.1 this
theorem bkp_blk (x : BlkM) : (bkp (sgBlk x) 0).length = 1 := by
 have h1 : (bkp (x.ins.flatMap sgIns) 0).length = 0 := by rw [bkp_flat (k := 0) (fun x => by rw [bkp_ins]; rfl)]; simp
 show ((((0 : Nat) : Int) :: bkp (sgL 1 sgIns x.ins ++ sgEnd x.en) 0).length) = 1
 unfold sgL
 rw [CQ, CQ, bkp_lit (Cm _ _)]
 simp only [List.length_cons, List.length_append, List.length_nil]
 rw [bkp_len _ (0 + _) 0, h1, bkp_len _ (0 + _) 0, bkp_end]; rfl
theorem bkp_flow (f : FlowM) : (bkp (sgFlow f) 0).length = f.blks.length := by
 unfold sgFlow
 rw [CQ, CQ, CQ, CQ, bkp_lit (Cm _ _), bkp_lit (Cm _ _), bkp_lit (lits_L (fun r => Cm 1 r) _), bkp_lit (lits_L lits_T _)]
 unfold sgL
 rw [CQ, bkp_lit (Cm _ _)]
 simp only [List.nil_append]
 rw [bkp_len _ _ 0, bkp_flat bkp_blk]; omega
theorem codeP_good {b : Bs} {f : FlowM} : codeP b = some f ↔ GoodF f b := by
 constructor
 · intro h
   unfold codeP at h
   split at h
   · rename_i r hr
     split at h
     · rename_i hs
       cases h
       unfold decP at hr
       split at hr
       · cases hr
       · rename_i hl
         split at hr
         · rename_i r' hc
           split at hr
           · rename_i hp
             cases hr
             have hc' : codeFlow (rawKd b) flow0 (rs0 ()) = .ok (r.1, r.2) := hc
             have hrd := rd_flow hc'
             have h2 := hrd.2 (Nat.zero_le _)
             have hraw : rawOf (sgFlow r.1) = b := by
              have := h2.2
              rw [hp.1] at this
              simpa [rs0] using this
             refine ⟨flow_nm hc', read_two hc', (flow_res hc').1, hs, hraw, by omega, ?_⟩
             have h3 := hp.2
             rw [hrd.1, adv_eq] at h3
             simpa [rs0] using h3
           · cases hr
         · cases hr
     · cases h
   · cases h
 · intro h
   have hB := flowB_of h.rawF h.res h.snd
   have hb := bk_flow (b := b) hB (rs0 ()) [] (Nat.zero_le _) (by rw [h.raw]; simp [rs0]) (by
    have h1 := cnt_eq (sgFlow f) 0
    have h2 := h.pls
    have h3 := bkp_flow f
    have h4 : f.blks.length ≤ 65534 := hB.blks.1
    simp only [rs0, List.length_nil, maxB]
    omega)
   have ha := adv_eq (sgFlow f) (rs0 ())
   have hread : (adv (sgFlow f) (rs0 ())).read = b.length := by
    rw [ha]
    simp only [rs0, Nat.zero_add]
    rw [← rlen_out _ h.two, h.raw]
   have hpl : (adv (sgFlow f) (rs0 ())).places.length ≤ 500 := by
    rw [ha]
    simpa [rs0] using h.pls
   unfold codeP decP rawRead
   rw [if_neg (by have := h.len; omega), hb.1]
   simp only [hread, hpl, and_self, if_true, h.snd]
theorem decP_adv {b : Bs} {r : FlowM × RS Unit} (h : decP b = some r) : r.2 = adv (sgFlow r.1) (rs0 ()) ∧ rawOf (sgFlow r.1) = b ∧ b.length ≤ 20000 ∧ r.1.nm = [] ∧ (0 ≤ r.1.res ∧ r.1.res ≤ 255) ∧ (∀ n ∈ nmsOf (sgFlow r.1), n.length = 2) ∧ (pl (sgFlow r.1) 0).length ≤ 500 := by
 unfold decP at h
 split at h
 · cases h
 · rename_i hl
   split at h
   · rename_i r' hc
     split at h
     · rename_i hp
       cases h
       have hc' : codeFlow (rawKd b) flow0 (rs0 ()) = .ok (r.1, r.2) := hc
       have hrd := rd_flow hc'
       have h2 := hrd.2 (Nat.zero_le _)
       refine ⟨hrd.1, ?_, by omega, flow_nm hc', flow_res hc', read_two hc', ?_⟩
       · have := h2.2
         rw [hp.1] at this
         simpa [rs0] using this
       · have h3 := hp.2
         rw [hrd.1, adv_eq] at h3
         simpa [rs0] using h3
     · cases h
   · cases h
abbrev St := Nat × Bool
def digitsN : Nat → Nat → Bs
 | 0, _ => []
 | k + 1, n => if n < 10 then [UInt8.ofNat (48 + n)] else digitsN k (n / 10) ++ [UInt8.ofNat (48 + n % 10)]
def digB (n : Int) : Bs := digitsN (n.toNat + 1) n.toNat
end Go.Sl
namespace Go.Sl
def numN : Int → Int → Unit → Bs × Unit := fun _ n _ => (digB n, ())
section
variable {b : Bs}
theorem acc_unit {α : Type} (f : α → Unit → α × Unit) : ∀ (l : List α), acc f l () = (l.map fun x => (f x ()).1, ())
 | [] => rfl
 | a :: l => by simp only [acc, acc_unit f l]; rfl
end
end Go.Sl
namespace Go.Sl
def νI (N : List Bs) : Int → Int → Nat → Bs × Nat := fun _ _ k => (N.getD k dmy, k + 1)
def namesS (N : List Bs) (f : FlowM) (nm : Bs) : FlowM := { (renF (νI N) f 0).1 with nm := nm }
theorem pl_ge : ∀ (l : List Seg) (n : Nat), ∀ p ∈ pl l n, (n : Int) ≤ p.1
 | [], n, p, h => (List.not_mem_nil h).elim
 | .lit b :: l, n, p, h => by have := pl_ge l (n + b.length) p h; omega
 | .blk :: l, n, p, h => pl_ge l n p h
 | .ref q nm :: l, n, p, h => by
   rcases List.mem_cons.1 h with rfl | h
   · exact Int.le_refl _
   · have := pl_ge l (n + 2) p h; omega
theorem digitsN_all : ∀ (k n : Nat), ∀ c ∈ digitsN k n, 48 ≤ c.toNat ∧ c.toNat ≤ 57
 | 0, n, c, h => (List.not_mem_nil h).elim
 | k + 1, n, c, h => by
   simp only [digitsN] at h
   split at h
   · simp only [List.mem_cons, List.not_mem_nil, or_false] at h
     subst h
     rw [u8n _ Y9]; omega
   · rcases List.mem_append.1 h with h | h
     · exact digitsN_all k _ c h
     · simp only [List.mem_cons, List.not_mem_nil, or_false] at h
       subst h
       rw [u8n _ Y9]; omega
theorem digitsN_pos (k n : Nat) : 1 ≤ (digitsN (k + 1) n).length := by
 simp only [digitsN]
 split <;> simp
theorem digitsN_len : ∀ (m k n : Nat), n < 10 ^ m → 1 ≤ m → (digitsN k n).length ≤ m
 | 0, k, n, _, h => by omega
 | m, 0, n, _, h => by simp [digitsN]
 | m + 1, k + 1, n, h, _ => by
   simp only [digitsN]
   split
   · simp
   · by_cases hm : m = 0
     · subst hm; simp at h; omega
     · have := digitsN_len m k (n / 10) (by rw [Nat.pow_succ] at h; omega) Y9
       simp; omega
theorem digB_sym {n : Int} (h0 : 0 ≤ n) (h1 : n ≤ 65535) : symOk (digB n) = true := by
 have h2 := digitsN_all (n.toNat + 1) n.toNat
 have h3 := digitsN_pos n.toNat n.toNat
 have h4 := digitsN_len 5 (n.toNat + 1) n.toNat Y9 Y9
 unfold symOk digB
 simp only [Bool.and_eq_true, decide_eq_true_eq, List.all_eq_true]
 refine ⟨⟨⟨h3, by omega⟩, ?_⟩, fun c hc => by have := h2 c hc; omega⟩
 intro e
 have := h2 45 (by rw [e]; exact .head _)
 simp at this
theorem beV_two {l : Bs} (h : l.length = 2) : 0 ≤ beV l ∧ beV l ≤ 65535 := by
 obtain ⟨a, b, rfl⟩ := len_two h
 have := a.toNat_lt
 have := b.toNat_lt
 rw [beV2]; omega
theorem acc_unitP (ps : List Plc) : (acc (plR numN) ps ()).1.map (·.2.2) = (ps.map (·.2.2)).map fun n => digB (beV n) := by
 rw [acc_unit]; simp [plR, numN]
theorem num_nms (f : FlowM) : nmsOf (sgFlow (renF numN f ()).1) = (nmsOf (sgFlow f)).map fun n => digB (beV n) := by
 have h1 := (ren_flow (ν := numN) f ()).pl 0
 have h2 := acc_unitP (pl (sgFlow f) 0)
 rw [h1] at h2
 exact h2
theorem GoodF.read {f : FlowM} {b : Bs} (h : GoodF f b) : ∃ s, rawRead b = .ok (f, s) ∧ s.read = b.length ∧ s = adv (sgFlow f) (rs0 ()) := by
 have hc := codeP_good.2 h
 unfold codeP at hc
 split at hc
 · rename_i r hr
   split at hc
   · cases hc
     have h2 := decP_adv hr
     unfold decP at hr
     split at hr
     · cases hr
     · split at hr
       · rename_i r' h3
         split at hr
         · rename_i h4
           cases hr
           exact ⟨r.2, h3, h4.1, h2.1⟩
         · cases hr
       · cases hr
   · cases hc
 · cases hc
theorem GoodF.num {f : FlowM} {b : Bs} (h : GoodF f b) : sndOk (renF numN f ()).1 = true := by
 rw [snd_split, dmF_ren, h.snd, num_nms, Bool.true_and, List.all_eq_true]
 intro n hn
 obtain ⟨m, hm, rfl⟩ := List.mem_map.1 hn
 have := beV_two (h.two m hm)
 exact digB_sym this.1 this.2
end Go.Sl
namespace Go.Sl
structure CodeM where
 nm : Bs
 bytes : Bs
 places : List Plc
 deriving DecidableEq
def code0 : CodeM := ⟨[], [], []⟩
def encS (f : FlowM) : CodeM × Int := if chkOk f then (if 20000 < (layF f).bytes.length ∨ 500 < (layF f).places.length then (code0, 2) else (⟨f.nm, (layF f).bytes, (layF f).places⟩, 0)) else (code0, 1)
def lenS (f : FlowM) : Int × Int := if chkOk f then (((layF f).bytes.length : Int), 0) else (0, 1)
def decodeP (x : CodeM) : Option FlowM := match decP x.bytes with
 | none => none
 | some r =>
   let g := namesS (x.places.map (·.2.2)) r.1 x.nm
   if (encS g).2 = 0 ∧ (encS g).1.bytes = x.bytes ∧ (encS g).1.places = x.places then some g else none
theorem enc_ok {g : FlowM} : (encS g).2 = 0 ↔ chkOk g = true ∧ (layF g).bytes.length ≤ 20000 ∧ (layF g).places.length ≤ 500 := by
 unfold encS
 split
 · split
   · simp; omega
   · simp_all
 · simp_all
theorem enc_val {g : FlowM} (h : (encS g).2 = 0) : encS g = (⟨g.nm, (layF g).bytes, (layF g).places⟩, 0) := by
 have h2 := enc_ok.1 h
 unfold encS
 rw [if_pos h2.1, if_neg Y9]
def νB (names : Int → List Bs) : Int → Int → Bool → Bs × Bool := fun q n lk => if ((names q).length : Int) ≤ n then (dmy, true) else ((names q).getD n.toNat [], lk)
def backP (nm : Bs) (b : Bs) (names : Int → List Bs) : FlowM × Int := match codeP b with
 | none => (flow0, 150)
 | some f =>
   if (renF (νB names) f false).2 then (flow0, 5)
   else if chkOk { (renF (νB names) f false).1 with nm := nm } then ({ (renF (νB names) f false).1 with nm := nm }, 0) else (flow0, 1)
end Go.Sl
namespace Go.Sl
open Go Go.RowKit Go.Shelf Go.Proofs
attribute [local irreducible] Calls
def CodeK (S : Nat → Prop) (w0 : World) (G : List Ent) (x : CodeM) (v : Value) : Prop :=
 ∃ bv pv', v = .agg #[str x.nm, bv, pv'] ∧ SlK S w0 G (byv x.bytes) x.bytes.length bv ∧ SlK S w0 G (rowV plcC x.places) x.places.length pv'
section
variable {S : Nat → Prop} {w0 : World} {F : List Ent}
theorem CodeK.up {G G' : List Ent} {x : CodeM} {v : Value} (h : CodeK S w0 G x v) (hu : ∀ e ∈ G, e ∈ G') : CodeK S w0 G' x v := by
 obtain ⟨bv, pv', h0, h1, h2⟩ := h
 exact ⟨bv, pv', h0, h1.up hu, h2.up hu⟩
theorem SlK.nil {cells : List Value} (h : cells = []) {a : Option Addr} {c : Nat} : SlK S w0 F cells 0 (.slice a 0 c) := ⟨a, c, rfl, Nat.zero_le _, .inl h⟩
theorem SlK.ofRow {b : Option Nat} {n cap sz : Nat} {xs rst : List Value} {el : TypeId} {A B : List Ent} (hsz : 0 < sz) (h : RowB b n cap sz xs rst) : SlK S w0 (A ++ (rowE b xs rst el ++ B)) xs n (slV b n cap) := by
 cases b with
 | none =>
   have h1 := h.hn rfl
   have h2 := h.hc
   have h3 := h.hl
   rw [h1] at h2
   have hx : xs = [] := List.length_eq_zero_iff.1 (by simp at h2; simp [h2.1])
   have h5 : n * sz = 0 := by have := h.hl; rw [hx] at this; exact this.symm
   have h6 : n = 0 := (Nat.mul_eq_zero.1 h5).resolve_right Y9
   exact ⟨none, cap, rfl, by omega, .inl hx⟩
 | some b =>
   have hc : n ≤ cap := by
    have h2 := h.hc
    have h3 := h.hl
    have : n * sz ≤ cap * sz := by omega
    exact Nat.le_of_mul_le_mul_right this hsz
   exact (SlK.own (F := B) hc).up fun e he => List.mem_append_right _ he
theorem check_c {x : FlowM} {v : Value} (hK : FlowK S w0 F x v) (hL : FlowL x) : Yields S w0 F 17 [v] (.int .i64 (if chkOk x then 0 else 1)) := by
 refine AA fun w hi => ?_
 simp only [List.nil_append] at hi
 have hs : ∀ {F'}, (∀ e ∈ F, e ∈ F') → Yields S w0 F' 40 [v] (.bool (chkOk x)) := fun hu => sound_c (hK.up hu) hL
 obtain ⟨rv, sv, bv, rfl, _⟩ := id hK
 generalize chkOk x = q at *
 refine Ai Tryz.func17 rfl rfl (hi) ?_
 cases q
 · repeat' (first | (refine Ah rfl ?_) | (refine Ak rfl ?_) | (refine Al ?_) | (refine Am ?_) | (refine A1 rfl ?_) | (refine AL Tryz.func17 rfl (fun w_ hi_ => ?_)) | ((refine Ab 0 ?_; try (refine AF (cs := flowC x rv sv bv) rfl rfl rfl rfl (fun b1 hb1 => ?_); try (refine Za rfl (Aa N41 ?_))))) | ((refine Ab 1 ?_; try (refine Zv (AV U26 rfl AO rfl Y0 Y15) ?_; try (refine Zv (Au (CallR.val rfl en40) (hs Y11)) ?_; try (refine Zv (Ci rfl) (Aa N41 ?_)))))) | ((refine Ab 2 ?_; try (refine Za rfl (Aa N41 ?_)))))
   exact ⟨[], ⟨rfl, rfl⟩, hi_.subset Y4⟩
 · repeat' (first | (refine Ah rfl ?_) | (refine Ak rfl ?_) | (refine Al ?_) | (refine Am ?_) | (refine Az rfl ?_) | (refine AE ?_) | (refine AL Tryz.func17 rfl (fun w_ hi_ => ?_)) | ((refine Ab 0 ?_; try (refine AF (cs := flowC x rv sv bv) rfl rfl rfl rfl (fun b1 hb1 => ?_); try (refine Za rfl (Aa N41 ?_))))) | ((refine Ab 1 ?_; try (refine Zv (AV U26 rfl AO rfl Y0 Y15) ?_; try (refine Zv (Au (CallR.val rfl en40) (hs Y11)) ?_; try (refine Zv (BT rfl) (Aa N41 ?_)))))) | ((refine Ab 3 ?_; try (refine Za rfl (Aa N41 ?_)))))
   exact ⟨[], ⟨rfl, rfl⟩, hi_.subset Y4⟩
theorem written_n {x : FlowM} {v : Value} (hK : FlowK S w0 F x v) (hR : FlowR x) (hs : sndOk x = true) :
 SLF Tryz.prog S w0 F 38 [v] [] (fun e post => ∃ v, e = .returned v ∧ ∃ wb, v = pv wb 0 ∧ wSt wb (layF x) post) :=
 (written_c hK hR (wr_flow (flowW_of hs hR.res.1))).mono fun e post ⟨wb, h1, h2⟩ => ⟨_, h1, wb, rfl, h2⟩
theorem chk_snd {x : FlowM} (h : chkOk x = true) : sndOk x = true := by unfold chkOk at h; exact (Bool.and_eq_true _ _ ▸ h).2
theorem encode_c {x : FlowM} {v : Value} (hK : FlowK S w0 F x v) (hR : sndOk x = true → FlowR x) (hL : FlowL x) :
 SLF Tryz.prog S w0 F 13 [v] [] (fun e post => ∃ u, e = .returned (.tuple #[u, .int .i64 (encS x).2]) ∧ CodeK S w0 post (encS x).1 u) := by
 refine AA fun w hi => ?_
 simp only [List.nil_append] at hi
 have hq : ∀ {F'}, (∀ e ∈ F, e ∈ F') → Yields S w0 F' 17 [v] (.int .i64 (if chkOk x then 0 else 1)) := fun hu => check_c (hK.up hu) hL
 obtain ⟨rv, sv, bv, rfl, _⟩ := id hK
 have hc0 : CodeK S w0 [] code0 (.agg #[str [], .slice none 0 0, .slice none 0 0]) := ⟨_, _, rfl, SlK.nil rfl, SlK.nil rfl⟩
 by_cases hc : chkOk x = true
 · rw [if_pos hc] at hq
   by_cases hm : 20000 < (layF x).bytes.length ∨ 500 < (layF x).places.length
   · rw [show encS x = (code0, 2) by unfold encS; rw [if_pos hc, if_pos hm]]
     refine Ai Tryz.func13 rfl rfl (hi) ?_
     repeat' (first | (refine Ah rfl ?_) | (refine Ak rfl ?_) | (refine Al ?_) | (refine Am ?_) | (refine A1 rfl ?_) | (refine Az rfl ?_) | (refine AE ?_) | (refine C1 Tryz.func13 (.cellA rfl U31 rfl inf31 Y13 rfl (.tmp rfl (.nil))) (fun w_ hi_ => ?_)) | ((refine Ab 0 ?_; try (refine AF (cs := flowC x rv sv bv) rfl rfl rfl rfl (fun b0 hb0 => ?_); try (refine A4 inf31 rfl rfl rfl rfl (fun b_ hb_ => ?_); try (refine Za rfl (Aa N22 ?_)))))) | ((refine Ab 1 ?_; try (refine Zv (AV U26 rfl AO rfl Y0 Y15) ?_; try (refine Zv (Au (CallR.val rfl en17) (hq Y11)) ?_; try (refine Za rfl (Aa N22 ?_)))))) | ((refine Ab 2 ?_; try (refine Zm rfl (Zv (AX rfl rfl (by first | exact A2 Y9 | exact Ay Y9 | exact rfl)) ?_); try ((refine Aa N22 ?_))))) | ((refine Ab 4 ?_; try (refine Zv (AV U26 rfl AO rfl Y0 Y15) ?_; try ((refine AT (pre := []) (Take.nil _) (CallR.val rfl en38) rfl rfl (written_n (hK.up Y11) (hR (chk_snd hc)) (chk_snd hc)) ?_; rintro v post ⟨wb, rfl, b1, c1, r1, b2, c2, r2, b3, c3, r3, h1, h2, h3, rfl⟩; simp only [List.append_assoc, List.cons_append]) <;> try (refine Za rfl (Aa N22 ?_)))))) | ((refine Ab 5 ?_; try (refine Zm rfl (Zv (Ag rfl) (Zf BQ rfl (Zf CE rfl (Zv (Ac U22 rfl rfl Y0 Y5) ?_)))); try (refine Zv (As rfl U22 rfl) (Zv (B4 rfl rfl Y2) ?_); try (refine Zm rfl ?_; try (((refine Bj rfl rfl (fun h => ?_) (fun h => ?_)) <;> (first | (refine Zk ?_) | ((refine Zm rfl ?_)))) <;> try ((first | (refine Zk ?_) | ((refine Zv (Ag rfl) ?_))) <;> try ((first | (refine Zk ?_) | ((refine Zf BQ rfl ?_))) <;> try ((first | (refine Zk ?_) | ((refine Zf BR rfl ?_))) <;> try ((first | (refine Zk ?_) | ((refine Zv (Ac U29 rfl rfl Y0 Y5) ?_))) <;> try ((first | (refine Zk ?_) | ((refine Zv (As rfl U29 rfl) ?_))) <;> try ((first | (refine Zk ?_) | ((refine Zv (B4 rfl rfl Y2) ?_))) <;> try ((first | (refine Zv (Av rfl rfl) ?_) | (refine Zv (AC rfl rfl) ?_)) <;> try ((refine Aa N22 ?_))))))))))))))) | ((refine Ab 6 ?_; try (refine Zv (Cq pl31 inf31 rfl) ?_; try (refine AI rfl rfl rfl sz31 Y3 Y15 rfl rfl ?_; try (refine Za rfl (Aa N22 ?_)))))))
     all_goals first
      | (exfalso; omega)
      | exact ⟨[], ⟨_, rfl, hc0⟩, hi_.subset Y4⟩
   · rw [show encS x = (⟨x.nm, (layF x).bytes, (layF x).places⟩, 0) by unfold encS; rw [if_pos hc, if_neg hm]]
     refine Ai Tryz.func13 rfl rfl (hi) ?_
     repeat' (first | (refine Ah rfl ?_) | (refine Ak rfl ?_) | (refine Al ?_) | (refine Am ?_) | (refine Az rfl ?_) | (refine AE ?_) | (refine C1 Tryz.func13 (.cellA rfl U31 rfl inf31 Y13 rfl (.tmp rfl (.nil))) (fun w_ hi_ => ?_)) | ((refine Ab 0 ?_; try (refine AF (cs := flowC x rv sv bv) rfl rfl rfl rfl (fun b0 hb0 => ?_); try (refine A4 inf31 rfl rfl rfl rfl (fun b_ hb_ => ?_); try (refine Za rfl (Aa N22 ?_)))))) | ((refine Ab 1 ?_; try (refine Zv (AV U26 rfl AO rfl Y0 Y15) ?_; try (refine Zv (Au (CallR.val rfl en17) (hq Y11)) ?_; try (refine Za rfl (Aa N22 ?_)))))) | ((refine Ab 2 ?_; try (refine Zm rfl (Zv (AX rfl rfl (by first | exact A2 Y9 | exact Ay Y9 | exact rfl)) ?_); try ((refine Aa N22 ?_))))) | ((refine Ab 4 ?_; try (refine Zv (AV U26 rfl AO rfl Y0 Y15) ?_; try ((refine AT (pre := []) (Take.nil _) (CallR.val rfl en38) rfl rfl (written_n (hK.up Y11) (hR (chk_snd hc)) (chk_snd hc)) ?_; rintro v post ⟨wb, rfl, b1, c1, r1, b2, c2, r2, b3, c3, r3, h1, h2, h3, rfl⟩; simp only [List.append_assoc, List.cons_append]) <;> try (refine Za rfl (Aa N22 ?_)))))) | ((refine Ab 5 ?_; try (refine Zm rfl (Zv (Ag rfl) (Zf BQ rfl (Zf CE rfl (Zv (Ac U22 rfl rfl Y0 Y5) ?_)))); try (refine Zv (As rfl U22 rfl) (Zv (B4 rfl rfl Y2) ?_); try (refine Zm rfl ?_; try (((refine Zm rfl ?_)) <;> try (((refine Zv (Ag rfl) ?_)) <;> try (((refine Zf BQ rfl ?_)) <;> try (((refine Zf BR rfl ?_)) <;> try (((refine Zv (Ac U29 rfl rfl Y0 Y5) ?_)) <;> try (((refine Zv (As rfl U29 rfl) ?_)) <;> try (((refine Zv (B4 rfl rfl Y2) ?_)) <;> try (refine Zv (AC rfl rfl) (Aa N22 ?_)))))))))))))) | ((refine Bd (id := 7) 13 rfl mixed Y1 ?_; try (refine Ax (Ad fo26_0 rfl) rfl rfl (Ax (Ac U9 rfl rfl Y0 Y5) rfl rfl ?_); try (refine Ax (Aj rfl) rfl rfl (Ax (Ag rfl) rfl rfl (Ax (Ad BQ rfl) rfl rfl (Ax (Ad CE rfl) rfl rfl (Ax (Ac U22 rfl rfl Y0 Y5) rfl rfl ?_)))); try (refine Ax (Aj rfl) rfl rfl (Ax (Ag rfl) rfl rfl (Ax (Ad BQ rfl) rfl rfl (Ax (Ad BR rfl) rfl rfl (Ax (Ac U29 rfl rfl Y0 Y5) rfl rfl ?_)))); try (refine Ax (C4 pl31 inf31 rfl rfl rfl rfl rfl rfl rfl) rfl rfl (Bc ?_); try (refine AI rfl rfl rfl sz31 Y3 Y15 rfl rfl ?_; try (refine Za rfl (Aa N22 ?_))))))))))
     all_goals first
      | (exfalso; omega)
      | exact ⟨rowE b1 (byv (layF x).bytes) r1 5 ++ (rowE b2 (rowV plcC (layF x).places) r2 49 ++ []), ⟨_, rfl, _, _, rfl, SlK.ofRow (A := []) Y9 h1, SlK.ofRow Y9 h2⟩, by simp only [List.append_assoc, List.nil_append]; exact hi_.subset (by repeat (first | exact List.Sublist.refl _ | apply List.Sublist.cons_cons | apply List.Sublist.cons | apply List.Sublist.append (List.Sublist.refl _) | apply List.sublist_append_of_sublist_right))⟩
      | skip
 · rw [show encS x = (code0, 1) by unfold encS; rw [if_neg hc]]
   rw [if_neg hc] at hq
   refine Ai Tryz.func13 rfl rfl (hi) ?_
   repeat' (first | (refine Ah rfl ?_) | (refine Ak rfl ?_) | (refine Al ?_) | (refine Am ?_) | (refine A1 rfl ?_) | (refine C1 Tryz.func13 (.cellA rfl U31 rfl inf31 Y13 rfl (.tmp rfl (.nil))) (fun w_ hi_ => ?_)) | ((refine Ab 0 ?_; try (refine AF (cs := flowC x rv sv bv) rfl rfl rfl rfl (fun b0 hb0 => ?_); try (refine A4 inf31 rfl rfl rfl rfl (fun b_ hb_ => ?_); try (refine Za rfl (Aa N22 ?_)))))) | ((refine Ab 1 ?_; try (refine Zv (AV U26 rfl AO rfl Y0 Y15) ?_; try (refine Zv (Au (CallR.val rfl en17) (hq Y11)) ?_; try (refine Za rfl (Aa N22 ?_)))))) | ((refine Ab 2 ?_; try (refine Zm rfl (Zv (AX rfl rfl (by first | exact A2 Y9 | exact Ay Y9 | exact rfl)) ?_); try ((refine Aa N22 ?_))))) | ((refine Ab 3 ?_; try (refine Zv (Cq pl31 inf31 rfl) (Zm rfl ?_); try (refine AI rfl rfl rfl sz31 Y3 Y15 rfl rfl ?_; try (refine Za rfl (Aa N22 ?_)))))))
   exact ⟨[], ⟨_, rfl, hc0⟩, hi_.subset Y4⟩
theorem length_c {x : FlowM} {v : Value} (hK : FlowK S w0 F x v) (hR : sndOk x = true → FlowR x) (hL : FlowL x) : Yields S w0 F 15 [v] (.tuple #[.int .i64 (lenS x).1, .int .i64 (lenS x).2]) := by
 refine AA fun w hi => ?_
 simp only [List.nil_append] at hi
 have hq : ∀ {F'}, (∀ e ∈ F, e ∈ F') → Yields S w0 F' 17 [v] (.int .i64 (if chkOk x then 0 else 1)) := fun hu => check_c (hK.up hu) hL
 obtain ⟨rv, sv, bv, rfl, _⟩ := id hK
 by_cases hc : chkOk x = true
 · rw [if_pos hc] at hq
   rw [show lenS x = (((layF x).bytes.length : Int), 0) by unfold lenS; rw [if_pos hc]]
   refine Ai Tryz.func15 rfl rfl (hi) ?_
   repeat' (first | (refine Ah rfl ?_) | (refine Ak rfl ?_) | (refine Al ?_) | (refine Am ?_) | (refine Az rfl ?_) | (refine AE ?_) | (refine AL Tryz.func15 rfl (fun w_ hi_ => ?_)) | ((refine Ab 0 ?_; try (refine AF (cs := flowC x rv sv bv) rfl rfl rfl rfl (fun b0 hb0 => ?_); try (refine Za rfl (Za rfl (Aa N34 ?_)))))) | ((refine Ab 1 ?_; try (refine Zv (AV U26 rfl AO rfl Y0 Y15) ?_; try (refine Zv (Au (CallR.val rfl en17) (hq Y11)) ?_; try (refine Za rfl (Aa N34 ?_)))))) | ((refine Ab 2 ?_; try (refine Zm rfl (Zv (AX rfl rfl (by first | exact A2 Y9 | exact Ay Y9 | exact rfl)) ?_); try ((refine Aa N34 ?_))))) | ((refine Ab 4 ?_; try (refine Zv (AV U26 rfl AO rfl Y0 Y15) ?_; try ((refine AT (pre := []) (Take.nil _) (CallR.val rfl en38) rfl rfl (written_n (hK.up Y11) (hR (chk_snd hc)) (chk_snd hc)) ?_; rintro v post ⟨wb, rfl, b1, c1, r1, b2, c2, r2, b3, c3, r3, h1, h2, h3, rfl⟩; simp only [List.append_assoc, List.cons_append]) <;> try (refine Zv (Ag rfl) (Zf BQ rfl (Zf CE rfl (Zv (Ac U22 rfl rfl Y0 Y5) ?_))); try (refine Zv (As rfl U22 rfl) (Za rfl (Za rfl (Aa N34 ?_))))))))))
   exact ⟨[], ⟨rfl, rfl⟩, hi_.subset Y4⟩
 · rw [if_neg hc] at hq
   rw [show lenS x = (0, 1) by unfold lenS; rw [if_neg hc]]
   refine Ai Tryz.func15 rfl rfl (hi) ?_
   repeat' (first | (refine Ah rfl ?_) | (refine Ak rfl ?_) | (refine Al ?_) | (refine Am ?_) | (refine A1 rfl ?_) | (refine AL Tryz.func15 rfl (fun w_ hi_ => ?_)) | ((refine Ab 0 ?_; try (refine AF (cs := flowC x rv sv bv) rfl rfl rfl rfl (fun b0 hb0 => ?_); try (refine Za rfl (Za rfl (Aa N34 ?_)))))) | ((refine Ab 1 ?_; try (refine Zv (AV U26 rfl AO rfl Y0 Y15) ?_; try (refine Zv (Au (CallR.val rfl en17) (hq Y11)) ?_; try (refine Za rfl (Aa N34 ?_)))))) | ((refine Ab 2 ?_; try (refine Zm rfl (Zv (AX rfl rfl (by first | exact A2 Y9 | exact Ay Y9 | exact rfl)) ?_); try ((refine Aa N34 ?_))))) | ((refine Ab 3 ?_; try (refine Zm rfl (Za rfl (Za rfl (Aa N34 ?_)))))))
   exact ⟨[], ⟨rfl, rfl⟩, hi_.subset Y4⟩
end
end Go.Sl
namespace Go.Sl
open Go Go.RowKit Go.Shelf Go.Proofs
attribute [local irreducible] Calls
abbrev RBE (rb : Nat) (v1 v2 v3 : Value) (n : Nat) (fv : Value) : Ent := ⟨rb, true, .cells #[v1, v2, v3, .int .i64 (n : Int), fv] 98 (0, 0)⟩
section
variable {S : Nat → Prop} {w0 : World} {F : List Ent}
def BytesAt (S : Nat → Prop) (w0 : World) (F : List Ent) (l : Bs) (n : Nat) (v : Value) : Prop :=
 ∃ b0 off0 c2, v = .slice (some ⟨b0, off0, none⟩) n c2 ∧ n ≤ c2 ∧ ∀ i (h : i < l.length), Kn S w0 F b0 (off0 + i) (.int .u8 l[i].toNat)
theorem bytes_part {b : Bs} {s n b0 off0 c2 : Nat} (hk : ∀ i (h : i < (byv b).length), Kn S w0 F b0 (off0 + i) (byv b)[i]) (h : s + n ≤ b.length) (hc : n ≤ c2) : BytesAt S w0 F ((b.drop s).take n) n (.slice (some ⟨b0, if s + n = s then off0 else off0 + s * 1, none⟩) n c2) := by
 refine ⟨_, _, _, rfl, hc, fun i hi => ?_⟩
 have hi2 : i < n := by simp at hi; omega
 rw [if_neg Y9]
 have := hk (s + i) (by simp [byv]; omega)
 rw [show off0 + s * 1 + i = off0 + (s + i) by omega]
 simpa [byv] using this
theorem take_c {rb s n : Nat} {b : Bs} {bsv v2 v3 fv : Value} (hb : SlK S w0 F (byv b) b.length bsv) (hs : s ≤ b.length) (hn : 1 ≤ n ∨ b ≠ []) (hlen : b.length ≤ 65535) (hn2 : n ≤ 65535) :
 SLF Tryz.prog S w0 F 184 [pv rb 0, .int .i64 (n : Int)] [RBE rb bsv v2 v3 s fv] (MoO (if s + n ≤ b.length then .ok () else .bad) fun _ v post => post = [RBE rb bsv v2 v3 (s + n) fv] ∧ BytesAt S w0 F ((b.drop s).take n) n v) := by
 refine AA fun w hi => ?_
 simp only [List.cons_append, List.nil_append] at hi
 obtain ⟨a0, ca, rfl, hca, hk⟩ := hb
 refine Ai Tryz.func184 rfl rfl (hi) ?_
 by_cases h : s + n ≤ b.length
 · rw [if_pos h]
   have hbne : b ≠ [] := by
    rcases hn with h1 | h1
    · intro e; rw [e] at h; simp at h; omega
    · exact h1
   obtain ⟨b0, off0, rfl, hkn⟩ := hk.resolve_left (by intro e; exact hbne (by simpa [byv] using e))
   have hcast : ((s + n : Nat) : Int) = (s : Int) + n := by omega
   repeat' (first | (refine Ah rfl ?_) | (refine Ak rfl ?_) | (refine Al ?_) | (refine Am ?_) | ((refine Ab 0 ?_; try (refine Za rfl (Aa N12 ?_)))) | ((refine Bd (id := 1) 13 rfl mixed Y1 ?_; try (refine Ax (Aj rfl) rfl rfl (Ax (Ag rfl) rfl rfl (Ax (Ad Ch rfl) rfl rfl (Ax (Ad CE rfl) rfl rfl (Ax (Ac U22 rfl rfl Y0 Y5) rfl rfl ?_)))); try (refine Ax (As rfl U22 rfl) rfl rfl (Ax (Aj rfl) rfl rfl (Ax (Ag rfl) rfl rfl (Ax (Ad fo98_1 rfl) rfl rfl (Ax (Ac U3 rfl rfl Y0 Y5) rfl rfl ?_)))); try (refine Ax (Cf rfl rfl Y9 Y9) rfl rfl ?_; try (refine Ax (Aj rfl) rfl rfl (Ax (Bn rfl rfl Y2) rfl rfl ?_); try ((refine Bc ?_; try ((refine AS (Take.nil _) (CallR.val rfl en79) rfl rfl (BV true) (fun e => by cases e) ?_; rintro u e v post ⟨rfl, rfl⟩) <;> try ((refine Aa N12 ?_))))))))))) | ((refine Ab 2 ?_; try (refine Zm rfl (Zv (Ag rfl) (Zf fo98_1 rfl (Zv (Ac U3 rfl rfl Y0 Y5) ?_))); try (refine Zm rfl (Zv (AG rfl rfl Y9 Y9) ?_); try (refine Zv (Ag rfl) (Zf fo98_1 rfl ?_); try ((refine AJ rfl rfl rfl sz3 Y3 (by show _ < 5; omega) (.inr (Nat.zero_le _)) rfl rfl ?_) <;> try ((refine Aa N12 ?_)))))))))
   rw [show (#[Value.slice (some ⟨b0, off0, none⟩) b.length ca, v2, v3, Value.int .i64 (s : Int), fv] : Array Value).setIfInBounds (0 + 3) (.int .i64 ((s : Int) + (n : Int))) = #[Value.slice (some ⟨b0, off0, none⟩) b.length ca, v2, v3, Value.int .i64 ((s + n : Nat) : Int), fv] by rw [hcast]; rfl]
   repeat' (first | (refine Ah rfl ?_) | (refine Ak rfl ?_) | (refine Al ?_) | (refine AL Tryz.func184 rfl (fun w_ hi_ => ?_)) | ((refine Ca 3 rfl mixed Y1 ?_; try (refine AQ (Aj rfl) rfl rfl (AQ (Ag rfl) rfl rfl (AQ (Ad Ch rfl) rfl rfl (AQ (Ad CE rfl) rfl rfl (AQ (Ac U22 rfl rfl Y0 Y5) rfl rfl ?_)))); try (refine AQ (Aj rfl) rfl rfl (AQ (Ag rfl) rfl rfl (AQ (Ad fo98_1 rfl) rfl rfl (AQ (Ac U3 rfl rfl Y0 Y5) rfl rfl ?_))); try (refine AQ (Aj rfl) rfl rfl (AQ (Cf rfl rfl Y9 Y9) rfl rfl ?_); try (refine AQ (Aj rfl) rfl rfl (AQ (Ag rfl) rfl rfl (AQ (Ad fo98_1 rfl) rfl rfl (AQ (Ac U3 rfl rfl Y0 Y5) rfl rfl ?_))); try (refine AQ (Aj rfl) rfl rfl (AQ (Ag rfl) rfl rfl (AQ (Ad fo98_1 rfl) rfl rfl (AQ (Ac U3 rfl rfl Y0 Y5) rfl rfl ?_))); try ((refine AQ (ov_slice3 (a := s) (b := s + n) (c := s + n) U22 sz5 rfl (by show some (Value.int _ _) = _; congr 2; omega) rfl rfl Y9 (Nat.le_refl _) Y9) rfl rfl ?_) <;> try (refine AQ (Ao rfl) rfl rfl (BZ N12 ?_)))))))))))
   refine ⟨_, ⟨_, rfl, rfl, ?_⟩, hi_⟩
   have := bytes_part hkn h (c2 := s + n - s) Y9
   rwa [show s + n - s = n by omega] at this ⊢
 · rw [if_neg h]
   repeat' (first | (refine Ah rfl ?_) | (refine Al ?_) | (refine Am ?_) | ((refine Ab 0 ?_; try (refine Za rfl (Aa N12 ?_)))) | ((refine Bd (id := 1) 13 rfl mixed Y1 ?_; try (refine Ax (Aj rfl) rfl rfl (Ax (Ag rfl) rfl rfl (Ax (Ad Ch rfl) rfl rfl (Ax (Ad CE rfl) rfl rfl (Ax (Ac U22 rfl rfl Y0 Y5) rfl rfl ?_)))); try (refine Ax (As rfl U22 rfl) rfl rfl (Ax (Aj rfl) rfl rfl (Ax (Ag rfl) rfl rfl (Ax (Ad fo98_1 rfl) rfl rfl (Ax (Ac U3 rfl rfl Y0 Y5) rfl rfl ?_)))); try (refine Ax (Cf rfl rfl Y9 Y9) rfl rfl ?_; try (refine Ax (Aj rfl) rfl rfl (Ax (Bn rfl rfl Y2) rfl rfl ?_); try ((refine Bc ?_; try ((refine AS (Take.nil _) (CallR.val rfl en79) rfl rfl (BV false) (fun e => AN Tryz.func184 rfl Y4) ?_; rintro u e; cases e) <;> try ((refine Aa N12 ?_))))))))))))
def beN (l : Bs) : Nat := l.foldl (fun n c => n * 256 + c.toNat) 0
theorem beV_N (l : Bs) : beV l = (beN l : Int) := by
 unfold beV beN
 suffices h : ∀ (l : Bs) (n : Nat), l.foldl (fun (n : Int) c => n * 256 + (c.toNat : Int)) (n : Int) = ((l.foldl (fun n c => n * 256 + c.toNat) n : Nat) : Int) from h l 0
 intro l
 induction l with
 | nil => intro n; rfl
 | cons c l ih => intro n; simp only [List.foldl_cons]; rw [← ih]; congr 1
theorem beN_snoc (l : Bs) (c : UInt8) : beN (l ++ [c]) = beN l * 256 + c.toNat := by unfold beN; rw [List.foldl_append]; rfl
theorem beN_lt (l : Bs) : beN l < 256 ^ l.length := by
 suffices h : ∀ (n : Nat) (l : Bs), l.length = n → beN l < 256 ^ n from h _ l rfl
 intro n
 induction n with
 | zero => intro l h; have : l = [] := List.length_eq_zero_iff.1 h; subst this; simp [beN]
 | succ n ih =>
   intro l h
   have hne : l ≠ [] := by rintro rfl; simp at h
   have e := List.dropLast_concat_getLast hne
   rw [← e, beN_snoc]
   have := ih l.dropLast (by simp [h])
   have hc := (l.getLast hne).toNat_lt
   rw [Nat.pow_succ]; omega
theorem shl8 {n : Nat} (h : n < 4294967296) : IntKind.i64.wrap ((n : Int) * 2 ^ (min (8 : Int).toNat IntKind.i64.bits)) = ((n * 256 : Nat) : Int) := by
 rw [show (2 : Int) ^ (min (8 : Int).toNat IntKind.i64.bits) = 256 by decide, show (n : Int) * 256 = ((n * 256 : Nat) : Int) by omega]
 exact Cw Y9 Y9
theorem plain_c {rb s sz : Nat} {b : Bs} {bsv v2 v3 fv : Value} (hb : SlK S w0 F (byv b) b.length bsv) (hs : s ≤ b.length) (hsz : 1 ≤ sz ∧ sz ≤ 4) (hlen : b.length ≤ 65535) :
 SLF Tryz.prog S w0 F 183 [pv rb 0, .int .i64 (sz : Int)] [RBE rb bsv v2 v3 s fv] (MoO (if s + sz ≤ b.length then .ok (beV ((b.drop s).take sz)) else .bad) fun n v post => v = .int .i64 n ∧ post = [RBE rb bsv v2 v3 (s + sz) fv]) := by
 refine AA fun w hi => ?_
 simp only [List.cons_append, List.nil_append] at hi
 have ht := take_c (rb := rb) (s := s) (n := sz) (v2 := v2) (v3 := v3) (fv := fv) hb hs (.inl hsz.1) hlen Y9
 refine Ai Tryz.func183 rfl rfl (hi) ?_
 by_cases h : s + sz ≤ b.length
 · rw [if_pos h] at ht ⊢
   have hll : ((b.drop s).take sz).length = sz := Cy h
   repeat' (first | (refine Ah rfl ?_) | (refine Ak rfl ?_) | (refine Al ?_) | (refine Am ?_) | (refine A5 ?_) | ((refine Ab 0 ?_; try (refine Za rfl (Aa N26 ?_)))) | ((refine Ab 1 ?_; try (refine Za rfl (Aa N26 ?_)))) | ((refine Ab 2 ?_; try (refine Zm rfl (Zm rfl ?_); try ((refine AS (pre := [RBE rb bsv v2 v3 s fv]) Y6 (CallR.val rfl en184) rfl rfl ht (fun e => by cases e) ?_; rintro u e v post ⟨rfl, b0, off0, ca, rfl, hca, hkn⟩) <;> try (refine Zv (As rfl U22 rfl) (Zm rfl (Aa N26 ?_))))))))
   generalize (b.drop s).take sz = l at *
   refine A0 (E' := (fun k : Nat => [(5, .int .i64 (beN (l.take k) : Int)), (10, .slice (some ⟨b0, off0, none⟩) sz ca), (11, .int .i64 (sz : Int)), (12, .int .i64 (k : Int))]) 0) Y14 ?_
   refine Bf (fun k : Nat => k ≤ sz) (fun k => sz - k) (fun k : Nat => [(5, .int .i64 (beN (l.take k) : Int)), (10, .slice (some ⟨b0, off0, none⟩) sz ca), (11, .int .i64 (sz : Int)), (12, .int .i64 (k : Int))]) (fun _ => _) ?_ 0 (Nat.zero_le _)
   rintro k k1 ih
   try dsimp only at k1 ih ⊢
   by_cases hlt : k < sz
   · have hc : Kn S w0 F b0 (off0 + ((k : Nat) : Int).toNat * 1) (.int .u8 (l[k]'Y9).toNat) := by
      have := hkn k Y9
      simpa using this
     have hsn : beN (l.take (k + 1)) = beN (l.take k) * 256 + (l[k]'Y9).toNat := by rw [List.take_succ_eq_append_getElem Y9, beN_snoc]
     have hb0 : beN (l.take k) < 256 ^ 3 := Nat.lt_of_lt_of_le (beN_lt _) (Nat.pow_le_pow_right Y9 (by rw [List.length_take]; omega))
     have hb1 : beN (l.take k) < 4294967296 := by omega
     have hcl := (l[k]'Y9).toNat_lt
     generalize beN (l.take k) = n at *
     generalize (l[k]'Y9).toNat = c at *
     repeat' (first | (refine Ah rfl ?_) | (refine Ak rfl ?_) | (refine Al ?_) | (refine Am ?_) | (refine A1 rfl ?_) | (refine A5 ?_) | (refine AH ?_) | (refine AE ?_) | ((refine Ab 3 ?_; try (refine Zv (A8 rfl rfl Y2) ?_; try ((refine Aa N26 ?_))))) | ((refine Ab 4 ?_; try (refine Zv (Aq U22 sz5 rfl rfl Y9 Y9) ?_; try (refine Zv (A7 U5 rfl rfl hc.cons) (Za rfl (Aa N26 ?_)))))) | ((refine Ab 5 ?_; try (refine Zm rfl (Zv (ov_shl rfl rfl Y9 (shl8 hb1)) ?_); try (refine Zm rfl (Zv (CU U5 U3 rfl Y9 Y9) ?_); try (refine Zv (ov_or rfl rfl (or_byte n c Y9 hb1)) ?_; try (refine Za rfl (Aa N26 ?_))))))) | ((refine Ab 6 ?_; try (refine Zv (AG rfl rfl Y9 Y9) ?_; try (refine Zm rfl (Aa N26 ?_))))))
     have ih2 := ih (k + 1) Y9 Y9
     rw [hsn] at ih2
     exact A0 Y10 ih2
   · have hk2 : k = sz := by omega
     subst hk2
     rw [List.take_of_length_le Y9, ← beV_N]
     repeat' (first | (refine Ah rfl ?_) | (refine Ak rfl ?_) | (refine Al ?_) | (refine Am ?_) | (refine Az rfl ?_) | (refine Bp rfl ?_) | (refine AL Tryz.func183 rfl (fun w_ hi_ => ?_)) | ((refine Ab 3 ?_; try (refine Zv (A8 rfl rfl Y2) ?_; try ((refine Aa N26 ?_))))) | ((refine Ab 7 ?_; try (refine Zm rfl (Za rfl (Aa N26 ?_))))))
     exact ⟨_, Bi rfl ⟨rfl, rfl⟩, hi_⟩
 · rw [if_neg h] at ht ⊢
   repeat' (first | (refine Ah rfl ?_) | (refine Al ?_) | (refine Am ?_) | ((refine Ab 0 ?_; try (refine Za rfl (Aa N26 ?_)))) | ((refine Ab 1 ?_; try (refine Za rfl (Aa N26 ?_)))) | ((refine Ab 2 ?_; try (refine Zm rfl (Zm rfl ?_); try ((refine AS (pre := [RBE rb bsv v2 v3 s fv]) Y6 (CallR.val rfl en184) rfl rfl ht (fun e => AN Tryz.func183 rfl Y4) ?_; rintro u e; cases e))))))
end
end Go.Sl
namespace Go.Sl
open Go Go.RowKit Go.Shelf Go.Proofs
attribute [local irreducible] Calls
theorem wrap_i32_u {m : Int} (h0 : 0 ≤ m) (h1 : m < 4294967296) : IntKind.i32.wrap m = if 2147483648 ≤ m then m - 4294967296 else m := by
 have hb : (2 : Int) ^ IntKind.i32.bits = 4294967296 := by decide
 have hb2 : (2 : Int) ^ (IntKind.i32.bits - 1) = 2147483648 := by decide
 have hs : IntKind.i32.signed = true := rfl
 simp only [IntKind.wrap, hb, hb2, hs]
 simp
 split <;> split <;> omega
section
variable {C : Cx} {S : Nat → Prop} {w0 : World} {k : List Item} {D : List Deferred} {E : List (Nat × Value)} {H : List Ent} {d : Option Tmp} {t : TypeId} {p : String} {af : Array Edge} {g : Option (Nat × Bool)} {ops : Array Oper} {fuel : Nat} {listed listed' : Array Bool} {i : Nat}
theorem wi_callO {α : Type} {r : Out α} {G : α → Value → List Ent → Prop} {c : Call} {f : FuncId} {vs : List Value} {pre F : List Ent} (hop : ops[i]? = some ⟨d, .call c, t, p, af, g⟩) (hp : Take H pre F) (hc : CallR C D E ⟨d, .call c, t, p, af, g⟩ f vs) (hg : guardOk E ops ⟨d, .call c, t, p, af, g⟩ = some true) (hd : dstOk d C.n = true) (hl : listed.setIfInBounds i true = listed')
 (h : SLF C.P S w0 F f vs pre (MoO r G)) (hn : r = .bad → WP C S w0 badE D [] F)
 (hk : ∀ a, r = .ok a → ∀ v post, G a v post → WA C S w0 ops fuel listed' k D (putE d v E) (post ++ F)) : WI C S w0 ops fuel listed i k D E H := by
 refine wi_callF hop hp hc hg hd hl h fun e post hq => ?_
 cases r with
 | ok a => obtain ⟨v, rfl, hg⟩ := hq; exact hk a rfl v post hg
 | bad =>
   obtain ⟨rfl, rfl⟩ := hq
   exact hn rfl
 | full => exact hq.elim
end
theorem perm_out (x : Ent) (A B C R : List Ent) : (A ++ (x :: (B ++ (C ++ R)))).Perm (x :: (B ++ (C ++ (A ++ R)))) := by
 have : (A ++ (x :: (B ++ C))).Perm ((x :: (B ++ C)) ++ A) := List.perm_append_comm
 have h2 := this.append_right R
 simpa only [List.append_assoc, List.cons_append] using h2
structure Nam (S : Nat → Prop) (w0 : World) (τ : Type) where
 ν : Int → Int → τ → Bs × τ
 fv : Value
 ok : okCell fv = true
 fn : FuncId
 env : List Ent → Prop
 envU : ∀ F F', (∀ e ∈ F, e ∈ F') → env F → env F'
 St : Nat → τ → List Ent → Prop
 vs : Int → Int → List Value
 goes : ∀ q n, GoesTo Tryz.prog fv [.int .u8 q, .int .i64 n] fn (vs q n)
 en : Enters Tryz.prog fn
 call : ∀ (F : List Ent) (q n : Int) (c : Nat) (t : τ) (L : List Ent), env F → St c t L → c < maxB → (0 ≤ q ∧ q ≤ 5) → 0 ≤ n → n ≤ 65535 → SLF Tryz.prog S w0 F fn (vs q n) L fun e post => ∃ v, e = .returned v ∧ v = str (ν q n t).1 ∧ St (c + 1) (ν q n t).2 post
def rSt {S : Nat → Prop} {w0 : World} {τ : Type} (N : Nam S w0 τ) (b : Bs) (bsv : Value) (rb : Nat) (s : RS τ) (L : List Ent) : Prop :=
 ∃ b2 c2 r2 b3 c3 r3 Ln, RowB b2 s.places.length c2 3 (rowV plcC s.places) r2 ∧ RowB b3 s.blocks.length c3 1 (intsV s.blocks) r3 ∧ N.St s.places.length s.st Ln ∧ s.read ≤ b.length ∧
  L = RBE rb bsv (slV b2 s.places.length c2) (slV b3 s.blocks.length c3) s.read N.fv :: (rowE b2 (rowV plcC s.places) r2 49 ++ (rowE b3 (intsV s.blocks) r3 3 ++ Ln))
section
variable {S : Nat → Prop} {w0 : World} {F : List Ent} {τ : Type} {N : Nam S w0 τ} {b : Bs} {bsv : Value} {rb : Nat} {s : RS τ} {L : List Ent}
theorem rea_block (hb : SlK S w0 F (byv b) b.length bsv) (hs : rSt N b bsv rb s L) (hB2 : s.blocks.length < maxB) :
 SLF Tryz.prog S w0 F 179 [pv rb 0] L (fun e post => ∃ v, e = .returned v ∧ v = unitV ∧ rSt N b bsv rb { s with blocks := s.blocks ++ [(s.read : Int)] } post) := by
 refine AA fun w hi => ?_
 obtain ⟨b2, c2, r2, b3, c3, r3, Ln, h2, h3, hn, hr, rfl⟩ := hs
 simp only [List.append_assoc, List.cons_append, List.nil_append] at hi
 have hB2' : s.blocks.length < 1099511627776 := hB2
 obtain ⟨a0, ca, rfl, _, _⟩ := id hb
 have hok := N.ok
 refine Ai Tryz.func179 rfl rfl (hi) ?_
 repeat' (first | (refine Ah rfl ?_) | (refine Ak rfl ?_) | (refine Al ?_) | (refine Bl Tryz.func179 rfl (fun w_ hi_ => ?_)) | ((refine Cs (m := 16) 0 rfl mixed rfl ?_; try (refine Zt 0 rfl (fun _ => Aj rfl) (Zt 1 rfl (fun _ => Aj rfl) (AZ 2 rfl (Bu rfl) Y1 Y1 Y1 rfl rfl rfl ?_)); try (refine Zt 3 rfl (fun _ => Ad Ch rfl) (Zt 4 rfl (fun _ => Ad fo81_2 rfl) (Zt 6 rfl (fun _ => Aj rfl) (AZ 7 rfl (Bu rfl) Y1 Y1 Y1 rfl rfl rfl ?_))); try (refine Zt 8 rfl (fun _ => Ad fo98_1 rfl) ?_; try (refine A9 5 9 Y1 ?_ ?_ <;> (first | (show WI _ _ _ _ _ _ 5 _ _ _ _; try (refine An rfl (Ac U59 rfl rfl Y0 Y5) rfl rfl rfl ?_; try (refine Ae 9 Y1 ?_ <;> try (refine An rfl (Ac U3 rfl rfl Y0 Y5) rfl rfl rfl ?_; try (refine Ae 10 Y1 ?_ <;> try ((refine wi_bs1 rfl U59 Cg rfl rfl rfl rfl rfl rfl rfl (fun bb_ hb_ => ?_)) <;> try (refine Ae 11 Y1 ?_ <;> try ((refine Br (sz := 1) (base := b3) (xs := intsV s.blocks) (rst := r3) rfl rfl rfl U59 U59 rfl Cg rfl Y22 rfl rfl h3.hl h3.hc (.tl (.tl (.ap (rowAt0 h3.hn)))) (.head _) (new := [.int .i64 (s.read : Int)]) rfl Y26 (List.all_eq_true.1 rfl) (by show (2 * (_ + 1) + 192) * 8 ≤ _; omega) Y9 Y9 rfl rfl rfl (fun b3' c3' r3' hc_ hn_ => ?_)) <;> try (refine AZ 12 rfl (Bu rfl) Y1 Y1 Y1 rfl rfl rfl ?_; try (refine Zt 13 rfl (fun _ => Ad Ch rfl) (Zt 14 rfl (fun _ => Ad fo81_2 rfl) (Ae 15 Y1 ?_)) <;> try (refine A3 rfl rfl rfl rfl sz59 Y3 Y8 (.inr Y8) rfl rfl rfl ?_; try ((refine Ap [0] Y1 ?_))))))))))))) | (show WI _ _ _ _ _ _ 9 _ _ _ _; try (refine An rfl (Ac U3 rfl rfl Y0 Y5) rfl rfl rfl ?_; try (refine A9 5 10 Y1 ?_ ?_ <;> (first | (show WI _ _ _ _ _ _ 5 _ _ _ _; try (refine An rfl (Ac U59 rfl rfl Y0 Y5) rfl rfl rfl ?_; try (refine Ae 10 Y1 ?_ <;> try ((refine wi_bs1 rfl U59 Cg rfl rfl rfl rfl rfl rfl rfl (fun bb_ hb_ => ?_)) <;> try (refine Ae 11 Y1 ?_ <;> try ((refine Br (sz := 1) (base := b3) (xs := intsV s.blocks) (rst := r3) rfl rfl rfl U59 U59 rfl Cg rfl Y22 rfl rfl h3.hl h3.hc (.tl (.tl (.ap (rowAt0 h3.hn)))) (.head _) (new := [.int .i64 (s.read : Int)]) rfl Y26 (List.all_eq_true.1 rfl) (by show (2 * (_ + 1) + 192) * 8 ≤ _; omega) Y9 Y9 rfl rfl rfl (fun b3' c3' r3' hc_ hn_ => ?_)) <;> try (refine AZ 12 rfl (Bu rfl) Y1 Y1 Y1 rfl rfl rfl ?_; try (refine Zt 13 rfl (fun _ => Ad Ch rfl) (Zt 14 rfl (fun _ => Ad fo81_2 rfl) (Ae 15 Y1 ?_)) <;> try (refine A3 rfl rfl rfl rfl sz59 Y3 Y8 (.inr Y8) rfl rfl rfl ?_; try ((refine Ap [0] Y1 ?_))))))))))) | (show WI _ _ _ _ _ _ 10 _ _ _ _; try ((refine wi_bs1 rfl U59 Cg rfl rfl rfl rfl rfl rfl rfl (fun bb_ hb_ => ?_)) <;> try (refine Ae 5 Y1 ?_ <;> try (refine An rfl (Ac U59 rfl rfl Y0 Y5) rfl rfl rfl ?_; try (refine Ae 11 Y1 ?_ <;> try ((refine Br (sz := 1) (base := b3) (xs := intsV s.blocks) (rst := r3) rfl rfl rfl U59 U59 rfl Cg rfl Y22 rfl rfl h3.hl h3.hc (.tl (.tl (.ap (rowAt0 h3.hn)))) (.head _) (new := [.int .i64 (s.read : Int)]) rfl Y26 (List.all_eq_true.1 rfl) (by show (2 * (_ + 1) + 192) * 8 ≤ _; omega) Y9 Y9 rfl rfl rfl (fun b3' c3' r3' hc_ hn_ => ?_)) <;> try (refine AZ 12 rfl (Bu rfl) Y1 Y1 Y1 rfl rfl rfl ?_; try (refine Zt 13 rfl (fun _ => Ad Ch rfl) (Zt 14 rfl (fun _ => Ad fo81_2 rfl) (Ae 15 Y1 ?_)) <;> try (refine A3 rfl rfl rfl rfl sz59 Y3 Y8 (.inr Y8) rfl rfl rfl ?_; try ((refine Ap [0] Y1 ?_)))))))))))))))))))))))
 all_goals
  have hl2 : (s.blocks ++ [(s.read : Int)]).length = s.blocks.length + 1 := by simp
  have hb2 : intsV (s.blocks ++ [(s.read : Int)]) = intsV s.blocks ++ [.int .i64 (s.read : Int)] := by simp [intsV]
  refine ⟨RBE rb (.slice a0 b.length ca) (slV b2 s.places.length c2) (slV (some b3') (s.blocks ++ [(s.read : Int)]).length c3') s.read N.fv :: (rowE b2 (rowV plcC s.places) r2 49 ++ (rowE (some b3') (intsV (s.blocks ++ [(s.read : Int)])) r3' 3 ++ Ln)), ⟨_, rfl, rfl, b2, c2, r2, some b3', c3', r3', Ln, h2, ⟨by simp only; rw [hb2, hl2, List.length_append, h3.hl]; simp, by simp only; rw [hb2]; exact hc_, by simp⟩, hn, hr, rfl⟩, ?_⟩
  rw [hb2, hl2]
  simp only [rowE_some, List.append_assoc (α := Ent), List.cons_append, List.nil_append]
  refine (hi_.pick (ps := [RBE rb (.slice a0 b.length ca) (slV b2 s.places.length c2) (slV (some b3') (s.blocks.length + 1) c3') s.read N.fv, ⟨b3', true, .cells (intsV s.blocks ++ [Value.int .i64 (s.read : Int)] ++ r3').toArray 3 (0, 0)⟩]) (F := rowE b2 (rowV plcC s.places) r2 49 ++ (Ln ++ F)) Y6 Y4).perm (List.Perm.cons _ ?_)
  exact perm_row ⟨b3', true, .cells (intsV s.blocks ++ [Value.int .i64 (s.read : Int)] ++ r3').toArray 3 (0, 0)⟩ (rowE b2 (rowV plcC s.places) r2 49) [] (Ln ++ F)
theorem rea_number {cb co sz : Nat} {n : Int} {c : Array Value} {el : TypeId} (hb : SlK S w0 F (byv b) b.length bsv) (hlen : b.length ≤ 65535) (hs : rSt N b bsv rb s L) (hsz : sz = 1 ∨ sz = 2 ∨ sz = 4) (hc : c[co]? = some (.int .i64 n)) :
 SLF Tryz.prog S w0 F 180 [pv rb 0, pv cb co, .int .i64 (sz : Int)] (L ++ [⟨cb, true, .cells c el (0, 0)⟩]) (MoO ((rKd b N.ν).num n sz s) fun a v post => v = unitV ∧ ∃ L', rSt N b bsv rb a.2 L' ∧ post = L' ++ [⟨cb, true, .cells (c.setIfInBounds co (.int .i64 a.1)) el (0, 0)⟩]) := by
 refine AA fun w hi => ?_
 obtain ⟨b2, c2, r2, b3, c3, r3, Ln, h2, h3, hn, hr, rfl⟩ := hs
 simp only [List.append_assoc, List.cons_append, List.nil_append] at hi
 have hlt := (Array.getElem?_eq_some_iff.1 hc).1
 have hp := fun {F'} (hu : ∀ e ∈ F, e ∈ F') => plain_c (rb := rb) (s := s.read) (sz := sz) (v2 := slV b2 s.places.length c2) (v3 := slV b3 s.blocks.length c3) (fv := N.fv) (SlK.up hb hu) hr Y9 hlen
 refine Ai Tryz.func180 rfl rfl (hi) ?_
 by_cases h : s.read + sz ≤ b.length
 · simp only [if_pos h] at hp
   have hk : (rKd b N.ν).num n sz s = .ok (numV sz (beV ((b.drop s.read).take sz)), { s with read := s.read + sz }) := by simp only [rKd]; rw [if_pos h]
   have hm : 0 ≤ beV ((b.drop s.read).take sz) ∧ beV ((b.drop s.read).take sz) < 4294967296 := by
    rw [beV_N]
    have h1 := beN_lt ((b.drop s.read).take sz)
    have h2 : (256 : Nat) ^ ((b.drop s.read).take sz).length ≤ 256 ^ 4 := Nat.pow_le_pow_right Y9 (by rw [List.length_take]; omega)
    omega
   generalize beV ((b.drop s.read).take sz) = m at *
   have hf1 : ∀ v, (c.setIfInBounds co v)[co]? = some v := fun v => by simp [hlt]
   have hf2 : ∀ v u, (c.setIfInBounds co v).setIfInBounds co u = c.setIfInBounds co u := fun v u => by apply Array.ext <;> simp [Array.getElem_setIfInBounds]
   have hlt2 : ∀ v, co < (c.setIfInBounds co v).size := fun v => by simpa using hlt
   repeat' (first | (refine Ah rfl ?_) | (refine Ak rfl ?_) | (refine Al ?_) | (refine Am ?_) | (refine A5 ?_) | ((refine Ab 0 ?_; try (refine Zm rfl (Zm rfl (Zm rfl ?_)); try ((refine AS (pre := [RBE rb bsv (slV b2 s.places.length c2) (slV b3 s.blocks.length c3) s.read N.fv]) Y6 (CallR.val rfl en183) rfl rfl (hp Y11) (fun e => by cases e) ?_; rintro m' e v post ⟨rfl, rfl⟩; cases e) <;> try (refine Zv (Ag rfl) ?_; try (refine AJ rfl rfl rfl sz3 Y3 hlt (.inr (Nat.zero_le _)) rfl rfl ?_; try ((refine Aa N29 ?_)))))))))
   rw [hk]
   simp only [List.nil_append]
   have hfin : ∀ (w : World) (v : Int), numV sz m = v → Inv S w0 (RBE rb bsv (slV b2 s.places.length c2) (slV b3 s.blocks.length c3) (s.read + sz) N.fv :: (rowE b2 (rowV plcC s.places) r2 49 ++ (rowE b3 (intsV s.blocks) r3 3 ++ (Ln ++ (⟨cb, true, .cells (c.setIfInBounds co (.int .i64 v)) el (0, 0)⟩ :: F))))) w → ∃ post, MoO (.ok (numV sz m, ({ s with read := s.read + sz } : RS τ))) (fun (a : Int × RS τ) v post => v = unitV ∧ ∃ L', rSt N b bsv rb a.2 L' ∧ post = L' ++ [⟨cb, true, .cells (c.setIfInBounds co (.int .i64 a.1)) el (0, 0)⟩]) (.returned unitV) post ∧ Inv S w0 (post ++ F) w := by
    rintro w v rfl hi
    exact ⟨_, ⟨_, rfl, rfl, _, ⟨b2, c2, r2, b3, c3, r3, Ln, h2, h3, hn, h, rfl⟩, rfl⟩, by simpa only [List.append_assoc, List.cons_append, List.nil_append] using hi⟩
   rcases hsz with rfl | rfl | rfl
   · repeat' (first | (refine Ah rfl ?_) | (refine Ak rfl ?_) | (refine Al ?_) | (refine Am ?_) | (refine Az rfl ?_) | (refine AH ?_) | (refine AE ?_) | (refine Bl Tryz.func180 rfl (fun w_ hi_ => ?_)) | ((refine Ab 1 ?_; try (refine Zm rfl (Zv (Aw rfl rfl Y2) ?_); try (refine Zm rfl (Zk (Zk (Zk (Zk (Zv (AC rfl rfl) (Za rfl (Aa N29 ?_))))))))))) | ((refine Ab 3 ?_; try (refine Zm rfl (Zv (Aw rfl rfl Y2) ?_); try (refine Za rfl (Aa N29 ?_))))))
     exact hfin _ _ (by simp [numV]) hi_
   · by_cases hm2 : m = 65535
     · repeat' (first | (refine Ah rfl ?_) | (refine Ak rfl ?_) | (refine Al ?_) | (refine A1 rfl ?_) | (refine AH ?_) | (refine Bl Tryz.func180 rfl (fun w_ hi_ => ?_)) | ((refine Ab 1 ?_; try (refine Zm rfl (Zv (Aw rfl rfl Y2) ?_); try (refine Zm rfl ?_; try (((refine Zm rfl ?_)) <;> try (((refine Zv (Ag rfl) ?_)) <;> try (((refine Zv (Ac U3 rfl rfl Y13 (hf1 _)) ?_)) <;> try (((refine Zv (Aw rfl rfl Y2) ?_)) <;> try (refine Zv (Av rfl rfl) (Za rfl (Aa N29 ?_))))))))))) | ((refine Ab 2 ?_; try (refine Zm rfl (Zv (Ag rfl) ?_); try (refine AJ rfl rfl rfl sz3 Y3 (hlt2 _) (.inr (Nat.zero_le _)) rfl rfl ?_; try ((refine Aa N29 ?_)))))))
       rw [hf2] at hi_
       exact hfin _ _ (by simp [numV, hm2]) hi_
     · repeat' (first | (refine Ah rfl ?_) | (refine Ak rfl ?_) | (refine Al ?_) | (refine Am ?_) | (refine Az rfl ?_) | (refine AH ?_) | (refine AE ?_) | (refine Bl Tryz.func180 rfl (fun w_ hi_ => ?_)) | ((refine Ab 1 ?_; try (refine Zm rfl (Zv (Aw rfl rfl Y2) ?_); try (refine Zm rfl ?_; try (((refine Zm rfl ?_)) <;> try (((refine Zv (Ag rfl) ?_)) <;> try (((refine Zv (Ac U3 rfl rfl Y13 (hf1 _)) ?_)) <;> try (((refine Zv (Aw rfl rfl Y2) ?_)) <;> try (refine Zv (Av rfl rfl) (Za rfl (Aa N29 ?_))))))))))) | ((refine Ab 3 ?_; try (refine Zm rfl (Zv (Aw rfl rfl Y2) ?_); try (refine Za rfl (Aa N29 ?_))))))
       exact hfin _ _ (by simp [numV, hm2]) hi_
   · have hw1 : IntKind.u32.wrap m = m := wrap_u32_in hm.1 Y9
     have hw2 : IntKind.i32.wrap m = if 2147483648 ≤ m then m - 4294967296 else m := wrap_i32_u hm.1 hm.2
     have hw3 : IntKind.i64.wrap (if 2147483648 ≤ m then m - 4294967296 else m) = if 2147483648 ≤ m then m - 4294967296 else m := Cw (by split <;> omega) (by split <;> omega)
     repeat' (first | (refine Ah rfl ?_) | (refine Ak rfl ?_) | (refine Al ?_) | (refine Am ?_) | (refine A1 rfl ?_) | (refine Az rfl ?_) | (refine AH ?_) | (refine Bl Tryz.func180 rfl (fun w_ hi_ => ?_)) | ((refine Ab 1 ?_; try (refine Zm rfl (Zv (Aw rfl rfl Y2) ?_); try (refine Zm rfl (Zk (Zk (Zk (Zk (Zv (AC rfl rfl) (Za rfl (Aa N29 ?_))))))))))) | ((refine Ab 3 ?_; try (refine Zm rfl (Zv (Aw rfl rfl Y2) ?_); try (refine Za rfl (Aa N29 ?_))))) | ((refine Ab 4 ?_; try (refine Zm rfl (Zm rfl (Zv (Ag rfl) (Zv (Ac U3 rfl rfl Y13 (hf1 _)) ?_))); try (refine Zv (CK U3 U215 rfl hw1) (Zv (CK U215 U21 rfl hw2) (Zv (CK U21 U3 rfl hw3) (Zv (Ag rfl) ?_))); try (refine AJ rfl rfl rfl sz3 Y3 (hlt2 _) (.inr (Nat.zero_le _)) rfl rfl ?_; try ((refine Aa N29 ?_))))))))
     rw [hf2] at hi_
     exact hfin _ _ (by simp [numV]) hi_
 · simp only [if_neg h] at hp
   have hk : (rKd b N.ν).num n sz s = .bad := by simp only [rKd]; rw [if_neg h]
   repeat' (first | (refine Am ?_) | ((refine Ab 0 ?_; try (refine Zm rfl (Zm rfl (Zm rfl ?_)); try ((refine AS (pre := [RBE rb bsv (slV b2 s.places.length c2) (slV b3 s.blocks.length c3) s.read N.fv]) Y6 (CallR.val rfl en183) rfl rfl (hp Y11) (fun e => AN Tryz.func180 hk Y4) ?_; rintro u e; cases e))))))
theorem rea_text {cb co : Nat} {n : Bs} {c : Array Value} {el : TypeId} (hb : SlK S w0 F (byv b) b.length bsv) (hlen : b.length ≤ 65535) (hs : rSt N b bsv rb s L) (hc : c[co]? = some (str n)) :
 SLF Tryz.prog S w0 F 182 [pv rb 0, pv cb co] (L ++ [⟨cb, true, .cells c el (0, 0)⟩]) (MoO ((rKd b N.ν).txt n s) fun a v post => v = unitV ∧ ∃ L', rSt N b bsv rb a.2 L' ∧ post = L' ++ [⟨cb, true, .cells (c.setIfInBounds co (str a.1)) el (0, 0)⟩]) := by
 refine AA fun w hi => ?_
 obtain ⟨b2, c2, r2, b3, c3, r3, Ln, h2, h3, hn, hr, rfl⟩ := hs
 simp only [List.append_assoc, List.cons_append, List.nil_append] at hi
 have hlt := (Array.getElem?_eq_some_iff.1 hc).1
 have hp := fun {F'} (hu : ∀ e ∈ F, e ∈ F') => plain_c (rb := rb) (s := s.read) (sz := 1) (v2 := slV b2 s.places.length c2) (v3 := slV b3 s.blocks.length c3) (fv := N.fv) (SlK.up hb hu) hr Y9 hlen
 refine Ai Tryz.func182 rfl rfl (hi) ?_
 by_cases h : s.read + 1 ≤ b.length
 · simp only [if_pos h] at hp
   have hbne : b ≠ [] := by rintro rfl; simp at h
   obtain ⟨a, ha⟩ := List.length_eq_one_iff.1 (Cy h)
   have e1 : beV ((b.drop s.read).take 1) = a.toNat := by rw [ha, beV1]
   rw [e1] at hp
   have hal := a.toNat_lt
   have htk := fun {F'} (hu : ∀ e ∈ F, e ∈ F') => take_c (rb := rb) (s := s.read + 1) (n := a.toNat) (v2 := slV b2 s.places.length c2) (v3 := slV b3 s.blocks.length c3) (fv := N.fv) (SlK.up hb hu) h (.inr hbne) hlen Y9
   have hk : (rKd b N.ν).txt n s = if s.read + 1 + a.toNat ≤ b.length then .ok ((b.drop (s.read + 1)).take a.toNat, { s with read := s.read + 1 + a.toNat }) else .bad := by
    simp only [rKd]; rw [if_pos h, e1]; simp only [Int.toNat_natCast]
   by_cases h4 : s.read + 1 + a.toNat ≤ b.length
   · simp only [if_pos h4] at htk
     rw [if_pos h4] at hk
     rw [hk]
     have hll := Cy h4
     generalize (b.drop (s.read + 1)).take a.toNat = l at *
     rw [← hll] at htk
     repeat' (first | (refine Ah rfl ?_) | (refine Ak rfl ?_) | (refine Al ?_) | (refine Bl Tryz.func182 rfl (fun w_ hi_ => ?_)) | ((refine Ab 0 ?_; try (refine Zm rfl (Zm rfl (Zm rfl ?_)); try ((refine AS (pre := [RBE rb bsv (slV b2 s.places.length c2) (slV b3 s.blocks.length c3) s.read N.fv]) Y6 (CallR.val rfl en183) rfl rfl (hp Y11) (fun e => by cases e) ?_; rintro m' e v post ⟨rfl, rfl⟩; cases e; simp only [List.cons_append, List.nil_append]) <;> try ((refine AS (pre := [RBE rb bsv (slV b2 s.places.length c2) (slV b3 s.blocks.length c3) (s.read + 1) N.fv]) Y6 (CallR.val (vs := [pv rb 0, .int .i64 (l.length : Int)]) (by rw [hll]; rfl) en184) rfl rfl (htk Y11) (fun e => by cases e) ?_; rintro u e v post ⟨rfl, b0, off0, ca, rfl, hca, hkn⟩; simp only [List.cons_append, List.nil_append]) <;> try (refine Zv (ov_ofBytesK U22 U9 U5 rfl (fun j h => (hkn j h).mono Y11)) ?_; try (refine Zv (Ag rfl) ?_; try (refine AJ rfl rfl rfl sz9 Y3 hlt (.inr (Nat.zero_le _)) rfl rfl ?_; try ((refine Aa [0, 1] ?_)))))))))))
     refine ⟨_, ⟨_, rfl, rfl, _, ⟨b2, c2, r2, b3, c3, r3, Ln, h2, h3, hn, h4, rfl⟩, rfl⟩, ?_⟩
     rw [hll] at hi_
     simpa only [List.append_assoc, List.cons_append, List.nil_append] using hi_
   · simp only [if_neg h4] at htk
     rw [if_neg h4] at hk
     rw [hk]
     repeat' ((refine Ab 0 ?_; try (refine Zm rfl (Zm rfl (Zm rfl ?_)); try ((refine AS (pre := [RBE rb bsv (slV b2 s.places.length c2) (slV b3 s.blocks.length c3) s.read N.fv]) Y6 (CallR.val rfl en183) rfl rfl (hp Y11) (fun e => by cases e) ?_; rintro m' e v post ⟨rfl, rfl⟩; cases e; simp only [List.cons_append, List.nil_append]) <;> try ((refine AS (pre := [RBE rb bsv (slV b2 s.places.length c2) (slV b3 s.blocks.length c3) (s.read + 1) N.fv]) Y6 (CallR.val rfl en184) rfl rfl (htk Y11) (fun e => AN Tryz.func182 rfl Y4) ?_; rintro u e; cases e) <;> try (fail))))))
 · simp only [if_neg h] at hp
   have hk : (rKd b N.ν).txt n s = .bad := by simp only [rKd]; rw [if_neg h]
   repeat' ((refine Ab 0 ?_; try (refine Zm rfl (Zm rfl (Zm rfl ?_)); try ((refine AS (pre := [RBE rb bsv (slV b2 s.places.length c2) (slV b3 s.blocks.length c3) s.read N.fv]) Y6 (CallR.val rfl en183) rfl rfl (hp Y11) (fun e => AN Tryz.func182 hk Y4) ?_; rintro u e; cases e) <;> try (fail)))))
theorem rea_refer {cb co : Nat} {n : Bs} {q : Int} {c : Array Value} {el : TypeId} (hb : SlK S w0 F (byv b) b.length bsv) (hE : N.env F) (hlen : b.length ≤ 65535) (hq : 0 ≤ q ∧ q ≤ 5) (hs : rSt N b bsv rb s L) (hB : s.places.length < maxB) (hc : c[co]? = some (str n)) :
 SLF Tryz.prog S w0 F 181 [pv rb 0, pv cb co, .int .u8 q] (L ++ [⟨cb, true, .cells c el (0, 0)⟩]) (MoO ((rKd b N.ν).ref n q s) fun a v post => v = unitV ∧ ∃ L', rSt N b bsv rb a.2 L' ∧ post = L' ++ [⟨cb, true, .cells (c.setIfInBounds co (str a.1)) el (0, 0)⟩]) := by
 refine AA fun w hi => ?_
 obtain ⟨b2, c2, r2, b3, c3, r3, Ln, h2, h3, hn, hr, rfl⟩ := hs
 simp only [List.append_assoc, List.cons_append, List.nil_append] at hi
 have hlt := (Array.getElem?_eq_some_iff.1 hc).1
 have hB2' : s.places.length < 1099511627776 := hB
 have hpl : (rowV plcC s.places).length = s.places.length * 3 := h2.hl
 have hl2 : (s.places ++ [((s.read : Int), q, ([] : Bs))]).length = s.places.length + 1 := by simp
 have hb2 : rowV plcC (s.places ++ [((s.read : Int), q, ([] : Bs))]) = rowV plcC s.places ++ plcC ((s.read : Int), q, []) := by simp [rowV]
 refine Ai Tryz.func181 rfl rfl (hi) ?_
 repeat' (first | (refine Ah rfl ?_) | (refine Ak rfl ?_) | (refine Al ?_) | (refine Am ?_) | ((refine Cs (m := 18) 0 rfl mixed rfl ?_; try (refine Zt 0 rfl (fun _ => Aj rfl) (Zt 1 rfl (fun _ => Aj rfl) (AZ 2 rfl (Bu rfl) Y1 Y1 Y1 rfl rfl rfl ?_)); try (refine Zt 3 rfl (fun _ => Ad Ch rfl) (Zt 4 rfl (fun _ => Ad BR rfl) (Zt 6 rfl (fun _ => Aj rfl) (AZ 7 rfl (Bu rfl) Y1 Y1 Y1 rfl rfl rfl ?_))); try (refine Zt 8 rfl (fun _ => Ad fo98_1 rfl) (Zt 10 rfl (fun _ => Aj rfl) ?_); try (refine A9 5 9 Y1 ?_ ?_ <;> (first | (show WI _ _ _ _ _ _ 5 _ _ _ _; try (refine An rfl (Ac U29 rfl rfl Y0 Y5) rfl rfl rfl ?_; try (refine Ae 9 Y1 ?_ <;> try (refine An rfl (Ac U3 rfl rfl Y0 Y5) rfl rfl rfl ?_; try (refine Zt 11 rfl (fun _ => Bm (vs := [(0, .int .i64 (s.read : Int)), (1, .int .u8 q)]) (cs := #[.int .i64 (s.read : Int), .int .u8 q, str []]) pl49 Bh rfl rfl rfl) (Ae 12 Y1 ?_) <;> try ((refine C7 rfl U29 Bh rfl rfl rfl rfl rfl rfl (fun bb_ hb_ => ?_)) <;> try (refine Ae 13 Y1 ?_ <;> try ((refine Br (sz := 3) (base := b2) (xs := rowV plcC s.places) (rst := r2) rfl rfl rfl U29 U29 rfl Bh rfl Y22 rfl rfl h2.hl h2.hc (.tl (.tl (rowAt0 h2.hn))) (.head _) (new := plcC ((s.read : Int), q, [])) rfl (by simp [plcC]) (List.all_eq_true.1 rfl) (by show (2 * (_ + 1) + 192) * 32 ≤ _; omega) Y9 Y9 rfl rfl rfl (fun b2' c2' r2' hc_ hn_ => ?_)) <;> try (refine AZ 14 rfl (Bu rfl) Y1 Y1 Y1 rfl rfl rfl ?_; try (refine Zt 15 rfl (fun _ => Ad Ch rfl) (Zt 16 rfl (fun _ => Ad BR rfl) (Ae 17 Y1 ?_)) <;> try (refine A3 rfl rfl rfl rfl sz29 Y3 Y8 (.inr Y8) rfl rfl rfl ?_; try ((refine Ap N3 Y1 ?_))))))))))))) | (show WI _ _ _ _ _ _ 9 _ _ _ _; try (refine An rfl (Ac U3 rfl rfl Y0 Y5) rfl rfl rfl ?_; try (refine Zt 11 rfl (fun _ => Bm (vs := [(0, .int .i64 (s.read : Int)), (1, .int .u8 q)]) (cs := #[.int .i64 (s.read : Int), .int .u8 q, str []]) pl49 Bh rfl rfl rfl) ?_; try (refine A9 5 12 Y1 ?_ ?_ <;> (first | (show WI _ _ _ _ _ _ 5 _ _ _ _; try (refine An rfl (Ac U29 rfl rfl Y0 Y5) rfl rfl rfl ?_; try (refine Ae 12 Y1 ?_ <;> try ((refine C7 rfl U29 Bh rfl rfl rfl rfl rfl rfl (fun bb_ hb_ => ?_)) <;> try (refine Ae 13 Y1 ?_ <;> try ((refine Br (sz := 3) (base := b2) (xs := rowV plcC s.places) (rst := r2) rfl rfl rfl U29 U29 rfl Bh rfl Y22 rfl rfl h2.hl h2.hc (.tl (.tl (rowAt0 h2.hn))) (.head _) (new := plcC ((s.read : Int), q, [])) rfl (by simp [plcC]) (List.all_eq_true.1 rfl) (by show (2 * (_ + 1) + 192) * 32 ≤ _; omega) Y9 Y9 rfl rfl rfl (fun b2' c2' r2' hc_ hn_ => ?_)) <;> try (refine AZ 14 rfl (Bu rfl) Y1 Y1 Y1 rfl rfl rfl ?_; try (refine Zt 15 rfl (fun _ => Ad Ch rfl) (Zt 16 rfl (fun _ => Ad BR rfl) (Ae 17 Y1 ?_)) <;> try (refine A3 rfl rfl rfl rfl sz29 Y3 Y8 (.inr Y8) rfl rfl rfl ?_; try ((refine Ap N3 Y1 ?_))))))))))) | (show WI _ _ _ _ _ _ 12 _ _ _ _; try ((refine C7 rfl U29 Bh rfl rfl rfl rfl rfl rfl (fun bb_ hb_ => ?_)) <;> try (refine Ae 5 Y1 ?_ <;> try (refine An rfl (Ac U29 rfl rfl Y0 Y5) rfl rfl rfl ?_; try (refine Ae 13 Y1 ?_ <;> try ((refine Br (sz := 3) (base := b2) (xs := rowV plcC s.places) (rst := r2) rfl rfl rfl U29 U29 rfl Bh rfl Y22 rfl rfl h2.hl h2.hc (.tl (.tl (rowAt0 h2.hn))) (.head _) (new := plcC ((s.read : Int), q, [])) rfl (by simp [plcC]) (List.all_eq_true.1 rfl) (by show (2 * (_ + 1) + 192) * 32 ≤ _; omega) Y9 Y9 rfl rfl rfl (fun b2' c2' r2' hc_ hn_ => ?_)) <;> try (refine AZ 14 rfl (Bu rfl) Y1 Y1 Y1 rfl rfl rfl ?_; try (refine Zt 15 rfl (fun _ => Ad Ch rfl) (Zt 16 rfl (fun _ => Ad BR rfl) (Ae 17 Y1 ?_)) <;> try (refine A3 rfl rfl rfl rfl sz29 Y3 Y8 (.inr Y8) rfl rfl rfl ?_; try ((refine Ap N3 Y1 ?_))))))))))))))))))))))))
 all_goals
  refine w_pick (ps := [RBE rb bsv (slV (some b2') (s.places.length + 1) c2') (slV b3 s.blocks.length c3) s.read N.fv, ⟨b2', true, .cells (rowV plcC s.places ++ plcC ((s.read : Int), q, []) ++ r2').toArray 49 (0, 0)⟩]) (F := rowE b3 (intsV s.blocks) r3 3 ++ (Ln ++ (⟨cb, true, .cells c el (0, 0)⟩ :: F))) Y6 Y4 ?_
  simp only [List.cons_append, List.nil_append]
  have hp := fun {F'} (hu : ∀ e ∈ F, e ∈ F') => plain_c (rb := rb) (s := s.read) (sz := 2) (v2 := slV (some b2') (s.places.length + 1) c2') (v3 := slV b3 s.blocks.length c3) (fv := N.fv) (SlK.up hb hu) hr Y9 hlen
  by_cases h : s.read + 2 ≤ b.length
  · simp only [if_pos h] at hp
    have hk : (rKd b N.ν).ref n q s = .ok ((N.ν q (beV ((b.drop s.read).take 2)) s.st).1, { read := s.read + 2, places := s.places ++ [((s.read : Int), q, [])], blocks := s.blocks, st := (N.ν q (beV ((b.drop s.read).take 2)) s.st).2 }) := by simp only [rKd]; rw [if_pos hB, if_pos h]
    have hm := beV_two (Cy h)
    rw [hk]
    generalize beV ((b.drop s.read).take 2) = m at *
    have hcall := fun {F'} (hu : ∀ e ∈ F, e ∈ F') => N.call F' q m s.places.length s.st Ln (N.envU _ _ hu hE) hn hB hq hm.1 hm.2
    repeat' (first | (refine Ah rfl ?_) | (refine Ak rfl ?_) | (refine Al ?_) | ((refine Cs (m := 11) 1 rfl mixed rfl ?_; try (refine Zt 0 rfl (fun _ => Aj rfl) (Zt 1 rfl (fun _ => Aj rfl) (AZ 2 rfl (Bu rfl) Y1 Y1 Y1 rfl rfl rfl ?_)); try (refine Zt 3 rfl (fun _ => Ad fo98_2 rfl) (Zt 5 rfl (fun _ => Aj rfl) (Zt 6 rfl (fun _ => Aj rfl) ?_)); try (refine A9 4 7 Y1 ?_ ?_ <;> (first | (show WI _ _ _ _ _ _ 4 _ _ _ _; try (refine An rfl (Ac U91 rfl rfl Y0 Y5) rfl rfl rfl ?_; try (refine Ae 7 Y1 ?_ <;> try ((refine wi_callO (pre := [RBE rb bsv (slV (some b2') (s.places.length + 1) c2') (slV b3 s.blocks.length c3) s.read N.fv]) rfl Y6 (CallR.val rfl en183) rfl rfl rfl (hp Y11) (fun e => by cases e) ?_; rintro m' e v post ⟨rfl, rfl⟩; cases e) <;> try (refine Ae 8 Y1 ?_ <;> try ((refine AD (pre := Ln) rfl Y7 (CallR.fv rfl rfl (N.goes q m) N.en) rfl rfl rfl (hcall Y11) ?_; rintro v Lq ⟨rfl, hst⟩) <;> try (refine AZ 9 rfl (Bu rfl) Y1 Y1 Y1 rfl rfl rfl ?_; try (refine Ae 10 Y1 ?_ <;> try (refine A3 rfl rfl rfl rfl sz9 Y3 hlt (.inr (Nat.zero_le _)) rfl rfl rfl ?_; try ((refine Ap N3 Y1 ?_))))))))))) | (show WI _ _ _ _ _ _ 7 _ _ _ _; try ((refine wi_callO (pre := [RBE rb bsv (slV (some b2') (s.places.length + 1) c2') (slV b3 s.blocks.length c3) s.read N.fv]) rfl Y6 (CallR.val rfl en183) rfl rfl rfl (hp Y11) (fun e => by cases e) ?_; rintro m' e v post ⟨rfl, rfl⟩; cases e) <;> try (refine Ae 4 Y1 ?_ <;> try (refine An rfl (Ac U91 rfl rfl Y0 Y5) rfl rfl rfl ?_; try (refine Ae 8 Y1 ?_ <;> try ((refine AD (pre := Ln) rfl Y7 (CallR.fv rfl rfl (N.goes q m) N.en) rfl rfl rfl (hcall Y11) ?_; rintro v Lq ⟨rfl, hst⟩) <;> try (refine AZ 9 rfl (Bu rfl) Y1 Y1 Y1 rfl rfl rfl ?_; try (refine Ae 10 Y1 ?_ <;> try (refine A3 rfl rfl rfl rfl sz9 Y3 hlt (.inr (Nat.zero_le _)) rfl rfl rfl ?_; try ((refine Ap N3 Y1 ?_))))))))))))))))))
    all_goals
     repeat' (refine Bl Tryz.func181 rfl (fun w_ hi_ => ?_))
     refine ⟨RBE rb bsv (slV (some b2') (s.places ++ [((s.read : Int), q, ([] : Bs))]).length c2') (slV b3 s.blocks.length c3) (s.read + 2) N.fv :: (rowE (some b2') (rowV plcC (s.places ++ [((s.read : Int), q, ([] : Bs))])) r2' 49 ++ (rowE b3 (intsV s.blocks) r3 3 ++ Lq)) ++ [⟨cb, true, .cells (c.setIfInBounds co (str (N.ν q m s.st).1)) el (0, 0)⟩], ⟨_, rfl, rfl, _, ⟨some b2', c2', r2', b3, c3, r3, Lq, ⟨by simp only; rw [hb2, hl2, List.length_append, hpl, CC]; omega, by simp only; rw [hb2]; exact hc_, by simp⟩, h3, by simp only; rw [hl2]; exact hst, h, rfl⟩, rfl⟩, ?_⟩
     rw [hb2, hl2]
     simp only [rowE_some, List.append_assoc (α := Ent), List.cons_append, List.nil_append] at hi_ ⊢
     exact hi_.perm (perm_out _ Lq [⟨b2', true, .cells (rowV plcC s.places ++ plcC ((s.read : Int), q, []) ++ r2').toArray 49 (0, 0)⟩] (rowE b3 (intsV s.blocks) r3 3) (⟨cb, true, .cells (c.setIfInBounds co (str (N.ν q m s.st).1)) el (0, 0)⟩ :: F))
  · simp only [if_neg h] at hp
    have hk : (rKd b N.ν).ref n q s = .bad := by simp only [rKd]; rw [if_pos hB, if_neg h]
    repeat' ((refine Cs (m := 11) 1 rfl mixed rfl ?_; try (refine Zt 0 rfl (fun _ => Aj rfl) (Zt 1 rfl (fun _ => Aj rfl) (AZ 2 rfl (Bu rfl) Y1 Y1 Y1 rfl rfl rfl ?_)); try (refine Zt 3 rfl (fun _ => Ad fo98_2 rfl) (Zt 5 rfl (fun _ => Aj rfl) (Zt 6 rfl (fun _ => Aj rfl) ?_)); try (refine A9 4 7 Y1 ?_ ?_ <;> (first | (show WI _ _ _ _ _ _ 4 _ _ _ _; try (refine An rfl (Ac U91 rfl rfl Y0 Y5) rfl rfl rfl ?_; try (refine Ae 7 Y1 ?_ <;> try ((refine wi_callO (pre := [RBE rb bsv (slV (some b2') (s.places.length + 1) c2') (slV b3 s.blocks.length c3) s.read N.fv]) rfl Y6 (CallR.val rfl en183) rfl rfl rfl (hp Y11) (fun e => AN Tryz.func181 hk Y4) ?_; rintro u e; cases e))))) | (show WI _ _ _ _ _ _ 7 _ _ _ _; try ((refine wi_callO (pre := [RBE rb bsv (slV (some b2') (s.places.length + 1) c2') (slV b3 s.blocks.length c3) s.read N.fv]) rfl Y6 (CallR.val rfl en183) rfl rfl rfl (hp Y11) (fun e => AN Tryz.func181 hk Y4) ?_; rintro u e; cases e)))))))))
end
theorem metRN : metTo Tryz.prog 88 "trestle/code.number" = some 180 := by kernel_rfl
theorem metRT : metTo Tryz.prog 88 "trestle/code.text" = some 182 := by kernel_rfl
theorem metRR : metTo Tryz.prog 88 "trestle/code.refer" = some 181 := by kernel_rfl
theorem metRB : metTo Tryz.prog 88 "trestle/code.block" = some 179 := by kernel_rfl
end Go.Sl
