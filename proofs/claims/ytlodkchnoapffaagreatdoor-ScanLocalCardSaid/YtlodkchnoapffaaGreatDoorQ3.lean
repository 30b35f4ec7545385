/- Of the proof that this claim's last text ends. What 'all', 'IsBrand' and their helpers return. Conditions: lengths. -/
import Derived.Test.YtlodkchnoapffaaGreatDoorQ2
namespace Go.Sl
open Go Go.Proofs
set_option maxRecDepth 100000
set_option maxHeartbeats 2000000
set_option linter.unusedSimpArgs false
set_option linter.unusedVariables false
attribute [local irreducible] Calls

/-- A closure's contract for slices.ContainsFunc over bytes: whatever byte. -/
def PredC (P : Program) (f : FuncId) (caps : List Value) (q : UInt8 → Bool) (ks : List Ent) : Prop :=
  ∀ (c : UInt8) (w : World), Inv none_ w ks w → Calls P f (.int .u8 (c.toNat : Int) :: caps).toArray w fun e w' => e = .returned (.bool (q c)) ∧ Fr none_ w w'

theorem Inv.view_tail {S : Nat → Prop} {w0 w : World} {e : Ent} {ks : List Ent} (hi : Inv S w0 (e :: ks) w) (hro : ∀ e ∈ ks, e.rw = false) : Inv none_ w ks w :=
  ⟨Fr.refl _ w, (List.nodup_cons.1 (by simpa using hi.nd)).2, fun e he => hi.hb e (.tail _ he), fun e he h => by rw [hro e he] at h; cases h⟩

theorem indexFunc_c (q : UInt8 → Bool) (f : FuncId) (caps : List Value) (ks : List Ent) (he : Enters Tryz.prog f) (hq : PredC Tryz.prog f caps q ks) (l : List UInt8) (b cap : Nat) (rst : List Value) (el : TypeId) (fz : Nat × Nat) (hl : l.length < 4611686018427387904) (w : World)
    (hro : ∀ e ∈ ks, e.rw = false) (hi : Inv none_ w (⟨b, false, .cells (byv l ++ rst).toArray el fz⟩ :: ks) w) :
    Calls Tryz.prog 99 #[.slice (some ⟨b, 0, none⟩) l.length cap, .func (.func f) #[] caps.toArray] w fun e w' => e = .returned (.int .i64 (match l.findIdx? q with | some i => (i : Int) | none => -1)) ∧ Fr none_ w w' := by
  have hat : ∀ k (h : k < l.length), ((byv l ++ rst).toArray)[0 + ((k : Nat) : Int).toNat * 1]? = some (.int .u8 (l[k].toNat : Int)) := by
    intro k h
    have : 0 + ((k : Nat) : Int).toNat * 1 = k := by omega
    rw [this, List.getElem?_toArray, List.getElem?_append_left (by simpa [byv] using h)]; simp [byv, h]
  refine calls_of_WF Tryz.func99 rfl rfl (hi) ?_
  repeat' (first | (refine pf_keep rfl ?_) | (refine pf_drop rfl ?_) | (refine pf_nil ?_) | (refine w_seq ?_) | (refine w_block ?_) | ((refine w_regI 0 ?_; try ((refine wo_v (ov_assign rfl) rfl rfl rfl ?_) <;> try ((refine wo_nilP [0, 1, 4, 5, 7, 8, 9, 16] ?_))))) | ((refine w_regI 1 ?_; try ((refine wo_v (ov_move rfl) rfl rfl rfl ?_) <;> try ((refine wo_v (ov_lenL rfl Tryz.underlying63 rfl) rfl rfl rfl ?_) <;> try ((refine wo_v (ov_move rfl) rfl rfl rfl ?_) <;> try ((refine wo_nilP [0, 1, 4, 5, 7, 8, 9, 16] ?_))))))))
  refine w_weak (E' := (fun k : Nat => [(0, .slice (some ⟨b, 0, none⟩) l.length cap), (1, .func (.func f) #[] caps.toArray), (7, .int .i64 (l.length : Int)), (8, .int .i64 (k : Int))]) 0) (by repeat (first | exact sub_nil _ | refine sub_cons rfl ?_)) ?_
  refine w_while (fun k : Nat => k ≤ l.length ∧ l.findIdx? q = ((l.drop k).findIdx? q).map (· + k)) (fun k => l.length - k) (fun k : Nat => [(0, .slice (some ⟨b, 0, none⟩) l.length cap), (1, .func (.func f) #[] caps.toArray), (7, .int .i64 (l.length : Int)), (8, .int .i64 (k : Int))]) (fun _ => _) ?_ 0 ⟨by omega, by simp⟩
  rintro k ⟨hk, hf⟩ ih
  by_cases h : k < l.length
  · have hk1 := hat k h
    rw [List.drop_eq_getElem_cons h, List.findIdx?_cons] at hf
    by_cases hqk : q l[k] = true
    · rw [if_pos hqk] at hf
      repeat' (first | (refine pf_keep rfl ?_) | (refine pf_drop rfl ?_) | (refine pf_nil ?_) | (refine w_seq ?_) | (refine w_condT rfl ?_) | (refine w_block ?_) | (refine w_skip ?_) | (refine w_ret Tryz.func99 rfl (fun w_ hi_ => ?_)) | ((refine w_regI 2 ?_; try ((refine wo_v (ov_lss3 rfl rfl (by first | exact decide_eq_true (by omega) | exact decide_eq_false (by omega) | exact rfl)) rfl rfl rfl ?_) <;> try ((refine wo_nilP [0, 1, 4, 5, 7, 8, 9, 16] ?_))))) | ((refine w_regI 3 ?_; try ((refine wo_v (ov_move rfl) rfl rfl rfl ?_) <;> try ((refine wo_v (ov_assign rfl) rfl rfl rfl ?_) <;> try ((refine wo_nilP [0, 1, 4, 5, 7, 8, 9, 16] ?_)))))) | ((refine w_regI 4 ?_; try ((refine wo_v (ov_move rfl) rfl rfl rfl ?_) <;> try ((refine wo_v (ov_move rfl) rfl rfl rfl ?_) <;> try ((refine wo_v (ov_move rfl) rfl rfl rfl ?_) <;> try ((refine wo_v (ov_indexAddr Tryz.underlying63 sz5 rfl rfl (by omega) (by omega)) rfl rfl rfl ?_) <;> try ((refine wo_v (ov_load Tryz.underlying5 rfl rfl (by repeat (first | exact .head _ | refine .tail _ ?_ | refine List.mem_append_right _ ?_ | assumption)) (by first | rfl | assumption | simp)) rfl rfl rfl ?_) <;> try ((refine wo_v (ov_call rfl he (fun w hi => by have := hq l[k] w (hi.view_tail hro); rwa [hqk] at this)) rfl rfl rfl ?_) <;> try ((refine wo_nilP [0, 1, 4, 5, 7, 8, 9, 16] ?_)))))))))) | ((refine w_regI 5 ?_; try ((refine wo_v (ov_move rfl) rfl rfl rfl ?_) <;> try ((refine wo_v (ov_assign rfl) rfl rfl rfl ?_) <;> try ((refine wo_nilP [0, 1, 4, 5, 7, 8, 9, 16] ?_)))))))
      exact ⟨by rw [hf]; simp; rfl, hi_.fr⟩
    · rw [if_neg hqk] at hf
      have hqk' : q l[k] = false := by simpa using hqk
      repeat' (first | (refine pf_keep rfl ?_) | (refine pf_drop rfl ?_) | (refine pf_nil ?_) | (refine w_seq ?_) | (refine w_condT rfl ?_) | (refine w_condF rfl ?_) | (refine w_block ?_) | (refine w_inBlock ?_) | (refine w_skip ?_) | ((refine w_regI 2 ?_; try ((refine wo_v (ov_lss3 rfl rfl (by first | exact decide_eq_true (by omega) | exact decide_eq_false (by omega) | exact rfl)) rfl rfl rfl ?_) <;> try ((refine wo_nilP [0, 1, 4, 5, 7, 8, 9, 16] ?_))))) | ((refine w_regI 3 ?_; try ((refine wo_v (ov_move rfl) rfl rfl rfl ?_) <;> try ((refine wo_v (ov_assign rfl) rfl rfl rfl ?_) <;> try ((refine wo_nilP [0, 1, 4, 5, 7, 8, 9, 16] ?_)))))) | ((refine w_regI 4 ?_; try ((refine wo_v (ov_move rfl) rfl rfl rfl ?_) <;> try ((refine wo_v (ov_move rfl) rfl rfl rfl ?_) <;> try ((refine wo_v (ov_move rfl) rfl rfl rfl ?_) <;> try ((refine wo_v (ov_indexAddr Tryz.underlying63 sz5 rfl rfl (by omega) (by omega)) rfl rfl rfl ?_) <;> try ((refine wo_v (ov_load Tryz.underlying5 rfl rfl (by repeat (first | exact .head _ | refine .tail _ ?_ | refine List.mem_append_right _ ?_ | assumption)) (by first | rfl | assumption | simp)) rfl rfl rfl ?_) <;> try ((refine wo_v (ov_call rfl he (fun w hi => by have := hq l[k] w (hi.view_tail hro); rwa [hqk'] at this)) rfl rfl rfl ?_) <;> try ((refine wo_nilP [0, 1, 4, 5, 7, 8, 9, 16] ?_)))))))))) | ((refine w_regI 6 ?_; try ((refine wo_v (ov_add_i64 rfl rfl (by omega) (by omega)) rfl rfl rfl ?_) <;> try ((refine wo_v (ov_move rfl) rfl rfl rfl ?_) <;> try ((refine wo_nilP [0, 1, 4, 5, 7, 8, 9, 16] ?_)))))))
      refine w_weak (by first | exact sub_nil _ | (refine sub_cons rfl ?_; repeat (first | exact sub_nil _ | refine sub_cons rfl ?_))) (ih (k + 1) ⟨by omega, by rw [hf]; simp [Option.map_map, Function.comp_def, Nat.add_assoc, Nat.add_comm 1 k]⟩ (by omega))
  · obtain rfl : k = l.length := by omega
    repeat' (first | (refine pf_keep rfl ?_) | (refine pf_nil ?_) | (refine w_seq ?_) | (refine w_condF rfl ?_) | (refine w_exit rfl ?_) | (refine w_ret Tryz.func99 rfl (fun w_ hi_ => ?_)) | ((refine w_regI 2 ?_; try ((refine wo_v (ov_lss3 rfl rfl (by first | exact decide_eq_true (by omega) | exact decide_eq_false (by omega) | exact rfl)) rfl rfl rfl ?_) <;> try ((refine wo_nilP [0, 1, 4, 5, 7, 8, 9, 16] ?_))))) | ((refine w_regI 7 ?_; try ((refine wo_v (ov_assign rfl) rfl rfl rfl ?_) <;> try ((refine wo_nilP [0, 1, 4, 5, 7, 8, 9, 16] ?_))))))
    exact ⟨by rw [hf, List.drop_length]; rfl, hi_.fr⟩

theorem containsFunc_c (q : UInt8 → Bool) (f : FuncId) (caps : List Value) (ks : List Ent) (he : Enters Tryz.prog f) (hq : PredC Tryz.prog f caps q ks) (l : List UInt8) (b cap : Nat) (rst : List Value) (el : TypeId) (fz : Nat × Nat) (hl : l.length < 4611686018427387904) (w : World)
    (hro : ∀ e ∈ ks, e.rw = false) (hi : Inv none_ w (⟨b, false, .cells (byv l ++ rst).toArray el fz⟩ :: ks) w) :
    Calls Tryz.prog 72 #[.slice (some ⟨b, 0, none⟩) l.length cap, .func (.func f) #[] caps.toArray] w fun e w' => e = .returned (.bool (l.any q)) ∧ Fr none_ w w' := by
  have hiff : l.any q = decide (0 ≤ (match l.findIdx? q with | some i => (i : Int) | none => -1)) := by
    cases h : l.findIdx? q with
    | none =>
      rw [List.findIdx?_eq_none_iff] at h
      simp only
      rw [decide_eq_false (by omega)]
      simpa using h
    | some i =>
      rw [List.findIdx?_eq_some_iff_getElem] at h
      obtain ⟨h1, h2, _⟩ := h
      simp only
      rw [decide_eq_true (by omega), List.any_eq_true]
      exact ⟨l[i], List.getElem_mem _, h2⟩
  rw [hiff]
  refine calls_of_WF Tryz.func72 rfl rfl (hi) ?_
  repeat' (first | (refine pf_keep rfl ?_) | (refine pf_drop rfl ?_) | (refine pf_nil ?_) | (refine w_seq ?_) | (refine w_ret Tryz.func72 rfl (fun w_ hi_ => ?_)) | ((refine w_regI 0 ?_; try ((refine wo_v (ov_assign rfl) rfl rfl rfl ?_) <;> try ((refine wo_nilP [0, 1, 4] ?_))))) | ((refine w_regI 1 ?_; try ((refine wo_v (ov_move rfl) rfl rfl rfl ?_) <;> try ((refine wo_v (ov_move rfl) rfl rfl rfl ?_) <;> try ((refine wo_v (ov_call rfl en99 (fun w1 hi1 => indexFunc_c q f caps ks he hq l b cap rst el fz hl w1 hro ⟨Fr.refl _ w1, hi1.nd, hi1.hb, fun e hm h => by cases hm with | head => cases h | tail _ hm => rw [hro e hm] at h; cases h⟩)) rfl rfl rfl ?_) <;> try ((refine wo_v (ov_geq3 rfl rfl (by first | exact decide_eq_true (by omega) | exact decide_eq_false (by omega) | exact rfl)) rfl rfl rfl ?_) <;> try ((refine wo_v (ov_assign rfl) rfl rfl rfl ?_) <;> try ((refine wo_nilP [0, 1, 4] ?_))))))))))
  exact ⟨rfl, hi_.fr⟩

theorem all1_c (c : Array Value) (hc : Arr c fun i => srt (i : Int)) (b2 b3 : Nat) (some_ : Int) : PredC Tryz.prog 97 [.pointer (some ⟨b2, 0, none⟩), .pointer (some ⟨b3, 0, none⟩)] (fun b => !isS some_ b.toNat) [⟨b2, false, .cells c 103 (0, 0)⟩, ⟨b3, false, .cells #[.int .u8 some_] 94 (0, 0)⟩] := by
  intro b w hi
  have hbl := b.toNat_lt
  have hsb : c[0 + ((b.toNat : Nat) : Int).toNat * 1]? = some (.int .u8 (srt (b.toNat : Int))) := by
    have : 0 + ((b.toNat : Nat) : Int).toNat * 1 = b.toNat := by omega
    rw [this]; exact hc.2 _ hbl
  refine calls_of_WF Tryz.func97 rfl rfl (hi) ?_
  repeat' (first | (refine pf_keep rfl ?_) | (refine pf_drop rfl ?_) | (refine pf_nil ?_) | (refine w_seq ?_) | (refine w_ret Tryz.func97 rfl (fun w_ hi_ => ?_)) | ((refine w_regI 0 ?_; try ((refine wo_v (ov_assign rfl) rfl rfl rfl ?_) <;> try ((refine wo_nilP [0, 1, 2, 4] ?_))))) | ((refine w_regQI 1 rfl mixed (by kernel_rfl) ?_; try ((refine wq_v (ov_move rfl) rfl rfl ?_) <;> try ((refine wq_v (ov_indexAddrA Tryz.underlying103 sz94 rfl rfl (by omega) (by omega)) rfl rfl ?_) <;> try ((refine wq_v (ov_load Tryz.underlying94 rfl rfl (by repeat (first | exact .head _ | refine .tail _ ?_ | refine List.mem_append_right _ ?_ | assumption)) (by first | rfl | assumption | simp)) rfl rfl ?_) <;> try ((refine wq_v (ov_load Tryz.underlying94 rfl rfl (by repeat (first | exact .head _ | refine .tail _ ?_ | refine List.mem_append_right _ ?_ | assumption)) (by first | rfl | assumption | simp)) rfl rfl ?_) <;> try ((refine wq_v (ov_and rfl rfl rfl) rfl rfl ?_) <;> try ((refine wq_v (ov_eql3 rfl rfl (by first | exact decide_eq_true (by omega) | exact decide_eq_false (by omega) | exact rfl)) rfl rfl ?_) <;> try ((refine wq_v (ov_assign rfl) rfl rfl ?_) <;> try ((refine wq_nilP [0, 1, 2, 4] ?_))))))))))))
  exact ⟨by simp only [isS, band8, Bool.not_not]; rfl, hi_.fr⟩

theorem all_c (l : List UInt8) (some_ : Int) (hl : l.length < 4611686018427387904) (w : World) : Calls Tryz.prog 68 #[str l, .int .u8 some_] w fun e w' => e = .returned (.bool (l.all fun b => isS some_ b.toNat)) ∧ Fr none_ w w' := by
  have hok : sortsA.toList.all okCell = true := sortsA_arr.ok
  have hss : sortsA.size = 256 := sortsA_arr.1
  refine calls_of_WF Tryz.func68 rfl rfl (Inv.start none_ w) ?_
  repeat' (first | (refine pf_keep rfl ?_) | (refine pf_drop rfl ?_) | (refine pf_nil ?_) | (refine w_seq ?_) | (refine w_ret Tryz.func68 rfl (fun w_ hi_ => ?_)) | ((refine w_regI 0 ?_; try ((refine wo_box rfl rfl rfl rfl (fun b_ hb_ => ?_)) <;> try ((refine wo_v (ov_assign rfl) rfl rfl rfl ?_) <;> try ((refine wo_nilP [0, 1, 3, 4, 5] ?_)))))) | ((refine w_regI 1 ?_; try ((refine wo_v (ov_call rfl en82 (fun w hi => sorts_c w)) rfl rfl rfl ?_) <;> try ((refine wo_alloc inf103 rfl rfl rfl rfl (fun b_ hb_ => ?_)) <;> try ((refine wo_storeC rfl rfl rfl sz103 (by repeat (first | exact .head _ | apply Upd.tail | apply Upd.app)) (by first | rfl | simp) rfl rfl ?_) <;> try ((refine wo_nilP [0, 1, 3, 4, 5] ?_))))))) | ((refine w_regI 2 ?_; try ((refine wo_v (ov_move rfl) rfl rfl rfl ?_) <;> try ((refine wo_bytes Tryz.underlying9 Tryz.underlying63 Tryz.underlying5 rfl rfl rfl (fun bb_ cap_ hb_ hc_ => ?_)) <;> try ((refine wo_v (ov_makeFunc rfl rfl) rfl rfl rfl ?_) <;> try ((refine wo_v (ov_call rfl en72 (fun w hi => containsFunc_c _ _ _ _ en97 (all1_c sortsA sortsA_arr _ _ some_) l _ _ _ _ _ hl w (by simp) (hi.view3 (by repeat (first | exact Take.nil _ | apply Take.cons | exact Del1.head _ | apply Del1.tail | apply Del1.app))))) rfl rfl rfl ?_) <;> try ((refine wo_v (ov_not rfl) rfl rfl rfl ?_) <;> try ((refine wo_v (ov_assign rfl) rfl rfl rfl ?_) <;> try ((refine wo_nilP [0, 1, 3, 4, 5] ?_)))))))))))
  exact ⟨by rw [List.any_eq_not_all_not]; simp; rfl, hi_.fr⟩

/-- 'IsBrand$1': a byte that no brand has. -/
def noBrand (c : UInt8) : Bool := decide ((c.toNat : Int) < 32) || decide (126 < (c.toNat : Int)) || decide ((c.toNat : Int) = 34)
theorem isBrand1_c : PredC Tryz.prog 73 [] noBrand [] := by
  intro b w hi
  refine calls_of_WF Tryz.func73 rfl rfl (hi) ?_
  repeat' (first | (refine pf_keep rfl ?_) | (refine pf_drop rfl ?_) | (refine pf_nil ?_) | (refine w_seq ?_) | (refine w_ret Tryz.func73 rfl (fun w_ hi_ => ?_)) | ((refine w_regI 0 ?_; try ((refine wo_v (ov_assign rfl) rfl rfl rfl ?_) <;> try ((refine wo_nilP [0, 2] ?_))))) | ((refine w_regI 1 ?_; try ((refine wo_v (ov_move rfl) rfl rfl rfl ?_) <;> try ((refine wo_v (ov_lss3 rfl rfl (by first | exact decide_eq_true (by omega) | exact decide_eq_false (by omega) | exact rfl)) rfl rfl rfl ?_) <;> try ((refine wo_v (ov_move rfl) rfl rfl rfl ?_) <;> try (((refine wo_gs rfl rfl (fun h => ?_) (fun h => ?_)) <;> (first | (refine wo_skip rfl rfl ?_) | ((refine wo_v (ov_move rfl) rfl rfl rfl ?_)))) <;> try ((first | (refine wo_skip rfl rfl ?_) | ((refine wo_v (ov_gtr3 rfl rfl (by first | exact decide_eq_true (by omega) | exact decide_eq_false (by omega) | exact rfl)) rfl rfl rfl ?_))) <;> try ((first | (refine wo_v (ov_pickT rfl rfl) rfl rfl rfl ?_) | (refine wo_v (ov_pickF rfl rfl) rfl rfl rfl ?_)) <;> try ((refine wo_v (ov_move rfl) rfl rfl rfl ?_) <;> try ((first | (refine wo_skip rfl rfl ?_) | ((refine wo_gs rfl rfl (fun h => ?_) (fun h => ?_)) <;> (first | (refine wo_skip rfl rfl ?_) | ((refine wo_v (ov_move rfl) rfl rfl rfl ?_))))) <;> try ((first | (refine wo_skip rfl rfl ?_) | ((refine wo_v (ov_eql3 rfl rfl (by first | exact decide_eq_true (by omega) | exact decide_eq_false (by omega) | exact rfl)) rfl rfl rfl ?_))) <;> try ((first | (refine wo_v (ov_pickT rfl rfl) rfl rfl rfl ?_) | (refine wo_v (ov_pickF rfl rfl) rfl rfl rfl ?_)) <;> try ((refine wo_v (ov_assign rfl) rfl rfl rfl ?_) <;> try ((refine wo_nilP [0, 2] ?_))))))))))))))))
  · exact ⟨by rw [noBrand, decide_eq_true (by omega)]; rfl, hi_.fr⟩
  · exact ⟨by rw [noBrand, decide_eq_false (p := (b.toNat : Int) < 32) (by omega), decide_eq_true (p := 126 < (b.toNat : Int)) (by omega)]; rfl, hi_.fr⟩
  · exact ⟨by rw [noBrand, decide_eq_false (p := (b.toNat : Int) < 32) (by omega), decide_eq_false (p := 126 < (b.toNat : Int)) (by omega)]; rfl, hi_.fr⟩

theorem brand_iff (l : List UInt8) (h0 : 0 < l.length) (h1 : l.length ≤ 20) : (!l.any noBrand) = decide (isBrand l) := by
  have hn : ∀ c : UInt8, noBrand c = decide (¬ (32 ≤ c.toNat ∧ c.toNat ≤ 126 ∧ c.toNat ≠ 34)) := by
    intro c
    rw [Bool.eq_iff_iff, decide_eq_true_eq]
    simp only [noBrand, Bool.or_eq_true, decide_eq_true_eq]
    omega
  rw [Bool.eq_iff_iff, decide_eq_true_eq, Bool.not_eq_true', List.any_eq_false]
  unfold isBrand
  constructor
  · intro h
    refine ⟨h0, h1, fun c hc => ?_⟩
    have := h c hc
    rw [hn, decide_eq_true_eq] at this
    omega
  · rintro ⟨_, _, h⟩ c hc
    have := h c hc
    rw [hn, decide_eq_true_eq]
    omega

theorem isBrand_c (l : List UInt8) (hl : l.length < 4611686018427387904) (w : World) : Calls Tryz.prog 43 #[str l] w fun e w' => e = .returned (.bool (decide (isBrand l))) ∧ Fr none_ w w' := by
  refine calls_of_WF Tryz.func43 rfl rfl (Inv.start none_ w) ?_
  repeat' (first | (refine pf_keep rfl ?_) | (refine pf_drop rfl ?_) | (refine pf_nil ?_) | (refine w_seq ?_) | (refine w_ret Tryz.func43 rfl (fun w_ hi_ => ?_)) | ((refine w_regI 0 ?_; try ((refine wo_v (ov_assign rfl) rfl rfl rfl ?_) <;> try ((refine wo_nilP [0, 2] ?_))))) | ((refine w_regI 1 ?_; try ((refine wo_v (ov_move rfl) rfl rfl rfl ?_) <;> try ((refine wo_v (ov_lenS rfl Tryz.underlying9 rfl) rfl rfl rfl ?_) <;> try ((refine wo_v (ov_gtr3 rfl rfl (by first | exact decide_eq_true (by omega) | exact decide_eq_false (by omega) | exact rfl)) rfl rfl rfl ?_) <;> try ((refine wo_v (ov_move rfl) rfl rfl rfl ?_) <;> try (((refine wo_gs rfl rfl (fun h => ?_) (fun h => ?_)) <;> (first | (refine wo_skip rfl rfl ?_) | ((refine wo_v (ov_move rfl) rfl rfl rfl ?_)))) <;> try ((first | (refine wo_skip rfl rfl ?_) | ((refine wo_v (ov_lenS rfl Tryz.underlying9 rfl) rfl rfl rfl ?_))) <;> try ((first | (refine wo_skip rfl rfl ?_) | ((refine wo_v (ov_leq3 rfl rfl (by first | exact decide_eq_true (by omega) | exact decide_eq_false (by omega) | exact rfl)) rfl rfl rfl ?_))) <;> try ((first | (refine wo_v (ov_pickT rfl rfl) rfl rfl rfl ?_) | (refine wo_v (ov_pickF rfl rfl) rfl rfl rfl ?_)) <;> try ((refine wo_v (ov_move rfl) rfl rfl rfl ?_) <;> try ((first | (refine wo_skip rfl rfl ?_) | ((refine wo_gs rfl rfl (fun h => ?_) (fun h => ?_)) <;> (first | (refine wo_skip rfl rfl ?_) | ((refine wo_v (ov_move rfl) rfl rfl rfl ?_))))) <;> try ((first | (refine wo_skip rfl rfl ?_) | ((refine wo_bytes Tryz.underlying9 Tryz.underlying63 Tryz.underlying5 rfl rfl rfl (fun bb_ cap_ hb_ hc_ => ?_)))) <;> try ((first | (refine wo_skip rfl rfl ?_) | ((refine wo_v (ov_call rfl en72 (fun w hi => containsFunc_c _ _ _ _ en73 isBrand1_c l _ _ _ _ _ hl w (by simp) (hi.view1 (by repeat (first | exact Take.nil _ | apply Take.cons | exact Del1.head _ | apply Del1.tail | apply Del1.app))))) rfl rfl rfl ?_))) <;> try ((first | (refine wo_skip rfl rfl ?_) | ((refine wo_v (ov_not rfl) rfl rfl rfl ?_))) <;> try ((first | (refine wo_v (ov_pickT rfl rfl) rfl rfl rfl ?_) | (refine wo_v (ov_pickF rfl rfl) rfl rfl rfl ?_)) <;> try ((refine wo_v (ov_assign rfl) rfl rfl rfl ?_) <;> try ((refine wo_nilP [0, 2] ?_))))))))))))))))))))
  · exact ⟨by rw [← brand_iff l (by omega) (by omega)]; rfl, hi_.fr⟩
  · exact ⟨by rw [decide_eq_false (p := isBrand l) (fun h => by have := h.2.1; omega)]; rfl, hi_.fr⟩
  · exact ⟨by rw [decide_eq_false (p := isBrand l) (fun h => by have := h.1; omega)]; rfl, hi_.fr⟩
end Go.Sl
namespace Go.Sl
open Go Go.Proofs
set_option maxRecDepth 100000
set_option maxHeartbeats 2000000
set_option linter.unusedSimpArgs false
set_option linter.unusedVariables false
attribute [local irreducible] Calls

theorem Fr.bytesWorld {w : World} {e : TypeId} {s : ByteArray} : Fr none_ w (Lib.bytesWorld w e s) := by
  unfold Lib.bytesWorld World.freeze
  rw [if_neg (by omega)]
  refine ⟨rfl, rfl, rfl, by simp [World.alloc, World.drew, -World.alloc_eq, -World.drew_eq], fun k hk _ => ?_⟩
  have h1 : k ≠ w.heap.size := by omega
  simp [Array.getElem?_modify, World.alloc, World.drew, Array.getElem?_push, h1, Ne.symm h1, -World.alloc_eq, -World.drew_eq]
def isDig (c : UInt8) : Bool := isS 4 c.toNat
theorem isDig_iff (c : UInt8) : isDig c = decide (48 ≤ c.toNat ∧ c.toNat ≤ 57) := by
  rw [isDig, (isS_byte c).2.2.1, Bool.eq_iff_iff, decide_eq_true_eq, decide_eq_true_eq]
  unfold cls
  constructor
  · intro h; (repeat' split at h) <;> omega
  · intro h; rw [if_neg (by omega), if_neg (by omega), if_pos (by omega)]
/-- The number that digits spell. -/
def decV (n : Nat) (l : List UInt8) : Nat := l.foldl (fun a c => a * 10 + (c.toNat - 48)) n
theorem decV_nil (n : Nat) : decV n [] = n := by simp only [decV, List.foldl_nil]
theorem decV_cons (n : Nat) (c : UInt8) (r : List UInt8) : decV n (c :: r) = decV (n * 10 + (c.toNat - 48)) r := by simp only [decV, List.foldl_cons]
theorem decFrom_eq (l : List UInt8) : ∀ n : Nat, l.all isDig = true → Lib.decFrom n l = some (decV n l) := by
  induction l with
  | nil => intro n _; rfl
  | cons c r ih =>
    intro n h
    simp only [List.all_cons, Bool.and_eq_true] at h
    have hc := h.1
    rw [isDig_iff, decide_eq_true_eq] at hc
    have h2 : Lib.digitVal c = some (c.toNat - 48) := by unfold Lib.digitVal; rw [if_pos hc]
    have h3 := ih (n * 10 + (c.toNat - 48)) h.2
    rw [decV_cons, ← h3, Lib.decFrom, h2]
theorem atoi_eq (l : List UInt8) (h0 : l ≠ []) (h : l.all isDig = true) : Lib.atoi l = some (decV 0 l : Int) := by
  match l, h0 with
  | c :: r, _ =>
    have hc := (List.all_eq_true.1 h) c (.head _)
    rw [isDig_iff, decide_eq_true_eq] at hc
    have h1 : ¬ (c == 45) = true := by simp only [beq_iff_eq]; rintro rfl; revert hc; decide
    have h2 : ¬ (c == 43) = true := by simp only [beq_iff_eq]; rintro rfl; revert hc; decide
    rw [Lib.atoi, if_neg h1, if_neg h2, Lib.decNat, if_neg (by simp), decFrom_eq _ _ h]; rfl
theorem decV_bd : ∀ (l : List UInt8) (n : Nat), l.all isDig = true → n ≤ decV n l ∧ decV n l < (n + 1) * 10 ^ l.length
  | [], n, _ => by rw [decV_nil]; simp
  | c :: r, n, h => by
    simp only [List.all_cons, Bool.and_eq_true] at h
    have hc := h.1
    rw [isDig_iff, decide_eq_true_eq] at hc
    obtain ⟨h1, h2⟩ := decV_bd r (n * 10 + (c.toNat - 48)) h.2
    refine ⟨by rw [decV_cons]; omega, ?_⟩
    rw [decV_cons, List.length_cons, Nat.pow_succ]
    have : (n * 10 + (c.toNat - 48) + 1) * 10 ^ r.length ≤ (n + 1) * 10 * 10 ^ r.length := Nat.mul_le_mul_right _ (by omega)
    calc _ < _ := h2
      _ ≤ _ := this
      _ = _ := by rw [Nat.mul_assoc, Nat.mul_comm 10]
/-- 'plain(s)' -/
def plainR (l : List UInt8) : Int × Bool := if l = [] ∨ 10 < l.length ∨ l.all isDig = false ∨ (1 < l.length ∧ bt l 0 = 48) then (0, false) else ((decV 0 l : Nat), decide ((decV 0 l : Nat) ≤ (1000000000 : Int)))
theorem all4 (l : List UInt8) : (l.all fun b => isS 4 b.toNat) = decide (l.all isDig = true) := by
  have : (fun b : UInt8 => isS 4 b.toNat) = isDig := rfl
  rw [this, Bool.decide_eq_true]
theorem plain_c (l : List UInt8) (hl : l.length < 4611686018427387904) (w : World) : Calls Tryz.prog 46 #[str l] w fun e w' => e = .returned (.tuple #[.int .i64 (plainR l).1, .bool (plainR l).2]) ∧ Fr none_ w w' := by
  refine calls_of_WF Tryz.func46 rfl rfl (Inv.start none_ w) ?_
  have hat : ∀ w, l ≠ [] → l.all isDig = true → l.length ≤ 10 → Calls Tryz.prog 75 #[str l] w fun e w' => e = .returned (.tuple #[.int .i64 ((decV 0 l : Nat) : Int), .nilIface]) ∧ Fr none_ w w' := fun w h0 h1 h2 =>
    (Tryz.strconv_Atoi ⟨l.toArray⟩ (decV 0 l : Nat) (by rw [size_list]; omega) (by rw [bstr]; exact atoi_eq l h0 h1) w).mono fun e w' ⟨h3, t, h4⟩ => ⟨h3, h4 ▸ Fr.bytesWorld⟩
  repeat' (first | (refine pf_keep rfl ?_) | (refine pf_drop rfl ?_) | (refine pf_nil ?_) | (refine w_seq ?_) | (refine w_condT rfl ?_) | (refine w_condF rfl ?_) | (refine w_condD rfl (fun h => ?_) (fun h => ?_)) | (refine w_skip ?_) | (refine w_ret Tryz.func46 rfl (fun w_ hi_ => ?_)) | ((refine w_regI 0 ?_; try ((refine wo_v (ov_assign rfl) rfl rfl rfl ?_) <;> try ((refine wo_v (ov_assign rfl) rfl rfl rfl ?_) <;> try ((refine wo_nilP [0, 2, 3, 4, 27] ?_)))))) | ((refine w_regI 1 ?_; try ((refine wo_v (ov_move rfl) rfl rfl rfl ?_) <;> try ((refine wo_v (ov_eqlS3 rfl rfl (by first | exact decide_eq_true (by first | assumption | with_reducible rfl) | exact decide_eq_false (by assumption) | exact rfl)) rfl rfl rfl ?_) <;> try ((refine wo_v (ov_move rfl) rfl rfl rfl ?_) <;> try (((refine wo_gs rfl rfl (fun h => ?_) (fun h => ?_)) <;> (first | (refine wo_skip rfl rfl ?_) | ((refine wo_v (ov_move rfl) rfl rfl rfl ?_)))) <;> try ((first | (refine wo_skip rfl rfl ?_) | ((refine wo_v (ov_lenS rfl Tryz.underlying9 rfl) rfl rfl rfl ?_))) <;> try ((first | (refine wo_skip rfl rfl ?_) | ((refine wo_v (ov_gtr3 rfl rfl (by first | exact decide_eq_true (by omega) | exact decide_eq_false (by omega) | exact rfl)) rfl rfl rfl ?_))) <;> try ((first | (refine wo_v (ov_pickT rfl rfl) rfl rfl rfl ?_) | (refine wo_v (ov_pickF rfl rfl) rfl rfl rfl ?_)) <;> try ((refine wo_v (ov_move rfl) rfl rfl rfl ?_) <;> try ((first | (refine wo_skip rfl rfl ?_) | ((refine wo_gs rfl rfl (fun h => ?_) (fun h => ?_)) <;> (first | (refine wo_skip rfl rfl ?_) | ((refine wo_v (ov_move rfl) rfl rfl rfl ?_))))) <;> try ((first | (refine wo_skip rfl rfl ?_) | ((refine wo_v (ov_call rfl en68 (fun w hi => by have := all_c l 4 hl w; rwa [all4] at this)) rfl rfl rfl ?_))) <;> try ((first | (refine wo_skip rfl rfl ?_) | ((refine wo_v (ov_not rfl) rfl rfl rfl ?_))) <;> try ((first | (refine wo_v (ov_pickT rfl rfl) rfl rfl rfl ?_) | (refine wo_v (ov_pickF rfl rfl) rfl rfl rfl ?_)) <;> try ((refine wo_v (ov_move rfl) rfl rfl rfl ?_) <;> try ((first | (refine wo_skip rfl rfl ?_) | ((refine wo_gsN rfl rfl (fun h => ?_) (fun h => ?_)) <;> (first | (refine wo_skip rfl rfl ?_) | ((refine wo_v (ov_move rfl) rfl rfl rfl ?_))))) <;> try ((first | (refine wo_skip rfl rfl ?_) | ((refine wo_v (ov_lenS rfl Tryz.underlying9 rfl) rfl rfl rfl ?_))) <;> try ((first | (refine wo_skip rfl rfl ?_) | ((refine wo_v (ov_gtr3 rfl rfl (by first | exact decide_eq_true (by omega) | exact decide_eq_false (by omega) | exact rfl)) rfl rfl rfl ?_))) <;> try ((first | (refine wo_skip rfl rfl ?_) | ((refine wo_v (ov_move rfl) rfl rfl rfl ?_))) <;> try ((first | (refine wo_skip rfl rfl ?_) | ((refine wo_gs rfl rfl (fun h => ?_) (fun h => ?_)) <;> (first | (refine wo_skip rfl rfl ?_) | ((refine wo_v (ov_move rfl) rfl rfl rfl ?_))))) <;> try ((first | (refine wo_skip rfl rfl ?_) | ((refine wo_v (ov_indexS Tryz.underlying9 rfl rfl (by omega) (by first | omega | (simp only [List.length_cons, List.length_nil]; omega))) rfl rfl rfl ?_))) <;> try ((first | (refine wo_skip rfl rfl ?_) | ((refine wo_v (ov_eql3 rfl rfl (by first | exact decide_eq_true (by omega) | exact decide_eq_false (by omega) | exact rfl)) rfl rfl rfl ?_))) <;> try ((first | (refine wo_skip rfl rfl ?_) | ((first | (refine wo_v (ov_pickT rfl rfl) rfl rfl rfl ?_) | (refine wo_v (ov_pickF rfl rfl) rfl rfl rfl ?_)))) <;> try ((first | (refine wo_v (ov_pickT rfl rfl) rfl rfl rfl ?_) | (refine wo_v (ov_pickF rfl rfl) rfl rfl rfl ?_)) <;> try ((refine wo_nilP [0, 2, 3, 4, 27] ?_)))))))))))))))))))))))))) | ((refine w_regI 2 ?_; try ((refine wo_v (ov_assign rfl) rfl rfl rfl ?_) <;> try ((refine wo_v (ov_assign rfl) rfl rfl rfl ?_) <;> try ((refine wo_nilP [0, 2, 3, 4, 27] ?_)))))) | ((refine w_regI 3 ?_; try ((refine wo_v (ov_move rfl) rfl rfl rfl ?_) <;> try ((refine wo_v (ov_call rfl en75 (fun w hi => hat w (by assumption) (by assumption) (by omega))) rfl rfl rfl ?_) <;> try ((refine wo_v (ov_move rfl) rfl rfl rfl ?_) <;> try ((refine wo_v (ov_extract rfl rfl) rfl rfl rfl ?_) <;> try ((refine wo_v (ov_extract rfl rfl) rfl rfl rfl ?_) <;> try ((refine wo_v (ov_assign rfl) rfl rfl rfl ?_) <;> try ((refine wo_v (ov_assign rfl) rfl rfl rfl ?_) <;> try ((refine wo_nilP [0, 2, 3, 4, 27] ?_))))))))))) | ((refine w_regI 4 ?_; try ((refine wo_v (ov_move rfl) rfl rfl rfl ?_) <;> try ((refine wo_v (ov_move rfl) rfl rfl rfl ?_) <;> try ((refine wo_v (ov_leq3 rfl rfl (by first | exact decide_eq_true (by omega) | exact decide_eq_false (by omega) | exact rfl)) rfl rfl rfl ?_) <;> try ((refine wo_v (ov_assign rfl) rfl rfl rfl ?_) <;> try ((refine wo_v (ov_assign rfl) rfl rfl rfl ?_) <;> try ((refine wo_nilP [0, 2, 3, 4, 27] ?_))))))))))
  · exact ⟨by rw [plainR, if_pos (.inl (by assumption))]; rfl, hi_.fr⟩
  · exact ⟨by rw [plainR, if_pos (.inr (.inl (by omega)))]; rfl, hi_.fr⟩
  · exact ⟨by rw [plainR, if_pos (.inr (.inr (.inl (by simpa using h))))]; rfl, hi_.fr⟩
  · exact ⟨by rw [plainR, if_pos (.inr (.inr (.inr ⟨by omega, h⟩)))]; rfl, hi_.fr⟩
  all_goals
    have : plainR l = (((decV 0 l : Nat) : Int), decide (((decV 0 l : Nat) : Int) ≤ (1000000000 : Int))) := by rw [plainR, if_neg (by simp only [not_or, not_and]; refine ⟨by assumption, by omega, by simpa using ‹l.all isDig = true›, ?_⟩; first | exact fun _ => h | exact fun _ => by omega)]
    exact ⟨by rw [this]; rfl, hi_.fr⟩
end Go.Sl
namespace Go.Sl
open Go Go.Proofs
set_option maxRecDepth 100000
set_option maxHeartbeats 2000000
set_option linter.unusedSimpArgs false
set_option linter.unusedVariables false
attribute [local irreducible] Calls

theorem indexByte_idx (c : UInt8) : ∀ l : List UInt8, Lib.indexByte l c = if l.idxOf c < l.length then (l.idxOf c : Int) else -1
  | [] => rfl
  | b :: l => by
    rw [Lib.indexByte, indexByte_idx c l]
    by_cases h : b = c
    · subst h; simp
    · have h1 : (b == c) = false := by simpa using h
      rw [List.idxOf_cons, h1]
      simp only [Bool.false_eq_true, if_false, cond_false, List.length_cons]
      by_cases h2 : l.idxOf c < l.length
      · have e : (if l.idxOf c < l.length then (l.idxOf c : Int) else -1) = l.idxOf c := if_pos h2
        have : ¬ ((l.idxOf c : Int) == -1) = true := by simp only [beq_iff_eq]; omega
        rw [e, if_neg this, if_pos (by omega)]; omega
      · have e : (if l.idxOf c < l.length then (l.idxOf c : Int) else -1) = -1 := if_neg h2
        rw [e, if_neg (show ¬ l.idxOf c + 1 < l.length + 1 by omega)]; rfl
theorem digB_index (c : UInt8) (n : Int) : digB c n = Lib.indexByte (figs.take n.toNat) c := by rw [indexByte_idx]; rfl
/-- What 'Value' computes, in its own words. -/
def valP (s : List UInt8) : Int :=
  if (Lib.cut s [95]).2.2 = false ∧ (plainR (Lib.cut s [95]).1).2 = true then (plainR (Lib.cut s [95]).1).1
  else if (plainR (Lib.cut s [95]).1).2 = false ∨ (Lib.cut s [95]).2.2 = false ∨ (plainR (Lib.cut s [95]).1).1 < 2 ∨ 16 < (plainR (Lib.cut s [95]).1).1 ∨ (Lib.cut s [95]).2.1 = [] ∨ 30 < (Lib.cut s [95]).2.1.length then -1
  else valR (plainR (Lib.cut s [95]).1).1 (Lib.cut s [95]).2.1 0

theorem valueP_c (s : List UInt8) (hl : s.length < 4294967281) (q : Int) (el : TypeId) (fz : Nat × Nat) (w : World) (hi : Inv none_ w [⟨1, false, .cells #[.int .i64 q] el fz⟩] w) :
    Calls Tryz.prog 14 #[str s] w fun e w' => e = .returned (retN (valP s)) ∧ Fr none_ w w' := by
  have hcl : (Lib.cut s [95]).1.length ≤ s.length ∧ (Lib.cut s [95]).2.1.length ≤ s.length := by unfold Lib.cut; split <;> simp <;> omega
  unfold valP
  have hcut := fun w hm => cut_c s [95] hl q w hm
  rcases hc : Lib.cut s [95] with ⟨fr, bk, based⟩
  rw [hc] at hcut hcl
  have hpl := fun w => plain_c fr (by simp only at hcl; omega) w
  have hpn : 0 ≤ (plainR fr).1 := by unfold plainR; split <;> simp
  rcases hp : plainR fr with ⟨n, ok⟩
  rw [hp] at hpl hpn
  simp only at hcut hcl hpl hpn ⊢
  cases based <;> cases ok
  · refine calls_of_WF Tryz.func14 rfl rfl (hi) ?_
    repeat' (first | (refine pf_keep rfl ?_) | (refine pf_drop rfl ?_) | (refine pf_nil ?_) | (refine w_seq ?_) | (refine w_condT rfl ?_) | (refine w_condF rfl ?_) | (refine w_skip ?_) | (refine w_ret Tryz.func14 rfl (fun w_ hi_ => ?_)) | ((refine w_regI 0 ?_; try ((refine wo_v (ov_assign rfl) rfl rfl rfl ?_) <;> try ((refine wo_v (ov_assign rfl) rfl rfl rfl ?_) <;> try ((refine wo_nilP [0, 2, 3, 4, 5, 6, 7, 8, 9, 11, 12, 28, 52, 54, 55, 56, 57, 65, 72] ?_)))))) | ((refine w_regI 1 ?_; try ((refine wo_v (ov_move rfl) rfl rfl rfl ?_) <;> try ((refine wo_v (ov_call rfl en45 (fun w hi => hcut w (hi.cell (off := 0) (by repeat (first | exact .head _ | refine .tail _ ?_)) rfl))) rfl rfl rfl ?_) <;> try ((refine wo_v (ov_move rfl) rfl rfl rfl ?_) <;> try ((refine wo_v (ov_extract rfl rfl) rfl rfl rfl ?_) <;> try ((refine wo_v (ov_extract rfl rfl) rfl rfl rfl ?_) <;> try ((refine wo_v (ov_extract rfl rfl) rfl rfl rfl ?_) <;> try ((refine wo_v (ov_assign rfl) rfl rfl rfl ?_) <;> try ((refine wo_v (ov_assign rfl) rfl rfl rfl ?_) <;> try ((refine wo_v (ov_assign rfl) rfl rfl rfl ?_) <;> try ((refine wo_nilP [0, 2, 3, 4, 5, 6, 7, 8, 9, 11, 12, 28, 52, 54, 55, 56, 57, 65, 72] ?_))))))))))))) | ((refine w_regI 2 ?_; try ((refine wo_v (ov_move rfl) rfl rfl rfl ?_) <;> try ((refine wo_v (ov_call rfl en46 (fun w hi => hpl w)) rfl rfl rfl ?_) <;> try ((refine wo_v (ov_move rfl) rfl rfl rfl ?_) <;> try ((refine wo_v (ov_extract rfl rfl) rfl rfl rfl ?_) <;> try ((refine wo_v (ov_extract rfl rfl) rfl rfl rfl ?_) <;> try ((refine wo_v (ov_assign rfl) rfl rfl rfl ?_) <;> try ((refine wo_v (ov_assign rfl) rfl rfl rfl ?_) <;> try ((refine wo_nilP [0, 2, 3, 4, 5, 6, 7, 8, 9, 11, 12, 28, 52, 54, 55, 56, 57, 65, 72] ?_))))))))))) | ((refine w_regI 3 ?_; try ((refine wo_v (ov_move rfl) rfl rfl rfl ?_) <;> try ((refine wo_v (ov_notF rfl) rfl rfl rfl ?_) <;> try ((refine wo_v (ov_move rfl) rfl rfl rfl ?_) <;> try (((refine wo_v (ov_move rfl) rfl rfl rfl ?_)) <;> try ((refine wo_v (ov_pickT rfl rfl) rfl rfl rfl ?_) <;> try ((refine wo_nilP [0, 2, 3, 4, 5, 6, 7, 8, 9, 11, 12, 28, 52, 54, 55, 56, 57, 65, 72] ?_))))))))) | ((refine w_regI 5 ?_; try ((refine wo_v (ov_move rfl) rfl rfl rfl ?_) <;> try ((refine wo_v (ov_notF rfl) rfl rfl rfl ?_) <;> try ((refine wo_v (ov_move rfl) rfl rfl rfl ?_) <;> try ((refine wo_skip rfl rfl ?_) <;> try ((refine wo_skip rfl rfl ?_) <;> try ((refine wo_v (ov_pickT rfl rfl) rfl rfl rfl ?_) <;> try ((refine wo_v (ov_move rfl) rfl rfl rfl ?_) <;> try ((refine wo_skip rfl rfl ?_) <;> try ((refine wo_skip rfl rfl ?_) <;> try ((refine wo_v (ov_pickT rfl rfl) rfl rfl rfl ?_) <;> try ((refine wo_v (ov_move rfl) rfl rfl rfl ?_) <;> try ((refine wo_skip rfl rfl ?_) <;> try ((refine wo_skip rfl rfl ?_) <;> try ((refine wo_v (ov_pickT rfl rfl) rfl rfl rfl ?_) <;> try ((refine wo_v (ov_move rfl) rfl rfl rfl ?_) <;> try ((refine wo_skip rfl rfl ?_) <;> try ((refine wo_skip rfl rfl ?_) <;> try ((refine wo_v (ov_pickT rfl rfl) rfl rfl rfl ?_) <;> try ((refine wo_v (ov_move rfl) rfl rfl rfl ?_) <;> try ((refine wo_skip rfl rfl ?_) <;> try ((refine wo_skip rfl rfl ?_) <;> try ((refine wo_skip rfl rfl ?_) <;> try ((refine wo_v (ov_pickT rfl rfl) rfl rfl rfl ?_) <;> try ((refine wo_nilP [0, 2, 3, 4, 5, 6, 7, 8, 9, 11, 12, 28, 52, 54, 55, 56, 57, 65, 72] ?_))))))))))))))))))))))))))) | ((refine w_regI 6 ?_; try ((refine wo_v (ov_assign rfl) rfl rfl rfl ?_) <;> try ((refine wo_v (ov_assign rfl) rfl rfl rfl ?_) <;> try ((refine wo_nilP [0, 2, 3, 4, 5, 6, 7, 8, 9, 11, 12, 28, 52, 54, 55, 56, 57, 65, 72] ?_)))))))
    exact ⟨rfl, hi_.fr⟩
  · refine calls_of_WF Tryz.func14 rfl rfl (hi) ?_
    repeat' (first | (refine pf_keep rfl ?_) | (refine pf_drop rfl ?_) | (refine pf_nil ?_) | (refine w_seq ?_) | (refine w_condT rfl ?_) | (refine w_ret Tryz.func14 rfl (fun w_ hi_ => ?_)) | ((refine w_regI 0 ?_; try ((refine wo_v (ov_assign rfl) rfl rfl rfl ?_) <;> try ((refine wo_v (ov_assign rfl) rfl rfl rfl ?_) <;> try ((refine wo_nilP [0, 2, 3, 4, 5, 6, 7, 8, 9, 11, 12, 28, 52, 54, 55, 56, 57, 65, 72] ?_)))))) | ((refine w_regI 1 ?_; try ((refine wo_v (ov_move rfl) rfl rfl rfl ?_) <;> try ((refine wo_v (ov_call rfl en45 (fun w hi => hcut w (hi.cell (off := 0) (by repeat (first | exact .head _ | refine .tail _ ?_)) rfl))) rfl rfl rfl ?_) <;> try ((refine wo_v (ov_move rfl) rfl rfl rfl ?_) <;> try ((refine wo_v (ov_extract rfl rfl) rfl rfl rfl ?_) <;> try ((refine wo_v (ov_extract rfl rfl) rfl rfl rfl ?_) <;> try ((refine wo_v (ov_extract rfl rfl) rfl rfl rfl ?_) <;> try ((refine wo_v (ov_assign rfl) rfl rfl rfl ?_) <;> try ((refine wo_v (ov_assign rfl) rfl rfl rfl ?_) <;> try ((refine wo_v (ov_assign rfl) rfl rfl rfl ?_) <;> try ((refine wo_nilP [0, 2, 3, 4, 5, 6, 7, 8, 9, 11, 12, 28, 52, 54, 55, 56, 57, 65, 72] ?_))))))))))))) | ((refine w_regI 2 ?_; try ((refine wo_v (ov_move rfl) rfl rfl rfl ?_) <;> try ((refine wo_v (ov_call rfl en46 (fun w hi => hpl w)) rfl rfl rfl ?_) <;> try ((refine wo_v (ov_move rfl) rfl rfl rfl ?_) <;> try ((refine wo_v (ov_extract rfl rfl) rfl rfl rfl ?_) <;> try ((refine wo_v (ov_extract rfl rfl) rfl rfl rfl ?_) <;> try ((refine wo_v (ov_assign rfl) rfl rfl rfl ?_) <;> try ((refine wo_v (ov_assign rfl) rfl rfl rfl ?_) <;> try ((refine wo_nilP [0, 2, 3, 4, 5, 6, 7, 8, 9, 11, 12, 28, 52, 54, 55, 56, 57, 65, 72] ?_))))))))))) | ((refine w_regI 3 ?_; try ((refine wo_v (ov_move rfl) rfl rfl rfl ?_) <;> try ((refine wo_v (ov_notF rfl) rfl rfl rfl ?_) <;> try ((refine wo_v (ov_move rfl) rfl rfl rfl ?_) <;> try (((refine wo_v (ov_move rfl) rfl rfl rfl ?_)) <;> try ((refine wo_v (ov_pickT rfl rfl) rfl rfl rfl ?_) <;> try ((refine wo_nilP [0, 2, 3, 4, 5, 6, 7, 8, 9, 11, 12, 28, 52, 54, 55, 56, 57, 65, 72] ?_))))))))) | ((refine w_regI 4 ?_; try ((refine wo_v (ov_move rfl) rfl rfl rfl ?_) <;> try ((refine wo_v (ov_assign rfl) rfl rfl rfl ?_) <;> try ((refine wo_v (ov_assign rfl) rfl rfl rfl ?_) <;> try ((refine wo_nilP [0, 2, 3, 4, 5, 6, 7, 8, 9, 11, 12, 28, 52, 54, 55, 56, 57, 65, 72] ?_))))))))
    exact ⟨by simp [retN, hpn, show ¬ n < 0 by omega]; rfl, hi_.fr⟩
  · refine calls_of_WF Tryz.func14 rfl rfl (hi) ?_
    repeat' (first | (refine pf_keep rfl ?_) | (refine pf_drop rfl ?_) | (refine pf_nil ?_) | (refine w_seq ?_) | (refine w_condT rfl ?_) | (refine w_condF rfl ?_) | (refine w_skip ?_) | (refine w_ret Tryz.func14 rfl (fun w_ hi_ => ?_)) | ((refine w_regI 0 ?_; try ((refine wo_v (ov_assign rfl) rfl rfl rfl ?_) <;> try ((refine wo_v (ov_assign rfl) rfl rfl rfl ?_) <;> try ((refine wo_nilP [0, 2, 3, 4, 5, 6, 7, 8, 9, 11, 12, 28, 52, 54, 55, 56, 57, 65, 72] ?_)))))) | ((refine w_regI 1 ?_; try ((refine wo_v (ov_move rfl) rfl rfl rfl ?_) <;> try ((refine wo_v (ov_call rfl en45 (fun w hi => hcut w (hi.cell (off := 0) (by repeat (first | exact .head _ | refine .tail _ ?_)) rfl))) rfl rfl rfl ?_) <;> try ((refine wo_v (ov_move rfl) rfl rfl rfl ?_) <;> try ((refine wo_v (ov_extract rfl rfl) rfl rfl rfl ?_) <;> try ((refine wo_v (ov_extract rfl rfl) rfl rfl rfl ?_) <;> try ((refine wo_v (ov_extract rfl rfl) rfl rfl rfl ?_) <;> try ((refine wo_v (ov_assign rfl) rfl rfl rfl ?_) <;> try ((refine wo_v (ov_assign rfl) rfl rfl rfl ?_) <;> try ((refine wo_v (ov_assign rfl) rfl rfl rfl ?_) <;> try ((refine wo_nilP [0, 2, 3, 4, 5, 6, 7, 8, 9, 11, 12, 28, 52, 54, 55, 56, 57, 65, 72] ?_))))))))))))) | ((refine w_regI 2 ?_; try ((refine wo_v (ov_move rfl) rfl rfl rfl ?_) <;> try ((refine wo_v (ov_call rfl en46 (fun w hi => hpl w)) rfl rfl rfl ?_) <;> try ((refine wo_v (ov_move rfl) rfl rfl rfl ?_) <;> try ((refine wo_v (ov_extract rfl rfl) rfl rfl rfl ?_) <;> try ((refine wo_v (ov_extract rfl rfl) rfl rfl rfl ?_) <;> try ((refine wo_v (ov_assign rfl) rfl rfl rfl ?_) <;> try ((refine wo_v (ov_assign rfl) rfl rfl rfl ?_) <;> try ((refine wo_nilP [0, 2, 3, 4, 5, 6, 7, 8, 9, 11, 12, 28, 52, 54, 55, 56, 57, 65, 72] ?_))))))))))) | ((refine w_regI 3 ?_; try ((refine wo_v (ov_move rfl) rfl rfl rfl ?_) <;> try ((refine wo_v (ov_notT rfl) rfl rfl rfl ?_) <;> try ((refine wo_v (ov_move rfl) rfl rfl rfl ?_) <;> try ((refine wo_skip rfl rfl ?_) <;> try ((refine wo_v (ov_pickF rfl rfl) rfl rfl rfl ?_) <;> try ((refine wo_nilP [0, 2, 3, 4, 5, 6, 7, 8, 9, 11, 12, 28, 52, 54, 55, 56, 57, 65, 72] ?_))))))))) | ((refine w_regI 5 ?_; try ((refine wo_v (ov_move rfl) rfl rfl rfl ?_) <;> try ((refine wo_v (ov_notF rfl) rfl rfl rfl ?_) <;> try ((refine wo_v (ov_move rfl) rfl rfl rfl ?_) <;> try ((refine wo_skip rfl rfl ?_) <;> try ((refine wo_skip rfl rfl ?_) <;> try ((refine wo_v (ov_pickT rfl rfl) rfl rfl rfl ?_) <;> try ((refine wo_v (ov_move rfl) rfl rfl rfl ?_) <;> try ((refine wo_skip rfl rfl ?_) <;> try ((refine wo_skip rfl rfl ?_) <;> try ((refine wo_v (ov_pickT rfl rfl) rfl rfl rfl ?_) <;> try ((refine wo_v (ov_move rfl) rfl rfl rfl ?_) <;> try ((refine wo_skip rfl rfl ?_) <;> try ((refine wo_skip rfl rfl ?_) <;> try ((refine wo_v (ov_pickT rfl rfl) rfl rfl rfl ?_) <;> try ((refine wo_v (ov_move rfl) rfl rfl rfl ?_) <;> try ((refine wo_skip rfl rfl ?_) <;> try ((refine wo_skip rfl rfl ?_) <;> try ((refine wo_v (ov_pickT rfl rfl) rfl rfl rfl ?_) <;> try ((refine wo_v (ov_move rfl) rfl rfl rfl ?_) <;> try ((refine wo_skip rfl rfl ?_) <;> try ((refine wo_skip rfl rfl ?_) <;> try ((refine wo_skip rfl rfl ?_) <;> try ((refine wo_v (ov_pickT rfl rfl) rfl rfl rfl ?_) <;> try ((refine wo_nilP [0, 2, 3, 4, 5, 6, 7, 8, 9, 11, 12, 28, 52, 54, 55, 56, 57, 65, 72] ?_))))))))))))))))))))))))))) | ((refine w_regI 6 ?_; try ((refine wo_v (ov_assign rfl) rfl rfl rfl ?_) <;> try ((refine wo_v (ov_assign rfl) rfl rfl rfl ?_) <;> try ((refine wo_nilP [0, 2, 3, 4, 5, 6, 7, 8, 9, 11, 12, 28, 52, 54, 55, 56, 57, 65, 72] ?_)))))))
    exact ⟨rfl, hi_.fr⟩
  · refine calls_of_WF Tryz.func14 rfl rfl (hi) ?_
    repeat' (first | (refine pf_keep rfl ?_) | (refine pf_drop rfl ?_) | (refine pf_nil ?_) | (refine w_seq ?_) | (refine w_condT rfl ?_) | (refine w_condF rfl ?_) | (refine w_condD rfl (fun h => ?_) (fun h => ?_)) | (refine w_block ?_) | (refine w_skip ?_) | (refine w_ret Tryz.func14 rfl (fun w_ hi_ => ?_)) | ((refine w_regI 0 ?_; try ((refine wo_v (ov_assign rfl) rfl rfl rfl ?_) <;> try ((refine wo_v (ov_assign rfl) rfl rfl rfl ?_) <;> try ((refine wo_nilP [0, 2, 3, 4, 5, 6, 7, 8, 9, 11, 12, 28, 52, 54, 55, 56, 57, 65, 72] ?_)))))) | ((refine w_regI 1 ?_; try ((refine wo_v (ov_move rfl) rfl rfl rfl ?_) <;> try ((refine wo_v (ov_call rfl en45 (fun w hi => hcut w (hi.cell (off := 0) (by repeat (first | exact .head _ | refine .tail _ ?_)) rfl))) rfl rfl rfl ?_) <;> try ((refine wo_v (ov_move rfl) rfl rfl rfl ?_) <;> try ((refine wo_v (ov_extract rfl rfl) rfl rfl rfl ?_) <;> try ((refine wo_v (ov_extract rfl rfl) rfl rfl rfl ?_) <;> try ((refine wo_v (ov_extract rfl rfl) rfl rfl rfl ?_) <;> try ((refine wo_v (ov_assign rfl) rfl rfl rfl ?_) <;> try ((refine wo_v (ov_assign rfl) rfl rfl rfl ?_) <;> try ((refine wo_v (ov_assign rfl) rfl rfl rfl ?_) <;> try ((refine wo_nilP [0, 2, 3, 4, 5, 6, 7, 8, 9, 11, 12, 28, 52, 54, 55, 56, 57, 65, 72] ?_))))))))))))) | ((refine w_regI 2 ?_; try ((refine wo_v (ov_move rfl) rfl rfl rfl ?_) <;> try ((refine wo_v (ov_call rfl en46 (fun w hi => hpl w)) rfl rfl rfl ?_) <;> try ((refine wo_v (ov_move rfl) rfl rfl rfl ?_) <;> try ((refine wo_v (ov_extract rfl rfl) rfl rfl rfl ?_) <;> try ((refine wo_v (ov_extract rfl rfl) rfl rfl rfl ?_) <;> try ((refine wo_v (ov_assign rfl) rfl rfl rfl ?_) <;> try ((refine wo_v (ov_assign rfl) rfl rfl rfl ?_) <;> try ((refine wo_nilP [0, 2, 3, 4, 5, 6, 7, 8, 9, 11, 12, 28, 52, 54, 55, 56, 57, 65, 72] ?_))))))))))) | ((refine w_regI 3 ?_; try ((refine wo_v (ov_move rfl) rfl rfl rfl ?_) <;> try ((refine wo_v (ov_notT rfl) rfl rfl rfl ?_) <;> try ((refine wo_v (ov_move rfl) rfl rfl rfl ?_) <;> try ((refine wo_skip rfl rfl ?_) <;> try ((refine wo_v (ov_pickF rfl rfl) rfl rfl rfl ?_) <;> try ((refine wo_nilP [0, 2, 3, 4, 5, 6, 7, 8, 9, 11, 12, 28, 52, 54, 55, 56, 57, 65, 72] ?_))))))))) | ((refine w_regI 5 ?_; try ((refine wo_v (ov_move rfl) rfl rfl rfl ?_) <;> try ((refine wo_v (ov_notT rfl) rfl rfl rfl ?_) <;> try ((refine wo_v (ov_move rfl) rfl rfl rfl ?_) <;> try (((refine wo_v (ov_move rfl) rfl rfl rfl ?_)) <;> try (((refine wo_v (ov_notT rfl) rfl rfl rfl ?_)) <;> try ((refine wo_v (ov_pickF rfl rfl) rfl rfl rfl ?_) <;> try ((refine wo_v (ov_move rfl) rfl rfl rfl ?_) <;> try (((refine wo_v (ov_move rfl) rfl rfl rfl ?_)) <;> try (((refine wo_v (ov_lss3 rfl rfl (by first | exact decide_eq_true (by omega) | exact decide_eq_false (by omega) | exact rfl)) rfl rfl rfl ?_)) <;> try ((refine wo_v (ov_pickF rfl rfl) rfl rfl rfl ?_) <;> try ((refine wo_v (ov_move rfl) rfl rfl rfl ?_) <;> try (((refine wo_gs rfl rfl (fun h => ?_) (fun h => ?_)) <;> (first | (refine wo_skip rfl rfl ?_) | ((refine wo_v (ov_move rfl) rfl rfl rfl ?_)))) <;> try ((first | (refine wo_skip rfl rfl ?_) | ((refine wo_v (ov_gtr3 rfl rfl (by first | exact decide_eq_true (by omega) | exact decide_eq_false (by omega) | exact rfl)) rfl rfl rfl ?_))) <;> try ((first | (refine wo_v (ov_pickT rfl rfl) rfl rfl rfl ?_) | (refine wo_v (ov_pickF rfl rfl) rfl rfl rfl ?_)) <;> try ((refine wo_v (ov_move rfl) rfl rfl rfl ?_) <;> try ((first | (refine wo_skip rfl rfl ?_) | ((refine wo_gs rfl rfl (fun h => ?_) (fun h => ?_)) <;> (first | (refine wo_skip rfl rfl ?_) | ((refine wo_v (ov_move rfl) rfl rfl rfl ?_))))) <;> try ((first | (refine wo_skip rfl rfl ?_) | ((refine wo_v (ov_eqlS3 rfl rfl (by first | exact decide_eq_true (by first | assumption | with_reducible rfl) | exact decide_eq_false (by assumption) | exact rfl)) rfl rfl rfl ?_))) <;> try ((first | (refine wo_v (ov_pickT rfl rfl) rfl rfl rfl ?_) | (refine wo_v (ov_pickF rfl rfl) rfl rfl rfl ?_)) <;> try ((refine wo_v (ov_move rfl) rfl rfl rfl ?_) <;> try ((first | (refine wo_skip rfl rfl ?_) | ((refine wo_gs rfl rfl (fun h => ?_) (fun h => ?_)) <;> (first | (refine wo_skip rfl rfl ?_) | ((refine wo_v (ov_move rfl) rfl rfl rfl ?_))))) <;> try ((first | (refine wo_skip rfl rfl ?_) | ((refine wo_v (ov_lenS rfl Tryz.underlying9 rfl) rfl rfl rfl ?_))) <;> try ((first | (refine wo_skip rfl rfl ?_) | ((refine wo_v (ov_gtr3 rfl rfl (by first | exact decide_eq_true (by omega) | exact decide_eq_false (by omega) | exact rfl)) rfl rfl rfl ?_))) <;> try ((first | (refine wo_v (ov_pickT rfl rfl) rfl rfl rfl ?_) | (refine wo_v (ov_pickF rfl rfl) rfl rfl rfl ?_)) <;> try ((refine wo_nilP [0, 2, 3, 4, 5, 6, 7, 8, 9, 11, 12, 28, 52, 54, 55, 56, 57, 65, 72] ?_))))))))))))))))))))))))))) | ((refine w_regI 6 ?_; try ((refine wo_v (ov_assign rfl) rfl rfl rfl ?_) <;> try ((refine wo_v (ov_assign rfl) rfl rfl rfl ?_) <;> try ((refine wo_nilP [0, 2, 3, 4, 5, 6, 7, 8, 9, 11, 12, 28, 52, 54, 55, 56, 57, 65, 72] ?_)))))) | ((refine w_regI 7 ?_; try ((refine wo_v (ov_assign rfl) rfl rfl rfl ?_) <;> try ((refine wo_nilP [0, 2, 3, 4, 5, 6, 7, 8, 9, 11, 12, 28, 52, 54, 55, 56, 57, 65, 72] ?_))))) | ((refine w_regI 8 ?_; try ((refine wo_v (ov_move rfl) rfl rfl rfl ?_) <;> try ((refine wo_bytes Tryz.underlying9 Tryz.underlying63 Tryz.underlying5 rfl rfl rfl (fun bb_ cap_ hb_ hc_ => ?_)) <;> try ((refine wo_v (ov_lenL rfl Tryz.underlying63 rfl) rfl rfl rfl ?_) <;> try ((refine wo_v (ov_move rfl) rfl rfl rfl ?_) <;> try ((refine wo_nilP [0, 2, 3, 4, 5, 6, 7, 8, 9, 11, 12, 28, 52, 54, 55, 56, 57, 65, 72] ?_)))))))))
    · exact ⟨by rw [if_neg (by simp), if_pos (.inr (.inr (.inl h)))]; rfl, hi_.fr⟩
    · exact ⟨by rw [if_neg (by simp), if_pos (.inr (.inr (.inr (.inl h))))]; rfl, hi_.fr⟩
    · exact ⟨by rw [if_neg (by simp), if_pos (.inr (.inr (.inr (.inr (.inl h)))))]; rfl, hi_.fr⟩
    · exact ⟨by rw [if_neg (by simp), if_pos (.inr (.inr (.inr (.inr (.inr (by omega))))))]; rfl, hi_.fr⟩
    rw [if_neg (by simp), if_neg (by simp only [not_or]; exact ⟨by simp, by simp, by assumption, by assumption, by assumption, by omega⟩)]
    have hfl : figs.length = 16 := rfl
    have hat : ∀ k (h : k < bk.length), ((byv bk ++ List.replicate (cap_ - bk.length) (Value.int .u8 0)).toArray)[0 + ((k : Nat) : Int).toNat * 1]? = some (.int .u8 (bk[k].toNat : Int)) := by
      intro k h
      have : 0 + ((k : Nat) : Int).toNat * 1 = k := by omega
      rw [this, List.getElem?_toArray, List.getElem?_append_left (by simpa [byv] using h)]; simp [byv, h]
    refine w_weak (E' := (fun q : Nat × Int => [(7, .int .i64 n), (9, .int .i64 q.2), (54, .slice (some ⟨bb_, 0, none⟩) bk.length cap_), (55, .int .i64 (bk.length : Int)), (56, .int .i64 (q.1 : Int))]) (0, 0)) (by repeat (first | exact sub_nil _ | refine sub_cons rfl ?_)) ?_
    refine w_while (fun q : Nat × Int => q.1 ≤ bk.length ∧ 0 ≤ q.2 ∧ q.2 ≤ 1000000000 ∧ valR n bk 0 = valR n (bk.drop q.1) q.2) (fun q => bk.length - q.1) (fun q : Nat × Int => [(7, .int .i64 n), (9, .int .i64 q.2), (54, .slice (some ⟨bb_, 0, none⟩) bk.length cap_), (55, .int .i64 (bk.length : Int)), (56, .int .i64 (q.1 : Int))]) (fun _ => _) ?_ (0, 0) ⟨by omega, by simp, by simp, by simp⟩
    rintro ⟨k, v⟩ ⟨hk, hv0, hv1, hval⟩ ih
    dsimp only at hk hv0 hv1 hval ⊢
    obtain ⟨hm0, hm1⟩ := mul_bd hv0 hv1 (b := n) (by omega) (by omega)
    by_cases h : k < bk.length
    · have hk1 := hat k h
      obtain ⟨hd0, hd1⟩ := digB_bd bk[k] n (by omega) (by omega)
      rw [List.drop_eq_getElem_cons h, valR] at hval
      have hix : ∀ w, Calls Tryz.prog 47 #[str (figs.take n.toNat), .int .u8 (bk[k].toNat : Int)] w fun e w' => e = .returned (.int .i64 (digB bk[k] n)) ∧ Fr none_ w w' := fun w => by
        have := indexByte_c (figs.take n.toNat) (bk[k].toNat : Int) w
        rw [show ((bk[k].toNat : Int)).toNat.toUInt8 = bk[k] by simp] at this
        rwa [digB_index]
      repeat' (first | (refine pf_keep rfl ?_) | (refine pf_drop rfl ?_) | (refine pf_nil ?_) | (refine w_seq ?_) | (refine w_condT rfl ?_) | (refine w_condD rfl (fun h => ?_) (fun h => ?_)) | (refine w_block ?_) | (refine w_inBlock ?_) | (refine w_skip ?_) | (refine w_ret Tryz.func14 rfl (fun w_ hi_ => ?_)) | ((refine w_regI 9 ?_; try ((refine wo_v (ov_lss3 rfl rfl (by first | exact decide_eq_true (by omega) | exact decide_eq_false (by omega) | exact rfl)) rfl rfl rfl ?_) <;> try ((refine wo_nilP [0, 2, 3, 4, 5, 6, 7, 8, 9, 11, 12, 28, 52, 54, 55, 56, 57, 65, 72] ?_))))) | ((refine w_regI 10 ?_; try ((refine wo_v (ov_indexAddr Tryz.underlying63 sz5 rfl rfl (by omega) (by omega)) rfl rfl rfl ?_) <;> try ((refine wo_v (ov_load Tryz.underlying5 rfl rfl (by repeat (first | exact .head _ | refine .tail _ ?_ | refine List.mem_append_right _ ?_ | assumption)) (by first | rfl | assumption | simp)) rfl rfl rfl ?_) <;> try ((refine wo_v (ov_assign rfl) rfl rfl rfl ?_) <;> try ((refine wo_nilP [0, 2, 3, 4, 5, 6, 7, 8, 9, 11, 12, 28, 52, 54, 55, 56, 57, 65, 72] ?_))))))) | ((refine w_regI 11 ?_; try ((refine wo_v (ov_move rfl) rfl rfl rfl ?_) <;> try ((refine wo_v (ov_sliceS (l := figs) Tryz.underlying9 rfl rfl ⟨_, _, rfl, by omega, rfl⟩ (by omega) (by omega)) rfl rfl rfl ?_) <;> try ((refine wo_v (ov_move rfl) rfl rfl rfl ?_) <;> try ((refine wo_v (ov_call rfl en47 (fun w hi => hix w)) rfl rfl rfl ?_) <;> try ((refine wo_v (ov_assign rfl) rfl rfl rfl ?_) <;> try ((refine wo_nilP [0, 2, 3, 4, 5, 6, 7, 8, 9, 11, 12, 28, 52, 54, 55, 56, 57, 65, 72] ?_))))))))) | ((refine w_regI 12 ?_; try ((refine wo_v (ov_move rfl) rfl rfl rfl ?_) <;> try ((refine wo_v (ov_lss3 rfl rfl (by first | exact decide_eq_true (by omega) | exact decide_eq_false (by omega) | exact rfl)) rfl rfl rfl ?_) <;> try ((refine wo_nilP [0, 2, 3, 4, 5, 6, 7, 8, 9, 11, 12, 28, 52, 54, 55, 56, 57, 65, 72] ?_)))))) | ((refine w_regI 13 ?_; try ((refine wo_v (ov_assign rfl) rfl rfl rfl ?_) <;> try ((refine wo_v (ov_assign rfl) rfl rfl rfl ?_) <;> try ((refine wo_nilP [0, 2, 3, 4, 5, 6, 7, 8, 9, 11, 12, 28, 52, 54, 55, 56, 57, 65, 72] ?_)))))) | ((refine w_regI 14 ?_; try ((refine wo_v (ov_move rfl) rfl rfl rfl ?_) <;> try ((refine wo_v (ov_move rfl) rfl rfl rfl ?_) <;> try ((refine wo_v (ov_mul_i64 rfl rfl (by omega) (by omega)) rfl rfl rfl ?_) <;> try ((refine wo_v (ov_move rfl) rfl rfl rfl ?_) <;> try ((refine wo_v (ov_add_i64 rfl rfl (by omega) (by omega)) rfl rfl rfl ?_) <;> try ((refine wo_v (ov_assign rfl) rfl rfl rfl ?_) <;> try ((refine wo_nilP [0, 2, 3, 4, 5, 6, 7, 8, 9, 11, 12, 28, 52, 54, 55, 56, 57, 65, 72] ?_)))))))))) | ((refine w_regI 15 ?_; try ((refine wo_v (ov_move rfl) rfl rfl rfl ?_) <;> try ((refine wo_v (ov_gtr3 rfl rfl (by first | exact decide_eq_true (by omega) | exact decide_eq_false (by omega) | exact rfl)) rfl rfl rfl ?_) <;> try ((refine wo_nilP [0, 2, 3, 4, 5, 6, 7, 8, 9, 11, 12, 28, 52, 54, 55, 56, 57, 65, 72] ?_)))))) | ((refine w_regI 16 ?_; try ((refine wo_v (ov_assign rfl) rfl rfl rfl ?_) <;> try ((refine wo_v (ov_assign rfl) rfl rfl rfl ?_) <;> try ((refine wo_nilP [0, 2, 3, 4, 5, 6, 7, 8, 9, 11, 12, 28, 52, 54, 55, 56, 57, 65, 72] ?_)))))) | ((refine w_regI 17 ?_; try ((refine wo_v (ov_add_i64 rfl rfl (by omega) (by omega)) rfl rfl rfl ?_) <;> try ((refine wo_v (ov_move rfl) rfl rfl rfl ?_) <;> try ((refine wo_nilP [0, 2, 3, 4, 5, 6, 7, 8, 9, 11, 12, 28, 52, 54, 55, 56, 57, 65, 72] ?_)))))))
      · exact ⟨by rw [hval, if_pos (.inl h)]; rfl, hi_.fr⟩
      · exact ⟨by rw [hval, if_pos (.inr h)]; rfl, hi_.fr⟩
      · rw [if_neg (by omega)] at hval
        refine w_weak (by first | exact sub_nil _ | (refine sub_cons rfl ?_; repeat (first | exact sub_nil _ | refine sub_cons rfl ?_))) (ih (k + 1, v * n + digB bk[k] n) ⟨by omega, by simp only; omega, by simp only; omega, hval⟩ (by simp only; omega))
    · obtain rfl : k = bk.length := by omega
      rw [List.drop_length, valR] at hval
      repeat' (first | (refine pf_keep rfl ?_) | (refine pf_drop rfl ?_) | (refine pf_nil ?_) | (refine w_seq ?_) | (refine w_condF rfl ?_) | (refine w_exit rfl ?_) | (refine w_ret Tryz.func14 rfl (fun w_ hi_ => ?_)) | ((refine w_regI 9 ?_; try ((refine wo_v (ov_lss3 rfl rfl (by first | exact decide_eq_true (by omega) | exact decide_eq_false (by omega) | exact rfl)) rfl rfl rfl ?_) <;> try ((refine wo_nilP [0, 2, 3, 4, 5, 6, 7, 8, 9, 11, 12, 28, 52, 54, 55, 56, 57, 65, 72] ?_))))) | ((refine w_regI 18 ?_; try ((refine wo_v (ov_move rfl) rfl rfl rfl ?_) <;> try ((refine wo_v (ov_assign rfl) rfl rfl rfl ?_) <;> try ((refine wo_v (ov_assign rfl) rfl rfl rfl ?_) <;> try ((refine wo_nilP [0, 2, 3, 4, 5, 6, 7, 8, 9, 11, 12, 28, 52, 54, 55, 56, 57, 65, 72] ?_))))))))
      exact ⟨by rw [hval, retN, if_neg (by omega), if_neg (by omega)]; rfl, hi_.fr⟩
end Go.Sl
namespace Go.Sl
open Go Go.Proofs
set_option linter.unusedSimpArgs false
set_option linter.unusedVariables false
theorem digB_dig (c : UInt8) (h : isDig c = true) : digB c 10 = ((c.toNat - 48 : Nat) : Int) := by
  have : ∀ n : Fin 256, isDig (UInt8.ofNat n.val) = true → digB (UInt8.ofNat n.val) 10 = (((UInt8.ofNat n.val).toNat - 48 : Nat) : Int) := by decide +kernel
  have h2 := this ⟨c.toNat, c.toNat_lt⟩
  simp only [UInt8.ofNat_toNat] at h2
  exact h2 h
theorem valR_dec (l : List UInt8) : ∀ n : Nat, n ≤ 1000000000 → l.all isDig = true → valR 10 l (n : Int) = if decV n l ≤ 1000000000 then (decV n l : Int) else -1 := by
  induction l with
  | nil => intro n hn _; rw [valR, decV_nil, if_pos hn]
  | cons c r ih =>
    intro n hn h
    have hb := decV_bd (c :: r) n h
    simp only [List.all_cons, Bool.and_eq_true] at h
    rw [valR, digB_dig c h.1]
    have hr := (decV_bd r (n * 10 + (c.toNat - 48)) h.2).1
    rw [decV_cons]
    by_cases h1 : 1000000000 < n * 10 + (c.toNat - 48)
    · rw [if_pos (.inr (by omega)), if_neg (by omega)]
    · rw [if_neg (by omega)]
      have := ih (n * 10 + (c.toNat - 48)) (by omega) h.2
      rw [← this]; congr 1
theorem decV_low (l : List UInt8) : ∀ n : Nat, n * 10 ^ l.length ≤ decV n l := by
  induction l with
  | nil => intro n; rw [decV_nil]; simp
  | cons c r ih =>
    intro n
    rw [decV_cons, List.length_cons, Nat.pow_succ]
    have h1 := ih (n * 10 + (c.toNat - 48))
    have h2 : n * (10 ^ r.length * 10) ≤ (n * 10 + (c.toNat - 48)) * 10 ^ r.length := by
      rw [Nat.mul_comm (10 ^ r.length), ← Nat.mul_assoc]
      exact Nat.mul_le_mul_right _ (by omega)
    exact Nat.le_trans h2 h1
/-- What the reference holds the front for. -/
def n0 (t : List UInt8) : Int := if (1 : Int) < (t.length : Nat) ∧ bt t 0 = 48 then -1 else valuedS t 10
theorem plain_bad {t : List UInt8} (h : t = [] ∨ 10 < t.length ∨ t.all isDig = false ∨ (1 < t.length ∧ bt t 0 = 48)) : plainR t = (0, false) := if_pos h
theorem plain_ok {t : List UInt8} (h : ¬ (t = [] ∨ 10 < t.length ∨ t.all isDig = false ∨ (1 < t.length ∧ bt t 0 = 48))) : plainR t = (((decV 0 t : Nat) : Int), decide (((decV 0 t : Nat) : Int) ≤ (1000000000 : Int))) := if_neg h
theorem n0_plain (t : List UInt8) (h : t.all isDig = true) : n0 t = if (plainR t).2 = true then (plainR t).1 else -1 := by
  unfold n0
  by_cases h1 : t = []
  · subst h1; rfl
  by_cases h2 : 1 < t.length ∧ bt t 0 = 48
  · rw [if_pos ⟨by omega, h2.2⟩, plain_bad (.inr (.inr (.inr h2)))]; rfl
  rw [if_neg (by omega)]
  by_cases h3 : 10 < t.length
  · rw [plain_bad (.inr (.inl h3))]
    simp only [Bool.false_eq_true, if_false]
    unfold valuedS
    split
    · rfl
    · match t, h1 with
      | c :: r, _ =>
        have hc := (List.all_eq_true.1 h) c (.head _)
        rw [isDig_iff, decide_eq_true_eq] at hc
        have hbt : bt (c :: r) 0 = (c.toNat : Int) := rfl
        simp only [List.length_cons] at h2 h3
        have hv := valR_dec (c :: r) 0 (by omega) h
        have hlow := decV_low r (c.toNat - 48)
        have hp : 10 ^ 10 ≤ 10 ^ r.length := Nat.pow_le_pow_right (by omega) (by omega)
        have hc1 : 1 ≤ c.toNat - 48 := by omega
        have hm : 1 * 10 ^ r.length ≤ (c.toNat - 48) * 10 ^ r.length := Nat.mul_le_mul_right _ hc1
        have hd : decV 0 (c :: r) = decV (c.toNat - 48) r := by rw [decV_cons, Nat.zero_mul, Nat.zero_add]
        rw [if_neg (by rw [hd]; omega)] at hv
        exact hv
  · rw [plain_ok (by simp only [not_or]; exact ⟨h1, h3, by simp [h], h2⟩)]
    unfold valuedS
    rw [if_neg (by simp only [not_or]; exact ⟨h1, by omega⟩)]
    have hv := valR_dec t 0 (by omega) h
    rw [show ((0 : Nat) : Int) = 0 from rfl] at hv
    rw [hv]
    by_cases h4 : decV 0 t ≤ 1000000000
    · rw [if_pos h4, if_pos (decide_eq_true (by omega))]
    · have h5 : decide (((decV 0 t : Nat) : Int) ≤ 1000000000) = false := decide_eq_false (by omega)
      simp only [h5]
      rw [if_neg h4, if_neg (by simp)]
theorem plain_not (t : List UInt8) (h : t.all isDig = false) : plainR t = (0, false) := plain_bad (.inr (.inr (.inl h)))
theorem n0_ge (t : List UInt8) : -1 ≤ n0 t := by
  unfold n0; split
  · omega
  · unfold valuedS; split
    · omega
    · exact (valR_bd 10 (by omega) (by omega) t 0 (by omega) (by omega)).1
theorem valS_n0 (s : List UInt8) : valS s = if spn 100 100 s < s.length ∧ 0 ≤ n0 (s.take (spn 100 100 s)) then (if bt s (spn 100 100 s : Nat) = 95 ∧ 2 ≤ n0 (s.take (spn 100 100 s)) ∧ n0 (s.take (spn 100 100 s)) ≤ 16 then valuedS (s.drop (spn 100 100 s + 1)) (n0 (s.take (spn 100 100 s))) else -1) else n0 (s.take (spn 100 100 s)) := by
  have hle := spn_le 100 100 s
  have hl : ((s.take (spn 100 100 s)).length : Int) = (spn 100 100 s : Nat) := by simp; omega
  have hb : (1 : Int) < ((s.take (spn 100 100 s)).length : Int) → bt (s.take (spn 100 100 s)) 0 = bt s 0 := fun h => by
    unfold bt; simp only [Int.toNat_zero]; rw [List.getElem?_take, if_pos (by omega)]
  have e : n0 (s.take (spn 100 100 s)) = (if (1 : Int) < (spn 100 100 s : Nat) ∧ bt s 0 = 48 then -1 else valuedS (s.take (spn 100 100 s)) 10) := by
    unfold n0
    by_cases h : (1 : Int) < (spn 100 100 s : Nat)
    · rw [hb (by omega), hl]
    · rw [if_neg (by omega), if_neg (by omega)]
  rw [e]; unfold valS
  simp only [Int.ofNat_lt]
theorem spn_dig (s : List UInt8) : spn 100 100 s = (s.takeWhile isDig).length := by rw [← runN4]; rfl
/-- Where the first underscore is. -/
theorem idx_us : ∀ s : List UInt8, (Lib.index s [95] = -1 ∧ 95 ∉ s) ∨ ∃ i : Nat, Lib.index s [95] = i ∧ i < s.length ∧ 95 ∉ s.take i ∧ (s[i]?).getD 0 = 95 := by
  intro s
  rw [← idxB]
  rw [indexByte_idx]
  by_cases h : s.idxOf 95 < s.length
  · right
    refine ⟨s.idxOf 95, by rw [if_pos h], h, ?_, ?_⟩
    · intro hm
      obtain ⟨j, hj, he⟩ := List.mem_take_iff_getElem.1 hm
      have hj2 : j < s.idxOf 95 := by omega
      have := List.not_of_lt_findIdx (p := (· == 95)) (xs := s) hj2
      simp at this
      exact this he
    · rw [List.getElem?_eq_getElem h]; simp
  · left
    refine ⟨by rw [if_neg h], fun hm => h (List.idxOf_lt_length_iff.2 hm)⟩
theorem tw_all {s : List UInt8} : s.all isDig = true → s.takeWhile isDig = s := by
  induction s with
  | nil => intro _; rfl
  | cons c r ih =>
    intro h
    simp only [List.all_cons, Bool.and_eq_true] at h
    rw [List.takeWhile_cons, if_pos h.1, ih h.2]
theorem tw_split (a b : List UInt8) (h : a.all isDig = true) : (a ++ b).takeWhile isDig = a ++ b.takeWhile isDig := by
  induction a with
  | nil => rfl
  | cons c r ih =>
    simp only [List.all_cons, Bool.and_eq_true] at h
    rw [List.cons_append, List.takeWhile_cons, if_pos h.1, ih h.2]; rfl
/-- Where not all are digits, the first that is none. -/
theorem tw_not : ∀ a b : List UInt8, a.all isDig = false → ((a ++ b).takeWhile isDig).length < a.length ∧ ∃ c ∈ a, (((a ++ b)[((a ++ b).takeWhile isDig).length]?).getD 0) = c
  | [], _, h => by simp at h
  | c :: r, b, h => by
    rw [List.cons_append, List.takeWhile_cons]
    by_cases hc : isDig c = true
    · rw [if_pos hc]
      have h2 : r.all isDig = false := by simpa [hc] using h
      obtain ⟨h3, d, hd, he⟩ := tw_not r b h2
      refine ⟨by simp only [List.length_cons]; omega, d, .tail _ hd, ?_⟩
      simp only [List.length_cons, List.getElem?_cons_succ]
      exact he
    · rw [if_neg hc]
      exact ⟨by simp, c, .head _, by simp⟩
theorem valP_eq (s : List UInt8) : valP s = valS s := by
  rw [valS_n0, spn_dig]
  unfold valP
  have h95 : (95 : UInt8).toNat = 95 := rfl
  have hge := n0_ge (s.take (s.takeWhile isDig).length)
  rcases idx_us s with ⟨hi, hn⟩ | ⟨i, hi, hlt, hn, hat⟩
  · have hcut : Lib.cut s [95] = (s, [], false) := by unfold Lib.cut; rw [hi, if_neg (by omega)]
    rw [hcut]
    simp only
    by_cases ha : s.all isDig = true
    · rw [tw_all ha, List.take_length]
      refine Eq.trans ?_ (if_neg (by omega)).symm
      rw [n0_plain s ha]
      by_cases hp : (plainR s).2 = true
      · exact (if_pos ⟨trivial, hp⟩).trans (if_pos hp).symm
      · exact ((if_neg (fun h => hp h.2)).trans (if_pos (.inl (by simpa using hp)))).trans (if_neg hp).symm
    · have ha' : s.all isDig = false := by simpa using ha
      obtain ⟨h1, c, hc, he⟩ := tw_not s [] ha'
      simp only [List.append_nil] at h1 he
      have hne : bt s ((s.takeWhile isDig).length : Nat) ≠ 95 := by
        unfold bt; rw [Int.toNat_natCast, he]
        intro e
        have : c = 95 := UInt8.toNat_inj.1 (by omega)
        exact hn (this ▸ hc)
      rw [plain_not s ha']
      refine ((if_neg (by simp)).trans (if_pos (.inl rfl))).trans ?_
      by_cases h2 : 0 ≤ n0 (s.take (s.takeWhile isDig).length)
      · exact ((if_pos ⟨h1, h2⟩).trans (if_neg (fun h => hne h.1))).symm
      · exact Eq.trans (by omega) (if_neg (fun h => h2 h.2)).symm
  · have hcut : Lib.cut s [95] = (s.take i, s.drop (i + 1), true) := by unfold Lib.cut; rw [hi, if_pos (by omega)]; simp
    rw [hcut]
    simp only
    have hs : s = s.take i ++ s.drop i := (List.take_append_drop _ _).symm
    have hli : (s.take i).length = i := by simp; omega
    have hd : s.drop i = 95 :: s.drop (i + 1) := by
      rw [List.drop_eq_getElem_cons hlt]
      rw [List.getElem?_eq_getElem hlt] at hat
      simp only [Option.getD_some] at hat
      rw [hat]
    refine (if_neg (by simp)).trans ?_
    by_cases ha : (s.take i).all isDig = true
    · have htw : (s.takeWhile isDig).length = i := by
        have h3 : s.takeWhile isDig = s.take i := by
          conv => lhs; rw [hs]
          rw [tw_split _ _ ha, hd, List.takeWhile_cons, if_neg (by decide), List.append_nil]
        rw [h3, hli]
      rw [htw]
      have hbt : bt s (i : Nat) = 95 := by unfold bt; rw [Int.toNat_natCast, hat]; rfl
      rw [n0_plain _ ha]
      by_cases hp : (plainR (s.take i)).2 = true
      · have hp0 : 0 ≤ (plainR (s.take i)).1 := by unfold plainR; split <;> simp
        rw [show (if (plainR (s.take i)).2 = true then (plainR (s.take i)).1 else -1) = (plainR (s.take i)).1 from if_pos hp]
        refine Eq.trans ?_ (if_pos ⟨hlt, hp0⟩).symm
        by_cases hr : 2 ≤ (plainR (s.take i)).1 ∧ (plainR (s.take i)).1 ≤ 16
        · refine Eq.trans ?_ (if_pos ⟨hbt, hr⟩).symm
          unfold valuedS
          by_cases he : s.drop (i + 1) = [] ∨ 30 < (s.drop (i + 1)).length
          · refine Eq.trans (if_pos ?_) (if_pos he).symm
            rcases he with h | h
            · exact .inr (.inr (.inr (.inr (.inl h))))
            · exact .inr (.inr (.inr (.inr (.inr h))))
          · refine Eq.trans (if_neg ?_) (if_neg he).symm
            simp only [not_or] at he ⊢
            exact ⟨by simp [hp], by simp, by omega, by omega, he.1, he.2⟩
        · refine Eq.trans (if_pos ?_) (if_neg (fun h => hr h.2)).symm
          by_cases h2 : (plainR (s.take i)).1 < 2
          · exact .inr (.inr (.inl h2))
          · exact .inr (.inr (.inr (.inl (by omega))))
      · rw [show (if (plainR (s.take i)).2 = true then (plainR (s.take i)).1 else -1) = -1 from if_neg hp]
        exact (if_pos (.inl (by simpa using hp))).trans (if_neg (by omega)).symm
    · have ha' : (s.take i).all isDig = false := by simpa using ha
      obtain ⟨h1, c, hc, he⟩ := tw_not (s.take i) (s.drop i) ha'
      rw [← hs] at h1 he
      rw [hli] at h1
      have hne : bt s ((s.takeWhile isDig).length : Nat) ≠ 95 := by
        unfold bt; rw [Int.toNat_natCast, he]
        intro e
        have : c = 95 := UInt8.toNat_inj.1 (by omega)
        exact hn (this ▸ hc)
      rw [plain_not _ ha']
      refine (if_pos (.inl rfl)).trans ?_
      by_cases h2 : 0 ≤ n0 (s.take (s.takeWhile isDig).length)
      · exact ((if_pos ⟨by omega, h2⟩).trans (if_neg (fun h => hne h.1))).symm
      · exact Eq.trans (by omega) (if_neg (fun h => h2 h.2)).symm
end Go.Sl
namespace Go.Sl
open Go Go.Proofs
set_option maxRecDepth 100000
set_option maxHeartbeats 2000000
set_option linter.unusedSimpArgs false
set_option linter.unusedVariables false
attribute [local irreducible] Calls

/-- The signs, longer ones first. -/
def sgnL : List (List UInt8) := [[46, 46], [58, 61], [60, 58], [60, 61], [61, 62], [35], [40], [41], [42], [43], [44], [45], [46], [58], [59], [60], [61], [91], [93], [94], [123], [124], [125]]
/-- What a scanner leans on beside its own block. -/
structure EnvS (mb gb : Nat) (F : List Ent) : Prop where
  ml : ∃ q el fz, (⟨1, false, .cells #[.int .i64 q] el fz⟩ : Ent) ∈ F
  mp : (⟨mb, true, mapO wordsL⟩ : Ent) ∈ F
  sg : ∃ rst, (⟨gb, true, .cells (strs sgnL rst) 9 (0, 0)⟩ : Ent) ∈ F
theorem EnvS.cons {mb gb : Nat} {F : List Ent} (h : EnvS mb gb F) (e : Ent) : EnvS mb gb (e :: F) := ⟨let ⟨q, el, fz, h⟩ := h.ml; ⟨q, el, fz, .tail _ h⟩, .tail _ h.mp, let ⟨r, h⟩ := h.sg; ⟨r, .tail _ h⟩⟩
/-- How a row of the table ends. -/
def RowQ (s : List UInt8) (at_ fr : Nat) (mp sg : Value) (bs : Nat) (c : Array Value) (cond : Prop) [Decidable cond] (r : Int × Nat × Int) : Ending → List Ent → Prop := fun e post =>
  if cond then (if r.2.2 = 0 then ∃ c', e = .returned (.int .u8 r.1) ∧ Scn c' s (at_ + r.2.1) fr mp sg ∧ post = [(fun c : Array Value => (⟨bs, true, .cells c 107 (0, 0)⟩ : Ent)) c'] else ∃ c' q, e = .panicked (refu r.2.2) ∧ Scn c' s q fr mp sg ∧ post = [(fun c : Array Value => (⟨bs, true, .cells c 107 (0, 0)⟩ : Ent)) c'])
  else e = .returned (.int .u8 0) ∧ post = [(fun c : Array Value => (⟨bs, true, .cells c 107 (0, 0)⟩ : Ent)) c]
theorem RowQ.no {s : List UInt8} {at_ fr : Nat} {mp sg : Value} {bs : Nat} {c : Array Value} {cond : Prop} [Decidable cond] {r : Int × Nat × Int} (h : ¬ cond) : RowQ s at_ fr mp sg bs c cond r (.returned (.int .u8 0)) [(fun c : Array Value => (⟨bs, true, .cells c 107 (0, 0)⟩ : Ent)) c] := by unfold RowQ; rw [if_neg h]; exact ⟨rfl, rfl⟩
theorem RowQ.yes {s : List UInt8} {at_ fr : Nat} {mp sg : Value} {bs : Nat} {c c' : Array Value} {cond : Prop} [Decidable cond] {r : Int × Nat × Int} (h : cond) (h0 : r.2.2 = 0) (hc : Scn c' s (at_ + r.2.1) fr mp sg) : RowQ s at_ fr mp sg bs c cond r (.returned (.int .u8 r.1)) [(fun c : Array Value => (⟨bs, true, .cells c 107 (0, 0)⟩ : Ent)) c'] := by
  unfold RowQ; rw [if_pos h, if_pos h0]; exact ⟨c', rfl, hc, rfl⟩
theorem RowQ.bad {s : List UInt8} {at_ fr q : Nat} {mp sg : Value} {bs : Nat} {c c' : Array Value} {cond : Prop} [Decidable cond] {r : Int × Nat × Int} (h : cond) (h0 : r.2.2 ≠ 0) (hc : Scn c' s q fr mp sg) : RowQ s at_ fr mp sg bs c cond r (.panicked (refu r.2.2)) [(fun c : Array Value => (⟨bs, true, .cells c 107 (0, 0)⟩ : Ent)) c'] := by
  unfold RowQ; rw [if_pos h, if_neg h0]; exact ⟨c', q, rfl, hc, rfl⟩

theorem blank_c (mb gb : Nat) (s : List UInt8) (at_ fr : Nat) (mp sg : Value) (c : Array Value) (hc : Scn c s at_ fr mp sg) (bs : Nat) (hl : s.length < 4000000000) (ha : at_ < s.length) :
    SLE (EnvS mb gb) Tryz.prog 153 [.pointer (some ⟨bs, 0, none⟩)] [(fun c : Array Value => (⟨bs, true, .cells c 107 (0, 0)⟩ : Ent)) c] (RowQ s at_ fr mp sg bs c (cls (bt (s.drop at_) 0) = 98) (6, spn 98 98 (s.drop at_), 0)) := by
  intro S w0 F w hE hi
  refine calls_of_WFS Tryz.func153 rfl rfl (hi) ?_
  repeat' (first | (refine pf_keep rfl ?_) | (refine pf_drop rfl ?_) | (refine pf_nil ?_) | (refine w_seq ?_) | (refine w_condN rfl (fun h => ?_) (fun h => ?_)) | (refine w_skip ?_) | (refine w_ret Tryz.func153 rfl (fun w_ hi_ => ?_)) | ((refine w_regI 0 ?_; try ((refine wo_v (ov_assign rfl) rfl rfl rfl ?_) <;> try ((refine wo_nilP [0, 2, 5] ?_))))) | ((refine w_regI 1 ?_; try ((refine wo_v (ov_move rfl) rfl rfl rfl ?_) <;> try ((refine wo_v (ov_call rfl en163 (fun w hi => by have := now_c c s at_ fr mp sg hc bs 1 (by omega) (by omega) w (hi.view1 (by repeat (first | exact Take.nil _ | apply Take.cons | exact Del1.head _ | apply Del1.tail | apply Del1.app))); rwa [nowS1 ha] at this)) rfl rfl rfl ?_) <;> try ((refine wo_v (ov_not rfl) rfl rfl rfl ?_) <;> try ((refine wo_nilP [0, 2, 5] ?_))))))) | ((refine w_regI 2 ?_; try ((refine wo_v (ov_assign rfl) rfl rfl rfl ?_) <;> try ((refine wo_nilP [0, 2, 5] ?_))))) | ((refine w_regI 3 ?_; try ((refine wo_v (ov_move rfl) rfl rfl rfl ?_) <;> try ((refine wo_callR (by repeat (first | exact Take.nil _ | apply Take.cons | exact Del1.head _ | apply Del1.tail | apply Del1.app)) rfl en164 rfl rfl (run_c s at_ fr mp sg c hc bs 1 (by omega) (by omega)) ?_; rintro v post ⟨c', hc', rfl, rfl⟩) <;> try ((refine wo_nilP [0, 2, 5] ?_)))))) | ((refine w_regI 4 ?_; try ((refine wo_v (ov_assign rfl) rfl rfl rfl ?_) <;> try ((refine wo_nilP [0, 2, 5] ?_))))))
  · exact ⟨_, RowQ.no h, hi_⟩
  · rw [runN1] at hc'
    exact ⟨_, RowQ.yes (r := (6, spn 98 98 (s.drop at_), 0)) h rfl hc', hi_⟩

theorem Inv.viewM {S : Nat → Prop} {w0 w : World} {H : List Ent} {b1 : Nat} {r1 : Bool} {o1 : Obj} (hi : Inv S w0 H w) (hm : (⟨b1, r1, o1⟩ : Ent) ∈ H) : Inv none_ w [⟨b1, false, o1⟩] w :=
  ⟨Fr.refl _ w, by simp, fun e he => (by rw [List.mem_singleton.1 he]; exact (hi.hb ⟨b1, r1, o1⟩ hm : w.heap[b1]? = some o1)), fun e he h => (by rw [List.mem_singleton.1 he] at h; cases h)⟩
theorem cut_text (s : List UInt8) (a n : Nat) : (s.take (a + n)).drop a = (s.drop a).take n := by rw [List.drop_take, Nat.add_sub_cancel_left]
theorem demandB_c (b : Bool) (e : Int) : SL Tryz.prog 166 [.bool b, .int .i64 e] [] fun en post => post = [] ∧ ((b = true ∧ en = .returned (.tuple #[])) ∨ (b = false ∧ en = .panicked (refu e))) := by
  cases b with
  | true => exact (SL.of_quiet (demand_c e)).mono fun _ _ ⟨h1, h2⟩ => ⟨h2, .inl ⟨rfl, h1⟩⟩
  | false => exact (demandP_c e).mono fun _ _ ⟨h1, h2⟩ => ⟨h2, .inr ⟨rfl, h1⟩⟩

theorem word_c (mb gb : Nat) (s : List UInt8) (at_ : Nat) (sg : Value) (c : Array Value) (hc : Scn c s at_ at_ (.map (some mb)) sg) (bs : Nat) (hl : s.length < 4000000000) (ha : at_ < s.length) :
    SLE (EnvS mb gb) Tryz.prog 156 [.pointer (some ⟨bs, 0, none⟩)] [(fun c : Array Value => (⟨bs, true, .cells c 107 (0, 0)⟩ : Ent)) c] (RowQ s at_ at_ (.map (some mb)) sg bs c (cls (bt (s.drop at_) 0) = 97)
      (if (s.drop at_).take (spn 97 100 (s.drop at_)) ∈ wordsL then (2, spn 97 100 (s.drop at_), 0) else if 12 < spn 97 100 (s.drop at_) then (0, 0, 12) else (1, spn 97 100 (s.drop at_), 0))) := by
  intro S w0 F w hE hi
  have hmp := hE.mp
  have hn := spn_le 97 100 (s.drop at_)
  simp only [List.length_drop] at hn
  have hlen : ((s.drop at_).take (spn 97 100 (s.drop at_))).length = spn 97 100 (s.drop at_) := by simp; omega
  refine calls_of_WFS Tryz.func156 rfl rfl (hi) ?_
  repeat' (first | (refine pf_keep rfl ?_) | (refine pf_drop rfl ?_) | (refine pf_nil ?_) | (refine w_seq ?_) | (refine w_condD rfl (fun h => ?_) (fun h => ?_)) | (refine w_condN rfl (fun h => ?_) (fun h => ?_)) | (refine w_skip ?_) | (refine w_ret Tryz.func156 rfl (fun w_ hi_ => ?_)) | ((refine w_regI 0 ?_; try ((refine wo_v (ov_assign rfl) rfl rfl rfl ?_) <;> try ((refine wo_nilP [0, 2, 5, 14] ?_))))) | ((refine w_regI 1 ?_; try ((refine wo_v (ov_move rfl) rfl rfl rfl ?_) <;> try ((refine wo_v (ov_call rfl en163 (fun w hi => by have := now_c c s at_ at_ _ sg hc bs 2 (by omega) (by omega) w (hi.view1 (by repeat (first | exact Take.nil _ | apply Take.cons | exact Del1.head _ | apply Del1.tail | apply Del1.app))); rwa [nowS2 ha] at this)) rfl rfl rfl ?_) <;> try ((refine wo_v (ov_not rfl) rfl rfl rfl ?_) <;> try ((refine wo_nilP [0, 2, 5, 14] ?_))))))) | ((refine w_regI 2 ?_; try ((refine wo_v (ov_assign rfl) rfl rfl rfl ?_) <;> try ((refine wo_nilP [0, 2, 5, 14] ?_))))) | ((refine w_regI 3 ?_; try ((refine wo_v (ov_move rfl) rfl rfl rfl ?_) <;> try ((refine wo_callR (by repeat (first | exact Take.nil _ | apply Take.cons | exact Del1.head _ | apply Del1.tail | apply Del1.app)) rfl en164 rfl rfl (run_c s at_ at_ _ sg c hc bs 6 (by omega) (by omega)) ?_; rintro v post ⟨c', hc', rfl, rfl⟩; rw [runN6] at hc'; obtain ⟨z, h0, h1, hs, hm, hg, hf⟩ := id hc') <;> try ((refine wo_nilP [0, 2, 5, 14] ?_)))))) | ((refine w_regQI 4 rfl mixed (by kernel_rfl) ?_; try ((refine wq_v (ov_move rfl) rfl rfl ?_) <;> try ((refine wq_v (ov_nilCheck rfl) rfl rfl ?_) <;> try ((refine wq_v (ov_fieldAddr fo107_2 rfl) rfl rfl ?_) <;> try ((refine wq_v (ov_load Tryz.underlying105 rfl rfl (by repeat (first | exact .head _ | refine .tail _ ?_ | refine List.mem_append_right _ ?_ | assumption)) (by first | rfl | assumption | simp)) rfl rfl ?_) <;> try ((refine wq_v (ov_move rfl) rfl rfl ?_) <;> try ((refine wq_v (ov_call rfl en117 (fun w hi => by have := text_c c' s _ at_ _ sg hc' bs (by omega) (by omega) (by omega) w (hi.view1 (by repeat (first | exact Take.nil _ | apply Take.cons | exact Del1.head _ | apply Del1.tail | apply Del1.app))); rwa [cut_text] at this)) rfl rfl ?_) <;> try ((refine wq_v (ov_lookup Tryz.underlying105 Tryz.underlying9 inf4 rfl rfl rfl (by repeat (first | exact .head _ | refine .tail _ ?_ | refine List.mem_append_right _ ?_ | assumption))) rfl rfl ?_) <;> try ((refine wq_nilP [0, 2, 5, 14] ?_))))))))))) | ((refine w_regI 5 ?_; try ((refine wo_v (ov_assign rfl) rfl rfl rfl ?_) <;> try ((refine wo_nilP [0, 2, 5, 14] ?_))))) | ((refine w_regI 6 ?_; try ((refine wo_v (ov_move rfl) rfl rfl rfl ?_) <;> try ((refine wo_v (ov_call rfl en117 (fun w hi => by have := text_c c' s _ at_ _ sg hc' bs (by omega) (by omega) (by omega) w (hi.view1 (by repeat (first | exact Take.nil _ | apply Take.cons | exact Del1.head _ | apply Del1.tail | apply Del1.app))); rwa [cut_text] at this)) rfl rfl rfl ?_) <;> try ((refine wo_v (ov_lenS rfl Tryz.underlying9 rfl) rfl rfl rfl ?_) <;> try ((refine wo_v (ov_leq3 rfl rfl (by first | exact decide_eq_true (by omega) | exact decide_eq_false (by omega) | exact rfl)) rfl rfl rfl ?_) <;> try ((refine wo_callS (pre := []) (Take.nil _) rfl en166 rfl rfl (demandB_c _ _) ?_; rintro e post ⟨rfl, hq⟩; rcases hq with ⟨hb, rfl⟩ | ⟨hb, rfl⟩ <;> dsimp only <;> try (refine wp_leave rfl (fun w_ hi_ => ?_))) <;> try ((refine wo_nilP [0, 2, 5, 14] ?_))))))))) | ((refine w_regI 7 ?_; try ((refine wo_v (ov_assign rfl) rfl rfl rfl ?_) <;> try ((refine wo_nilP [0, 2, 5, 14] ?_))))))
  · exact ⟨_, RowQ.no h, hi_⟩
  · rw [if_pos h]
    exact ⟨_, RowQ.yes (r := (2, spn 97 100 (s.drop at_), 0)) (by assumption) rfl hc', hi_⟩
  · have hb' := of_decide_eq_true hb
    rw [if_neg h, if_neg (by omega)]
    exact ⟨_, RowQ.yes (r := (1, spn 97 100 (s.drop at_), 0)) (by assumption) rfl hc', hi_⟩
  · have hb' := of_decide_eq_false hb
    rw [if_neg h, if_pos (by omega)]
    exact ⟨_, RowQ.bad (r := (0, 0, 12)) (by assumption) (by decide) hc', hi_⟩

theorem pre_us (s : List UInt8) (k : Nat) : Lib.hasPrefix (s.drop k) [95] = decide (k < s.length ∧ bt s k = 95) := by
  by_cases h : k < s.length
  · rw [pre1 _ _ (by simp only [List.length_drop]; omega), bt_drop, Bool.eq_iff_iff, decide_eq_true_eq, decide_eq_true_eq]
    exact ⟨fun e => ⟨h, e⟩, fun e => e.2⟩
  · rw [List.drop_of_length_le (by omega), decide_eq_false (fun e => h e.1)]; rfl

theorem number_c (mb gb : Nat) (s : List UInt8) (at_ : Nat) (mp sg : Value) (c : Array Value) (hc : Scn c s at_ at_ mp sg) (bs : Nat) (hl : s.length < 4000000000) (ha : at_ < s.length) :
    SLE (EnvS mb gb) Tryz.prog 157 [.pointer (some ⟨bs, 0, none⟩)] [(fun c : Array Value => (⟨bs, true, .cells c 107 (0, 0)⟩ : Ent)) c] (RowQ s at_ at_ mp sg bs c (cls (bt (s.drop at_) 0) = 100)
      (3, numLen (s.drop at_), if valS ((s.drop at_).take (numLen (s.drop at_))) < 0 then 11 else 0)) := by
  intro S w0 F w hE hi
  obtain ⟨q0, el0, fz0, hml⟩ := hE.ml
  have hn := spn_le 100 100 (s.drop at_)
  simp only [List.length_drop] at hn
  generalize hN : spn 100 100 (s.drop at_) = n at *
  by_cases hu : at_ + n < s.length ∧ bt s ((at_ + n : Nat) : Int) = 95
  · have hnl : numLen (s.drop at_) = n + 1 + spn 97 100 (s.drop (at_ + n + 1)) := by
      unfold numLen
      rw [hN, if_pos ⟨by simp only [List.length_drop]; omega, by rw [bt_drop2]; exact hu.2⟩, List.drop_drop]; rfl
    have hn2 := spn_le 97 100 (s.drop (at_ + n + 1))
    simp only [List.length_drop] at hn2
    generalize hM : spn 97 100 (s.drop (at_ + n + 1)) = n2 at *
    have ht : at_ + n + 1 + n2 = at_ + (n + 1 + n2) := by omega
    have hv := valueP_c ((s.drop at_).take (n + 1 + n2)) (by simp; omega) q0 el0 fz0
    rw [valP_eq] at hv
    rw [hnl]
    by_cases hneg : valS ((s.drop at_).take (n + 1 + n2)) < 0
    · skip
      have hv' : ∀ w, Inv none_ w [⟨1, false, .cells #[.int .i64 q0] el0 fz0⟩] w → Calls Tryz.prog 14 #[str ((s.drop at_).take (n + 1 + n2))] w fun e w' => e = .returned (.tuple #[.int .i64 0, .int .i64 11]) ∧ Fr none_ w w' := fun w hi => by have := hv w hi; rw [retN, if_pos hneg, if_pos hneg] at this; exact this
      refine calls_of_WFS Tryz.func157 rfl rfl (hi) ?_
      repeat' (first | (refine pf_keep rfl ?_) | (refine pf_drop rfl ?_) | (refine pf_nil ?_) | (refine w_seq ?_) | (refine w_condT rfl ?_) | (refine w_condN rfl (fun h => ?_) (fun h => ?_)) | (refine w_skip ?_) | (refine w_ret Tryz.func157 rfl (fun w_ hi_ => ?_)) | ((refine w_regI 0 ?_; try ((refine wo_v (ov_assign rfl) rfl rfl rfl ?_) <;> try ((refine wo_nilP [0, 2, 4, 7, 13] ?_))))) | ((refine w_regI 1 ?_; try ((refine wo_v (ov_move rfl) rfl rfl rfl ?_) <;> try ((refine wo_v (ov_call rfl en163 (fun w hi => by have := now_c c s at_ at_ _ sg hc bs 4 (by omega) (by omega) w (hi.view1 (by repeat (first | exact Take.nil _ | apply Take.cons | exact Del1.head _ | apply Del1.tail | apply Del1.app))); rwa [nowS4 ha] at this)) rfl rfl rfl ?_) <;> try ((refine wo_v (ov_not rfl) rfl rfl rfl ?_) <;> try ((refine wo_nilP [0, 2, 4, 7, 13] ?_))))))) | ((refine w_regI 2 ?_; try ((refine wo_v (ov_assign rfl) rfl rfl rfl ?_) <;> try ((refine wo_nilP [0, 2, 4, 7, 13] ?_))))) | ((refine w_regI 3 ?_; try ((refine wo_v (ov_move rfl) rfl rfl rfl ?_) <;> try ((refine wo_callR (by repeat (first | exact Take.nil _ | apply Take.cons | exact Del1.head _ | apply Del1.tail | apply Del1.app)) rfl en164 rfl rfl (run_c s at_ at_ _ sg c hc bs 4 (by omega) (by omega)) ?_; rintro v post ⟨c', hc', rfl, rfl⟩; rw [runN4, hN] at hc'; obtain ⟨z, h0, h1, hs, hm, hg, hf⟩ := id hc') <;> try ((refine wo_nilP [0, 2, 4, 7, 13] ?_)))))) | ((refine w_regI 4 ?_; try ((refine wo_v (ov_move rfl) rfl rfl rfl ?_) <;> try ((refine wo_v (ov_nilCheck rfl) rfl rfl rfl ?_) <;> try ((refine wo_v (ov_fieldAddr fo107_0 rfl) rfl rfl rfl ?_) <;> try ((refine wo_v (ov_call rfl en165 (fun w hi => by have := sees_c _ s _ (by assumption) (by assumption) bs 107 [95] (by omega) w (hi.view1 (by repeat (first | exact Take.nil _ | apply Take.cons | exact Del1.head _ | apply Del1.tail | apply Del1.app))); rwa [pre_us, decide_eq_true hu] at this)) rfl rfl rfl ?_) <;> try ((refine wo_nilP [0, 2, 4, 7, 13] ?_)))))))) | ((refine w_regI 5 ?_; try ((refine wo_v (ov_move rfl) rfl rfl rfl ?_) <;> try ((refine wo_v (ov_nilCheck rfl) rfl rfl rfl ?_) <;> try ((refine wo_v (ov_fieldAddr fo107_0 rfl) rfl rfl rfl ?_) <;> try ((refine wo_v (ov_fieldAddr fo89_1 rfl) rfl rfl rfl ?_) <;> try ((refine wo_v (ov_load Tryz.underlying3 rfl rfl (by repeat (first | exact .head _ | refine .tail _ ?_ | refine List.mem_append_right _ ?_ | assumption)) (by first | rfl | assumption | simp)) rfl rfl rfl ?_) <;> try ((refine wo_v (ov_add_i64 rfl rfl (by omega) (by omega)) rfl rfl rfl ?_) <;> try ((refine wo_v (ov_nilCheck rfl) rfl rfl rfl ?_) <;> try ((refine wo_v (ov_fieldAddr fo107_0 rfl) rfl rfl rfl ?_) <;> try ((refine wo_v (ov_fieldAddr fo89_1 rfl) rfl rfl rfl ?_) <;> try ((refine wo_store rfl rfl rfl sz3 (by repeat (first | exact .head _ | apply Upd.tail | apply Upd.app)) (by first | decide | (simp; done) | omega | (simp only [Array.size_setIfInBounds]; omega)) (.inr (by first | decide | (simp; done) | omega | (simp only [Array.size_setIfInBounds]; omega))) rfl rfl ?_) <;> try ((refine wo_nilP [0, 2, 4, 7, 13] ?_)))))))))))))) | ((refine w_regI 6 ?_; try ((refine wo_v (ov_move rfl) rfl rfl rfl ?_) <;> try ((refine wo_callR (by repeat (first | exact Take.nil _ | apply Take.cons | exact Del1.head _ | apply Del1.tail | apply Del1.app)) rfl en164 rfl rfl (run_c s (at_ + n + 1) at_ _ sg _ hc'.setAt bs 6 (by omega) (by omega)) ?_; rintro v post ⟨c2, hc2, rfl, rfl⟩; rw [runN6, hM] at hc2) <;> try ((refine wo_nilP [0, 2, 4, 7, 13] ?_)))))) | ((refine w_regI 7 ?_; try ((refine wo_v (ov_move rfl) rfl rfl rfl ?_) <;> try ((refine wo_v (ov_call rfl en117 (fun w hi => by have := text_c c2 s _ at_ _ sg hc2 bs (by omega) (by omega) (by omega) w (hi.view1 (by repeat (first | exact Take.nil _ | apply Take.cons | exact Del1.head _ | apply Del1.tail | apply Del1.app))); rwa [ht, cut_text] at this)) rfl rfl rfl ?_) <;> try ((refine wo_v (ov_call rfl en14 (fun w hi => hv' w (hi.viewM (by repeat (first | exact .head _ | refine .tail _ ?_ | refine List.mem_append_right _ ?_ | assumption))))) rfl rfl rfl ?_) <;> try ((refine wo_v (ov_move rfl) rfl rfl rfl ?_) <;> try ((refine wo_v (ov_extract rfl rfl) rfl rfl rfl ?_) <;> try ((refine wo_v (ov_extract rfl rfl) rfl rfl rfl ?_) <;> try ((refine wo_v (ov_assign rfl) rfl rfl rfl ?_) <;> try ((refine wo_v (ov_assign rfl) rfl rfl rfl ?_) <;> try ((refine wo_nilP [0, 2, 4, 7, 13] ?_)))))))))))) | ((refine w_regI 8 ?_; try ((refine wo_v (ov_move rfl) rfl rfl rfl ?_) <;> try ((refine wo_v (ov_eql3 rfl rfl (by first | exact decide_eq_true (by omega) | exact decide_eq_false (by omega) | exact rfl)) rfl rfl rfl ?_) <;> try ((refine wo_v (ov_move rfl) rfl rfl rfl ?_) <;> try ((refine wo_callS (pre := []) (Take.nil _) rfl en166 rfl rfl (demandP_c _) ?_; rintro e post ⟨rfl, rfl⟩; dsimp only; refine wp_leave rfl (fun w_ hi_ => ?_)) <;> try ((refine wo_nilP [0, 2, 4, 7, 13] ?_)))))))))
      · exact ⟨_, RowQ.no h, hi_⟩
      · rw [if_pos hneg]
        exact ⟨_, RowQ.bad (r := (3, n + 1 + n2, 11)) (by assumption) (by show (11 : Int) ≠ 0; decide) hc2, hi_⟩
    · skip
      have hv' : ∀ w, Inv none_ w [⟨1, false, .cells #[.int .i64 q0] el0 fz0⟩] w → Calls Tryz.prog 14 #[str ((s.drop at_).take (n + 1 + n2))] w fun e w' => e = .returned (.tuple #[.int .i64 (valS ((s.drop at_).take (n + 1 + n2))), .int .i64 0]) ∧ Fr none_ w w' := fun w hi => by have := hv w hi; rw [retN, if_neg hneg, if_neg hneg] at this; exact this
      refine calls_of_WFS Tryz.func157 rfl rfl (hi) ?_
      repeat' (first | (refine pf_keep rfl ?_) | (refine pf_drop rfl ?_) | (refine pf_nil ?_) | (refine w_seq ?_) | (refine w_condT rfl ?_) | (refine w_condN rfl (fun h => ?_) (fun h => ?_)) | (refine w_skip ?_) | (refine w_ret Tryz.func157 rfl (fun w_ hi_ => ?_)) | ((refine w_regI 0 ?_; try ((refine wo_v (ov_assign rfl) rfl rfl rfl ?_) <;> try ((refine wo_nilP [0, 2, 4, 7, 13] ?_))))) | ((refine w_regI 1 ?_; try ((refine wo_v (ov_move rfl) rfl rfl rfl ?_) <;> try ((refine wo_v (ov_call rfl en163 (fun w hi => by have := now_c c s at_ at_ _ sg hc bs 4 (by omega) (by omega) w (hi.view1 (by repeat (first | exact Take.nil _ | apply Take.cons | exact Del1.head _ | apply Del1.tail | apply Del1.app))); rwa [nowS4 ha] at this)) rfl rfl rfl ?_) <;> try ((refine wo_v (ov_not rfl) rfl rfl rfl ?_) <;> try ((refine wo_nilP [0, 2, 4, 7, 13] ?_))))))) | ((refine w_regI 2 ?_; try ((refine wo_v (ov_assign rfl) rfl rfl rfl ?_) <;> try ((refine wo_nilP [0, 2, 4, 7, 13] ?_))))) | ((refine w_regI 3 ?_; try ((refine wo_v (ov_move rfl) rfl rfl rfl ?_) <;> try ((refine wo_callR (by repeat (first | exact Take.nil _ | apply Take.cons | exact Del1.head _ | apply Del1.tail | apply Del1.app)) rfl en164 rfl rfl (run_c s at_ at_ _ sg c hc bs 4 (by omega) (by omega)) ?_; rintro v post ⟨c', hc', rfl, rfl⟩; rw [runN4, hN] at hc'; obtain ⟨z, h0, h1, hs, hm, hg, hf⟩ := id hc') <;> try ((refine wo_nilP [0, 2, 4, 7, 13] ?_)))))) | ((refine w_regI 4 ?_; try ((refine wo_v (ov_move rfl) rfl rfl rfl ?_) <;> try ((refine wo_v (ov_nilCheck rfl) rfl rfl rfl ?_) <;> try ((refine wo_v (ov_fieldAddr fo107_0 rfl) rfl rfl rfl ?_) <;> try ((refine wo_v (ov_call rfl en165 (fun w hi => by have := sees_c _ s _ (by assumption) (by assumption) bs 107 [95] (by omega) w (hi.view1 (by repeat (first | exact Take.nil _ | apply Take.cons | exact Del1.head _ | apply Del1.tail | apply Del1.app))); rwa [pre_us, decide_eq_true hu] at this)) rfl rfl rfl ?_) <;> try ((refine wo_nilP [0, 2, 4, 7, 13] ?_)))))))) | ((refine w_regI 5 ?_; try ((refine wo_v (ov_move rfl) rfl rfl rfl ?_) <;> try ((refine wo_v (ov_nilCheck rfl) rfl rfl rfl ?_) <;> try ((refine wo_v (ov_fieldAddr fo107_0 rfl) rfl rfl rfl ?_) <;> try ((refine wo_v (ov_fieldAddr fo89_1 rfl) rfl rfl rfl ?_) <;> try ((refine wo_v (ov_load Tryz.underlying3 rfl rfl (by repeat (first | exact .head _ | refine .tail _ ?_ | refine List.mem_append_right _ ?_ | assumption)) (by first | rfl | assumption | simp)) rfl rfl rfl ?_) <;> try ((refine wo_v (ov_add_i64 rfl rfl (by omega) (by omega)) rfl rfl rfl ?_) <;> try ((refine wo_v (ov_nilCheck rfl) rfl rfl rfl ?_) <;> try ((refine wo_v (ov_fieldAddr fo107_0 rfl) rfl rfl rfl ?_) <;> try ((refine wo_v (ov_fieldAddr fo89_1 rfl) rfl rfl rfl ?_) <;> try ((refine wo_store rfl rfl rfl sz3 (by repeat (first | exact .head _ | apply Upd.tail | apply Upd.app)) (by first | decide | (simp; done) | omega | (simp only [Array.size_setIfInBounds]; omega)) (.inr (by first | decide | (simp; done) | omega | (simp only [Array.size_setIfInBounds]; omega))) rfl rfl ?_) <;> try ((refine wo_nilP [0, 2, 4, 7, 13] ?_)))))))))))))) | ((refine w_regI 6 ?_; try ((refine wo_v (ov_move rfl) rfl rfl rfl ?_) <;> try ((refine wo_callR (by repeat (first | exact Take.nil _ | apply Take.cons | exact Del1.head _ | apply Del1.tail | apply Del1.app)) rfl en164 rfl rfl (run_c s (at_ + n + 1) at_ _ sg _ hc'.setAt bs 6 (by omega) (by omega)) ?_; rintro v post ⟨c2, hc2, rfl, rfl⟩; rw [runN6, hM] at hc2) <;> try ((refine wo_nilP [0, 2, 4, 7, 13] ?_)))))) | ((refine w_regI 7 ?_; try ((refine wo_v (ov_move rfl) rfl rfl rfl ?_) <;> try ((refine wo_v (ov_call rfl en117 (fun w hi => by have := text_c c2 s _ at_ _ sg hc2 bs (by omega) (by omega) (by omega) w (hi.view1 (by repeat (first | exact Take.nil _ | apply Take.cons | exact Del1.head _ | apply Del1.tail | apply Del1.app))); rwa [ht, cut_text] at this)) rfl rfl rfl ?_) <;> try ((refine wo_v (ov_call rfl en14 (fun w hi => hv' w (hi.viewM (by repeat (first | exact .head _ | refine .tail _ ?_ | refine List.mem_append_right _ ?_ | assumption))))) rfl rfl rfl ?_) <;> try ((refine wo_v (ov_move rfl) rfl rfl rfl ?_) <;> try ((refine wo_v (ov_extract rfl rfl) rfl rfl rfl ?_) <;> try ((refine wo_v (ov_extract rfl rfl) rfl rfl rfl ?_) <;> try ((refine wo_v (ov_assign rfl) rfl rfl rfl ?_) <;> try ((refine wo_v (ov_assign rfl) rfl rfl rfl ?_) <;> try ((refine wo_nilP [0, 2, 4, 7, 13] ?_)))))))))))) | ((refine w_regI 8 ?_; try ((refine wo_v (ov_move rfl) rfl rfl rfl ?_) <;> try ((refine wo_v (ov_eql3 rfl rfl (by first | exact decide_eq_true (by omega) | exact decide_eq_false (by omega) | exact rfl)) rfl rfl rfl ?_) <;> try ((refine wo_v (ov_move rfl) rfl rfl rfl ?_) <;> try ((refine wo_v (ov_call rfl en166 (fun w hi => demand_c _ w)) rfl rfl rfl ?_) <;> try ((refine wo_nilP [0, 2, 4, 7, 13] ?_)))))))) | ((refine w_regI 9 ?_; try ((refine wo_v (ov_assign rfl) rfl rfl rfl ?_) <;> try ((refine wo_nilP [0, 2, 4, 7, 13] ?_))))))
      · exact ⟨_, RowQ.no h, hi_⟩
      · rw [if_neg hneg]
        rw [ht] at hc2
        exact ⟨_, RowQ.yes (r := (3, n + 1 + n2, 0)) (by assumption) rfl hc2, hi_⟩
  · have hnl : numLen (s.drop at_) = n := by
      unfold numLen
      rw [hN, if_neg]
      rintro ⟨h1, h2⟩
      rw [bt_drop2] at h2
      simp only [List.length_drop] at h1
      exact hu ⟨by omega, h2⟩
    have hv := valueP_c ((s.drop at_).take n) (by simp; omega) q0 el0 fz0
    rw [valP_eq] at hv
    rw [hnl]
    by_cases hneg : valS ((s.drop at_).take n) < 0
    · skip
      have hv' : ∀ w, Inv none_ w [⟨1, false, .cells #[.int .i64 q0] el0 fz0⟩] w → Calls Tryz.prog 14 #[str ((s.drop at_).take n)] w fun e w' => e = .returned (.tuple #[.int .i64 0, .int .i64 11]) ∧ Fr none_ w w' := fun w hi => by have := hv w hi; rw [retN, if_pos hneg, if_pos hneg] at this; exact this
      refine calls_of_WFS Tryz.func157 rfl rfl (hi) ?_
      repeat' (first | (refine pf_keep rfl ?_) | (refine pf_drop rfl ?_) | (refine pf_nil ?_) | (refine w_seq ?_) | (refine w_condF rfl ?_) | (refine w_condN rfl (fun h => ?_) (fun h => ?_)) | (refine w_skip ?_) | (refine w_ret Tryz.func157 rfl (fun w_ hi_ => ?_)) | ((refine w_regI 0 ?_; try ((refine wo_v (ov_assign rfl) rfl rfl rfl ?_) <;> try ((refine wo_nilP [0, 2, 4, 7, 13] ?_))))) | ((refine w_regI 1 ?_; try ((refine wo_v (ov_move rfl) rfl rfl rfl ?_) <;> try ((refine wo_v (ov_call rfl en163 (fun w hi => by have := now_c c s at_ at_ _ sg hc bs 4 (by omega) (by omega) w (hi.view1 (by repeat (first | exact Take.nil _ | apply Take.cons | exact Del1.head _ | apply Del1.tail | apply Del1.app))); rwa [nowS4 ha] at this)) rfl rfl rfl ?_) <;> try ((refine wo_v (ov_not rfl) rfl rfl rfl ?_) <;> try ((refine wo_nilP [0, 2, 4, 7, 13] ?_))))))) | ((refine w_regI 2 ?_; try ((refine wo_v (ov_assign rfl) rfl rfl rfl ?_) <;> try ((refine wo_nilP [0, 2, 4, 7, 13] ?_))))) | ((refine w_regI 3 ?_; try ((refine wo_v (ov_move rfl) rfl rfl rfl ?_) <;> try ((refine wo_callR (by repeat (first | exact Take.nil _ | apply Take.cons | exact Del1.head _ | apply Del1.tail | apply Del1.app)) rfl en164 rfl rfl (run_c s at_ at_ _ sg c hc bs 4 (by omega) (by omega)) ?_; rintro v post ⟨c', hc', rfl, rfl⟩; rw [runN4, hN] at hc'; obtain ⟨z, h0, h1, hs, hm, hg, hf⟩ := id hc') <;> try ((refine wo_nilP [0, 2, 4, 7, 13] ?_)))))) | ((refine w_regI 4 ?_; try ((refine wo_v (ov_move rfl) rfl rfl rfl ?_) <;> try ((refine wo_v (ov_nilCheck rfl) rfl rfl rfl ?_) <;> try ((refine wo_v (ov_fieldAddr fo107_0 rfl) rfl rfl rfl ?_) <;> try ((refine wo_v (ov_call rfl en165 (fun w hi => by have := sees_c _ s _ (by assumption) (by assumption) bs 107 [95] (by omega) w (hi.view1 (by repeat (first | exact Take.nil _ | apply Take.cons | exact Del1.head _ | apply Del1.tail | apply Del1.app))); rwa [pre_us, decide_eq_false hu] at this)) rfl rfl rfl ?_) <;> try ((refine wo_nilP [0, 2, 4, 7, 13] ?_)))))))) | ((refine w_regI 7 ?_; try ((refine wo_v (ov_move rfl) rfl rfl rfl ?_) <;> try ((refine wo_v (ov_call rfl en117 (fun w hi => by have := text_c c' s _ at_ _ sg hc' bs (by omega) (by omega) (by omega) w (hi.view1 (by repeat (first | exact Take.nil _ | apply Take.cons | exact Del1.head _ | apply Del1.tail | apply Del1.app))); rwa [cut_text] at this)) rfl rfl rfl ?_) <;> try ((refine wo_v (ov_call rfl en14 (fun w hi => hv' w (hi.viewM (by repeat (first | exact .head _ | refine .tail _ ?_ | refine List.mem_append_right _ ?_ | assumption))))) rfl rfl rfl ?_) <;> try ((refine wo_v (ov_move rfl) rfl rfl rfl ?_) <;> try ((refine wo_v (ov_extract rfl rfl) rfl rfl rfl ?_) <;> try ((refine wo_v (ov_extract rfl rfl) rfl rfl rfl ?_) <;> try ((refine wo_v (ov_assign rfl) rfl rfl rfl ?_) <;> try ((refine wo_v (ov_assign rfl) rfl rfl rfl ?_) <;> try ((refine wo_nilP [0, 2, 4, 7, 13] ?_)))))))))))) | ((refine w_regI 8 ?_; try ((refine wo_v (ov_move rfl) rfl rfl rfl ?_) <;> try ((refine wo_v (ov_eql3 rfl rfl (by first | exact decide_eq_true (by omega) | exact decide_eq_false (by omega) | exact rfl)) rfl rfl rfl ?_) <;> try ((refine wo_v (ov_move rfl) rfl rfl rfl ?_) <;> try ((refine wo_callS (pre := []) (Take.nil _) rfl en166 rfl rfl (demandP_c _) ?_; rintro e post ⟨rfl, rfl⟩; dsimp only; refine wp_leave rfl (fun w_ hi_ => ?_)) <;> try ((refine wo_nilP [0, 2, 4, 7, 13] ?_)))))))))
      · exact ⟨_, RowQ.no h, hi_⟩
      · rw [if_pos hneg]
        exact ⟨_, RowQ.bad (r := (3, n, 11)) (by assumption) (by show (11 : Int) ≠ 0; decide) hc', hi_⟩
    · skip
      have hv' : ∀ w, Inv none_ w [⟨1, false, .cells #[.int .i64 q0] el0 fz0⟩] w → Calls Tryz.prog 14 #[str ((s.drop at_).take n)] w fun e w' => e = .returned (.tuple #[.int .i64 (valS ((s.drop at_).take n)), .int .i64 0]) ∧ Fr none_ w w' := fun w hi => by have := hv w hi; rw [retN, if_neg hneg, if_neg hneg] at this; exact this
      refine calls_of_WFS Tryz.func157 rfl rfl (hi) ?_
      repeat' (first | (refine pf_keep rfl ?_) | (refine pf_drop rfl ?_) | (refine pf_nil ?_) | (refine w_seq ?_) | (refine w_condF rfl ?_) | (refine w_condN rfl (fun h => ?_) (fun h => ?_)) | (refine w_skip ?_) | (refine w_ret Tryz.func157 rfl (fun w_ hi_ => ?_)) | ((refine w_regI 0 ?_; try ((refine wo_v (ov_assign rfl) rfl rfl rfl ?_) <;> try ((refine wo_nilP [0, 2, 4, 7, 13] ?_))))) | ((refine w_regI 1 ?_; try ((refine wo_v (ov_move rfl) rfl rfl rfl ?_) <;> try ((refine wo_v (ov_call rfl en163 (fun w hi => by have := now_c c s at_ at_ _ sg hc bs 4 (by omega) (by omega) w (hi.view1 (by repeat (first | exact Take.nil _ | apply Take.cons | exact Del1.head _ | apply Del1.tail | apply Del1.app))); rwa [nowS4 ha] at this)) rfl rfl rfl ?_) <;> try ((refine wo_v (ov_not rfl) rfl rfl rfl ?_) <;> try ((refine wo_nilP [0, 2, 4, 7, 13] ?_))))))) | ((refine w_regI 2 ?_; try ((refine wo_v (ov_assign rfl) rfl rfl rfl ?_) <;> try ((refine wo_nilP [0, 2, 4, 7, 13] ?_))))) | ((refine w_regI 3 ?_; try ((refine wo_v (ov_move rfl) rfl rfl rfl ?_) <;> try ((refine wo_callR (by repeat (first | exact Take.nil _ | apply Take.cons | exact Del1.head _ | apply Del1.tail | apply Del1.app)) rfl en164 rfl rfl (run_c s at_ at_ _ sg c hc bs 4 (by omega) (by omega)) ?_; rintro v post ⟨c', hc', rfl, rfl⟩; rw [runN4, hN] at hc'; obtain ⟨z, h0, h1, hs, hm, hg, hf⟩ := id hc') <;> try ((refine wo_nilP [0, 2, 4, 7, 13] ?_)))))) | ((refine w_regI 4 ?_; try ((refine wo_v (ov_move rfl) rfl rfl rfl ?_) <;> try ((refine wo_v (ov_nilCheck rfl) rfl rfl rfl ?_) <;> try ((refine wo_v (ov_fieldAddr fo107_0 rfl) rfl rfl rfl ?_) <;> try ((refine wo_v (ov_call rfl en165 (fun w hi => by have := sees_c _ s _ (by assumption) (by assumption) bs 107 [95] (by omega) w (hi.view1 (by repeat (first | exact Take.nil _ | apply Take.cons | exact Del1.head _ | apply Del1.tail | apply Del1.app))); rwa [pre_us, decide_eq_false hu] at this)) rfl rfl rfl ?_) <;> try ((refine wo_nilP [0, 2, 4, 7, 13] ?_)))))))) | ((refine w_regI 7 ?_; try ((refine wo_v (ov_move rfl) rfl rfl rfl ?_) <;> try ((refine wo_v (ov_call rfl en117 (fun w hi => by have := text_c c' s _ at_ _ sg hc' bs (by omega) (by omega) (by omega) w (hi.view1 (by repeat (first | exact Take.nil _ | apply Take.cons | exact Del1.head _ | apply Del1.tail | apply Del1.app))); rwa [cut_text] at this)) rfl rfl rfl ?_) <;> try ((refine wo_v (ov_call rfl en14 (fun w hi => hv' w (hi.viewM (by repeat (first | exact .head _ | refine .tail _ ?_ | refine List.mem_append_right _ ?_ | assumption))))) rfl rfl rfl ?_) <;> try ((refine wo_v (ov_move rfl) rfl rfl rfl ?_) <;> try ((refine wo_v (ov_extract rfl rfl) rfl rfl rfl ?_) <;> try ((refine wo_v (ov_extract rfl rfl) rfl rfl rfl ?_) <;> try ((refine wo_v (ov_assign rfl) rfl rfl rfl ?_) <;> try ((refine wo_v (ov_assign rfl) rfl rfl rfl ?_) <;> try ((refine wo_nilP [0, 2, 4, 7, 13] ?_)))))))))))) | ((refine w_regI 8 ?_; try ((refine wo_v (ov_move rfl) rfl rfl rfl ?_) <;> try ((refine wo_v (ov_eql3 rfl rfl (by first | exact decide_eq_true (by omega) | exact decide_eq_false (by omega) | exact rfl)) rfl rfl rfl ?_) <;> try ((refine wo_v (ov_move rfl) rfl rfl rfl ?_) <;> try ((refine wo_v (ov_call rfl en166 (fun w hi => demand_c _ w)) rfl rfl rfl ?_) <;> try ((refine wo_nilP [0, 2, 4, 7, 13] ?_)))))))) | ((refine w_regI 9 ?_; try ((refine wo_v (ov_assign rfl) rfl rfl rfl ?_) <;> try ((refine wo_nilP [0, 2, 4, 7, 13] ?_))))))
      · exact ⟨_, RowQ.no h, hi_⟩
      · rw [if_neg hneg]
        exact ⟨_, RowQ.yes (r := (3, n, 0)) (by assumption) rfl hc', hi_⟩
end Go.Sl
namespace Go.Sl
open Go Go.Proofs
set_option maxRecDepth 100000
set_option maxHeartbeats 2000000
set_option linter.unusedSimpArgs false
set_option linter.unusedVariables false
attribute [local irreducible] Calls

theorem spn_pos (one two : Int) (s : List UInt8) (h0 : 0 < s.length) (h : cls (bt s 0) = one ∨ cls (bt s 0) = two) : 0 < spn one two s := by
  match s, h0 with
  | c :: r, _ =>
    have : bt (c :: r) 0 = (c.toNat : Int) := rfl
    rw [this] at h
    unfold spn
    rw [List.takeWhile_cons_of_pos (by simpa using h)]
    simp
theorem fndR_len (what s : List UInt8) (k : Nat) (hk : k ≤ s.length) : fndR what (s.drop k) k ≤ s.length := by
  have := fndR_le what (s.drop k) k
  simp only [List.length_drop] at this
  omega
theorem cloS_len (s : List UInt8) (h : 2 ≤ s.length) : cloS s ≤ s.length := by
  have := cloR_le s.length (s.drop 2) 2 1 (by simp)
  simp only [List.length_drop] at this
  unfold cloS; omega
theorem numLen_le (s : List UInt8) : numLen s ≤ s.length := by
  have h1 := spn_le 100 100 s
  have h2 := spn_le 97 100 (s.drop (spn 100 100 s + 1))
  simp only [List.length_drop] at h2
  unfold numLen; split <;> omega
theorem numLen_pos (s : List UInt8) (h0 : 0 < s.length) (h : cls (bt s 0) = 100) : 0 < numLen s := by
  have h1 := spn_pos 100 100 s h0 (.inl h)
  unfold numLen; split <;> omega
theorem twoS_len (s : List UInt8) (h : twoS s ≠ []) : 2 ≤ s.length := by
  unfold twoS at h; split at h
  · omega
  · exact absurd rfl h
theorem firstS_len (s : List UInt8) (h0 : 0 < s.length) (h : (firstS s).2.2 = 0) : 0 < (firstS s).2.1 ∧ (firstS s).2.1 ≤ s.length := by
  have a1 := spn_le 98 98 s
  have a2 := spn_le 97 100 s
  have a3 := numLen_le s
  unfold firstS at h ⊢
  by_cases c1 : cls (bt s 0) = 98
  · rw [if_pos c1] at h ⊢; have := spn_pos 98 98 s h0 (.inl c1); simp only; omega
  rw [if_neg c1] at h ⊢
  by_cases c2 : twoS s = [40, 42]
  · rw [if_pos c2] at h ⊢
    have := cloS_len s (twoS_len s (by rw [c2]; simp))
    split at h
    · cases h
    · rw [if_neg (by assumption)]; simp only; omega
  rw [if_neg c2] at h ⊢
  by_cases c3 : twoS s = [60, 42]
  · rw [if_pos c3] at h ⊢
    have := fndR_len [42, 62] s 2 (twoS_len s (by rw [c3]; simp))
    split at h
    · cases h
    · rw [if_neg (by assumption)]; simp only; omega
  rw [if_neg c3] at h ⊢
  by_cases c4 : cls (bt s 0) = 97
  · rw [if_pos c4] at h ⊢
    have := spn_pos 97 100 s h0 (.inl c4)
    split at h
    · rw [if_pos (by assumption)]; simp only; omega
    · rw [if_neg (by assumption)]; split at h
      · cases h
      · rw [if_neg (by assumption)]; simp only; omega
  rw [if_neg c4] at h ⊢
  by_cases c5 : cls (bt s 0) = 100
  · rw [if_pos c5] at h ⊢; have := numLen_pos s h0 c5; simp only; omega
  rw [if_neg c5] at h ⊢
  by_cases c6 : bt s 0 = 34
  · rw [if_pos c6] at h ⊢
    have := fndR_len [34] s 1 h0
    split at h
    · cases h
    · rename_i h2; rw [if_neg h2]; simp only; simp only [not_or] at h2; omega
  rw [if_neg c6] at h ⊢
  split at h
  · rename_i h2
    rw [if_pos h2]
    have := twoS_len s (by intro e; rw [e] at h2; revert h2; decide)
    simp only; omega
  · rename_i h2
    rw [if_neg h2]
    split at h
    · rw [if_pos (by assumption)]; simp only; omega
    · cases h

/-- The pieces of a text up to the first that is refused; what is refused, and how many bytes were left. -/
def pieS (s : List UInt8) : List (Int × List UInt8) × Option (Int × Nat) :=
  if h0 : s.length = 0 then ([], none)
  else if h : (firstS s).2.2 = 0 then
    have : s.length - (firstS s).2.1 < s.length := by have := firstS_len s (by omega) h; omega
    let q := pieS (s.drop (firstS s).2.1)
    (((firstS s).1, s.take (firstS s).2.1) :: q.1, q.2)
  else ([], some ((firstS s).2.2, s.length))
termination_by s.length
def bitV (b : Int × List UInt8) : List Value := [.int .u8 b.1, str b.2]
def refV (code line : Int) : Value := .agg #[.int .i64 code, .int .i64 line]
/-- The pieces that are returned, and the refusal. -/
def pieR (s : List UInt8) : List (Int × List UInt8) × Int × Int :=
  if 20000 < s.length then ([], 2, 0)
  else match (pieS s).2 with
    | none => ((pieS s).1, 0, 0)
    | some (e, m) => ([], e, 1 + fds (s.take (s.length - m)))
theorem bitV_len (b : Int × List UInt8) : (bitV b).length = 2 := rfl

/-- What a row's slice is, and the block under it. -/
structure RowOf {α : Type} (f : α → List Value) (sz : Nat) (el : TypeId) (ps : List α) (v : Value) (Hn : List Ent) : Prop where
  ex : ∃ (b : Option Nat) (cap : Nat) (rst : List Value), v = .slice (b.map fun b => ⟨b, 0, none⟩) ps.length cap ∧ Hn = rowE b (rowV f ps) rst el ∧ (b = none → cap = 0 ∧ ps = []) ∧ (rowV f ps).length + rst.length = cap * sz

theorem rowE_rw {b : Option Nat} {xs rst : List Value} {el : TypeId} : ∀ e ∈ rowE b xs rst el, e.rw = true := by
  intro e he
  cases b with
  | none => cases he
  | some b => simp only [rowE, List.mem_singleton] at he; subst he; rfl

theorem pieces_c (s : List UInt8) (hl : s.length < 4611686018427387904) (w : World) : Calls Tryz.prog 20 #[str s] w (Ret none_ w fun v Hn => ∃ r, v = .tuple #[r, refV (pieR s).2.1 (pieR s).2.2] ∧ RowOf bitV 2 34 (pieR s).1 r Hn) := by
  refine calls_of_WF Tryz.func20 rfl rfl (Inv.start none_ w) ?_
  repeat' (first | (refine pf_keep rfl ?_) | (refine pf_drop rfl ?_) | (refine pf_nil ?_) | (refine w_seq ?_) | (refine w_condD rfl (fun h => ?_) (fun h => ?_)) | (refine w_block ?_) | (refine w_skip ?_) | (refine w_retM Tryz.func20 (.tmp rfl (.cellA rfl Tryz.underlying30 rfl inf30 (by repeat (first | exact .head _ | refine .tail _ ?_ | refine List.mem_append_right _ ?_)) rfl (.nil))) (fun w_ hi_ => ?_)) | ((refine w_regI 0 ?_; try ((refine wo_v (ov_assign rfl) rfl rfl rfl ?_) <;> try ((refine wo_alloc inf30 rfl rfl rfl rfl (fun b_ hb_ => ?_)) <;> try ((refine wo_nilP [0, 2, 3, 4, 5, 6, 7, 8, 11, 16, 26] ?_)))))) | ((refine w_regI 1 ?_; try ((refine wo_v (ov_move rfl) rfl rfl rfl ?_) <;> try ((refine wo_v (ov_lenS rfl Tryz.underlying9 rfl) rfl rfl rfl ?_) <;> try ((refine wo_v (ov_gtr3 rfl rfl (by first | exact decide_eq_true (by omega) | exact decide_eq_false (by omega) | exact rfl)) rfl rfl rfl ?_) <;> try ((refine wo_nilP [0, 2, 3, 4, 5, 6, 7, 8, 11, 16, 26] ?_))))))) | ((refine w_regI 2 ?_; try ((refine wo_v (ov_bldA pl30 inf30 rfl rfl rfl) rfl rfl rfl ?_) <;> try ((refine wo_v (ov_assign rfl) rfl rfl rfl ?_) <;> try ((refine wo_storeC rfl rfl rfl sz30 (by repeat (first | exact .head _ | apply Upd.tail | apply Upd.app)) (by first | rfl | simp) rfl rfl ?_) <;> try ((refine wo_nilP [0, 2, 3, 4, 5, 6, 7, 8, 11, 16, 26] ?_))))))) | ((refine w_regI 3 ?_; try ((refine wo_v (ov_assign rfl) rfl rfl rfl ?_) <;> try ((refine wo_nilP [0, 2, 3, 4, 5, 6, 7, 8, 11, 16, 26] ?_))))) | ((refine w_regI 4 ?_; try ((refine wo_v (ov_assign rfl) rfl rfl rfl ?_) <;> try ((refine wo_nilP [0, 2, 3, 4, 5, 6, 7, 8, 11, 16, 26] ?_))))))
  · refine ⟨_, [], rfl, ⟨.slice none 0 0, ?_, ⟨none, 0, [], ?_, rfl, ?_, ?_⟩⟩, hi_.subset (List.nil_sublist _), by simp⟩
    all_goals (rw [pieR, if_pos (by omega)])
    · rfl
    · rfl
    · exact fun _ => ⟨rfl, rfl⟩
    · rfl
  · have hl2 : s.length ≤ 20000 := by omega
    refine w_weak (E' := (fun q : Nat × List (Int × List UInt8) × Option Nat × Nat × Nat × List Value × List Value => [(0, str s), (3, .pointer (some ⟨b_, 0, none⟩)), (4, .slice (q.2.2.1.map fun b => ⟨b, 0, none⟩) q.2.2.2.1 q.2.2.2.2.1), (5, .int .i64 (q.1 : Int))]) (0, [], none, 0, 0, [], [])) (by repeat (first | exact sub_nil _ | refine sub_cons rfl ?_)) ?_
    refine w_while (fun q => q.1 ≤ s.length ∧ (pieS s).1 = q.2.1 ++ (pieS (s.drop q.1)).1 ∧ (pieS s).2 = (pieS (s.drop q.1)).2 ∧ q.2.2.2.1 = q.2.1.length ∧ q.2.1.length ≤ q.1 ∧ (q.2.2.1 = none → q.2.2.2.2.1 = 0 ∧ q.2.1 = []) ∧ q.2.2.2.2.2.1 = rowV bitV q.2.1 ∧ q.2.2.2.2.2.1.length + q.2.2.2.2.2.2.length = q.2.2.2.2.1 * 2) (fun q => s.length - q.1) (fun q : Nat × List (Int × List UInt8) × Option Nat × Nat × Nat × List Value × List Value => [(0, str s), (3, .pointer (some ⟨b_, 0, none⟩)), (4, .slice (q.2.2.1.map fun b => ⟨b, 0, none⟩) q.2.2.2.1 q.2.2.2.2.1), (5, .int .i64 (q.1 : Int))]) (fun q : Nat × List (Int × List UInt8) × Option Nat × Nat × Nat × List Value × List Value => rowE q.2.2.1 q.2.2.2.2.2.1 q.2.2.2.2.2.2 34 ++ [⟨b_, true, .cells #[.int .i64 0, .int .i64 0] 30 (0, 0)⟩]) ?_ (0, [], none, 0, 0, [], []) ⟨by simp, by simp, by simp, rfl, by simp, fun _ => ⟨rfl, rfl⟩, rfl, rfl⟩
    rintro ⟨pos, ps, b, n, cap, xs, rst⟩ ⟨h1, h2, h3, h4, h5, h6, h7, h8⟩ ih
    dsimp only at h1 h2 h3 h4 h5 h6 h7 h8 ⊢
    subst h4 h7
    have hF : fds (s.take pos) ≤ 20000 := by
      have := List.count_le_length (a := (10 : UInt8)) (l := s.take pos)
      simp only [List.length_take] at this
      unfold fds; omega
    have hL : pos < s.length → (firstS (s.drop pos)).2.2 = 0 → 0 < (firstS (s.drop pos)).2.1 ∧ pos + (firstS (s.drop pos)).2.1 ≤ s.length := by
      intro a1 a2
      have := firstS_len (s.drop pos) (by simp only [List.length_drop]; omega) a2
      simp only [List.length_drop] at this
      omega
    repeat' (first | (refine pf_keep rfl ?_) | (refine pf_drop rfl ?_) | (refine pf_nil ?_) | (refine w_seq ?_) | (refine w_condD rfl (fun h => ?_) (fun h => ?_)) | (refine w_condN rfl (fun h => ?_) (fun h => ?_)) | (refine w_block ?_) | (refine w_skip ?_) | (refine w_exit rfl ?_) | (refine w_retM Tryz.func20 (.tmp rfl (.cellA rfl Tryz.underlying30 rfl inf30 (by repeat (first | exact .head _ | refine .tail _ ?_ | refine List.mem_append_right _ ?_)) rfl (.nil))) (fun w_ hi_ => ?_)) | ((refine w_regI 5 ?_; try ((refine wo_v (ov_move rfl) rfl rfl rfl ?_) <;> try ((refine wo_v (ov_move rfl) rfl rfl rfl ?_) <;> try ((refine wo_v (ov_lenS rfl Tryz.underlying9 rfl) rfl rfl rfl ?_) <;> try ((refine wo_v (ov_lss3 rfl rfl (by first | exact decide_eq_true (by omega) | exact decide_eq_false (by omega) | exact rfl)) rfl rfl rfl ?_) <;> try ((refine wo_nilP [0, 2, 3, 4, 5, 6, 7, 8, 11, 16, 26] ?_)))))))) | ((refine w_regI 6 ?_; try ((refine wo_v (ov_move rfl) rfl rfl rfl ?_) <;> try ((refine wo_v (ov_move rfl) rfl rfl rfl ?_) <;> try ((refine wo_v (ov_cutLo Tryz.underlying9 rfl rfl (by first | omega | (simp only [List.length_cons, List.length_nil, List.length_drop, List.length_take, List.length_append]; omega))) rfl rfl rfl ?_) <;> try ((refine wo_v (ov_call rfl en56 (fun w hi => first_c _ (by simp only [List.length_drop]; omega) (by simp only [List.length_drop]; omega) w)) rfl rfl rfl ?_) <;> try ((refine wo_v (ov_move rfl) rfl rfl rfl ?_) <;> try ((refine wo_v (ov_extract rfl rfl) rfl rfl rfl ?_) <;> try ((refine wo_v (ov_extract rfl rfl) rfl rfl rfl ?_) <;> try ((refine wo_v (ov_extract rfl rfl) rfl rfl rfl ?_) <;> try ((refine wo_v (ov_assign rfl) rfl rfl rfl ?_) <;> try ((refine wo_v (ov_assign rfl) rfl rfl rfl ?_) <;> try ((refine wo_v (ov_assign rfl) rfl rfl rfl ?_) <;> try ((refine wo_nilP [0, 2, 3, 4, 5, 6, 7, 8, 11, 16, 26] ?_))))))))))))))) | ((refine w_regI 7 ?_; try ((refine wo_v (ov_move rfl) rfl rfl rfl ?_) <;> try ((refine wo_v (ov_neq3 rfl rfl (by first | exact not_dec_true (by omega) | exact not_dec_false (by omega) | exact rfl)) rfl rfl rfl ?_) <;> try ((refine wo_nilP [0, 2, 3, 4, 5, 6, 7, 8, 11, 16, 26] ?_)))))) | ((refine w_regI 8 ?_; try ((refine wo_v (ov_move rfl) rfl rfl rfl ?_) <;> try ((refine wo_v (ov_move rfl) rfl rfl rfl ?_) <;> try ((refine wo_v (ov_move rfl) rfl rfl rfl ?_) <;> try ((refine wo_v (ov_cutHi Tryz.underlying9 rfl (b := pos) rfl (by omega)) rfl rfl rfl ?_) <;> try ((refine wo_v (ov_call rfl en57 (fun w hi => feeds_c _ (by simp; omega) w)) rfl rfl rfl ?_) <;> try ((refine wo_v (ov_add_i64 rfl rfl (by omega) (by omega)) rfl rfl rfl ?_) <;> try ((refine wo_v (ov_bldB pl30 inf30 rfl rfl rfl rfl rfl) rfl rfl rfl ?_) <;> try ((refine wo_v (ov_assign rfl) rfl rfl rfl ?_) <;> try ((refine wo_storeC rfl rfl rfl sz30 (by repeat (first | exact .head _ | apply Upd.tail | apply Upd.app)) (by first | rfl | simp) rfl rfl ?_) <;> try ((refine wo_nilP [0, 2, 3, 4, 5, 6, 7, 8, 11, 16, 26] ?_))))))))))))) | ((refine w_regI 9 ?_; try ((refine wo_v (ov_move rfl) rfl rfl rfl ?_) <;> try ((refine wo_v (ov_move rfl) rfl rfl rfl ?_) <;> try ((refine wo_v (ov_move rfl) rfl rfl rfl ?_) <;> try ((refine wo_v (ov_move rfl) rfl rfl rfl ?_) <;> try ((refine wo_v (ov_move rfl) rfl rfl rfl ?_) <;> try ((refine wo_v (ov_move rfl) rfl rfl rfl ?_) <;> try ((refine wo_v (ov_add_i64 rfl rfl (by omega) (by omega)) rfl rfl rfl ?_) <;> try ((refine wo_v (ov_cutLH Tryz.underlying9 rfl rfl rfl (a := pos) (b := pos + (firstS (s.drop pos)).2.1) (by omega) (by omega)) rfl rfl rfl ?_) <;> try ((refine wo_v (ov_bldB pl34 inf34 rfl rfl rfl rfl rfl) rfl rfl rfl ?_) <;> try ((refine wo_bsA2 Tryz.underlying28 inf34 rfl rfl rfl rfl rfl (fun bb_ hb_ => ?_)) <;> try (fail))))))))))))) | ((refine w_regI 11 ?_; try ((refine wo_v (ov_move rfl) rfl rfl rfl ?_) <;> try ((refine wo_v (ov_bldZ pl30 inf30 rfl) rfl rfl rfl ?_) <;> try ((refine wo_v (ov_assign rfl) rfl rfl rfl ?_) <;> try ((refine wo_storeC rfl rfl rfl sz30 (by repeat (first | exact .head _ | apply Upd.tail | apply Upd.app)) (by first | rfl | simp) rfl rfl ?_) <;> try ((refine wo_nilP [0, 2, 3, 4, 5, 6, 7, 8, 11, 16, 26] ?_)))))))))
    · rename_i hp
      have he := h
      have hnone : (pieS s).2 = some ((firstS (s.drop pos)).2.2, s.length - pos) := by
        rw [h3, pieS, dif_neg (by simp only [List.length_drop]; omega), dif_neg he]; simp only [List.length_drop]
      refine ⟨_, [], rfl, ⟨.slice none 0 0, ?_, ⟨none, 0, [], ?_, rfl, ?_, ?_⟩⟩, hi_.subset (List.nil_sublist _), by simp⟩
      all_goals (rw [pieR, if_neg (by omega), hnone])
      · simp only; rw [show s.length - (s.length - pos) = pos by omega]; rfl
      · rfl
      · exact fun _ => ⟨rfl, rfl⟩
      · rfl
    · have he := h
      obtain ⟨hL1, hL2⟩ := hL (by omega) he
      repeat' (first | (refine pf_keep rfl ?_) | (refine pf_drop rfl ?_) | (refine pf_nil ?_) | (refine wo_append (sz := 2) (base := b) (xs := rowV bitV ps) (rst := rst) rfl rfl Tryz.underlying28 Tryz.underlying28 rfl inf34 rfl (by decide) rfl rfl (rowV_len bitV bitV_len ps) h8 (rowAt1 (fun e => (h6 e).1)) (.head _) (new := bitV ((firstS (s.drop pos)).1, (s.drop pos).take (firstS (s.drop pos)).2.1)) (by rw [List.drop_take, Nat.add_sub_cancel_left]; rfl) (by simp) (List.all_eq_true.1 rfl) (by show (2 * (ps.length + 1) + 192) * 24 ≤ _; omega) (by omega) (by omega) rfl rfl (fun b2_ cap_ rst_ hc_ hn_ => ?_)) | (refine wo_v (ov_assign rfl) rfl rfl rfl ?_) | (refine wo_nilP [0, 2, 3, 4, 5, 6, 7, 8, 11, 16, 26] ?_))
      all_goals (try repeat' (first | (refine pf_keep rfl ?_) | (refine pf_drop rfl ?_) | (refine pf_nil ?_) | (refine w_inBlock ?_) | ((refine w_regI 10 ?_; try ((refine wo_v (ov_move rfl) rfl rfl rfl ?_) <;> try ((refine wo_v (ov_move rfl) rfl rfl rfl ?_) <;> try ((refine wo_v (ov_add_i64 rfl rfl (by omega) (by omega)) rfl rfl rfl ?_) <;> try ((refine wo_v (ov_assign rfl) rfl rfl rfl ?_) <;> try ((refine wo_nilP [0, 2, 3, 4, 5, 6, 7, 8, 11, 16, 26] ?_))))))))))
      have hp : pieS (s.drop pos) = (((firstS (s.drop pos)).1, (s.drop pos).take (firstS (s.drop pos)).2.1) :: (pieS (s.drop (pos + (firstS (s.drop pos)).2.1))).1, (pieS (s.drop (pos + (firstS (s.drop pos)).2.1))).2) := by
        rw [pieS, dif_neg (by simp only [List.length_drop]; omega), dif_pos he, List.drop_drop]
      rw [hp] at h2 h3
      refine w_drop (H' := (fun q : Nat × List (Int × List UInt8) × Option Nat × Nat × Nat × List Value × List Value => rowE q.2.2.1 q.2.2.2.2.2.1 q.2.2.2.2.2.2 34 ++ [⟨b_, true, .cells #[.int .i64 0, .int .i64 0] 30 (0, 0)⟩]) (pos + (firstS (s.drop pos)).2.1, ps ++ [((firstS (s.drop pos)).1, (s.drop pos).take (firstS (s.drop pos)).2.1)], some b2_, ps.length + 1, cap_, rowV bitV ps ++ bitV ((firstS (s.drop pos)).1, (s.drop pos).take (firstS (s.drop pos)).2.1), rst_)) (.cons_cons _ (.cons _ (List.Sublist.refl _))) ?_
      refine w_weak (E' := (fun q : Nat × List (Int × List UInt8) × Option Nat × Nat × Nat × List Value × List Value => [(0, str s), (3, .pointer (some ⟨b_, 0, none⟩)), (4, .slice (q.2.2.1.map fun b => ⟨b, 0, none⟩) q.2.2.2.1 q.2.2.2.2.1), (5, .int .i64 (q.1 : Int))]) (pos + (firstS (s.drop pos)).2.1, ps ++ [((firstS (s.drop pos)).1, (s.drop pos).take (firstS (s.drop pos)).2.1)], some b2_, ps.length + 1, cap_, rowV bitV ps ++ bitV ((firstS (s.drop pos)).1, (s.drop pos).take (firstS (s.drop pos)).2.1), rst_)) (by repeat (first | exact sub_nil _ | refine sub_cons rfl ?_)) (ih (pos + (firstS (s.drop pos)).2.1, ps ++ [((firstS (s.drop pos)).1, (s.drop pos).take (firstS (s.drop pos)).2.1)], some b2_, ps.length + 1, cap_, rowV bitV ps ++ bitV ((firstS (s.drop pos)).1, (s.drop pos).take (firstS (s.drop pos)).2.1), rst_) ⟨hL2, by rw [h2]; simp, h3, by simp, by simp; omega, fun e => by simp at e, (rowV_snoc bitV _ _).symm, hc_⟩ (by simp only; omega))
    · have hd : pieS (s.drop pos) = ([], none) := by rw [pieS, dif_pos (by simp only [List.length_drop]; omega)]
      rw [hd] at h2 h3
      rw [List.append_nil] at h2
      have hR : pieR s = (ps, 0, 0) := by rw [pieR, if_neg (by omega), h3, h2]
      refine ⟨_, _, rfl, ⟨_, ?_, ⟨b, cap, rst, rfl, rfl, ?_, ?_⟩⟩, hi_.subset ?_, ?_⟩
      all_goals (rw [hR])
      · rfl
      · exact h6
      · exact h8
      · exact List.sublist_append_left _ _
      · exact rowE_rw
end Go.Sl
namespace Go.Sl
open Go Go.Proofs
set_option maxRecDepth 100000
set_option maxHeartbeats 2000000
set_option linter.unusedSimpArgs false
set_option linter.unusedVariables false
attribute [local irreducible] Calls


theorem hint_c (mb gb : Nat) (s : List UInt8) (at_ fr : Nat) (mp sg : Value) (c : Array Value) (hc : Scn c s at_ fr mp sg) (bs : Nat) (hl : s.length < 4000000000) (ha : at_ < s.length) :
    SLE (EnvS mb gb) Tryz.prog 155 [.pointer (some ⟨bs, 0, none⟩)] [(fun c : Array Value => (⟨bs, true, .cells c 107 (0, 0)⟩ : Ent)) c] (RowQ s at_ fr mp sg bs c (twoS (s.drop at_) = [60, 42])
      (if fndR [42, 62] ((s.drop at_).drop 2) 2 = 0 then (0, 0, 13) else (8, fndR [42, 62] ((s.drop at_).drop 2) 2, 0))) := by
  intro S w0 F w hE hi
  obtain ⟨q0, el0, fz0, hml⟩ := hE.ml
  obtain ⟨z, h0, h1, hs, hm, hg, hf⟩ := id hc
  by_cases ht : twoS (s.drop at_) = [60, 42]
  · have hlen := twoS_len (s.drop at_) (by rw [ht]; simp)
    simp only [List.length_drop] at hlen
    have hc1 : Scn (c.setIfInBounds (0 + 0 + 1) (.int .i64 ((at_ : Int) + 2))) s (at_ + 2) fr mp sg := hc.setAt
    obtain ⟨z1, h01, h11, hs1, hm1, hg1, hf1⟩ := id hc1
    rw [fndR_index [42, 62] (by simp), List.drop_drop]
    have hix := fun w hm => index_c (s.drop (at_ + 2)) [42, 62] (by simp; omega) q0 w hm
    have hge := Lib.index_ge (s.drop (at_ + 2)) [42, 62]
    have hbd := fndR_len [42, 62] s (at_ + 2) (by omega)
    rw [fndR_index [42, 62] (by simp)] at hbd
    generalize hI : Lib.index (s.drop (at_ + 2)) [42, 62] = ix at *
    by_cases hneg : ix < 0
    · rw [show (if (if ix < 0 then 0 else 2 + ix.toNat + [(42 : UInt8), 62].length) = 0 then ((0, 0, 13) : Int × Nat × Int) else (8, (if ix < 0 then 0 else 2 + ix.toNat + [(42 : UInt8), 62].length), 0)) = (0, 0, 13) by simp [hneg]]
      refine calls_of_WFS Tryz.func155 rfl rfl (hi) ?_
      repeat' (first | (refine pf_keep rfl ?_) | (refine pf_drop rfl ?_) | (refine pf_nil ?_) | (refine w_seq ?_) | (refine w_condN rfl (fun h => ?_) (fun h => ?_)) | (refine w_skip ?_) | (refine w_ret Tryz.func155 rfl (fun w_ hi_ => ?_)) | ((refine w_regI 0 ?_; try ((refine wo_v (ov_assign rfl) rfl rfl rfl ?_) <;> try ((refine wo_nilP [0, 2, 3, 8] ?_))))) | ((refine w_regI 1 ?_; try ((refine wo_v (ov_move rfl) rfl rfl rfl ?_) <;> try ((refine wo_v (ov_nilCheck rfl) rfl rfl rfl ?_) <;> try ((refine wo_v (ov_fieldAddr fo107_0 rfl) rfl rfl rfl ?_) <;> try ((refine wo_v (ov_call rfl en165 (fun w hi => by have := sees_c c s at_ h0 h1 bs 107 [60, 42] (by omega) w (hi.view1 (by repeat (first | exact Take.nil _ | apply Take.cons | exact Del1.head _ | apply Del1.tail | apply Del1.app))); rwa [pre2] at this)) rfl rfl rfl ?_) <;> try ((refine wo_v (ov_not rfl) rfl rfl rfl ?_) <;> try ((refine wo_nilP [0, 2, 3, 8] ?_))))))))) | ((refine w_regI 2 ?_; try ((refine wo_v (ov_assign rfl) rfl rfl rfl ?_) <;> try ((refine wo_nilP [0, 2, 3, 8] ?_))))) | ((refine w_regI 3 ?_; try ((refine wo_v (ov_move rfl) rfl rfl rfl ?_) <;> try ((refine wo_v (ov_nilCheck rfl) rfl rfl rfl ?_) <;> try ((refine wo_v (ov_fieldAddr fo107_0 rfl) rfl rfl rfl ?_) <;> try ((refine wo_v (ov_fieldAddr fo89_1 rfl) rfl rfl rfl ?_) <;> try ((refine wo_v (ov_load Tryz.underlying3 rfl rfl (by repeat (first | exact .head _ | refine .tail _ ?_ | refine List.mem_append_right _ ?_ | assumption)) (by first | rfl | assumption | simp)) rfl rfl rfl ?_) <;> try ((refine wo_v (ov_add_i64 rfl rfl (by omega) (by omega)) rfl rfl rfl ?_) <;> try ((refine wo_v (ov_nilCheck rfl) rfl rfl rfl ?_) <;> try ((refine wo_v (ov_fieldAddr fo107_0 rfl) rfl rfl rfl ?_) <;> try ((refine wo_v (ov_fieldAddr fo89_1 rfl) rfl rfl rfl ?_) <;> try ((refine wo_store rfl rfl rfl sz3 (by repeat (first | exact .head _ | apply Upd.tail | apply Upd.app)) (by first | decide | (simp; done) | omega | (simp only [Array.size_setIfInBounds]; omega)) (.inr (by first | decide | (simp; done) | omega | (simp only [Array.size_setIfInBounds]; omega))) rfl rfl ?_) <;> try ((refine wo_nilP [0, 2, 3, 8] ?_)))))))))))))) | ((refine w_regI 4 ?_; try ((refine wo_v (ov_move rfl) rfl rfl rfl ?_) <;> try ((refine wo_v (ov_nilCheck rfl) rfl rfl rfl ?_) <;> try ((refine wo_v (ov_fieldAddr fo107_0 rfl) rfl rfl rfl ?_) <;> try ((refine wo_v (ov_call rfl en167 (fun w hi => rest_c _ s _ h01 h11 bs 107 (by omega) w (hi.view1 (by repeat (first | exact Take.nil _ | apply Take.cons | exact Del1.head _ | apply Del1.tail | apply Del1.app))))) rfl rfl rfl ?_) <;> try ((refine wo_v (ov_call rfl en91 (fun w hi => hix w (hi.cell (off := 0) (by repeat (first | exact .head _ | refine .tail _ ?_ | refine List.mem_append_right _ ?_ | assumption)) rfl))) rfl rfl rfl ?_) <;> try ((refine wo_v (ov_assign rfl) rfl rfl rfl ?_) <;> try ((refine wo_nilP [0, 2, 3, 8] ?_)))))))))) | ((refine w_regI 5 ?_; try ((refine wo_v (ov_move rfl) rfl rfl rfl ?_) <;> try ((refine wo_v (ov_geq3 rfl rfl (by first | exact decide_eq_true (by omega) | exact decide_eq_false (by omega) | exact rfl)) rfl rfl rfl ?_) <;> try ((refine wo_callS (pre := []) (Take.nil _) rfl en166 rfl rfl (demandP_c _) ?_; rintro e post ⟨rfl, rfl⟩; dsimp only; refine wp_leave rfl (fun w_ hi_ => ?_)) <;> try ((refine wo_nilP [0, 2, 3, 8] ?_))))))))
      · exact absurd ht (by assumption)
      · exact ⟨_, RowQ.bad (r := (0, 0, 13)) ht (by show (13 : Int) ≠ 0; decide) hc1, hi_⟩
    · rw [if_neg hneg] at hbd
      obtain ⟨j, rfl⟩ : ∃ j : Nat, ix = j := ⟨ix.toNat, by omega⟩
      simp only [Int.toNat_natCast, List.length_cons, List.length_nil] at hbd
      rw [show (if (if (j : Int) < 0 then 0 else 2 + (j : Int).toNat + [(42 : UInt8), 62].length) = 0 then ((0, 0, 13) : Int × Nat × Int) else (8, (if (j : Int) < 0 then 0 else 2 + (j : Int).toNat + [(42 : UInt8), 62].length), 0)) = (8, 2 + (j + 2), 0) by simp [hneg]; omega]
      refine calls_of_WFS Tryz.func155 rfl rfl (hi) ?_
      repeat' (first | (refine pf_keep rfl ?_) | (refine pf_drop rfl ?_) | (refine pf_nil ?_) | (refine w_seq ?_) | (refine w_condN rfl (fun h => ?_) (fun h => ?_)) | (refine w_skip ?_) | (refine w_ret Tryz.func155 rfl (fun w_ hi_ => ?_)) | ((refine w_regI 0 ?_; try ((refine wo_v (ov_assign rfl) rfl rfl rfl ?_) <;> try ((refine wo_nilP [0, 2, 3, 8] ?_))))) | ((refine w_regI 1 ?_; try ((refine wo_v (ov_move rfl) rfl rfl rfl ?_) <;> try ((refine wo_v (ov_nilCheck rfl) rfl rfl rfl ?_) <;> try ((refine wo_v (ov_fieldAddr fo107_0 rfl) rfl rfl rfl ?_) <;> try ((refine wo_v (ov_call rfl en165 (fun w hi => by have := sees_c c s at_ h0 h1 bs 107 [60, 42] (by omega) w (hi.view1 (by repeat (first | exact Take.nil _ | apply Take.cons | exact Del1.head _ | apply Del1.tail | apply Del1.app))); rwa [pre2] at this)) rfl rfl rfl ?_) <;> try ((refine wo_v (ov_not rfl) rfl rfl rfl ?_) <;> try ((refine wo_nilP [0, 2, 3, 8] ?_))))))))) | ((refine w_regI 2 ?_; try ((refine wo_v (ov_assign rfl) rfl rfl rfl ?_) <;> try ((refine wo_nilP [0, 2, 3, 8] ?_))))) | ((refine w_regI 3 ?_; try ((refine wo_v (ov_move rfl) rfl rfl rfl ?_) <;> try ((refine wo_v (ov_nilCheck rfl) rfl rfl rfl ?_) <;> try ((refine wo_v (ov_fieldAddr fo107_0 rfl) rfl rfl rfl ?_) <;> try ((refine wo_v (ov_fieldAddr fo89_1 rfl) rfl rfl rfl ?_) <;> try ((refine wo_v (ov_load Tryz.underlying3 rfl rfl (by repeat (first | exact .head _ | refine .tail _ ?_ | refine List.mem_append_right _ ?_ | assumption)) (by first | rfl | assumption | simp)) rfl rfl rfl ?_) <;> try ((refine wo_v (ov_add_i64 rfl rfl (by omega) (by omega)) rfl rfl rfl ?_) <;> try ((refine wo_v (ov_nilCheck rfl) rfl rfl rfl ?_) <;> try ((refine wo_v (ov_fieldAddr fo107_0 rfl) rfl rfl rfl ?_) <;> try ((refine wo_v (ov_fieldAddr fo89_1 rfl) rfl rfl rfl ?_) <;> try ((refine wo_store rfl rfl rfl sz3 (by repeat (first | exact .head _ | apply Upd.tail | apply Upd.app)) (by first | decide | (simp; done) | omega | (simp only [Array.size_setIfInBounds]; omega)) (.inr (by first | decide | (simp; done) | omega | (simp only [Array.size_setIfInBounds]; omega))) rfl rfl ?_) <;> try ((refine wo_nilP [0, 2, 3, 8] ?_)))))))))))))) | ((refine w_regI 4 ?_; try ((refine wo_v (ov_move rfl) rfl rfl rfl ?_) <;> try ((refine wo_v (ov_nilCheck rfl) rfl rfl rfl ?_) <;> try ((refine wo_v (ov_fieldAddr fo107_0 rfl) rfl rfl rfl ?_) <;> try ((refine wo_v (ov_call rfl en167 (fun w hi => rest_c _ s _ h01 h11 bs 107 (by omega) w (hi.view1 (by repeat (first | exact Take.nil _ | apply Take.cons | exact Del1.head _ | apply Del1.tail | apply Del1.app))))) rfl rfl rfl ?_) <;> try ((refine wo_v (ov_call rfl en91 (fun w hi => hix w (hi.cell (off := 0) (by repeat (first | exact .head _ | refine .tail _ ?_ | refine List.mem_append_right _ ?_ | assumption)) rfl))) rfl rfl rfl ?_) <;> try ((refine wo_v (ov_assign rfl) rfl rfl rfl ?_) <;> try ((refine wo_nilP [0, 2, 3, 8] ?_)))))))))) | ((refine w_regI 5 ?_; try ((refine wo_v (ov_move rfl) rfl rfl rfl ?_) <;> try ((refine wo_v (ov_geq3 rfl rfl (by first | exact decide_eq_true (by omega) | exact decide_eq_false (by omega) | exact rfl)) rfl rfl rfl ?_) <;> try ((refine wo_v (ov_call rfl en166 (fun w hi => demand_c _ w)) rfl rfl rfl ?_) <;> try ((refine wo_nilP [0, 2, 3, 8] ?_))))))) | ((refine w_regI 6 ?_; try ((refine wo_v (ov_move rfl) rfl rfl rfl ?_) <;> try ((refine wo_v (ov_nilCheck rfl) rfl rfl rfl ?_) <;> try ((refine wo_v (ov_fieldAddr fo107_0 rfl) rfl rfl rfl ?_) <;> try ((refine wo_v (ov_fieldAddr fo89_1 rfl) rfl rfl rfl ?_) <;> try ((refine wo_v (ov_load Tryz.underlying3 rfl rfl (by repeat (first | exact .head _ | refine .tail _ ?_ | refine List.mem_append_right _ ?_ | assumption)) (by first | rfl | assumption | simp)) rfl rfl rfl ?_) <;> try ((refine wo_v (ov_move rfl) rfl rfl rfl ?_) <;> try ((refine wo_v (ov_add_i64 rfl rfl (by omega) (by omega)) rfl rfl rfl ?_) <;> try ((refine wo_v (ov_add_i64 rfl rfl (by omega) (by omega)) rfl rfl rfl ?_) <;> try ((refine wo_v (ov_nilCheck rfl) rfl rfl rfl ?_) <;> try ((refine wo_v (ov_fieldAddr fo107_0 rfl) rfl rfl rfl ?_) <;> try ((refine wo_v (ov_fieldAddr fo89_1 rfl) rfl rfl rfl ?_) <;> try ((refine wo_store rfl rfl rfl sz3 (by repeat (first | exact .head _ | apply Upd.tail | apply Upd.app)) (by first | decide | (simp; done) | omega | (simp only [Array.size_setIfInBounds]; omega)) (.inr (by first | decide | (simp; done) | omega | (simp only [Array.size_setIfInBounds]; omega))) rfl rfl ?_) <;> try ((refine wo_nilP [0, 2, 3, 8] ?_)))))))))))))))) | ((refine w_regI 7 ?_; try ((refine wo_v (ov_assign rfl) rfl rfl rfl ?_) <;> try ((refine wo_nilP [0, 2, 3, 8] ?_))))))
      · exact absurd ht (by assumption)
      have hc2 : Scn ((c.setIfInBounds (0 + 0 + 1) (.int .i64 ((at_ : Int) + 2))).setIfInBounds (0 + 0 + 1) (.int .i64 (((at_ : Int) + 2) + ((j : Int) + 2)))) s (at_ + (2 + (j + 2))) fr mp sg := by
        have := hc1.setAt (b := at_ + (2 + (j + 2)))
        rw [show ((at_ + (2 + (j + 2)) : Nat) : Int) = ((at_ : Int) + 2) + ((j : Int) + 2) by omega] at this
        exact this
      exact ⟨_, RowQ.yes (r := (8, 2 + (j + 2), 0)) ht rfl hc2, hi_⟩
  · refine calls_of_WFS Tryz.func155 rfl rfl (hi) ?_
    repeat' (first | (refine pf_keep rfl ?_) | (refine pf_drop rfl ?_) | (refine pf_nil ?_) | (refine w_seq ?_) | (refine w_condN rfl (fun h => ?_) (fun h => ?_)) | (refine w_skip ?_) | (refine w_ret Tryz.func155 rfl (fun w_ hi_ => ?_)) | ((refine w_regI 0 ?_; try ((refine wo_v (ov_assign rfl) rfl rfl rfl ?_) <;> try ((refine wo_nilP [0, 2, 3, 8] ?_))))) | ((refine w_regI 1 ?_; try ((refine wo_v (ov_move rfl) rfl rfl rfl ?_) <;> try ((refine wo_v (ov_nilCheck rfl) rfl rfl rfl ?_) <;> try ((refine wo_v (ov_fieldAddr fo107_0 rfl) rfl rfl rfl ?_) <;> try ((refine wo_v (ov_call rfl en165 (fun w hi => by have := sees_c c s at_ h0 h1 bs 107 [60, 42] (by omega) w (hi.view1 (by repeat (first | exact Take.nil _ | apply Take.cons | exact Del1.head _ | apply Del1.tail | apply Del1.app))); rwa [pre2] at this)) rfl rfl rfl ?_) <;> try ((refine wo_v (ov_not rfl) rfl rfl rfl ?_) <;> try ((refine wo_nilP [0, 2, 3, 8] ?_))))))))) | ((refine w_regI 2 ?_; try ((refine wo_v (ov_assign rfl) rfl rfl rfl ?_) <;> try ((refine wo_nilP [0, 2, 3, 8] ?_))))) | ((refine w_regI 3 ?_; try ((refine wo_v (ov_move rfl) rfl rfl rfl ?_) <;> try ((refine wo_v (ov_nilCheck rfl) rfl rfl rfl ?_) <;> try ((refine wo_v (ov_fieldAddr fo107_0 rfl) rfl rfl rfl ?_) <;> try ((refine wo_v (ov_fieldAddr fo89_1 rfl) rfl rfl rfl ?_) <;> try ((refine wo_v (ov_load Tryz.underlying3 rfl rfl (by repeat (first | exact .head _ | refine .tail _ ?_ | refine List.mem_append_right _ ?_ | assumption)) (by first | rfl | assumption | simp)) rfl rfl rfl ?_) <;> try ((refine wo_v (ov_add_i64 rfl rfl (by omega) (by omega)) rfl rfl rfl ?_) <;> try ((refine wo_v (ov_nilCheck rfl) rfl rfl rfl ?_) <;> try ((refine wo_v (ov_fieldAddr fo107_0 rfl) rfl rfl rfl ?_) <;> try ((refine wo_v (ov_fieldAddr fo89_1 rfl) rfl rfl rfl ?_) <;> try ((refine wo_store rfl rfl rfl sz3 (by repeat (first | exact .head _ | apply Upd.tail | apply Upd.app)) (by first | decide | (simp; done) | omega | (simp only [Array.size_setIfInBounds]; omega)) (.inr (by first | decide | (simp; done) | omega | (simp only [Array.size_setIfInBounds]; omega))) rfl rfl ?_) <;> try ((refine wo_nilP [0, 2, 3, 8] ?_)))))))))))))) | ((refine w_regI 4 ?_; try ((refine wo_v (ov_move rfl) rfl rfl rfl ?_) <;> try ((refine wo_v (ov_nilCheck rfl) rfl rfl rfl ?_) <;> try ((refine wo_v (ov_fieldAddr fo107_0 rfl) rfl rfl rfl ?_) <;> try (fail)))))))
    · exact ⟨_, RowQ.no ht, hi_⟩
    · exact absurd (by assumption) ht

theorem quoted_c (mb gb : Nat) (s : List UInt8) (at_ fr : Nat) (mp sg : Value) (c : Array Value) (hc : Scn c s at_ fr mp sg) (bs : Nat) (hl : s.length < 4000000000) (ha : at_ < s.length) :
    SLE (EnvS mb gb) Tryz.prog 158 [.pointer (some ⟨bs, 0, none⟩)] [(fun c : Array Value => (⟨bs, true, .cells c 107 (0, 0)⟩ : Ent)) c] (RowQ s at_ fr mp sg bs c (bt (s.drop at_) 0 = 34)
      (if fndR [34] ((s.drop at_).drop 1) 1 = 0 ∨ ¬ isBrand (((s.drop at_).take (fndR [34] ((s.drop at_).drop 1) 1 - 1)).drop 1) then (0, 0, 14) else (4, fndR [34] ((s.drop at_).drop 1) 1, 0))) := by
  intro S w0 F w hE hi
  obtain ⟨z, h0, h1, hs, hm, hg, hf⟩ := id hc
  by_cases ht : bt (s.drop at_) 0 = 34
  · have hc1 : Scn (c.setIfInBounds (0 + 0 + 1) (.int .i64 ((at_ : Int) + 1))) s (at_ + 1) fr mp sg := hc.setAt
    obtain ⟨z1, h01, h11, hs1, hm1, hg1, hf1⟩ := id hc1
    rw [fndR_index [34] (by simp), List.drop_drop]
    have hix := fun w => indexByte_c (s.drop (at_ + 1)) 34 w
    rw [show (34 : Int).toNat.toUInt8 = 34 from rfl, idxB] at hix
    have hge := Lib.index_ge (s.drop (at_ + 1)) [34]
    have hbd := fndR_len [34] s (at_ + 1) (by omega)
    rw [fndR_index [34] (by simp)] at hbd
    generalize hI : Lib.index (s.drop (at_ + 1)) [34] = ix at *
    by_cases hneg : ix < 0
    · rw [if_pos (.inl (by rw [if_pos hneg]))]
      refine calls_of_WFS Tryz.func158 rfl rfl (hi) ?_
      repeat' (first | (refine pf_keep rfl ?_) | (refine pf_drop rfl ?_) | (refine pf_nil ?_) | (refine w_seq ?_) | (refine w_condN rfl (fun h => ?_) (fun h => ?_)) | (refine w_skip ?_) | (refine w_ret Tryz.func158 rfl (fun w_ hi_ => ?_)) | ((refine w_regI 0 ?_; try ((refine wo_v (ov_assign rfl) rfl rfl rfl ?_) <;> try ((refine wo_nilP [0, 2, 3, 8] ?_))))) | ((refine w_regI 1 ?_; try ((refine wo_v (ov_move rfl) rfl rfl rfl ?_) <;> try ((refine wo_v (ov_nilCheck rfl) rfl rfl rfl ?_) <;> try ((refine wo_v (ov_fieldAddr fo107_0 rfl) rfl rfl rfl ?_) <;> try ((refine wo_v (ov_call rfl en165 (fun w hi => by have := sees_c c s at_ h0 h1 bs 107 [34] (by omega) w (hi.view1 (by repeat (first | exact Take.nil _ | apply Take.cons | exact Del1.head _ | apply Del1.tail | apply Del1.app))); rwa [pre1 _ _ (by simp only [List.length_drop]; omega)] at this)) rfl rfl rfl ?_) <;> try ((refine wo_v (ov_not rfl) rfl rfl rfl ?_) <;> try ((refine wo_nilP [0, 2, 3, 8] ?_))))))))) | ((refine w_regI 2 ?_; try ((refine wo_v (ov_assign rfl) rfl rfl rfl ?_) <;> try ((refine wo_nilP [0, 2, 3, 8] ?_))))) | ((refine w_regI 3 ?_; try ((refine wo_v (ov_move rfl) rfl rfl rfl ?_) <;> try ((refine wo_v (ov_nilCheck rfl) rfl rfl rfl ?_) <;> try ((refine wo_v (ov_fieldAddr fo107_0 rfl) rfl rfl rfl ?_) <;> try ((refine wo_v (ov_fieldAddr fo89_1 rfl) rfl rfl rfl ?_) <;> try ((refine wo_v (ov_load Tryz.underlying3 rfl rfl (by repeat (first | exact .head _ | refine .tail _ ?_ | refine List.mem_append_right _ ?_ | assumption)) (by first | rfl | assumption | simp)) rfl rfl rfl ?_) <;> try ((refine wo_v (ov_add_i64 rfl rfl (by omega) (by omega)) rfl rfl rfl ?_) <;> try ((refine wo_v (ov_nilCheck rfl) rfl rfl rfl ?_) <;> try ((refine wo_v (ov_fieldAddr fo107_0 rfl) rfl rfl rfl ?_) <;> try ((refine wo_v (ov_fieldAddr fo89_1 rfl) rfl rfl rfl ?_) <;> try ((refine wo_store rfl rfl rfl sz3 (by repeat (first | exact .head _ | apply Upd.tail | apply Upd.app)) (by first | decide | (simp; done) | omega | (simp only [Array.size_setIfInBounds]; omega)) (.inr (by first | decide | (simp; done) | omega | (simp only [Array.size_setIfInBounds]; omega))) rfl rfl ?_) <;> try ((refine wo_nilP [0, 2, 3, 8] ?_)))))))))))))) | ((refine w_regI 4 ?_; try ((refine wo_v (ov_move rfl) rfl rfl rfl ?_) <;> try ((refine wo_v (ov_nilCheck rfl) rfl rfl rfl ?_) <;> try ((refine wo_v (ov_fieldAddr fo107_0 rfl) rfl rfl rfl ?_) <;> try ((refine wo_v (ov_call rfl en167 (fun w hi => rest_c _ s _ h01 h11 bs 107 (by omega) w (hi.view1 (by repeat (first | exact Take.nil _ | apply Take.cons | exact Del1.head _ | apply Del1.tail | apply Del1.app))))) rfl rfl rfl ?_) <;> try ((refine wo_v (ov_call rfl en47 (fun w hi => hix w)) rfl rfl rfl ?_) <;> try ((refine wo_v (ov_assign rfl) rfl rfl rfl ?_) <;> try ((refine wo_nilP [0, 2, 3, 8] ?_)))))))))) | ((refine w_regI 5 ?_; try ((refine wo_v (ov_move rfl) rfl rfl rfl ?_) <;> try ((refine wo_v (ov_geq3 rfl rfl (by first | exact decide_eq_true (by omega) | exact decide_eq_false (by omega) | exact rfl)) rfl rfl rfl ?_) <;> try ((refine wo_v (ov_move rfl) rfl rfl rfl ?_) <;> try ((refine wo_skip rfl rfl ?_) <;> try ((refine wo_skip rfl rfl ?_) <;> try ((refine wo_skip rfl rfl ?_) <;> try ((refine wo_skip rfl rfl ?_) <;> try ((refine wo_skip rfl rfl ?_) <;> try ((refine wo_skip rfl rfl ?_) <;> try ((refine wo_skip rfl rfl ?_) <;> try ((refine wo_v (ov_pickF rfl rfl) rfl rfl rfl ?_) <;> try ((refine wo_callS (pre := []) (Take.nil _) rfl en166 rfl rfl (demandP_c _) ?_; rintro e post ⟨rfl, rfl⟩; dsimp only; refine wp_leave rfl (fun w_ hi_ => ?_)) <;> try ((refine wo_nilP [0, 2, 3, 8] ?_)))))))))))))))))
      · exact absurd ht (by assumption)
      · exact ⟨_, RowQ.bad (r := (0, 0, 14)) ht (by show (14 : Int) ≠ 0; decide) hc1, hi_⟩
    · rw [if_neg hneg] at hbd
      obtain ⟨j, rfl⟩ : ∃ j : Nat, ix = j := ⟨ix.toNat, by omega⟩
      simp only [Int.toNat_natCast, List.length_cons, List.length_nil] at hbd
      have hfd : (if (j : Int) < 0 then 0 else 1 + (j : Int).toNat + [(34 : UInt8)].length) = 1 + (j + 1) := by simp [hneg]; omega
      rw [hfd]
      have hcut : ((s.drop at_).take (1 + (j + 1) - 1)).drop 1 = (s.drop (at_ + 1)).take j := by rw [show 1 + (j + 1) - 1 = 1 + j by omega, List.drop_take, Nat.add_sub_cancel_left, List.drop_drop]
      rw [hcut]
      have hbr := fun w => isBrand_c ((s.drop (at_ + 1)).take j) (by simp; omega) w
      by_cases hb : isBrand ((s.drop (at_ + 1)).take j)
      · rw [decide_eq_true hb] at hbr
        rw [if_neg (fun h => h.elim (fun e => by omega) (fun e => e hb))]
        refine calls_of_WFS Tryz.func158 rfl rfl (hi) ?_
        repeat' (first | (refine pf_keep rfl ?_) | (refine pf_drop rfl ?_) | (refine pf_nil ?_) | (refine w_seq ?_) | (refine w_condN rfl (fun h => ?_) (fun h => ?_)) | (refine w_skip ?_) | (refine w_ret Tryz.func158 rfl (fun w_ hi_ => ?_)) | ((refine w_regI 0 ?_; try ((refine wo_v (ov_assign rfl) rfl rfl rfl ?_) <;> try ((refine wo_nilP [0, 2, 3, 8] ?_))))) | ((refine w_regI 1 ?_; try ((refine wo_v (ov_move rfl) rfl rfl rfl ?_) <;> try ((refine wo_v (ov_nilCheck rfl) rfl rfl rfl ?_) <;> try ((refine wo_v (ov_fieldAddr fo107_0 rfl) rfl rfl rfl ?_) <;> try ((refine wo_v (ov_call rfl en165 (fun w hi => by have := sees_c c s at_ h0 h1 bs 107 [34] (by omega) w (hi.view1 (by repeat (first | exact Take.nil _ | apply Take.cons | exact Del1.head _ | apply Del1.tail | apply Del1.app))); rwa [pre1 _ _ (by simp only [List.length_drop]; omega)] at this)) rfl rfl rfl ?_) <;> try ((refine wo_v (ov_not rfl) rfl rfl rfl ?_) <;> try ((refine wo_nilP [0, 2, 3, 8] ?_))))))))) | ((refine w_regI 2 ?_; try ((refine wo_v (ov_assign rfl) rfl rfl rfl ?_) <;> try ((refine wo_nilP [0, 2, 3, 8] ?_))))) | ((refine w_regI 3 ?_; try ((refine wo_v (ov_move rfl) rfl rfl rfl ?_) <;> try ((refine wo_v (ov_nilCheck rfl) rfl rfl rfl ?_) <;> try ((refine wo_v (ov_fieldAddr fo107_0 rfl) rfl rfl rfl ?_) <;> try ((refine wo_v (ov_fieldAddr fo89_1 rfl) rfl rfl rfl ?_) <;> try ((refine wo_v (ov_load Tryz.underlying3 rfl rfl (by repeat (first | exact .head _ | refine .tail _ ?_ | refine List.mem_append_right _ ?_ | assumption)) (by first | rfl | assumption | simp)) rfl rfl rfl ?_) <;> try ((refine wo_v (ov_add_i64 rfl rfl (by omega) (by omega)) rfl rfl rfl ?_) <;> try ((refine wo_v (ov_nilCheck rfl) rfl rfl rfl ?_) <;> try ((refine wo_v (ov_fieldAddr fo107_0 rfl) rfl rfl rfl ?_) <;> try ((refine wo_v (ov_fieldAddr fo89_1 rfl) rfl rfl rfl ?_) <;> try ((refine wo_store rfl rfl rfl sz3 (by repeat (first | exact .head _ | apply Upd.tail | apply Upd.app)) (by first | decide | (simp; done) | omega | (simp only [Array.size_setIfInBounds]; omega)) (.inr (by first | decide | (simp; done) | omega | (simp only [Array.size_setIfInBounds]; omega))) rfl rfl ?_) <;> try ((refine wo_nilP [0, 2, 3, 8] ?_)))))))))))))) | ((refine w_regI 4 ?_; try ((refine wo_v (ov_move rfl) rfl rfl rfl ?_) <;> try ((refine wo_v (ov_nilCheck rfl) rfl rfl rfl ?_) <;> try ((refine wo_v (ov_fieldAddr fo107_0 rfl) rfl rfl rfl ?_) <;> try ((refine wo_v (ov_call rfl en167 (fun w hi => rest_c _ s _ h01 h11 bs 107 (by omega) w (hi.view1 (by repeat (first | exact Take.nil _ | apply Take.cons | exact Del1.head _ | apply Del1.tail | apply Del1.app))))) rfl rfl rfl ?_) <;> try ((refine wo_v (ov_call rfl en47 (fun w hi => hix w)) rfl rfl rfl ?_) <;> try ((refine wo_v (ov_assign rfl) rfl rfl rfl ?_) <;> try ((refine wo_nilP [0, 2, 3, 8] ?_)))))))))) | ((refine w_regI 5 ?_; try ((refine wo_v (ov_move rfl) rfl rfl rfl ?_) <;> try ((refine wo_v (ov_geq3 rfl rfl (by first | exact decide_eq_true (by omega) | exact decide_eq_false (by omega) | exact rfl)) rfl rfl rfl ?_) <;> try ((refine wo_v (ov_move rfl) rfl rfl rfl ?_) <;> try (((refine wo_v (ov_move rfl) rfl rfl rfl ?_)) <;> try (((refine wo_v (ov_nilCheck rfl) rfl rfl rfl ?_)) <;> try (((refine wo_v (ov_fieldAddr fo107_0 rfl) rfl rfl rfl ?_)) <;> try (((refine wo_v (ov_call rfl en167 (fun w hi => rest_c _ s _ h01 h11 bs 107 (by omega) w (hi.view1 (by repeat (first | exact Take.nil _ | apply Take.cons | exact Del1.head _ | apply Del1.tail | apply Del1.app))))) rfl rfl rfl ?_)) <;> try (((refine wo_v (ov_move rfl) rfl rfl rfl ?_)) <;> try (((refine wo_v (ov_cutHi Tryz.underlying9 rfl rfl (by first | omega | (simp only [List.length_cons, List.length_nil, List.length_drop, List.length_take, List.length_append]; omega))) rfl rfl rfl ?_)) <;> try (((refine wo_v (ov_call rfl en43 (fun w hi => hbr w)) rfl rfl rfl ?_)) <;> try ((refine wo_v (ov_pickT rfl rfl) rfl rfl rfl ?_) <;> try ((refine wo_v (ov_call rfl en166 (fun w hi => demand_c _ w)) rfl rfl rfl ?_) <;> try ((refine wo_nilP [0, 2, 3, 8] ?_)))))))))))))))) | ((refine w_regI 6 ?_; try ((refine wo_v (ov_move rfl) rfl rfl rfl ?_) <;> try ((refine wo_v (ov_nilCheck rfl) rfl rfl rfl ?_) <;> try ((refine wo_v (ov_fieldAddr fo107_0 rfl) rfl rfl rfl ?_) <;> try ((refine wo_v (ov_fieldAddr fo89_1 rfl) rfl rfl rfl ?_) <;> try ((refine wo_v (ov_load Tryz.underlying3 rfl rfl (by repeat (first | exact .head _ | refine .tail _ ?_ | refine List.mem_append_right _ ?_ | assumption)) (by first | rfl | assumption | simp)) rfl rfl rfl ?_) <;> try ((refine wo_v (ov_move rfl) rfl rfl rfl ?_) <;> try ((refine wo_v (ov_add_i64 rfl rfl (by omega) (by omega)) rfl rfl rfl ?_) <;> try ((refine wo_v (ov_add_i64 rfl rfl (by omega) (by omega)) rfl rfl rfl ?_) <;> try ((refine wo_v (ov_nilCheck rfl) rfl rfl rfl ?_) <;> try ((refine wo_v (ov_fieldAddr fo107_0 rfl) rfl rfl rfl ?_) <;> try ((refine wo_v (ov_fieldAddr fo89_1 rfl) rfl rfl rfl ?_) <;> try ((refine wo_store rfl rfl rfl sz3 (by repeat (first | exact .head _ | apply Upd.tail | apply Upd.app)) (by first | decide | (simp; done) | omega | (simp only [Array.size_setIfInBounds]; omega)) (.inr (by first | decide | (simp; done) | omega | (simp only [Array.size_setIfInBounds]; omega))) rfl rfl ?_) <;> try ((refine wo_nilP [0, 2, 3, 8] ?_)))))))))))))))) | ((refine w_regI 7 ?_; try ((refine wo_v (ov_assign rfl) rfl rfl rfl ?_) <;> try ((refine wo_nilP [0, 2, 3, 8] ?_))))))
        · exact absurd ht (by assumption)
        have hc2 : Scn ((c.setIfInBounds (0 + 0 + 1) (.int .i64 ((at_ : Int) + 1))).setIfInBounds (0 + 0 + 1) (.int .i64 (((at_ : Int) + 1) + ((j : Int) + 1)))) s (at_ + (1 + (j + 1))) fr mp sg := by
          have := hc1.setAt (b := at_ + (1 + (j + 1)))
          rw [show ((at_ + (1 + (j + 1)) : Nat) : Int) = ((at_ : Int) + 1) + ((j : Int) + 1) by omega] at this
          exact this
        exact ⟨_, RowQ.yes (r := (4, 1 + (j + 1), 0)) ht rfl hc2, hi_⟩
      · rw [decide_eq_false hb] at hbr
        rw [if_pos (.inr hb)]
        refine calls_of_WFS Tryz.func158 rfl rfl (hi) ?_
        repeat' (first | (refine pf_keep rfl ?_) | (refine pf_drop rfl ?_) | (refine pf_nil ?_) | (refine w_seq ?_) | (refine w_condN rfl (fun h => ?_) (fun h => ?_)) | (refine w_skip ?_) | (refine w_ret Tryz.func158 rfl (fun w_ hi_ => ?_)) | ((refine w_regI 0 ?_; try ((refine wo_v (ov_assign rfl) rfl rfl rfl ?_) <;> try ((refine wo_nilP [0, 2, 3, 8] ?_))))) | ((refine w_regI 1 ?_; try ((refine wo_v (ov_move rfl) rfl rfl rfl ?_) <;> try ((refine wo_v (ov_nilCheck rfl) rfl rfl rfl ?_) <;> try ((refine wo_v (ov_fieldAddr fo107_0 rfl) rfl rfl rfl ?_) <;> try ((refine wo_v (ov_call rfl en165 (fun w hi => by have := sees_c c s at_ h0 h1 bs 107 [34] (by omega) w (hi.view1 (by repeat (first | exact Take.nil _ | apply Take.cons | exact Del1.head _ | apply Del1.tail | apply Del1.app))); rwa [pre1 _ _ (by simp only [List.length_drop]; omega)] at this)) rfl rfl rfl ?_) <;> try ((refine wo_v (ov_not rfl) rfl rfl rfl ?_) <;> try ((refine wo_nilP [0, 2, 3, 8] ?_))))))))) | ((refine w_regI 2 ?_; try ((refine wo_v (ov_assign rfl) rfl rfl rfl ?_) <;> try ((refine wo_nilP [0, 2, 3, 8] ?_))))) | ((refine w_regI 3 ?_; try ((refine wo_v (ov_move rfl) rfl rfl rfl ?_) <;> try ((refine wo_v (ov_nilCheck rfl) rfl rfl rfl ?_) <;> try ((refine wo_v (ov_fieldAddr fo107_0 rfl) rfl rfl rfl ?_) <;> try ((refine wo_v (ov_fieldAddr fo89_1 rfl) rfl rfl rfl ?_) <;> try ((refine wo_v (ov_load Tryz.underlying3 rfl rfl (by repeat (first | exact .head _ | refine .tail _ ?_ | refine List.mem_append_right _ ?_ | assumption)) (by first | rfl | assumption | simp)) rfl rfl rfl ?_) <;> try ((refine wo_v (ov_add_i64 rfl rfl (by omega) (by omega)) rfl rfl rfl ?_) <;> try ((refine wo_v (ov_nilCheck rfl) rfl rfl rfl ?_) <;> try ((refine wo_v (ov_fieldAddr fo107_0 rfl) rfl rfl rfl ?_) <;> try ((refine wo_v (ov_fieldAddr fo89_1 rfl) rfl rfl rfl ?_) <;> try ((refine wo_store rfl rfl rfl sz3 (by repeat (first | exact .head _ | apply Upd.tail | apply Upd.app)) (by first | decide | (simp; done) | omega | (simp only [Array.size_setIfInBounds]; omega)) (.inr (by first | decide | (simp; done) | omega | (simp only [Array.size_setIfInBounds]; omega))) rfl rfl ?_) <;> try ((refine wo_nilP [0, 2, 3, 8] ?_)))))))))))))) | ((refine w_regI 4 ?_; try ((refine wo_v (ov_move rfl) rfl rfl rfl ?_) <;> try ((refine wo_v (ov_nilCheck rfl) rfl rfl rfl ?_) <;> try ((refine wo_v (ov_fieldAddr fo107_0 rfl) rfl rfl rfl ?_) <;> try ((refine wo_v (ov_call rfl en167 (fun w hi => rest_c _ s _ h01 h11 bs 107 (by omega) w (hi.view1 (by repeat (first | exact Take.nil _ | apply Take.cons | exact Del1.head _ | apply Del1.tail | apply Del1.app))))) rfl rfl rfl ?_) <;> try ((refine wo_v (ov_call rfl en47 (fun w hi => hix w)) rfl rfl rfl ?_) <;> try ((refine wo_v (ov_assign rfl) rfl rfl rfl ?_) <;> try ((refine wo_nilP [0, 2, 3, 8] ?_)))))))))) | ((refine w_regI 5 ?_; try ((refine wo_v (ov_move rfl) rfl rfl rfl ?_) <;> try ((refine wo_v (ov_geq3 rfl rfl (by first | exact decide_eq_true (by omega) | exact decide_eq_false (by omega) | exact rfl)) rfl rfl rfl ?_) <;> try ((refine wo_v (ov_move rfl) rfl rfl rfl ?_) <;> try (((refine wo_v (ov_move rfl) rfl rfl rfl ?_)) <;> try (((refine wo_v (ov_nilCheck rfl) rfl rfl rfl ?_)) <;> try (((refine wo_v (ov_fieldAddr fo107_0 rfl) rfl rfl rfl ?_)) <;> try (((refine wo_v (ov_call rfl en167 (fun w hi => rest_c _ s _ h01 h11 bs 107 (by omega) w (hi.view1 (by repeat (first | exact Take.nil _ | apply Take.cons | exact Del1.head _ | apply Del1.tail | apply Del1.app))))) rfl rfl rfl ?_)) <;> try (((refine wo_v (ov_move rfl) rfl rfl rfl ?_)) <;> try (((refine wo_v (ov_cutHi Tryz.underlying9 rfl rfl (by first | omega | (simp only [List.length_cons, List.length_nil, List.length_drop, List.length_take, List.length_append]; omega))) rfl rfl rfl ?_)) <;> try (((refine wo_v (ov_call rfl en43 (fun w hi => hbr w)) rfl rfl rfl ?_)) <;> try ((refine wo_v (ov_pickT rfl rfl) rfl rfl rfl ?_) <;> try ((refine wo_callS (pre := []) (Take.nil _) rfl en166 rfl rfl (demandP_c _) ?_; rintro e post ⟨rfl, rfl⟩; dsimp only; refine wp_leave rfl (fun w_ hi_ => ?_)) <;> try ((refine wo_nilP [0, 2, 3, 8] ?_)))))))))))))))))
        · exact absurd ht (by assumption)
        · exact ⟨_, RowQ.bad (r := (0, 0, 14)) ht (by show (14 : Int) ≠ 0; decide) hc1, hi_⟩
  · refine calls_of_WFS Tryz.func158 rfl rfl (hi) ?_
    repeat' (first | (refine pf_keep rfl ?_) | (refine pf_drop rfl ?_) | (refine pf_nil ?_) | (refine w_seq ?_) | (refine w_condN rfl (fun h => ?_) (fun h => ?_)) | (refine w_skip ?_) | (refine w_ret Tryz.func158 rfl (fun w_ hi_ => ?_)) | ((refine w_regI 0 ?_; try ((refine wo_v (ov_assign rfl) rfl rfl rfl ?_) <;> try ((refine wo_nilP [0, 2, 3, 8] ?_))))) | ((refine w_regI 1 ?_; try ((refine wo_v (ov_move rfl) rfl rfl rfl ?_) <;> try ((refine wo_v (ov_nilCheck rfl) rfl rfl rfl ?_) <;> try ((refine wo_v (ov_fieldAddr fo107_0 rfl) rfl rfl rfl ?_) <;> try ((refine wo_v (ov_call rfl en165 (fun w hi => by have := sees_c c s at_ h0 h1 bs 107 [34] (by omega) w (hi.view1 (by repeat (first | exact Take.nil _ | apply Take.cons | exact Del1.head _ | apply Del1.tail | apply Del1.app))); rwa [pre1 _ _ (by simp only [List.length_drop]; omega)] at this)) rfl rfl rfl ?_) <;> try ((refine wo_v (ov_not rfl) rfl rfl rfl ?_) <;> try ((refine wo_nilP [0, 2, 3, 8] ?_))))))))) | ((refine w_regI 2 ?_; try ((refine wo_v (ov_assign rfl) rfl rfl rfl ?_) <;> try ((refine wo_nilP [0, 2, 3, 8] ?_))))) | ((refine w_regI 3 ?_; try ((refine wo_v (ov_move rfl) rfl rfl rfl ?_) <;> try ((refine wo_v (ov_nilCheck rfl) rfl rfl rfl ?_) <;> try ((refine wo_v (ov_fieldAddr fo107_0 rfl) rfl rfl rfl ?_) <;> try ((refine wo_v (ov_fieldAddr fo89_1 rfl) rfl rfl rfl ?_) <;> try ((refine wo_v (ov_load Tryz.underlying3 rfl rfl (by repeat (first | exact .head _ | refine .tail _ ?_ | refine List.mem_append_right _ ?_ | assumption)) (by first | rfl | assumption | simp)) rfl rfl rfl ?_) <;> try ((refine wo_v (ov_add_i64 rfl rfl (by omega) (by omega)) rfl rfl rfl ?_) <;> try ((refine wo_v (ov_nilCheck rfl) rfl rfl rfl ?_) <;> try ((refine wo_v (ov_fieldAddr fo107_0 rfl) rfl rfl rfl ?_) <;> try ((refine wo_v (ov_fieldAddr fo89_1 rfl) rfl rfl rfl ?_) <;> try ((refine wo_store rfl rfl rfl sz3 (by repeat (first | exact .head _ | apply Upd.tail | apply Upd.app)) (by first | decide | (simp; done) | omega | (simp only [Array.size_setIfInBounds]; omega)) (.inr (by first | decide | (simp; done) | omega | (simp only [Array.size_setIfInBounds]; omega))) rfl rfl ?_) <;> try ((refine wo_nilP [0, 2, 3, 8] ?_)))))))))))))) | ((refine w_regI 4 ?_; try ((refine wo_v (ov_move rfl) rfl rfl rfl ?_) <;> try ((refine wo_v (ov_nilCheck rfl) rfl rfl rfl ?_) <;> try ((refine wo_v (ov_fieldAddr fo107_0 rfl) rfl rfl rfl ?_) <;> try (fail)))))))
    · exact ⟨_, RowQ.no ht, hi_⟩
    · exact absurd (by assumption) ht
end Go.Sl
namespace Go.Sl
open Go Go.Proofs
set_option maxRecDepth 100000
set_option maxHeartbeats 2000000
set_option linter.unusedSimpArgs false
set_option linter.unusedVariables false
attribute [local irreducible] Calls


theorem clo_open {l : List UInt8} (k op : Nat) (h : twoS l = [40, 42]) : cloR l k op = cloR (l.drop 2) (k + 2) (op + 1) := by
  match l, h with
  | a :: b :: r, h =>
    have e : twoS (a :: b :: r) = [a, b] := by unfold twoS; simp
    rw [e] at h
    simp only [List.cons.injEq, and_true] at h
    rw [cloR, if_pos h]; rfl
  | [x], h => simp [twoS] at h
  | [], h => simp [twoS] at h
theorem clo_shut {l : List UInt8} (k op : Nat) (h : twoS l = [42, 41]) : cloR l k op = if op ≤ 1 then k + 2 else cloR (l.drop 2) (k + 2) (op - 1) := by
  match l, h with
  | a :: b :: r, h =>
    have e : twoS (a :: b :: r) = [a, b] := by unfold twoS; simp
    rw [e] at h
    simp only [List.cons.injEq, and_true] at h
    obtain ⟨rfl, rfl⟩ := h
    rw [cloR, if_neg (by decide), if_pos (by decide)]; rfl
  | [x], h => simp [twoS] at h
  | [], h => simp [twoS] at h
theorem clo_else {l : List UInt8} (k op : Nat) (h0 : l ≠ []) (h : twoS l ≠ [40, 42]) (h2 : twoS l ≠ [42, 41]) : cloR l k op = cloR (l.drop 1) (k + 1) op := by
  match l, h0 with
  | a :: b :: r, _ =>
    have e : twoS (a :: b :: r) = [a, b] := by unfold twoS; simp
    rw [e] at h h2
    rw [cloR, if_neg (fun e => h (by rw [e.1, e.2])), if_neg (fun e => h2 (by rw [e.1, e.2]))]; rfl
  | [x], _ => rfl
theorem clo_nil (k op : Nat) : cloR [] k op = 0 := rfl

theorem note_c (mb gb : Nat) (s : List UInt8) (at_ fr : Nat) (mp sg : Value) (c : Array Value) (hc : Scn c s at_ fr mp sg) (bs : Nat) (hl : s.length < 4000000000) (ha : at_ < s.length) :
    SLE (EnvS mb gb) Tryz.prog 154 [.pointer (some ⟨bs, 0, none⟩)] [(fun c : Array Value => (⟨bs, true, .cells c 107 (0, 0)⟩ : Ent)) c] (RowQ s at_ fr mp sg bs c (twoS (s.drop at_) = [40, 42])
      (if cloS (s.drop at_) = 0 then (0, 0, 13) else (7, cloS (s.drop at_), 0))) := by
  intro S w0 F w hE hi
  obtain ⟨z, h0, h1, hs, hm, hg, hf⟩ := id hc
  by_cases ht : twoS (s.drop at_) = [40, 42]
  · refine calls_of_WFS Tryz.func154 rfl rfl (hi) ?_
    repeat' (first | (refine pf_keep rfl ?_) | (refine pf_drop rfl ?_) | (refine pf_nil ?_) | (refine w_seq ?_) | (refine w_condN rfl (fun h => ?_) (fun h => ?_)) | (refine w_block ?_) | (refine w_skip ?_) | (refine w_scope ?_) | (refine w_label ?_) | (refine w_ret Tryz.func154 rfl (fun w_ hi_ => ?_)) | ((refine w_regI 0 ?_; try ((refine wo_v (ov_assign rfl) rfl rfl rfl ?_) <;> try ((refine wo_nilP [0, 2, 3, 8, 31, 47, 64] ?_))))) | ((refine w_regI 1 ?_; try ((refine wo_v (ov_move rfl) rfl rfl rfl ?_) <;> try ((refine wo_v (ov_nilCheck rfl) rfl rfl rfl ?_) <;> try ((refine wo_v (ov_fieldAddr fo107_0 rfl) rfl rfl rfl ?_) <;> try ((refine wo_v (ov_call rfl en165 (fun w hi => by have := sees_c c s at_ h0 h1 bs 107 [40, 42] (by omega) w (hi.view1 (by repeat (first | exact Take.nil _ | apply Take.cons | exact Del1.head _ | apply Del1.tail | apply Del1.app))); rwa [pre2] at this)) rfl rfl rfl ?_) <;> try ((refine wo_v (ov_not rfl) rfl rfl rfl ?_) <;> try ((refine wo_nilP [0, 2, 3, 8, 31, 47, 64] ?_))))))))) | ((refine w_regI 2 ?_; try ((refine wo_v (ov_assign rfl) rfl rfl rfl ?_) <;> try ((refine wo_nilP [0, 2, 3, 8, 31, 47, 64] ?_))))) | ((refine w_regI 3 ?_; try ((refine wo_v (ov_assign rfl) rfl rfl rfl ?_) <;> try ((refine wo_nilP [0, 2, 3, 8, 31, 47, 64] ?_))))))
    · exact absurd ht (by assumption)
    refine w_weak (E' := (fun q : Array Value × Nat × Nat => [(0, .pointer (some ⟨bs, 0, none⟩)), (3, .int .i64 (q.2.2 : Int))]) (c, 0, 0)) (by repeat (first | exact sub_nil _ | refine sub_cons rfl ?_)) ?_
    refine w_while (fun q : Array Value × Nat × Nat => Scn q.1 s (at_ + q.2.1) fr mp sg ∧ at_ + q.2.1 ≤ s.length ∧ q.2.2 ≤ q.2.1 ∧ ((q.2.1 = 0 ∧ q.2.2 = 0) ∨ (1 ≤ q.2.2 ∧ cloR (s.drop (at_ + q.2.1)) q.2.1 q.2.2 = cloS (s.drop at_)))) (fun q => s.length - (at_ + q.2.1)) (fun q : Array Value × Nat × Nat => [(0, .pointer (some ⟨bs, 0, none⟩)), (3, .int .i64 (q.2.2 : Int))]) (fun q : Array Value × Nat × Nat => (fun c : Array Value => (⟨bs, true, .cells c 107 (0, 0)⟩ : Ent)) q.1 :: F) ?_ (c, 0, 0) ⟨hc, by simp only; omega, by simp only; omega, .inl ⟨rfl, rfl⟩⟩
    rintro ⟨c1, k, op⟩ ⟨hc1, hk, hop, hinv⟩ ih
    dsimp only at hc1 hk hop hinv ⊢
    obtain ⟨z1, h01, h11, hs1, hm1, hg1, hf1⟩ := id hc1
    have hne : s.drop (at_ + k) ≠ [] ↔ at_ + k < s.length := by rw [Ne, List.drop_eq_nil_iff]; omega
    by_cases hlt : at_ + k < s.length
    · repeat' (first | (refine pf_keep rfl ?_) | (refine pf_drop rfl ?_) | (refine pf_nil ?_) | (refine w_seq ?_) | (refine w_condD rfl (fun h => ?_) (fun h => ?_)) | (refine w_block ?_) | (refine w_inBlock ?_) | (refine w_skip ?_) | (refine w_exit rfl ?_) | (refine w_ret Tryz.func154 rfl (fun w_ hi_ => ?_)) | ((refine w_regQI 4 rfl mixed (by kernel_rfl) ?_; try ((refine wq_v (ov_move rfl) rfl rfl ?_) <;> try ((refine wq_v (ov_nilCheck rfl) rfl rfl ?_) <;> try ((refine wq_v (ov_fieldAddr fo107_0 rfl) rfl rfl ?_) <;> try ((refine wq_v (ov_fieldAddr fo89_1 rfl) rfl rfl ?_) <;> try ((refine wq_v (ov_load Tryz.underlying3 rfl rfl (by repeat (first | exact .head _ | refine .tail _ ?_ | refine List.mem_append_right _ ?_ | assumption)) (by first | rfl | assumption | simp)) rfl rfl ?_) <;> try ((refine wq_v (ov_move rfl) rfl rfl ?_) <;> try ((refine wq_v (ov_nilCheck rfl) rfl rfl ?_) <;> try ((refine wq_v (ov_fieldAddr fo107_0 rfl) rfl rfl ?_) <;> try ((refine wq_v (ov_fieldAddr fo89_0 rfl) rfl rfl ?_) <;> try ((refine wq_v (ov_load Tryz.underlying9 rfl rfl (by repeat (first | exact .head _ | refine .tail _ ?_ | refine List.mem_append_right _ ?_ | assumption)) (by first | rfl | assumption | simp)) rfl rfl ?_) <;> try ((refine wq_v (ov_lenS rfl Tryz.underlying9 rfl) rfl rfl ?_) <;> try ((refine wq_v (ov_lss3 rfl rfl (by first | exact decide_eq_true (by omega) | exact decide_eq_false (by omega) | exact rfl)) rfl rfl ?_) <;> try ((refine wq_v (ov_call rfl en166 (fun w hi => demand_c _ w)) rfl rfl ?_) <;> try ((refine wq_nilP [0, 2, 3, 8, 31, 47, 64] ?_))))))))))))))))) | ((refine w_regI 6 ?_; try ((refine wo_v (ov_move rfl) rfl rfl rfl ?_) <;> try ((refine wo_v (ov_nilCheck rfl) rfl rfl rfl ?_) <;> try ((refine wo_v (ov_fieldAddr fo107_0 rfl) rfl rfl rfl ?_) <;> try ((refine wo_v (ov_call rfl en165 (fun w hi => by have := sees_c c1 s (at_ + k) h01 h11 bs 107 [40, 42] (by omega) w (hi.view1 (by repeat (first | exact Take.nil _ | apply Take.cons | exact Del1.head _ | apply Del1.tail | apply Del1.app))); rwa [pre2] at this)) rfl rfl rfl ?_) <;> try ((refine wo_v (ov_assign rfl) rfl rfl rfl ?_) <;> try ((refine wo_nilP [0, 2, 3, 8, 31, 47, 64] ?_))))))))) | ((refine w_regI 7 ?_; try ((refine wo_v (ov_move rfl) rfl rfl rfl ?_) <;> try ((refine wo_v (ov_add_i64 rfl rfl (by omega) (by omega)) rfl rfl rfl ?_) <;> try ((refine wo_v (ov_assign rfl) rfl rfl rfl ?_) <;> try ((refine wo_nilP [0, 2, 3, 8, 31, 47, 64] ?_))))))) | ((refine w_regI 8 ?_; try ((refine wo_v (ov_move rfl) rfl rfl rfl ?_) <;> try ((refine wo_v (ov_nilCheck rfl) rfl rfl rfl ?_) <;> try ((refine wo_v (ov_fieldAddr fo107_0 rfl) rfl rfl rfl ?_) <;> try ((refine wo_v (ov_fieldAddr fo89_1 rfl) rfl rfl rfl ?_) <;> try ((refine wo_v (ov_load Tryz.underlying3 rfl rfl (by repeat (first | exact .head _ | refine .tail _ ?_ | refine List.mem_append_right _ ?_ | assumption)) (by first | rfl | assumption | simp)) rfl rfl rfl ?_) <;> try ((refine wo_v (ov_add_i64 rfl rfl (by omega) (by omega)) rfl rfl rfl ?_) <;> try ((refine wo_v (ov_nilCheck rfl) rfl rfl rfl ?_) <;> try ((refine wo_v (ov_fieldAddr fo107_0 rfl) rfl rfl rfl ?_) <;> try ((refine wo_v (ov_fieldAddr fo89_1 rfl) rfl rfl rfl ?_) <;> try ((refine wo_store rfl rfl rfl sz3 (by repeat (first | exact .head _ | apply Upd.tail | apply Upd.app)) (by first | decide | (simp; done) | omega | (simp only [Array.size_setIfInBounds]; omega)) (.inr (by first | decide | (simp; done) | omega | (simp only [Array.size_setIfInBounds]; omega))) rfl rfl ?_) <;> try ((refine wo_nilP [0, 2, 3, 8, 31, 47, 64] ?_)))))))))))))) | ((refine w_regI 9 ?_; try ((refine wo_v (ov_move rfl) rfl rfl rfl ?_) <;> try ((refine wo_v (ov_nilCheck rfl) rfl rfl rfl ?_) <;> try ((refine wo_v (ov_fieldAddr fo107_0 rfl) rfl rfl rfl ?_) <;> try ((refine wo_v (ov_call rfl en165 (fun w hi => by have := sees_c c1 s (at_ + k) h01 h11 bs 107 [42, 41] (by omega) w (hi.view1 (by repeat (first | exact Take.nil _ | apply Take.cons | exact Del1.head _ | apply Del1.tail | apply Del1.app))); rwa [pre2] at this)) rfl rfl rfl ?_) <;> try ((refine wo_v (ov_assign rfl) rfl rfl rfl ?_) <;> try ((refine wo_nilP [0, 2, 3, 8, 31, 47, 64] ?_))))))))) | ((refine w_regI 10 ?_; try ((refine wo_v (ov_move rfl) rfl rfl rfl ?_) <;> try ((refine wo_v (ov_sub_i64 rfl rfl (by omega) (by omega)) rfl rfl rfl ?_) <;> try ((refine wo_v (ov_assign rfl) rfl rfl rfl ?_) <;> try ((refine wo_nilP [0, 2, 3, 8, 31, 47, 64] ?_))))))) | ((refine w_regI 11 ?_; try ((refine wo_v (ov_move rfl) rfl rfl rfl ?_) <;> try ((refine wo_v (ov_nilCheck rfl) rfl rfl rfl ?_) <;> try ((refine wo_v (ov_fieldAddr fo107_0 rfl) rfl rfl rfl ?_) <;> try ((refine wo_v (ov_fieldAddr fo89_1 rfl) rfl rfl rfl ?_) <;> try ((refine wo_v (ov_load Tryz.underlying3 rfl rfl (by repeat (first | exact .head _ | refine .tail _ ?_ | refine List.mem_append_right _ ?_ | assumption)) (by first | rfl | assumption | simp)) rfl rfl rfl ?_) <;> try ((refine wo_v (ov_add_i64 rfl rfl (by omega) (by omega)) rfl rfl rfl ?_) <;> try ((refine wo_v (ov_nilCheck rfl) rfl rfl rfl ?_) <;> try ((refine wo_v (ov_fieldAddr fo107_0 rfl) rfl rfl rfl ?_) <;> try ((refine wo_v (ov_fieldAddr fo89_1 rfl) rfl rfl rfl ?_) <;> try ((refine wo_store rfl rfl rfl sz3 (by repeat (first | exact .head _ | apply Upd.tail | apply Upd.app)) (by first | decide | (simp; done) | omega | (simp only [Array.size_setIfInBounds]; omega)) (.inr (by first | decide | (simp; done) | omega | (simp only [Array.size_setIfInBounds]; omega))) rfl rfl ?_) <;> try ((refine wo_nilP [0, 2, 3, 8, 31, 47, 64] ?_)))))))))))))) | ((refine w_regI 12 ?_; try ((refine wo_v (ov_move rfl) rfl rfl rfl ?_) <;> try ((refine wo_v (ov_eql3 rfl rfl (by first | exact decide_eq_true (by omega) | exact decide_eq_false (by omega) | exact rfl)) rfl rfl rfl ?_) <;> try ((refine wo_nilP [0, 2, 3, 8, 31, 47, 64] ?_)))))) | ((refine w_regI 5 ?_; try ((refine wo_v (ov_move rfl) rfl rfl rfl ?_) <;> try ((refine wo_v (ov_nilCheck rfl) rfl rfl rfl ?_) <;> try ((refine wo_v (ov_fieldAddr fo107_0 rfl) rfl rfl rfl ?_) <;> try ((refine wo_v (ov_fieldAddr fo89_1 rfl) rfl rfl rfl ?_) <;> try ((refine wo_v (ov_load Tryz.underlying3 rfl rfl (by repeat (first | exact .head _ | refine .tail _ ?_ | refine List.mem_append_right _ ?_ | assumption)) (by first | rfl | assumption | simp)) rfl rfl rfl ?_) <;> try ((refine wo_v (ov_add_i64 rfl rfl (by omega) (by omega)) rfl rfl rfl ?_) <;> try ((refine wo_v (ov_nilCheck rfl) rfl rfl rfl ?_) <;> try ((refine wo_v (ov_fieldAddr fo107_0 rfl) rfl rfl rfl ?_) <;> try ((refine wo_v (ov_fieldAddr fo89_1 rfl) rfl rfl rfl ?_) <;> try ((refine wo_store rfl rfl rfl sz3 (by repeat (first | exact .head _ | apply Upd.tail | apply Upd.app)) (by first | decide | (simp; done) | omega | (simp only [Array.size_setIfInBounds]; omega)) (.inr (by first | decide | (simp; done) | omega | (simp only [Array.size_setIfInBounds]; omega))) rfl rfl ?_) <;> try ((refine wo_nilP [0, 2, 3, 8, 31, 47, 64] ?_)))))))))))))) | ((refine w_regI 13 ?_; try ((refine wo_v (ov_assign rfl) rfl rfl rfl ?_) <;> try ((refine wo_nilP [0, 2, 3, 8, 31, 47, 64] ?_))))))
      · have h2 := h
        have hlen2 := twoS_len (s.drop (at_ + k)) (by rw [h2]; simp)
        simp only [List.length_drop] at hlen2
        refine w_weak (by first | exact sub_nil _ | (refine sub_cons rfl ?_; repeat (first | exact sub_nil _ | refine sub_cons rfl ?_))) (ih (c1.setIfInBounds 1 (.int .i64 ((at_ + (k + 2) : Nat) : Int)), k + 2, op + 1) ⟨hc1.setAt, by simp only; omega, by simp only; omega, .inr ⟨by simp only; omega, ?_⟩⟩ (by simp only; omega))
        rcases hinv with ⟨rfl, rfl⟩ | ⟨h3, h4⟩
        · simp only; rw [cloS, List.drop_drop]
        · rw [← h4, clo_open _ _ h2, List.drop_drop]; rfl
      · rename_i h2 h3
        rcases hinv with ⟨rfl, rfl⟩ | ⟨h5, h6⟩
        · exact absurd ht h2
        have hlen2 := twoS_len (s.drop (at_ + k)) (by rw [h3]; simp)
        simp only [List.length_drop] at hlen2
        rw [clo_shut _ _ h3, if_pos (by omega)] at h6
        rw [← h6, if_neg (by omega)]
        have hc2 : Scn (c1.setIfInBounds (0 + 0 + 1) (.int .i64 (((at_ + k : Nat) : Int) + 2))) s (at_ + (k + 2)) fr mp sg := hc1.setAt
        exact ⟨_, RowQ.yes (r := (7, k + 2, 0)) ht rfl hc2, hi_⟩
      · rename_i h2 h3
        rcases hinv with ⟨rfl, rfl⟩ | ⟨h5, h6⟩
        · exact absurd ht h2
        have hlen2 := twoS_len (s.drop (at_ + k)) (by rw [h3]; simp)
        simp only [List.length_drop] at hlen2
        rw [clo_shut _ _ h3, if_neg (by omega), List.drop_drop] at h6
        rw [show (op : Int) - 1 = ((op - 1 : Nat) : Int) by omega]
        refine w_weak (by first | exact sub_nil _ | (refine sub_cons rfl ?_; repeat (first | exact sub_nil _ | refine sub_cons rfl ?_))) (ih (c1.setIfInBounds 1 (.int .i64 ((at_ + (k + 2) : Nat) : Int)), k + 2, op - 1) ⟨hc1.setAt, by simp only; omega, by simp only; omega, .inr ⟨by simp only; omega, h6⟩⟩ (by simp only; omega))
      · rename_i h2
        rcases hinv with ⟨rfl, rfl⟩ | ⟨h5, h6⟩
        · exact absurd ht h2
        rw [clo_else _ _ (hne.2 hlt) h2 h, List.drop_drop] at h6
        refine w_weak (by first | exact sub_nil _ | (refine sub_cons rfl ?_; repeat (first | exact sub_nil _ | refine sub_cons rfl ?_))) (ih (c1.setIfInBounds 1 (.int .i64 ((at_ + (k + 1) : Nat) : Int)), k + 1, op) ⟨hc1.setAt, by simp only; omega, by simp only; omega, .inr ⟨by simp only; omega, h6⟩⟩ (by simp only; omega))
    · have hz : cloS (s.drop at_) = 0 := by
        rcases hinv with ⟨rfl, rfl⟩ | ⟨h3, h4⟩
        · omega
        · rw [← h4, List.drop_of_length_le (by omega)]; rfl
      rw [if_pos hz]
      repeat' (first | (refine w_seq ?_) | (refine w_block ?_) | ((refine w_regT (id := 4) 12 rfl mixed (by kernel_rfl) ?_; try ((refine wt_v (ov_move rfl) rfl rfl ?_) <;> try ((refine wt_v (ov_nilCheck rfl) rfl rfl ?_) <;> try ((refine wt_v (ov_fieldAddr fo107_0 rfl) rfl rfl ?_) <;> try ((refine wt_v (ov_fieldAddr fo89_1 rfl) rfl rfl ?_) <;> try ((refine wt_v (ov_load Tryz.underlying3 rfl rfl (by repeat (first | exact .head _ | refine .tail _ ?_ | refine List.mem_append_right _ ?_ | assumption)) (by first | rfl | assumption | simp)) rfl rfl ?_) <;> try ((refine wt_v (ov_move rfl) rfl rfl ?_) <;> try ((refine wt_v (ov_nilCheck rfl) rfl rfl ?_) <;> try ((refine wt_v (ov_fieldAddr fo107_0 rfl) rfl rfl ?_) <;> try ((refine wt_v (ov_fieldAddr fo89_0 rfl) rfl rfl ?_) <;> try ((refine wt_v (ov_load Tryz.underlying9 rfl rfl (by repeat (first | exact .head _ | refine .tail _ ?_ | refine List.mem_append_right _ ?_ | assumption)) (by first | rfl | assumption | simp)) rfl rfl ?_) <;> try ((refine wt_v (ov_lenS rfl Tryz.underlying9 rfl) rfl rfl ?_) <;> try ((refine wt_v (ov_lss3 rfl rfl (by first | exact decide_eq_true (by omega) | exact decide_eq_false (by omega) | exact rfl)) rfl rfl ?_) <;> try ((refine wt_nil ?_; try ((refine wo_callS (pre := []) (Take.nil _) rfl en166 rfl rfl (demandP_c _) ?_; rintro e post ⟨rfl, rfl⟩; dsimp only; refine wp_leave rfl (fun w_ hi_ => ?_)) <;> try ((refine wo_nilP [0, 2, 3, 8, 31, 47, 64] ?_))))))))))))))))))))
      exact ⟨_, RowQ.bad (r := (0, 0, 13)) ht (by show (13 : Int) ≠ 0; decide) hc1, hi_⟩
  · refine calls_of_WFS Tryz.func154 rfl rfl (hi) ?_
    repeat' (first | (refine pf_keep rfl ?_) | (refine pf_drop rfl ?_) | (refine pf_nil ?_) | (refine w_seq ?_) | (refine w_condN rfl (fun h => ?_) (fun h => ?_)) | (refine w_block ?_) | (refine w_skip ?_) | (refine w_scope ?_) | (refine w_label ?_) | (refine w_ret Tryz.func154 rfl (fun w_ hi_ => ?_)) | ((refine w_regI 0 ?_; try ((refine wo_v (ov_assign rfl) rfl rfl rfl ?_) <;> try ((refine wo_nilP [0, 2, 3, 8, 31, 47, 64] ?_))))) | ((refine w_regI 1 ?_; try ((refine wo_v (ov_move rfl) rfl rfl rfl ?_) <;> try ((refine wo_v (ov_nilCheck rfl) rfl rfl rfl ?_) <;> try ((refine wo_v (ov_fieldAddr fo107_0 rfl) rfl rfl rfl ?_) <;> try ((refine wo_v (ov_call rfl en165 (fun w hi => by have := sees_c c s at_ h0 h1 bs 107 [40, 42] (by omega) w (hi.view1 (by repeat (first | exact Take.nil _ | apply Take.cons | exact Del1.head _ | apply Del1.tail | apply Del1.app))); rwa [pre2] at this)) rfl rfl rfl ?_) <;> try ((refine wo_v (ov_not rfl) rfl rfl rfl ?_) <;> try ((refine wo_nilP [0, 2, 3, 8, 31, 47, 64] ?_))))))))) | ((refine w_regI 2 ?_; try ((refine wo_v (ov_assign rfl) rfl rfl rfl ?_) <;> try ((refine wo_nilP [0, 2, 3, 8, 31, 47, 64] ?_))))) | ((refine w_regI 3 ?_; try ((refine wo_v (ov_assign rfl) rfl rfl rfl ?_) <;> try ((refine wo_nilP [0, 2, 3, 8, 31, 47, 64] ?_))))))
    · exact ⟨_, RowQ.no ht, hi_⟩
    · exact absurd (by assumption) ht
end Go.Sl
namespace Go.Sl
open Go Go.Proofs
set_option maxRecDepth 100000
set_option maxHeartbeats 2000000
set_option linter.unusedSimpArgs false
set_option linter.unusedVariables false
attribute [local irreducible] Calls



theorem Inv.viewMH {S : Nat → Prop} {w0 w : World} {H : List Ent} {b1 b2 : Nat} {r1 r2 : Bool} {o1 o2 : Obj} (hi : Inv S w0 (⟨b2, r2, o2⟩ :: H) w) (hm : (⟨b1, r1, o1⟩ : Ent) ∈ H) : Inv none_ w [⟨b1, false, o1⟩, ⟨b2, false, o2⟩] w := by
  have hne : b1 ≠ b2 := fun e => by
    have := hi.nd
    simp only [List.map_cons, List.nodup_cons, List.mem_map, not_exists, not_and] at this
    exact this.1 _ hm e
  refine ⟨Fr.refl _ w, by simpa using hne, fun e he => ?_, fun e he h => ?_⟩
  · simp only [List.mem_cons, List.not_mem_nil, or_false] at he
    rcases he with rfl | rfl
    · exact (hi.hb ⟨b1, r1, o1⟩ (.tail _ hm) : w.heap[b1]? = some o1)
    · exact (hi.hb ⟨b2, r2, o2⟩ (.head _) : w.heap[b2]? = some o2)
  · simp only [List.mem_cons, List.not_mem_nil, or_false] at he
    rcases he with rfl | rfl <;> cases h
theorem sgn_in : ∀ p ∈ sgnL, p ∈ signsL := by decide
theorem in_sgn : ∀ p ∈ signsL, p ∈ sgnL := by decide
theorem sgn_len : ∀ i : Fin 23, (sgnL[i.val]?.getD []).length = if i.val < 5 then 2 else 1 := by decide
theorem sgn_at (i : Nat) (h : i < sgnL.length) : sgnL[i].length = if i < 5 then 2 else 1 := by
  have := sgn_len ⟨i, h⟩
  simp only [List.getElem?_eq_getElem h, Option.getD_some] at this
  exact this
theorem pre_sgn (l p : List UInt8) (h0 : l ≠ []) (hp : p ∈ sgnL) : Lib.hasPrefix l p = decide ((p.length = 2 ∧ twoS l = p) ∨ (p.length = 1 ∧ l.take 1 = p)) := by
  obtain ⟨i, hi, rfl⟩ := List.getElem_of_mem hp
  have hl := sgn_at i hi
  generalize sgnL[i] = q at *
  by_cases h5 : i < 5
  · rw [if_pos h5] at hl
    match q, hl with
    | [a, b], _ => rw [pre2]; simp
  · rw [if_neg h5] at hl
    match q, l, hl, h0 with
    | [a], x :: r, _, _ =>
      rw [Bool.eq_iff_iff, decide_eq_true_eq]
      unfold Lib.hasPrefix
      show (a == x && List.isPrefixOf [] r) = true ↔ _
      constructor
      · intro h
        have : a = x := by simpa [List.isPrefixOf] using h
        exact .inr ⟨rfl, by rw [this]; rfl⟩
      · rintro (⟨h, _⟩ | ⟨_, h⟩)
        · exact absurd h (by simp)
        · have : x = a := by simpa using h
          simp [this, List.isPrefixOf]
theorem twoS_cases (l : List UInt8) : twoS l = [] ∨ (twoS l).length = 2 := by
  unfold twoS; split
  · right; simp; omega
  · left; rfl
theorem sgn_find (l : List UInt8) (h0 : l ≠ []) : match sgnL.findIdx? (Lib.hasPrefix l) with
    | some i => ∃ h : i < sgnL.length, (sgnL[i].length = 2 ∧ twoS l ∈ signsL) ∨ (sgnL[i].length = 1 ∧ twoS l ∉ signsL ∧ l.take 1 ∈ signsL)
    | none => twoS l ∉ signsL ∧ l.take 1 ∉ signsL := by
  have hnil : ([] : List UInt8) ∉ signsL := by decide
  have h2 : twoS l ∈ signsL → (twoS l).length = 2 ∧ twoS l ∈ sgnL := fun h => by
    rcases twoS_cases l with e | e
    · rw [e] at h; exact absurd h hnil
    · exact ⟨e, in_sgn _ h⟩
  cases hf : sgnL.findIdx? (Lib.hasPrefix l) with
  | none =>
    rw [List.findIdx?_eq_none_iff] at hf
    simp only
    constructor
    · intro h
      obtain ⟨h3, h4⟩ := h2 h
      have := hf _ h4
      rw [pre_sgn l _ h0 h4, decide_eq_false_iff_not] at this
      exact this (.inl ⟨h3, rfl⟩)
    · intro h
      have h4 := in_sgn _ h
      have := hf _ h4
      rw [pre_sgn l _ h0 h4, decide_eq_false_iff_not] at this
      exact this (.inr ⟨by cases l with | nil => exact absurd rfl h0 | cons _ _ => rfl, rfl⟩)
  | some i =>
    rw [List.findIdx?_eq_some_iff_getElem] at hf
    obtain ⟨h3, h4, h5⟩ := hf
    simp only
    refine ⟨h3, ?_⟩
    rw [pre_sgn l _ h0 (List.getElem_mem h3), decide_eq_true_eq] at h4
    rcases h4 with ⟨h6, h7⟩ | ⟨h6, h7⟩
    · exact .inl ⟨h6, by rw [h7]; exact sgn_in _ (List.getElem_mem h3)⟩
    · refine .inr ⟨h6, fun h => ?_, by rw [h7]; exact sgn_in _ (List.getElem_mem h3)⟩
      obtain ⟨h8, h9⟩ := h2 h
      obtain ⟨j, hj, he⟩ := List.getElem_of_mem h9
      have hjl := sgn_at j hj
      rw [he, h8] at hjl
      have hil := sgn_at i h3
      rw [h6] at hil
      have hji : j < i := by
        by_cases c1 : j < 5 <;> by_cases c2 : i < 5 <;> simp [c1, c2] at hjl hil <;> omega
      have := h5 j hji
      rw [Bool.not_eq_true, he, pre_sgn l _ h0 h9, decide_eq_false_iff_not] at this
      exact this (.inl ⟨h8, rfl⟩)

theorem idxSign_c (s : List UInt8) (at_ : Nat) (c : Array Value) (h0 : c[0]? = some (str s)) (h1 : c[1]? = some (.int .i64 (at_ : Int))) (ha : at_ ≤ s.length) (bs gb cap : Nat) (xs : List (List UInt8)) (rst : List Value) (el : TypeId) (hl : xs.length < 4611686018427387904) (w : World)
    (hi : Inv none_ w [⟨gb, false, .cells (strs xs rst) el (0, 0)⟩, ⟨bs, false, .cells c 107 (0, 0)⟩] w) :
    Calls Tryz.prog 168 #[.slice (some ⟨gb, 0, none⟩) xs.length cap, .func (.func 165) #[.pointer (some ⟨bs, 0, none⟩)] #[]] w fun e w' => e = .returned (.int .i64 (match xs.findIdx? (Lib.hasPrefix (s.drop at_)) with | some i => (i : Int) | none => -1)) ∧ Fr none_ w w' := by
  have hat : ∀ k (h : k < xs.length), (strs xs rst)[0 + ((k : Nat) : Int).toNat * 1]? = some (str xs[k]) := by
    intro k h
    have : 0 + ((k : Nat) : Int).toNat * 1 = k := by omega
    rw [this, List.getElem?_toArray, List.getElem?_append_left (by simpa using h)]; simp [h]
  refine calls_of_WF Tryz.func168 rfl rfl (hi) ?_
  repeat' (first | (refine pf_keep rfl ?_) | (refine pf_drop rfl ?_) | (refine pf_nil ?_) | (refine w_seq ?_) | (refine w_block ?_) | ((refine w_regI 0 ?_; try ((refine wo_v (ov_assign rfl) rfl rfl rfl ?_) <;> try ((refine wo_nilP [0, 1, 4, 5, 7, 8, 9, 16] ?_))))) | ((refine w_regI 1 ?_; try ((refine wo_v (ov_move rfl) rfl rfl rfl ?_) <;> try ((refine wo_v (ov_lenL rfl Tryz.underlying56 rfl) rfl rfl rfl ?_) <;> try ((refine wo_v (ov_move rfl) rfl rfl rfl ?_) <;> try ((refine wo_nilP [0, 1, 4, 5, 7, 8, 9, 16] ?_))))))))
  refine w_weak (E' := (fun k : Nat => [(0, .slice (some ⟨gb, 0, none⟩) xs.length cap), (1, .func (.func 165) #[.pointer (some ⟨bs, 0, none⟩)] #[]), (7, .int .i64 (xs.length : Int)), (8, .int .i64 (k : Int))]) 0) (by repeat (first | exact sub_nil _ | refine sub_cons rfl ?_)) ?_
  refine w_while (fun k : Nat => k ≤ xs.length ∧ xs.findIdx? (Lib.hasPrefix (s.drop at_)) = ((xs.drop k).findIdx? (Lib.hasPrefix (s.drop at_))).map (· + k)) (fun k => xs.length - k) (fun k : Nat => [(0, .slice (some ⟨gb, 0, none⟩) xs.length cap), (1, .func (.func 165) #[.pointer (some ⟨bs, 0, none⟩)] #[]), (7, .int .i64 (xs.length : Int)), (8, .int .i64 (k : Int))]) (fun _ => _) ?_ 0 ⟨by omega, by simp⟩
  rintro k ⟨hk, hf⟩ ih
  by_cases h : k < xs.length
  · have hk1 := hat k h
    rw [List.drop_eq_getElem_cons h, List.findIdx?_cons] at hf
    by_cases hqk : Lib.hasPrefix (s.drop at_) xs[k] = true
    · rw [if_pos hqk] at hf
      repeat' (first | (refine pf_keep rfl ?_) | (refine pf_drop rfl ?_) | (refine pf_nil ?_) | (refine w_seq ?_) | (refine w_condT rfl ?_) | (refine w_block ?_) | (refine w_skip ?_) | (refine w_ret Tryz.func168 rfl (fun w_ hi_ => ?_)) | ((refine w_regI 2 ?_; try ((refine wo_v (ov_lss3 rfl rfl (by first | exact decide_eq_true (by omega) | exact decide_eq_false (by omega) | exact rfl)) rfl rfl rfl ?_) <;> try ((refine wo_nilP [0, 1, 4, 5, 7, 8, 9, 16] ?_))))) | ((refine w_regI 3 ?_; try ((refine wo_v (ov_move rfl) rfl rfl rfl ?_) <;> try ((refine wo_v (ov_assign rfl) rfl rfl rfl ?_) <;> try ((refine wo_nilP [0, 1, 4, 5, 7, 8, 9, 16] ?_)))))) | ((refine w_regI 4 ?_; try ((refine wo_v (ov_move rfl) rfl rfl rfl ?_) <;> try ((refine wo_v (ov_move rfl) rfl rfl rfl ?_) <;> try ((refine wo_v (ov_move rfl) rfl rfl rfl ?_) <;> try ((refine wo_v (ov_indexAddr Tryz.underlying56 sz9 rfl rfl (by omega) (by omega)) rfl rfl rfl ?_) <;> try ((refine wo_v (ov_load Tryz.underlying9 rfl rfl (by repeat (first | exact .head _ | refine .tail _ ?_ | refine List.mem_append_right _ ?_ | assumption)) (by first | rfl | assumption | simp)) rfl rfl rfl ?_) <;> try ((refine wo_v (ov_call rfl en165 (fun w hi => by have := sees_c c s at_ h0 h1 bs 107 xs[k] ha w (hi.view1 (by repeat (first | exact Take.nil _ | apply Take.cons | exact Del1.head _ | apply Del1.tail | apply Del1.app))); rwa [hqk] at this)) rfl rfl rfl ?_) <;> try ((refine wo_nilP [0, 1, 4, 5, 7, 8, 9, 16] ?_)))))))))) | ((refine w_regI 5 ?_; try ((refine wo_v (ov_move rfl) rfl rfl rfl ?_) <;> try ((refine wo_v (ov_assign rfl) rfl rfl rfl ?_) <;> try ((refine wo_nilP [0, 1, 4, 5, 7, 8, 9, 16] ?_)))))))
      exact ⟨by rw [hf]; simp; rfl, hi_.fr⟩
    · rw [if_neg hqk] at hf
      have hqk' : Lib.hasPrefix (s.drop at_) xs[k] = false := by simpa using hqk
      repeat' (first | (refine pf_keep rfl ?_) | (refine pf_drop rfl ?_) | (refine pf_nil ?_) | (refine w_seq ?_) | (refine w_condT rfl ?_) | (refine w_condF rfl ?_) | (refine w_block ?_) | (refine w_inBlock ?_) | (refine w_skip ?_) | ((refine w_regI 2 ?_; try ((refine wo_v (ov_lss3 rfl rfl (by first | exact decide_eq_true (by omega) | exact decide_eq_false (by omega) | exact rfl)) rfl rfl rfl ?_) <;> try ((refine wo_nilP [0, 1, 4, 5, 7, 8, 9, 16] ?_))))) | ((refine w_regI 3 ?_; try ((refine wo_v (ov_move rfl) rfl rfl rfl ?_) <;> try ((refine wo_v (ov_assign rfl) rfl rfl rfl ?_) <;> try ((refine wo_nilP [0, 1, 4, 5, 7, 8, 9, 16] ?_)))))) | ((refine w_regI 4 ?_; try ((refine wo_v (ov_move rfl) rfl rfl rfl ?_) <;> try ((refine wo_v (ov_move rfl) rfl rfl rfl ?_) <;> try ((refine wo_v (ov_move rfl) rfl rfl rfl ?_) <;> try ((refine wo_v (ov_indexAddr Tryz.underlying56 sz9 rfl rfl (by omega) (by omega)) rfl rfl rfl ?_) <;> try ((refine wo_v (ov_load Tryz.underlying9 rfl rfl (by repeat (first | exact .head _ | refine .tail _ ?_ | refine List.mem_append_right _ ?_ | assumption)) (by first | rfl | assumption | simp)) rfl rfl rfl ?_) <;> try ((refine wo_v (ov_call rfl en165 (fun w hi => by have := sees_c c s at_ h0 h1 bs 107 xs[k] ha w (hi.view1 (by repeat (first | exact Take.nil _ | apply Take.cons | exact Del1.head _ | apply Del1.tail | apply Del1.app))); rwa [hqk'] at this)) rfl rfl rfl ?_) <;> try ((refine wo_nilP [0, 1, 4, 5, 7, 8, 9, 16] ?_)))))))))) | ((refine w_regI 6 ?_; try ((refine wo_v (ov_add_i64 rfl rfl (by omega) (by omega)) rfl rfl rfl ?_) <;> try ((refine wo_v (ov_move rfl) rfl rfl rfl ?_) <;> try ((refine wo_nilP [0, 1, 4, 5, 7, 8, 9, 16] ?_)))))))
      refine w_weak (by first | exact sub_nil _ | (refine sub_cons rfl ?_; repeat (first | exact sub_nil _ | refine sub_cons rfl ?_))) (ih (k + 1) ⟨by omega, by rw [hf]; simp [Option.map_map, Function.comp_def, Nat.add_assoc, Nat.add_comm 1 k]⟩ (by omega))
  · obtain rfl : k = xs.length := by omega
    repeat' (first | (refine pf_keep rfl ?_) | (refine pf_nil ?_) | (refine w_seq ?_) | (refine w_condF rfl ?_) | (refine w_exit rfl ?_) | (refine w_ret Tryz.func168 rfl (fun w_ hi_ => ?_)) | ((refine w_regI 2 ?_; try ((refine wo_v (ov_lss3 rfl rfl (by first | exact decide_eq_true (by omega) | exact decide_eq_false (by omega) | exact rfl)) rfl rfl rfl ?_) <;> try ((refine wo_nilP [0, 1, 4, 5, 7, 8, 9, 16] ?_))))) | ((refine w_regI 7 ?_; try ((refine wo_v (ov_assign rfl) rfl rfl rfl ?_) <;> try ((refine wo_nilP [0, 1, 4, 5, 7, 8, 9, 16] ?_))))))
    exact ⟨by rw [hf, List.drop_length]; rfl, hi_.fr⟩

theorem sign_c (mb gb : Nat) (s : List UInt8) (at_ fr : Nat) (mp : Value) (c : Array Value) (hc : Scn c s at_ fr mp (.slice (some ⟨gb, 0, none⟩) 23 23)) (bs : Nat) (hl : s.length < 4000000000) (ha : at_ < s.length) :
    SLE (EnvS mb gb) Tryz.prog 159 [.pointer (some ⟨bs, 0, none⟩)] [(fun c : Array Value => (⟨bs, true, .cells c 107 (0, 0)⟩ : Ent)) c] (RowQ s at_ fr mp (.slice (some ⟨gb, 0, none⟩) 23 23) bs c (twoS (s.drop at_) ∈ signsL ∨ (s.drop at_).take 1 ∈ signsL) (if twoS (s.drop at_) ∈ signsL then (5, 2, 0) else (5, 1, 0))) := by
  intro S w0 F w hE hi
  obtain ⟨rst, hsg⟩ := hE.sg
  obtain ⟨z, h0, h1, hs, hm, hg, hf⟩ := id hc
  have hlen : sgnL.length = 23 := rfl
  have hne : s.drop at_ ≠ [] := by rw [Ne, List.drop_eq_nil_iff]; omega
  have hfind := sgn_find (s.drop at_) hne
  have hix := fun w hi => idxSign_c s at_ c h0 h1 (by omega) bs gb 23 sgnL rst 9 (by rw [hlen]; omega) w hi
  rw [hlen] at hix
  cases hq : sgnL.findIdx? (Lib.hasPrefix (s.drop at_)) with
  | none =>
    rw [hq] at hix hfind
    simp only at hix hfind
    refine calls_of_WFS Tryz.func159 rfl rfl (hi) ?_
    repeat' (first | (refine pf_keep rfl ?_) | (refine pf_drop rfl ?_) | (refine pf_nil ?_) | (refine w_seq ?_) | (refine w_condT rfl ?_) | (refine w_ret Tryz.func159 rfl (fun w_ hi_ => ?_)) | ((refine w_regI 0 ?_; try ((refine wo_v (ov_assign rfl) rfl rfl rfl ?_) <;> try ((refine wo_nilP [0, 2, 3, 14] ?_))))) | ((refine w_regQI 1 rfl mixed (by kernel_rfl) ?_; try ((refine wq_v (ov_move rfl) rfl rfl ?_) <;> try ((refine wq_v (ov_nilCheck rfl) rfl rfl ?_) <;> try ((refine wq_v (ov_fieldAddr fo107_3 rfl) rfl rfl ?_) <;> try ((refine wq_v (ov_load Tryz.underlying56 rfl rfl (by repeat (first | exact .head _ | refine .tail _ ?_ | refine List.mem_append_right _ ?_ | assumption)) (by first | rfl | assumption | simp)) rfl rfl ?_) <;> try ((refine wq_v (ov_move rfl) rfl rfl ?_) <;> try ((refine wq_v (ov_nilCheck rfl) rfl rfl ?_) <;> try ((refine wq_v (ov_fieldAddr fo107_0 rfl) rfl rfl ?_) <;> try ((refine wq_v (ov_makeFunc rfl rfl) rfl rfl ?_) <;> try ((refine wq_v (ov_call rfl en168 (fun w hi => hix w (hi.viewMH (by repeat (first | exact .head _ | refine .tail _ ?_ | refine List.mem_append_right _ ?_ | assumption))))) rfl rfl ?_) <;> try ((refine wq_v (ov_assign rfl) rfl rfl ?_) <;> try ((refine wq_nilP [0, 2, 3, 14] ?_)))))))))))))) | ((refine w_regI 2 ?_; try ((refine wo_v (ov_move rfl) rfl rfl rfl ?_) <;> try ((refine wo_v (ov_lss3 rfl rfl (by first | exact decide_eq_true (by omega) | exact decide_eq_false (by omega) | exact rfl)) rfl rfl rfl ?_) <;> try ((refine wo_nilP [0, 2, 3, 14] ?_)))))) | ((refine w_regI 3 ?_; try ((refine wo_v (ov_assign rfl) rfl rfl rfl ?_) <;> try ((refine wo_nilP [0, 2, 3, 14] ?_))))))
    exact ⟨_, RowQ.no (by simp only [not_or]; exact hfind), hi_⟩
  | some i =>
    rw [hq] at hix hfind
    simp only at hix hfind
    obtain ⟨hi23, hcase⟩ := hfind
    have hat : (strs sgnL rst)[0 + ((i : Nat) : Int).toNat * 1]? = some (str sgnL[i]) := by
      have : 0 + ((i : Nat) : Int).toNat * 1 = i := by omega
      rw [this, List.getElem?_toArray, List.getElem?_append_left (by simpa using hi23)]; simp [hi23]
    have hcond : twoS (s.drop at_) ∈ signsL ∨ (s.drop at_).take 1 ∈ signsL := hcase.elim (fun h => .inl h.2) fun h => .inr h.2.2
    have hr : (if twoS (s.drop at_) ∈ signsL then ((5, 2, 0) : Int × Nat × Int) else (5, 1, 0)) = (5, sgnL[i].length, 0) := by
      rcases hcase with ⟨h1, h2⟩ | ⟨h1, h2, _⟩
      · rw [if_pos h2, h1]
      · rw [if_neg h2, h1]
    rw [hr]
    have hlb : sgnL[i].length ≤ 2 := by rcases hcase with h | h <;> omega
    generalize hG : sgnL[i] = p at *
    refine calls_of_WFS Tryz.func159 rfl rfl (hi) ?_
    repeat' (first | (refine pf_keep rfl ?_) | (refine pf_drop rfl ?_) | (refine pf_nil ?_) | (refine w_seq ?_) | (refine w_condF rfl ?_) | (refine w_skip ?_) | (refine w_ret Tryz.func159 rfl (fun w_ hi_ => ?_)) | ((refine w_regI 0 ?_; try ((refine wo_v (ov_assign rfl) rfl rfl rfl ?_) <;> try ((refine wo_nilP [0, 2, 3, 14] ?_))))) | ((refine w_regQI 1 rfl mixed (by kernel_rfl) ?_; try ((refine wq_v (ov_move rfl) rfl rfl ?_) <;> try ((refine wq_v (ov_nilCheck rfl) rfl rfl ?_) <;> try ((refine wq_v (ov_fieldAddr fo107_3 rfl) rfl rfl ?_) <;> try ((refine wq_v (ov_load Tryz.underlying56 rfl rfl (by repeat (first | exact .head _ | refine .tail _ ?_ | refine List.mem_append_right _ ?_ | assumption)) (by first | rfl | assumption | simp)) rfl rfl ?_) <;> try ((refine wq_v (ov_move rfl) rfl rfl ?_) <;> try ((refine wq_v (ov_nilCheck rfl) rfl rfl ?_) <;> try ((refine wq_v (ov_fieldAddr fo107_0 rfl) rfl rfl ?_) <;> try ((refine wq_v (ov_makeFunc rfl rfl) rfl rfl ?_) <;> try ((refine wq_v (ov_call rfl en168 (fun w hi => hix w (hi.viewMH (by repeat (first | exact .head _ | refine .tail _ ?_ | refine List.mem_append_right _ ?_ | assumption))))) rfl rfl ?_) <;> try ((refine wq_v (ov_assign rfl) rfl rfl ?_) <;> try ((refine wq_nilP [0, 2, 3, 14] ?_)))))))))))))) | ((refine w_regI 2 ?_; try ((refine wo_v (ov_move rfl) rfl rfl rfl ?_) <;> try ((refine wo_v (ov_lss3 rfl rfl (by first | exact decide_eq_true (by omega) | exact decide_eq_false (by omega) | exact rfl)) rfl rfl rfl ?_) <;> try ((refine wo_nilP [0, 2, 3, 14] ?_)))))) | ((refine w_regT (id := 4) 17 rfl mixed (by kernel_rfl) ?_; try ((refine wt_v (ov_move rfl) rfl rfl ?_) <;> try ((refine wt_v (ov_nilCheck rfl) rfl rfl ?_) <;> try ((refine wt_v (ov_fieldAddr fo107_0 rfl) rfl rfl ?_) <;> try ((refine wt_v (ov_fieldAddr fo89_1 rfl) rfl rfl ?_) <;> try ((refine wt_v (ov_load Tryz.underlying3 rfl rfl (by repeat (first | exact .head _ | refine .tail _ ?_ | refine List.mem_append_right _ ?_ | assumption)) (by first | rfl | assumption | simp)) rfl rfl ?_) <;> try ((refine wt_v (ov_move rfl) rfl rfl ?_) <;> try ((refine wt_v (ov_nilCheck rfl) rfl rfl ?_) <;> try ((refine wt_v (ov_fieldAddr fo107_3 rfl) rfl rfl ?_) <;> try ((refine wt_v (ov_load Tryz.underlying56 rfl rfl (by repeat (first | exact .head _ | refine .tail _ ?_ | refine List.mem_append_right _ ?_ | assumption)) (by first | rfl | assumption | simp)) rfl rfl ?_) <;> try ((refine wt_v (ov_move rfl) rfl rfl ?_) <;> try ((refine wt_v (ov_indexAddr Tryz.underlying56 sz9 rfl rfl (by omega) (by omega)) rfl rfl ?_) <;> try ((refine wt_v (ov_load Tryz.underlying9 rfl rfl (by repeat (first | exact .head _ | refine .tail _ ?_ | refine List.mem_append_right _ ?_ | assumption)) (by first | rfl | assumption | simp)) rfl rfl ?_) <;> try ((refine wt_v (ov_lenS rfl Tryz.underlying9 rfl) rfl rfl ?_) <;> try ((refine wt_v (ov_add_i64 rfl rfl (by omega) (by omega)) rfl rfl ?_) <;> try ((refine wt_v (ov_nilCheck rfl) rfl rfl ?_) <;> try ((refine wt_v (ov_fieldAddr fo107_0 rfl) rfl rfl ?_) <;> try ((refine wt_v (ov_fieldAddr fo89_1 rfl) rfl rfl ?_) <;> try ((refine wt_nil ?_; try ((refine wo_store rfl rfl rfl sz3 (by repeat (first | exact .head _ | apply Upd.tail | apply Upd.app)) (by first | decide | (simp; done) | omega | (simp only [Array.size_setIfInBounds]; omega)) (.inr (by first | decide | (simp; done) | omega | (simp only [Array.size_setIfInBounds]; omega))) rfl rfl ?_) <;> try ((refine wo_nilP [0, 2, 3, 14] ?_)))))))))))))))))))))))) | ((refine w_regI 5 ?_; try ((refine wo_v (ov_assign rfl) rfl rfl rfl ?_) <;> try ((refine wo_nilP [0, 2, 3, 14] ?_))))))
    have hc2 : Scn (c.setIfInBounds (0 + 0 + 1) (.int .i64 ((at_ : Int) + (p.length : Int)))) s (at_ + p.length) fr mp (.slice (some ⟨gb, 0, none⟩) 23 23) := hc.setAt (b := at_ + p.length)
    exact ⟨_, RowQ.yes (r := (5, p.length, 0)) hcond rfl hc2, hi_⟩
end Go.Sl
namespace Go.Sl
open Go Go.RowKit Go.Shelf Go.Proofs
section
variable {C : Cx} {S : Nat → Prop} {w0 : World} {D : List Deferred} {E : List (Nat × Value)} {H : List Ent} {d : Option Tmp} {t t' : TypeId} {p : String} {af : Array Edge} {g : Option (Nat × Bool)}
theorem opv_run' {o : Oper} {v : Value} (h : ∀ tmps w, Fits E C.n tmps → Inv S w0 H w → (execOp ({ tmps := tmps, defers := D } : Act).eval o).run C.P w = .ok (.value v) w) : OpV C S w0 H D E o v := by
  unfold OpV
  intro tmps w hf hi
  unfold Oper.quietAt
  rw [h tmps w hf hi]
  exact ⟨rfl, rfl⟩
theorem ov_buildArr {el n sz : Nat} {ti : TypeInfo} {zs cs : Array Value} {vs : List (Nat × Value)} {parts : Array (Nat × Operand)} (hu : C.P.underlying t' = some (.array n el)) (hs : (C.P.info? el).map (·.size) = some sz) (hti : C.P.info? t' = some ti) (hz : ti.zero = some (.agg zs)) (hp : partv E parts.toList = some vs)
    (hfill : Instr.fill (fun i => some (i * sz, sz)) zs vs = some cs) : OpV C S w0 H D E ⟨d, .build t' parts, t, p, af, g⟩ (.agg cs) := opv_run' fun tmps w hf _ => by
  have hv := hf.partv (D := D) hp
  have h1 : (zeroValue t').run C.P w = .ok (.agg zs) w := by simp [zeroValue, run_typeInfo hti, hz]
  have h3 : (parts.map (fun (i, x) => (i, ({ tmps := tmps, defers := D } : Act).eval x))).toList = vs := by
    rw [← hv]; simp
  have h4 : Instr.fill (fun i => some (i * sz, sz)) zs (parts.map (fun (i, x) => (i, ({ tmps := tmps, defers := D } : Act).eval x))).toList = some cs := by rw [h3]; exact hfill
  simp at h4
  simp [execOp, Instr.build, h1, Value.cells, run_underlying hu, run_sizeOf hs, h4]
end
end Go.Sl
namespace Go.Sl
open Go Go.Proofs
set_option maxRecDepth 100000
set_option maxHeartbeats 2000000
set_option linter.unusedSimpArgs false
set_option linter.unusedVariables false
attribute [local irreducible] Calls




theorem rows_c (w : World) : Calls Tryz.prog 140 #[] w fun e w' => e = .returned (.agg #[.func (.func 153) #[] #[], .func (.func 154) #[] #[], .func (.func 155) #[] #[], .func (.func 156) #[] #[], .func (.func 157) #[] #[], .func (.func 158) #[] #[], .func (.func 159) #[] #[]]) ∧ Fr none_ w w' := by
  refine calls_of_WF Tryz.func140 rfl rfl (Inv.start none_ w) ?_
  repeat' (first | (refine pf_keep rfl ?_) | (refine pf_drop rfl ?_) | (refine pf_nil ?_) | (refine w_seq ?_) | (refine w_retM Tryz.func140 (.cellA rfl Tryz.underlying166 rfl inf166 (by repeat (first | exact .head _ | refine .tail _ ?_ | refine List.mem_append_right _ ?_)) rfl (.nil)) (fun w_ hi_ => ?_)) | ((refine w_regI 0 ?_; try ((refine wo_alloc inf166 rfl rfl rfl rfl (fun b_ hb_ => ?_)) <;> try ((refine wo_nilP [0] ?_))))) | ((refine w_regI 1 ?_; try ((refine wo_v (ov_buildArr Tryz.underlying166 sz165 inf166 rfl rfl (cs := #[.func (.func 153) #[] #[], .func (.func 154) #[] #[], .func (.func 155) #[] #[], .func (.func 156) #[] #[], .func (.func 157) #[] #[], .func (.func 158) #[] #[], .func (.func 159) #[] #[]]) (by kernel_rfl)) rfl rfl rfl ?_) <;> try ((refine wo_storeC rfl rfl rfl sz166 (by repeat (first | exact .head _ | apply Upd.tail | apply Upd.app)) (by first | rfl | simp) rfl rfl ?_) <;> try ((refine wo_nilP [0] ?_)))))))
  exact ⟨rfl, hi_.fr⟩

theorem RowQ.elim {s : List UInt8} {at_ fr : Nat} {mp sg : Value} {bs : Nat} {c : Array Value} {cond : Prop} [Decidable cond] {r : Int × Nat × Int} {e : Ending} {post : List Ent} (h : RowQ s at_ fr mp sg bs c cond r e post) :
    (cond ∧ r.2.2 = 0 ∧ ∃ k c', k = r.1 ∧ e = .returned (.int .u8 k) ∧ Scn c' s (at_ + r.2.1) fr mp sg ∧ post = [(fun c : Array Value => (⟨bs, true, .cells c 107 (0, 0)⟩ : Ent)) c']) ∨ (cond ∧ r.2.2 ≠ 0 ∧ ∃ c' q, e = .panicked (refu r.2.2) ∧ Scn c' s q fr mp sg ∧ post = [(fun c : Array Value => (⟨bs, true, .cells c 107 (0, 0)⟩ : Ent)) c']) ∨ (¬ cond ∧ e = .returned (.int .u8 0) ∧ post = [(fun c : Array Value => (⟨bs, true, .cells c 107 (0, 0)⟩ : Ent)) c]) := by
  unfold RowQ at h
  by_cases hc : cond
  · rw [if_pos hc] at h
    by_cases h0 : r.2.2 = 0
    · rw [if_pos h0] at h; exact .inl ⟨hc, h0, let ⟨c', h1, h2, h3⟩ := h; ⟨_, c', rfl, h1, h2, h3⟩⟩
    · rw [if_neg h0] at h; exact .inr (.inl ⟨hc, h0, h⟩)
  · rw [if_neg hc] at h; exact .inr (.inr ⟨hc, h⟩)

/-- How 'kind' ends. -/
def KindQ (s : List UInt8) (at_ : Nat) (mp sg : Value) (bs : Nat) : Ending → List Ent → Prop := fun e post =>
  if (firstS (s.drop at_)).2.2 = 0 then ∃ c', e = .returned (.int .u8 (firstS (s.drop at_)).1) ∧ Scn c' s (at_ + (firstS (s.drop at_)).2.1) at_ mp sg ∧ post = [(fun c : Array Value => (⟨bs, true, .cells c 107 (0, 0)⟩ : Ent)) c'] else ∃ c' q, e = .panicked (refu (firstS (s.drop at_)).2.2) ∧ Scn c' s q at_ mp sg ∧ post = [(fun c : Array Value => (⟨bs, true, .cells c 107 (0, 0)⟩ : Ent)) c']
theorem kindQ_yes {s : List UInt8} {at_ : Nat} {mp sg : Value} {bs : Nat} {c' : Array Value} {r : Int × Nat × Int} (h : firstS (s.drop at_) = r) (h0 : r.2.2 = 0) (hc : Scn c' s (at_ + r.2.1) at_ mp sg) : KindQ s at_ mp sg bs (.returned (.int .u8 r.1)) [(fun c : Array Value => (⟨bs, true, .cells c 107 (0, 0)⟩ : Ent)) c'] := by
  unfold KindQ; rw [h, if_pos h0]; exact ⟨c', rfl, hc, rfl⟩
theorem kindQ_bad {s : List UInt8} {at_ q : Nat} {mp sg : Value} {bs : Nat} {c' : Array Value} {r : Int × Nat × Int} (h : firstS (s.drop at_) = r) (h0 : r.2.2 ≠ 0) (hc : Scn c' s q at_ mp sg) : KindQ s at_ mp sg bs (.panicked (refu r.2.2)) [(fun c : Array Value => (⟨bs, true, .cells c 107 (0, 0)⟩ : Ent)) c'] := by
  unfold KindQ; rw [h, if_neg h0]; exact ⟨c', q, rfl, hc, rfl⟩

theorem first_sign {l : List UInt8} (h0 : ¬ cls (bt l 0) = 98) (h1 : ¬ twoS l = [40, 42]) (h2 : ¬ twoS l = [60, 42]) (h3 : ¬ cls (bt l 0) = 97) (h4 : ¬ cls (bt l 0) = 100) (h5 : ¬ bt l 0 = 34) :
    firstS l = if twoS l ∈ signsL ∨ l.take 1 ∈ signsL then (if twoS l ∈ signsL then (5, 2, 0) else (5, 1, 0)) else (0, 0, 10) := by
  unfold firstS
  rw [if_neg h0, if_neg h1, if_neg h2, if_neg h3, if_neg h4, if_neg h5]
  by_cases h : twoS l ∈ signsL
  · rw [if_pos h, if_pos (.inl h), if_pos h]
  · rw [if_neg h]
    by_cases h6 : l.take 1 ∈ signsL
    · rw [if_pos h6, if_pos (.inr h6), if_neg h]
    · rw [if_neg h6, if_neg (fun e => e.elim h h6)]
theorem kind_c (mb gb : Nat) (s : List UInt8) (at_ fr : Nat) (c : Array Value) (hc : Scn c s at_ fr (.map (some mb)) (.slice (some ⟨gb, 0, none⟩) 23 23)) (bs : Nat) (hl : s.length < 4000000000) (ha : at_ < s.length) :
    SLE (EnvS mb gb) Tryz.prog 116 [.pointer (some ⟨bs, 0, none⟩)] [(fun c : Array Value => (⟨bs, true, .cells c 107 (0, 0)⟩ : Ent)) c] (KindQ s at_ (.map (some mb)) (.slice (some ⟨gb, 0, none⟩) 23 23) bs) := by
  intro S w0 F w hE hi
  obtain ⟨z, h0, h1, hs, hm, hg, hf⟩ := id hc
  have hc0 := hc.setFrom (b := at_)
  refine calls_of_WFS Tryz.func116 rfl rfl (hi) ?_
  repeat' (first | (refine pf_keep rfl ?_) | (refine pf_drop rfl ?_) | (refine pf_nil ?_) | (refine w_seq ?_) | (refine w_block ?_) | ((refine w_regI 0 ?_; try ((refine wo_v (ov_assign rfl) rfl rfl rfl ?_) <;> try ((refine wo_nilP [0, 2, 4, 5, 14, 15, 16, 22] ?_))))) | ((refine w_regI 1 ?_; try ((refine wo_v (ov_move rfl) rfl rfl rfl ?_) <;> try ((refine wo_v (ov_move rfl) rfl rfl rfl ?_) <;> try ((refine wo_v (ov_nilCheck rfl) rfl rfl rfl ?_) <;> try ((refine wo_v (ov_fieldAddr fo107_0 rfl) rfl rfl rfl ?_) <;> try ((refine wo_v (ov_fieldAddr fo89_1 rfl) rfl rfl rfl ?_) <;> try ((refine wo_v (ov_load Tryz.underlying3 rfl rfl (by repeat (first | exact .head _ | refine .tail _ ?_ | refine List.mem_append_right _ ?_ | assumption)) (by first | rfl | assumption | simp)) rfl rfl rfl ?_) <;> try ((refine wo_v (ov_nilCheck rfl) rfl rfl rfl ?_) <;> try ((refine wo_v (ov_fieldAddr fo107_4 rfl) rfl rfl rfl ?_) <;> try ((refine wo_store rfl rfl rfl sz3 (by repeat (first | exact .head _ | apply Upd.tail | apply Upd.app)) (by first | decide | (simp; done) | omega | (simp only [Array.size_setIfInBounds]; omega)) (.inr (by first | decide | (simp; done) | omega | (simp only [Array.size_setIfInBounds]; omega))) rfl rfl ?_) <;> try ((refine wo_nilP [0, 2, 4, 5, 14, 15, 16, 22] ?_))))))))))))) | ((refine w_regI 2 ?_; try ((refine wo_v (ov_call rfl en140 (fun w hi => rows_c w)) rfl rfl rfl ?_) <;> try ((refine wo_v (ov_move rfl) rfl rfl rfl ?_) <;> try ((refine wo_nilP [0, 2, 4, 5, 14, 15, 16, 22] ?_)))))))
  refine w_loop' ?_
  repeat' (first | (refine pf_keep rfl ?_) | (refine pf_drop rfl ?_) | (refine pf_nil ?_) | (refine w_seq ?_) | (refine w_condT rfl ?_) | (refine w_condF rfl ?_) | (refine w_block ?_) | (refine w_inBlock ?_) | (refine w_skip ?_) | (refine w_ret Tryz.func116 rfl (fun w_ hi_ => ?_)) | ((refine w_regI 3 ?_; try ((refine wo_v (ov_lss3 rfl rfl (by first | exact decide_eq_true (by omega) | exact decide_eq_false (by omega) | exact rfl)) rfl rfl rfl ?_) <;> try ((refine wo_nilP [0, 2, 4, 5, 14, 15, 16, 22] ?_))))) | ((refine w_regI 4 ?_; try ((refine wo_v (ov_indexV Tryz.underlying166 sz165 Tryz.underlying165 rfl rfl rfl (by omega) (by omega) rfl) rfl rfl rfl ?_) <;> try ((refine wo_v (ov_assign rfl) rfl rfl rfl ?_) <;> try ((refine wo_nilP [0, 2, 4, 5, 14, 15, 16, 22] ?_)))))) | ((refine w_regI 5 ?_; try ((refine wo_v (ov_move rfl) rfl rfl rfl ?_) <;> try ((refine wo_v (ov_move rfl) rfl rfl rfl ?_) <;> try ((refine wo_callE (by repeat (first | exact Take.nil _ | apply Take.cons | exact Del1.head _ | apply Del1.tail | apply Del1.app)) hE rfl en153 rfl rfl (blank_c mb gb s at_ at_ _ _ _ hc0 bs hl ha) ?_; rintro e post hq; rcases hq.elim with ⟨hd0, hr0, k, c', hkr, rfl, hc', rfl⟩ | ⟨hd0, hr0, c', q, rfl, hc', rfl⟩ | ⟨hd0, rfl, rfl⟩ <;> dsimp only <;> first | (refine wp_leave rfl (fun w_ hi_ => ?_)) | (have hk : 1 ≤ k := (by rw [hkr]; revert hr0; (repeat' split) <;> simp)) | skip) <;> try ((refine wo_v (ov_assign rfl) rfl rfl rfl ?_) <;> try ((refine wo_nilP [0, 2, 4, 5, 14, 15, 16, 22] ?_)))))))) | ((refine w_regI 6 ?_; try ((refine wo_v (ov_move rfl) rfl rfl rfl ?_) <;> try ((refine wo_v (ov_gtr3 rfl rfl (by first | exact decide_eq_true (by omega) | exact decide_eq_false (by omega) | exact rfl)) rfl rfl rfl ?_) <;> try ((refine wo_nilP [0, 2, 4, 5, 14, 15, 16, 22] ?_)))))) | ((refine w_regI 7 ?_; try ((refine wo_v (ov_move rfl) rfl rfl rfl ?_) <;> try ((refine wo_v (ov_assign rfl) rfl rfl rfl ?_) <;> try ((refine wo_nilP [0, 2, 4, 5, 14, 15, 16, 22] ?_)))))) | ((refine w_regI 8 ?_; try ((refine wo_v (ov_add_i64 rfl rfl (by omega) (by omega)) rfl rfl rfl ?_) <;> try ((refine wo_v (ov_move rfl) rfl rfl rfl ?_) <;> try ((refine wo_nilP [0, 2, 4, 5, 14, 15, 16, 22] ?_)))))))
  · exact ⟨_, hkr ▸ kindQ_yes (by unfold firstS; rw [if_pos hd0]) hr0 hc', hi_⟩
  · exact ⟨_, kindQ_bad (by unfold firstS; rw [if_pos hd0]) hr0 hc', hi_⟩
  refine w_inLoop ?_
  repeat' (first | (refine pf_keep rfl ?_) | (refine pf_drop rfl ?_) | (refine pf_nil ?_) | (refine w_seq ?_) | (refine w_condT rfl ?_) | (refine w_condF rfl ?_) | (refine w_block ?_) | (refine w_inBlock ?_) | (refine w_skip ?_) | (refine w_ret Tryz.func116 rfl (fun w_ hi_ => ?_)) | ((refine w_regI 3 ?_; try ((refine wo_v (ov_lss3 rfl rfl (by first | exact decide_eq_true (by omega) | exact decide_eq_false (by omega) | exact rfl)) rfl rfl rfl ?_) <;> try ((refine wo_nilP [0, 2, 4, 5, 14, 15, 16, 22] ?_))))) | ((refine w_regI 4 ?_; try ((refine wo_v (ov_indexV Tryz.underlying166 sz165 Tryz.underlying165 rfl rfl rfl (by omega) (by omega) rfl) rfl rfl rfl ?_) <;> try ((refine wo_v (ov_assign rfl) rfl rfl rfl ?_) <;> try ((refine wo_nilP [0, 2, 4, 5, 14, 15, 16, 22] ?_)))))) | ((refine w_regI 5 ?_; try ((refine wo_v (ov_move rfl) rfl rfl rfl ?_) <;> try ((refine wo_v (ov_move rfl) rfl rfl rfl ?_) <;> try ((refine wo_callE (by repeat (first | exact Take.nil _ | apply Take.cons | exact Del1.head _ | apply Del1.tail | apply Del1.app)) hE rfl en154 rfl rfl (note_c mb gb s at_ at_ _ _ _ hc0 bs hl ha) ?_; rintro e post hq; rcases hq.elim with ⟨hd1, hr0, k, c', hkr, rfl, hc', rfl⟩ | ⟨hd1, hr0, c', q, rfl, hc', rfl⟩ | ⟨hd1, rfl, rfl⟩ <;> dsimp only <;> first | (refine wp_leave rfl (fun w_ hi_ => ?_)) | (have hk : 1 ≤ k := (by rw [hkr]; revert hr0; (repeat' split) <;> simp)) | skip) <;> try ((refine wo_v (ov_assign rfl) rfl rfl rfl ?_) <;> try ((refine wo_nilP [0, 2, 4, 5, 14, 15, 16, 22] ?_)))))))) | ((refine w_regI 6 ?_; try ((refine wo_v (ov_move rfl) rfl rfl rfl ?_) <;> try ((refine wo_v (ov_gtr3 rfl rfl (by first | exact decide_eq_true (by omega) | exact decide_eq_false (by omega) | exact rfl)) rfl rfl rfl ?_) <;> try ((refine wo_nilP [0, 2, 4, 5, 14, 15, 16, 22] ?_)))))) | ((refine w_regI 7 ?_; try ((refine wo_v (ov_move rfl) rfl rfl rfl ?_) <;> try ((refine wo_v (ov_assign rfl) rfl rfl rfl ?_) <;> try ((refine wo_nilP [0, 2, 4, 5, 14, 15, 16, 22] ?_)))))) | ((refine w_regI 8 ?_; try ((refine wo_v (ov_add_i64 rfl rfl (by omega) (by omega)) rfl rfl rfl ?_) <;> try ((refine wo_v (ov_move rfl) rfl rfl rfl ?_) <;> try ((refine wo_nilP [0, 2, 4, 5, 14, 15, 16, 22] ?_)))))))
  · exact ⟨_, hkr ▸ kindQ_yes (by unfold firstS; rw [if_neg hd0, if_pos hd1]) hr0 hc', hi_⟩
  · exact ⟨_, kindQ_bad (by unfold firstS; rw [if_neg hd0, if_pos hd1]) hr0 hc', hi_⟩
  refine w_inLoop ?_
  repeat' (first | (refine pf_keep rfl ?_) | (refine pf_drop rfl ?_) | (refine pf_nil ?_) | (refine w_seq ?_) | (refine w_condT rfl ?_) | (refine w_condF rfl ?_) | (refine w_block ?_) | (refine w_inBlock ?_) | (refine w_skip ?_) | (refine w_ret Tryz.func116 rfl (fun w_ hi_ => ?_)) | ((refine w_regI 3 ?_; try ((refine wo_v (ov_lss3 rfl rfl (by first | exact decide_eq_true (by omega) | exact decide_eq_false (by omega) | exact rfl)) rfl rfl rfl ?_) <;> try ((refine wo_nilP [0, 2, 4, 5, 14, 15, 16, 22] ?_))))) | ((refine w_regI 4 ?_; try ((refine wo_v (ov_indexV Tryz.underlying166 sz165 Tryz.underlying165 rfl rfl rfl (by omega) (by omega) rfl) rfl rfl rfl ?_) <;> try ((refine wo_v (ov_assign rfl) rfl rfl rfl ?_) <;> try ((refine wo_nilP [0, 2, 4, 5, 14, 15, 16, 22] ?_)))))) | ((refine w_regI 5 ?_; try ((refine wo_v (ov_move rfl) rfl rfl rfl ?_) <;> try ((refine wo_v (ov_move rfl) rfl rfl rfl ?_) <;> try ((refine wo_callE (by repeat (first | exact Take.nil _ | apply Take.cons | exact Del1.head _ | apply Del1.tail | apply Del1.app)) hE rfl en155 rfl rfl (hint_c mb gb s at_ at_ _ _ _ hc0 bs hl ha) ?_; rintro e post hq; rcases hq.elim with ⟨hd2, hr0, k, c', hkr, rfl, hc', rfl⟩ | ⟨hd2, hr0, c', q, rfl, hc', rfl⟩ | ⟨hd2, rfl, rfl⟩ <;> dsimp only <;> first | (refine wp_leave rfl (fun w_ hi_ => ?_)) | (have hk : 1 ≤ k := (by rw [hkr]; revert hr0; (repeat' split) <;> simp)) | skip) <;> try ((refine wo_v (ov_assign rfl) rfl rfl rfl ?_) <;> try ((refine wo_nilP [0, 2, 4, 5, 14, 15, 16, 22] ?_)))))))) | ((refine w_regI 6 ?_; try ((refine wo_v (ov_move rfl) rfl rfl rfl ?_) <;> try ((refine wo_v (ov_gtr3 rfl rfl (by first | exact decide_eq_true (by omega) | exact decide_eq_false (by omega) | exact rfl)) rfl rfl rfl ?_) <;> try ((refine wo_nilP [0, 2, 4, 5, 14, 15, 16, 22] ?_)))))) | ((refine w_regI 7 ?_; try ((refine wo_v (ov_move rfl) rfl rfl rfl ?_) <;> try ((refine wo_v (ov_assign rfl) rfl rfl rfl ?_) <;> try ((refine wo_nilP [0, 2, 4, 5, 14, 15, 16, 22] ?_)))))) | ((refine w_regI 8 ?_; try ((refine wo_v (ov_add_i64 rfl rfl (by omega) (by omega)) rfl rfl rfl ?_) <;> try ((refine wo_v (ov_move rfl) rfl rfl rfl ?_) <;> try ((refine wo_nilP [0, 2, 4, 5, 14, 15, 16, 22] ?_)))))))
  · exact ⟨_, hkr ▸ kindQ_yes (by unfold firstS; rw [if_neg hd0, if_neg hd1, if_pos hd2]) hr0 hc', hi_⟩
  · exact ⟨_, kindQ_bad (by unfold firstS; rw [if_neg hd0, if_neg hd1, if_pos hd2]) hr0 hc', hi_⟩
  refine w_inLoop ?_
  repeat' (first | (refine pf_keep rfl ?_) | (refine pf_drop rfl ?_) | (refine pf_nil ?_) | (refine w_seq ?_) | (refine w_condT rfl ?_) | (refine w_condF rfl ?_) | (refine w_block ?_) | (refine w_inBlock ?_) | (refine w_skip ?_) | (refine w_ret Tryz.func116 rfl (fun w_ hi_ => ?_)) | ((refine w_regI 3 ?_; try ((refine wo_v (ov_lss3 rfl rfl (by first | exact decide_eq_true (by omega) | exact decide_eq_false (by omega) | exact rfl)) rfl rfl rfl ?_) <;> try ((refine wo_nilP [0, 2, 4, 5, 14, 15, 16, 22] ?_))))) | ((refine w_regI 4 ?_; try ((refine wo_v (ov_indexV Tryz.underlying166 sz165 Tryz.underlying165 rfl rfl rfl (by omega) (by omega) rfl) rfl rfl rfl ?_) <;> try ((refine wo_v (ov_assign rfl) rfl rfl rfl ?_) <;> try ((refine wo_nilP [0, 2, 4, 5, 14, 15, 16, 22] ?_)))))) | ((refine w_regI 5 ?_; try ((refine wo_v (ov_move rfl) rfl rfl rfl ?_) <;> try ((refine wo_v (ov_move rfl) rfl rfl rfl ?_) <;> try ((refine wo_callE (by repeat (first | exact Take.nil _ | apply Take.cons | exact Del1.head _ | apply Del1.tail | apply Del1.app)) hE rfl en156 rfl rfl (word_c mb gb s at_ _ _ hc0 bs hl ha) ?_; rintro e post hq; rcases hq.elim with ⟨hd3, hr0, k, c', hkr, rfl, hc', rfl⟩ | ⟨hd3, hr0, c', q, rfl, hc', rfl⟩ | ⟨hd3, rfl, rfl⟩ <;> dsimp only <;> first | (refine wp_leave rfl (fun w_ hi_ => ?_)) | (have hk : 1 ≤ k := (by rw [hkr]; revert hr0; (repeat' split) <;> simp)) | skip) <;> try ((refine wo_v (ov_assign rfl) rfl rfl rfl ?_) <;> try ((refine wo_nilP [0, 2, 4, 5, 14, 15, 16, 22] ?_)))))))) | ((refine w_regI 6 ?_; try ((refine wo_v (ov_move rfl) rfl rfl rfl ?_) <;> try ((refine wo_v (ov_gtr3 rfl rfl (by first | exact decide_eq_true (by omega) | exact decide_eq_false (by omega) | exact rfl)) rfl rfl rfl ?_) <;> try ((refine wo_nilP [0, 2, 4, 5, 14, 15, 16, 22] ?_)))))) | ((refine w_regI 7 ?_; try ((refine wo_v (ov_move rfl) rfl rfl rfl ?_) <;> try ((refine wo_v (ov_assign rfl) rfl rfl rfl ?_) <;> try ((refine wo_nilP [0, 2, 4, 5, 14, 15, 16, 22] ?_)))))) | ((refine w_regI 8 ?_; try ((refine wo_v (ov_add_i64 rfl rfl (by omega) (by omega)) rfl rfl rfl ?_) <;> try ((refine wo_v (ov_move rfl) rfl rfl rfl ?_) <;> try ((refine wo_nilP [0, 2, 4, 5, 14, 15, 16, 22] ?_)))))))
  · exact ⟨_, hkr ▸ kindQ_yes (by unfold firstS; rw [if_neg hd0, if_neg hd1, if_neg hd2, if_pos hd3]) hr0 hc', hi_⟩
  · exact ⟨_, kindQ_bad (by unfold firstS; rw [if_neg hd0, if_neg hd1, if_neg hd2, if_pos hd3]) hr0 hc', hi_⟩
  refine w_inLoop ?_
  repeat' (first | (refine pf_keep rfl ?_) | (refine pf_drop rfl ?_) | (refine pf_nil ?_) | (refine w_seq ?_) | (refine w_condT rfl ?_) | (refine w_condF rfl ?_) | (refine w_block ?_) | (refine w_inBlock ?_) | (refine w_skip ?_) | (refine w_ret Tryz.func116 rfl (fun w_ hi_ => ?_)) | ((refine w_regI 3 ?_; try ((refine wo_v (ov_lss3 rfl rfl (by first | exact decide_eq_true (by omega) | exact decide_eq_false (by omega) | exact rfl)) rfl rfl rfl ?_) <;> try ((refine wo_nilP [0, 2, 4, 5, 14, 15, 16, 22] ?_))))) | ((refine w_regI 4 ?_; try ((refine wo_v (ov_indexV Tryz.underlying166 sz165 Tryz.underlying165 rfl rfl rfl (by omega) (by omega) rfl) rfl rfl rfl ?_) <;> try ((refine wo_v (ov_assign rfl) rfl rfl rfl ?_) <;> try ((refine wo_nilP [0, 2, 4, 5, 14, 15, 16, 22] ?_)))))) | ((refine w_regI 5 ?_; try ((refine wo_v (ov_move rfl) rfl rfl rfl ?_) <;> try ((refine wo_v (ov_move rfl) rfl rfl rfl ?_) <;> try ((refine wo_callE (by repeat (first | exact Take.nil _ | apply Take.cons | exact Del1.head _ | apply Del1.tail | apply Del1.app)) hE rfl en157 rfl rfl (number_c mb gb s at_ _ _ _ hc0 bs hl ha) ?_; rintro e post hq; rcases hq.elim with ⟨hd4, hr0, k, c', hkr, rfl, hc', rfl⟩ | ⟨hd4, hr0, c', q, rfl, hc', rfl⟩ | ⟨hd4, rfl, rfl⟩ <;> dsimp only <;> first | (refine wp_leave rfl (fun w_ hi_ => ?_)) | (have hk : 1 ≤ k := (by rw [hkr]; revert hr0; (repeat' split) <;> simp)) | skip) <;> try ((refine wo_v (ov_assign rfl) rfl rfl rfl ?_) <;> try ((refine wo_nilP [0, 2, 4, 5, 14, 15, 16, 22] ?_)))))))) | ((refine w_regI 6 ?_; try ((refine wo_v (ov_move rfl) rfl rfl rfl ?_) <;> try ((refine wo_v (ov_gtr3 rfl rfl (by first | exact decide_eq_true (by omega) | exact decide_eq_false (by omega) | exact rfl)) rfl rfl rfl ?_) <;> try ((refine wo_nilP [0, 2, 4, 5, 14, 15, 16, 22] ?_)))))) | ((refine w_regI 7 ?_; try ((refine wo_v (ov_move rfl) rfl rfl rfl ?_) <;> try ((refine wo_v (ov_assign rfl) rfl rfl rfl ?_) <;> try ((refine wo_nilP [0, 2, 4, 5, 14, 15, 16, 22] ?_)))))) | ((refine w_regI 8 ?_; try ((refine wo_v (ov_add_i64 rfl rfl (by omega) (by omega)) rfl rfl rfl ?_) <;> try ((refine wo_v (ov_move rfl) rfl rfl rfl ?_) <;> try ((refine wo_nilP [0, 2, 4, 5, 14, 15, 16, 22] ?_)))))))
  · exact ⟨_, hkr ▸ kindQ_yes (by unfold firstS; rw [if_neg hd0, if_neg hd1, if_neg hd2, if_neg hd3, if_pos hd4]) hr0 hc', hi_⟩
  · exact ⟨_, kindQ_bad (by unfold firstS; rw [if_neg hd0, if_neg hd1, if_neg hd2, if_neg hd3, if_pos hd4]) hr0 hc', hi_⟩
  refine w_inLoop ?_
  repeat' (first | (refine pf_keep rfl ?_) | (refine pf_drop rfl ?_) | (refine pf_nil ?_) | (refine w_seq ?_) | (refine w_condT rfl ?_) | (refine w_condF rfl ?_) | (refine w_block ?_) | (refine w_inBlock ?_) | (refine w_skip ?_) | (refine w_ret Tryz.func116 rfl (fun w_ hi_ => ?_)) | ((refine w_regI 3 ?_; try ((refine wo_v (ov_lss3 rfl rfl (by first | exact decide_eq_true (by omega) | exact decide_eq_false (by omega) | exact rfl)) rfl rfl rfl ?_) <;> try ((refine wo_nilP [0, 2, 4, 5, 14, 15, 16, 22] ?_))))) | ((refine w_regI 4 ?_; try ((refine wo_v (ov_indexV Tryz.underlying166 sz165 Tryz.underlying165 rfl rfl rfl (by omega) (by omega) rfl) rfl rfl rfl ?_) <;> try ((refine wo_v (ov_assign rfl) rfl rfl rfl ?_) <;> try ((refine wo_nilP [0, 2, 4, 5, 14, 15, 16, 22] ?_)))))) | ((refine w_regI 5 ?_; try ((refine wo_v (ov_move rfl) rfl rfl rfl ?_) <;> try ((refine wo_v (ov_move rfl) rfl rfl rfl ?_) <;> try ((refine wo_callE (by repeat (first | exact Take.nil _ | apply Take.cons | exact Del1.head _ | apply Del1.tail | apply Del1.app)) hE rfl en158 rfl rfl (quoted_c mb gb s at_ at_ _ _ _ hc0 bs hl ha) ?_; rintro e post hq; rcases hq.elim with ⟨hd5, hr0, k, c', hkr, rfl, hc', rfl⟩ | ⟨hd5, hr0, c', q, rfl, hc', rfl⟩ | ⟨hd5, rfl, rfl⟩ <;> dsimp only <;> first | (refine wp_leave rfl (fun w_ hi_ => ?_)) | (have hk : 1 ≤ k := (by rw [hkr]; revert hr0; (repeat' split) <;> simp)) | skip) <;> try ((refine wo_v (ov_assign rfl) rfl rfl rfl ?_) <;> try ((refine wo_nilP [0, 2, 4, 5, 14, 15, 16, 22] ?_)))))))) | ((refine w_regI 6 ?_; try ((refine wo_v (ov_move rfl) rfl rfl rfl ?_) <;> try ((refine wo_v (ov_gtr3 rfl rfl (by first | exact decide_eq_true (by omega) | exact decide_eq_false (by omega) | exact rfl)) rfl rfl rfl ?_) <;> try ((refine wo_nilP [0, 2, 4, 5, 14, 15, 16, 22] ?_)))))) | ((refine w_regI 7 ?_; try ((refine wo_v (ov_move rfl) rfl rfl rfl ?_) <;> try ((refine wo_v (ov_assign rfl) rfl rfl rfl ?_) <;> try ((refine wo_nilP [0, 2, 4, 5, 14, 15, 16, 22] ?_)))))) | ((refine w_regI 8 ?_; try ((refine wo_v (ov_add_i64 rfl rfl (by omega) (by omega)) rfl rfl rfl ?_) <;> try ((refine wo_v (ov_move rfl) rfl rfl rfl ?_) <;> try ((refine wo_nilP [0, 2, 4, 5, 14, 15, 16, 22] ?_)))))))
  · exact ⟨_, hkr ▸ kindQ_yes (by unfold firstS; rw [if_neg hd0, if_neg hd1, if_neg hd2, if_neg hd3, if_neg hd4, if_pos hd5]) hr0 hc', hi_⟩
  · exact ⟨_, kindQ_bad (by unfold firstS; rw [if_neg hd0, if_neg hd1, if_neg hd2, if_neg hd3, if_neg hd4, if_pos hd5]) hr0 hc', hi_⟩
  refine w_inLoop ?_
  repeat' (first | (refine pf_keep rfl ?_) | (refine pf_drop rfl ?_) | (refine pf_nil ?_) | (refine w_seq ?_) | (refine w_condT rfl ?_) | (refine w_condF rfl ?_) | (refine w_block ?_) | (refine w_inBlock ?_) | (refine w_skip ?_) | (refine w_ret Tryz.func116 rfl (fun w_ hi_ => ?_)) | ((refine w_regI 3 ?_; try ((refine wo_v (ov_lss3 rfl rfl (by first | exact decide_eq_true (by omega) | exact decide_eq_false (by omega) | exact rfl)) rfl rfl rfl ?_) <;> try ((refine wo_nilP [0, 2, 4, 5, 14, 15, 16, 22] ?_))))) | ((refine w_regI 4 ?_; try ((refine wo_v (ov_indexV Tryz.underlying166 sz165 Tryz.underlying165 rfl rfl rfl (by omega) (by omega) rfl) rfl rfl rfl ?_) <;> try ((refine wo_v (ov_assign rfl) rfl rfl rfl ?_) <;> try ((refine wo_nilP [0, 2, 4, 5, 14, 15, 16, 22] ?_)))))) | ((refine w_regI 5 ?_; try ((refine wo_v (ov_move rfl) rfl rfl rfl ?_) <;> try ((refine wo_v (ov_move rfl) rfl rfl rfl ?_) <;> try ((refine wo_callE (by repeat (first | exact Take.nil _ | apply Take.cons | exact Del1.head _ | apply Del1.tail | apply Del1.app)) hE rfl en159 rfl rfl (sign_c mb gb s at_ at_ _ _ hc0 bs hl ha) ?_; rintro e post hq; rcases hq.elim with ⟨hd6, hr0, k, c', hkr, rfl, hc', rfl⟩ | ⟨hd6, hr0, c', q, rfl, hc', rfl⟩ | ⟨hd6, rfl, rfl⟩ <;> dsimp only <;> first | (refine wp_leave rfl (fun w_ hi_ => ?_)) | (have hk : 1 ≤ k := (by rw [hkr]; revert hr0; (repeat' split) <;> simp)) | skip) <;> try ((refine wo_v (ov_assign rfl) rfl rfl rfl ?_) <;> try ((refine wo_nilP [0, 2, 4, 5, 14, 15, 16, 22] ?_)))))))) | ((refine w_regI 6 ?_; try ((refine wo_v (ov_move rfl) rfl rfl rfl ?_) <;> try ((refine wo_v (ov_gtr3 rfl rfl (by first | exact decide_eq_true (by omega) | exact decide_eq_false (by omega) | exact rfl)) rfl rfl rfl ?_) <;> try ((refine wo_nilP [0, 2, 4, 5, 14, 15, 16, 22] ?_)))))) | ((refine w_regI 7 ?_; try ((refine wo_v (ov_move rfl) rfl rfl rfl ?_) <;> try ((refine wo_v (ov_assign rfl) rfl rfl rfl ?_) <;> try ((refine wo_nilP [0, 2, 4, 5, 14, 15, 16, 22] ?_)))))) | ((refine w_regI 8 ?_; try ((refine wo_v (ov_add_i64 rfl rfl (by omega) (by omega)) rfl rfl rfl ?_) <;> try ((refine wo_v (ov_move rfl) rfl rfl rfl ?_) <;> try ((refine wo_nilP [0, 2, 4, 5, 14, 15, 16, 22] ?_)))))))
  · exact ⟨_, hkr ▸ kindQ_yes ((first_sign hd0 hd1 hd2 hd3 hd4 hd5).trans (if_pos hd6)) hr0 hc', hi_⟩
  · exact ⟨_, kindQ_bad ((first_sign hd0 hd1 hd2 hd3 hd4 hd5).trans (if_pos hd6)) hr0 hc', hi_⟩
  refine w_inLoop ?_
  repeat' (first | (refine pf_keep rfl ?_) | (refine pf_drop rfl ?_) | (refine pf_nil ?_) | (refine w_seq ?_) | (refine w_condF rfl ?_) | (refine w_exit rfl ?_) | ((refine w_regI 3 ?_; try ((refine wo_v (ov_lss3 rfl rfl (by first | exact decide_eq_true (by omega) | exact decide_eq_false (by omega) | exact rfl)) rfl rfl rfl ?_) <;> try ((refine wo_nilP [0, 2, 4, 5, 14, 15, 16, 22] ?_))))) | ((refine w_regI 9 ?_; try ((refine wo_v (ov_iface Tryz.underlying109 rfl rfl) rfl rfl rfl ?_) <;> try ((refine wo_panic rfl rfl rfl ?_) <;> try ((refine wo_nilP [0, 2, 4, 5, 14, 15, 16, 22] ?_)))))))
  refine wp_leave rfl (fun w_ hi_ => ?_)
  exact ⟨_, kindQ_bad (r := (0, 0, 10)) ((first_sign hd0 hd1 hd2 hd3 hd4 hd5).trans (if_neg hd6)) (by show (10 : Int) ≠ 0; decide) hc0, hi_⟩
end Go.Sl
namespace Go.Sl
open Go Go.Proofs
set_option maxRecDepth 100000
set_option maxHeartbeats 2000000
set_option linter.unusedSimpArgs false
set_option linter.unusedVariables false
attribute [local irreducible] Calls

theorem pieS_bd : ∀ (n : Nat) (s : List UInt8), s.length ≤ n → (pieS s).1.length ≤ s.length ∧ ∀ x ∈ (pieS s).1, x.2.length ≤ s.length
  | 0, s, h => by rw [pieS, dif_pos (by omega)]; simp
  | n + 1, s, h => by
    rw [pieS]
    by_cases h0 : s.length = 0
    · rw [dif_pos h0]; simp
    rw [dif_neg h0]
    by_cases h1 : (firstS s).2.2 = 0
    · rw [dif_pos h1]
      obtain ⟨l1, l2⟩ := firstS_len s (by omega) h1
      obtain ⟨i1, i2⟩ := pieS_bd n (s.drop (firstS s).2.1) (by simp only [List.length_drop]; omega)
      simp only [List.length_drop] at i1 i2
      refine ⟨by simp only [List.length_cons]; omega, fun x hx => ?_⟩
      rcases List.mem_cons.1 hx with rfl | hx
      · simp only [List.length_take]; omega
      · have := i2 x hx; omega
    · rw [dif_neg h1]; simp
theorem pieR_bd (s : List UInt8) : (pieR s).1.length ≤ 20000 ∧ ∀ x ∈ (pieR s).1, x.2.length ≤ 20000 := by
  unfold pieR
  split
  · simp
  · obtain ⟨h1, h2⟩ := pieS_bd s.length s (Nat.le_refl _)
    cases he : (pieS s).2 with
    | none => simp only; exact ⟨by omega, fun x hx => by have := h2 x hx; omega⟩
    | some q => simp

/-- The tokens that pieces become, from a line on. -/
def tokS : List (Int × List UInt8) → Int → List (Int × List UInt8 × Int)
  | [], _ => []
  | x :: r, line => if x.1 ≤ 5 then (x.1, x.2, line) :: tokS r (line + fds x.2) else tokS r (line + fds x.2)
def tokV (b : Int × List UInt8 × Int) : List Value := [.int .u8 b.1, str b.2.1, .int .i64 b.2.2]
theorem tokV_len (b : Int × List UInt8 × Int) : (tokV b).length = 3 := rfl
theorem rowE_some {b : Nat} {xs rst : List Value} {el : TypeId} : rowE (some b) xs rst el = [⟨b, true, .cells (xs ++ rst).toArray el (0, 0)⟩] := rfl
theorem fold2 (a b c d : Value) : List.foldl (fun (c : Array Value) (p : Value × Nat) => c.setIfInBounds p.2 p.1) #[a, b] (List.zipIdx [c, d]) = #[c, d] := rfl

theorem scan_c (s : List UInt8) (hl : s.length < 4611686018427387904) (w : World) : Calls Tryz.prog 22 #[str s] w (Ret none_ w fun v Hn => ∃ r, v = .tuple #[r, refV (pieR s).2.1 (pieR s).2.2] ∧ RowOf tokV 3 53 (tokS (pieR s).1 1) r Hn) := by
  obtain ⟨hp1, hp2⟩ := pieR_bd s
  refine calls_of_WF Tryz.func22 rfl rfl (Inv.start none_ w) ?_
  repeat' (first | (refine pf_keep rfl ?_) | (refine pf_drop rfl ?_) | (refine pf_nil ?_) | (refine w_seq ?_) | (refine w_block ?_) | ((refine w_regI 0 ?_; try ((refine wo_v (ov_assign rfl) rfl rfl rfl ?_) <;> try ((refine wo_alloc inf30 rfl rfl rfl rfl (fun b_ hb_ => ?_)) <;> try ((refine wo_nilP [0, 2, 3, 4, 5, 6, 7, 8, 15, 16, 17, 24] ?_)))))) | ((refine w_regI 1 ?_; try ((refine wo_v (ov_move rfl) rfl rfl rfl ?_) <;> try ((refine wo_call0 rfl en20 rfl rfl (fun w _ => pieces_c s hl w) ?_; rintro v Hn ⟨r, rfl, ⟨⟨b, cap, rst, rfl, rfl, hb, hc⟩⟩⟩) <;> try ((refine wo_v (ov_move rfl) rfl rfl rfl ?_) <;> try ((refine wo_v (ov_extract rfl rfl) rfl rfl rfl ?_) <;> try ((refine wo_v (ov_extract rfl rfl) rfl rfl rfl ?_) <;> try ((refine wo_alloc inf30 rfl rfl rfl rfl (fun b_ hb_ => ?_)) <;> try ((refine wo_v (ov_assign rfl) rfl rfl rfl ?_) <;> try ((refine wo_storeC rfl rfl rfl sz30 (by repeat (first | exact .head _ | apply Upd.tail | apply Upd.app)) (by first | rfl | simp) rfl rfl ?_) <;> try ((refine wo_nilP [0, 2, 3, 4, 5, 6, 7, 8, 15, 16, 17, 24] ?_)))))))))))) | ((refine w_regI 2 ?_; try ((refine wo_v (ov_assign rfl) rfl rfl rfl ?_) <;> try ((refine wo_nilP [0, 2, 3, 4, 5, 6, 7, 8, 15, 16, 17, 24] ?_))))) | ((refine w_regI 3 ?_; try ((refine wo_v (ov_assign rfl) rfl rfl rfl ?_) <;> try ((refine wo_nilP [0, 2, 3, 4, 5, 6, 7, 8, 15, 16, 17, 24] ?_))))) | ((refine w_regI 4 ?_; try ((refine wo_v (ov_move rfl) rfl rfl rfl ?_) <;> try ((refine wo_v (ov_lenL rfl Tryz.underlying28 rfl) rfl rfl rfl ?_) <;> try ((refine wo_v (ov_move rfl) rfl rfl rfl ?_) <;> try ((refine wo_nilP [0, 2, 3, 4, 5, 6, 7, 8, 15, 16, 17, 24] ?_))))))))
  generalize (pieR s).1 = ps at *
  generalize (pieR s).2.1 = ec at *
  generalize (pieR s).2.2 = el at *
  rename_i b0 hb0
  refine w_weak (E' := (fun q : Nat × Int × List (Int × List UInt8 × Int) × Option Nat × Nat × Nat × List Value × List Value => [(3, .pointer (some ⟨b0, 0, none⟩)), (4, .slice (b.map fun b => ⟨b, 0, none⟩) ps.length cap), (5, .pointer (some ⟨b_, 0, none⟩)), (6, .slice (q.2.2.2.1.map fun b => ⟨b, 0, none⟩) q.2.2.2.2.1 q.2.2.2.2.2.1), (7, .int .i64 q.2.1), (15, .int .i64 (ps.length : Int)), (16, .int .i64 (q.1 : Int))]) ((0 : Nat), (1 : Int), [], none, 0, 0, [], [])) (by repeat (first | exact sub_nil _ | refine sub_cons rfl ?_)) ?_
  refine w_while (fun q => q.1 ≤ ps.length ∧ tokS ps 1 = q.2.2.1 ++ tokS (ps.drop q.1) q.2.1 ∧ (1 ≤ q.2.1 ∧ q.2.1 ≤ 1 + (q.1 : Int) * 20000) ∧ q.2.2.2.2.1 = q.2.2.1.length ∧ q.2.2.1.length ≤ q.1 ∧ (q.2.2.2.1 = none → q.2.2.2.2.2.1 = 0 ∧ q.2.2.1 = []) ∧ q.2.2.2.2.2.2.1 = rowV tokV q.2.2.1 ∧ q.2.2.2.2.2.2.1.length + q.2.2.2.2.2.2.2.length = q.2.2.2.2.2.1 * 3) (fun q => ps.length - q.1) (fun q : Nat × Int × List (Int × List UInt8 × Int) × Option Nat × Nat × Nat × List Value × List Value => [(3, .pointer (some ⟨b0, 0, none⟩)), (4, .slice (b.map fun b => ⟨b, 0, none⟩) ps.length cap), (5, .pointer (some ⟨b_, 0, none⟩)), (6, .slice (q.2.2.2.1.map fun b => ⟨b, 0, none⟩) q.2.2.2.2.1 q.2.2.2.2.2.1), (7, .int .i64 q.2.1), (15, .int .i64 (ps.length : Int)), (16, .int .i64 (q.1 : Int))]) (fun q : Nat × Int × List (Int × List UInt8 × Int) × Option Nat × Nat × Nat × List Value × List Value => rowE q.2.2.2.1 q.2.2.2.2.2.2.1 q.2.2.2.2.2.2.2 53 ++ (⟨b_, true, .cells #[.int .i64 ec, .int .i64 el] 30 (0, 0)⟩ :: (rowE b (rowV bitV ps) rst 34 ++ [⟨b0, true, .cells #[.int .i64 0, .int .i64 0] 30 (0, 0)⟩]))) ?_ ((0 : Nat), (1 : Int), [], none, 0, 0, [], []) ⟨by simp, by simp, ⟨by simp, by simp⟩, rfl, by simp, fun _ => ⟨rfl, rfl⟩, rfl, rfl⟩
  rintro ⟨i, line, ts, b2, n, cap2, xs, rst2⟩ ⟨h1, h2, ⟨h3, h3'⟩, h4, h5, h6, h7, h8⟩ ih
  dsimp only at h1 h2 h3 h3' h4 h5 h6 h7 h8 ⊢
  subst h4 h7
  by_cases hi : i < ps.length
  · obtain ⟨bb, rfl⟩ : ∃ bb, b = some bb := by
      cases b with
      | none => have := (hb rfl).2; subst this; simp at hi
      | some bb => exact ⟨bb, rfl⟩
    have hk0 : ((rowV bitV ps ++ rst).toArray)[0 + (i : Int).toNat * 2 + 0]? = some (.int .u8 ps[i].1) := row_at bitV (i := 0) bitV_len hi (by omega) (by simp)
    have hk1 : ((rowV bitV ps ++ rst).toArray)[0 + (i : Int).toNat * 2 + 1]? = some (str ps[i].2) := row_at bitV (i := 1) bitV_len hi (by omega) (by simp)
    have hk2 := hp2 ps[i] (List.getElem_mem hi)
    have hk3 := fds_le ps[i].2
    have hk4 : tokS (ps.drop i) line = if ps[i].1 ≤ 5 then (ps[i].1, ps[i].2, line) :: tokS (ps.drop (i + 1)) (line + fds ps[i].2) else tokS (ps.drop (i + 1)) (line + fds ps[i].2) := by rw [List.drop_eq_getElem_cons hi, tokS]
    generalize ps[i].1 = pk at *
    generalize ps[i].2 = pt at *
    simp only [rowE_some, Option.map_some, List.cons_append, List.nil_append] at ih ⊢
    repeat' (first | (refine pf_keep rfl ?_) | (refine pf_drop rfl ?_) | (refine pf_nil ?_) | (refine w_seq ?_) | (refine w_condT rfl ?_) | (refine w_condD rfl (fun h => ?_) (fun h => ?_)) | (refine w_block ?_) | (refine w_inBlock ?_) | (refine w_skip ?_) | ((refine w_regI 5 ?_; try ((refine wo_v (ov_lss3 rfl rfl (by first | exact decide_eq_true (by omega) | exact decide_eq_false (by omega) | exact rfl)) rfl rfl rfl ?_) <;> try ((refine wo_nilP [0, 2, 3, 4, 5, 6, 7, 8, 15, 16, 17, 24] ?_))))) | ((refine w_regI 6 ?_; try ((refine wo_v (ov_move rfl) rfl rfl rfl ?_) <;> try ((refine wo_v (ov_assign rfl) rfl rfl rfl ?_) <;> try ((refine wo_nilP [0, 2, 3, 4, 5, 6, 7, 8, 15, 16, 17, 24] ?_)))))) | ((refine w_regI 7 ?_; try ((refine wo_v (ov_move rfl) rfl rfl rfl ?_) <;> try ((refine wo_v (ov_move rfl) rfl rfl rfl ?_) <;> try ((refine wo_v (ov_indexAddr Tryz.underlying28 sz34 rfl rfl (by omega) (by omega)) rfl rfl rfl ?_) <;> try ((refine wo_v (ov_fieldAddr fo34_0 rfl) rfl rfl rfl ?_) <;> try ((refine wo_v (ov_load Tryz.underlying5 rfl rfl (by repeat (first | exact .head _ | refine .tail _ ?_ | refine List.mem_append_right _ ?_)) (by first | rfl | assumption | simp)) rfl rfl rfl ?_) <;> try ((refine wo_v (ov_leq3 rfl rfl (by first | exact decide_eq_true (by omega) | exact decide_eq_false (by omega) | exact rfl)) rfl rfl rfl ?_) <;> try ((refine wo_nilP [0, 2, 3, 4, 5, 6, 7, 8, 15, 16, 17, 24] ?_)))))))))) | ((refine w_regA (m := 16) 8 rfl mixed rfl ?_; try ((refine wa_take 0 rfl (fun _ => ov_move rfl) (by kernel_rfl) (by kernel_rfl) (by kernel_rfl) rfl rfl rfl rfl ?_) <;> try ((refine wa_take 1 rfl (fun _ => ov_move rfl) (by kernel_rfl) (by kernel_rfl) (by kernel_rfl) rfl rfl rfl rfl ?_) <;> try ((refine wa_take 2 rfl (fun _ => ov_move rfl) (by kernel_rfl) (by kernel_rfl) (by kernel_rfl) rfl rfl rfl rfl ?_) <;> try ((refine wa_take 3 rfl (fun _ => ov_indexAddr Tryz.underlying28 sz34 rfl rfl (by omega) (by omega)) (by kernel_rfl) (by kernel_rfl) (by kernel_rfl) rfl rfl rfl rfl ?_) <;> try ((refine wa_take 4 rfl (fun _ => ov_fieldAddr fo34_0 rfl) (by kernel_rfl) (by kernel_rfl) (by kernel_rfl) rfl rfl rfl rfl ?_) <;> try ((refine wa_take 6 rfl (fun _ => ov_move rfl) (by kernel_rfl) (by kernel_rfl) (by kernel_rfl) rfl rfl rfl rfl ?_) <;> try ((refine wa_take 7 rfl (fun _ => ov_move rfl) (by kernel_rfl) (by kernel_rfl) (by kernel_rfl) rfl rfl rfl rfl ?_) <;> try ((refine wa_take 8 rfl (fun _ => ov_indexAddr Tryz.underlying28 sz34 rfl rfl (by omega) (by omega)) (by kernel_rfl) (by kernel_rfl) (by kernel_rfl) rfl rfl rfl rfl ?_) <;> try ((refine wa_take 9 rfl (fun _ => ov_fieldAddr fo34_1 rfl) (by kernel_rfl) (by kernel_rfl) (by kernel_rfl) rfl rfl rfl rfl ?_) <;> try ((refine wa_take 11 rfl (fun _ => ov_move rfl) (by kernel_rfl) (by kernel_rfl) (by kernel_rfl) rfl rfl rfl rfl ?_) <;> try (refine wa_two 5 10 (by kernel_rfl) ?_ ?_ <;> (first | (show WI _ _ _ _ _ _ 5 _ _ _ _; try ((refine wi_v rfl (ov_load Tryz.underlying5 rfl rfl (by repeat (first | exact .head _ | refine .tail _ ?_ | refine List.mem_append_right _ ?_)) (by first | rfl | assumption | simp)) rfl rfl rfl ?_) <;> try (refine wa_one 10 (by kernel_rfl) ?_ <;> try ((refine wi_v rfl (ov_load Tryz.underlying9 rfl rfl (by repeat (first | exact .head _ | refine .tail _ ?_ | refine List.mem_append_right _ ?_)) (by first | rfl | assumption | simp)) rfl rfl rfl ?_) <;> try ((refine wa_take 12 rfl (fun _ => ov_bldC pl53 inf53 rfl rfl rfl rfl rfl rfl rfl) (by kernel_rfl) (by kernel_rfl) (by kernel_rfl) rfl rfl rfl rfl ?_) <;> try (refine wa_one 13 (by kernel_rfl) ?_ <;> try ((refine wi_bsA3 rfl Tryz.underlying37 inf53 rfl rfl rfl rfl rfl rfl (fun bb_ hb_ => ?_)) <;> try (refine wa_one 14 (by kernel_rfl) ?_ <;> try ((refine wi_append (sz := 3) (base := b2) (xs := rowV tokV ts) (rst := rst2) rfl rfl rfl Tryz.underlying37 Tryz.underlying37 rfl inf53 rfl (by decide) rfl rfl (rowV_len tokV tokV_len ts) h8 (rowAt1 (fun e => (h6 e).1)) (.head _) (new := tokV (pk, pt, line)) rfl (by simp) (List.all_eq_true.1 rfl) (by show (2 * (ts.length + 1) + 192) * 32 ≤ _; omega) (by omega) (by omega) rfl rfl rfl (fun b2_ cap_ rst_ hc_ hn_ => ?_)) <;> try ((refine wa_take 15 rfl (fun _ => ov_assign rfl) (by kernel_rfl) (by kernel_rfl) (by kernel_rfl) rfl rfl rfl rfl ?_) <;> try ((refine wa_done [0, 2, 3, 4, 5, 6, 7, 8, 15, 16, 17, 24] (by kernel_rfl) ?_)))))))))))) | (show WI _ _ _ _ _ _ 10 _ _ _ _; try ((refine wi_v rfl (ov_load Tryz.underlying9 rfl rfl (by repeat (first | exact .head _ | refine .tail _ ?_ | refine List.mem_append_right _ ?_)) (by first | rfl | assumption | simp)) rfl rfl rfl ?_) <;> try (refine wa_one 5 (by kernel_rfl) ?_ <;> try ((refine wi_v rfl (ov_load Tryz.underlying5 rfl rfl (by repeat (first | exact .head _ | refine .tail _ ?_ | refine List.mem_append_right _ ?_)) (by first | rfl | assumption | simp)) rfl rfl rfl ?_) <;> try ((refine wa_take 12 rfl (fun _ => ov_bldC pl53 inf53 rfl rfl rfl rfl rfl rfl rfl) (by kernel_rfl) (by kernel_rfl) (by kernel_rfl) rfl rfl rfl rfl ?_) <;> try (refine wa_one 13 (by kernel_rfl) ?_ <;> try ((refine wi_bsA3 rfl Tryz.underlying37 inf53 rfl rfl rfl rfl rfl rfl (fun bb_ hb_ => ?_)) <;> try (refine wa_one 14 (by kernel_rfl) ?_ <;> try ((refine wi_append (sz := 3) (base := b2) (xs := rowV tokV ts) (rst := rst2) rfl rfl rfl Tryz.underlying37 Tryz.underlying37 rfl inf53 rfl (by decide) rfl rfl (rowV_len tokV tokV_len ts) h8 (rowAt1 (fun e => (h6 e).1)) (.head _) (new := tokV (pk, pt, line)) rfl (by simp) (List.all_eq_true.1 rfl) (by show (2 * (ts.length + 1) + 192) * 32 ≤ _; omega) (by omega) (by omega) rfl rfl rfl (fun b2_ cap_ rst_ hc_ hn_ => ?_)) <;> try ((refine wa_take 15 rfl (fun _ => ov_assign rfl) (by kernel_rfl) (by kernel_rfl) (by kernel_rfl) rfl rfl rfl rfl ?_) <;> try ((refine wa_done [0, 2, 3, 4, 5, 6, 7, 8, 15, 16, 17, 24] (by kernel_rfl) ?_)))))))))))))))))))))))))) | ((refine w_regI 9 ?_; try ((refine wo_v (ov_move rfl) rfl rfl rfl ?_) <;> try ((refine wo_v (ov_move rfl) rfl rfl rfl ?_) <;> try ((refine wo_v (ov_move rfl) rfl rfl rfl ?_) <;> try ((refine wo_v (ov_indexAddr Tryz.underlying28 sz34 rfl rfl (by omega) (by omega)) rfl rfl rfl ?_) <;> try ((refine wo_v (ov_fieldAddr fo34_1 rfl) rfl rfl rfl ?_) <;> try ((refine wo_v (ov_load Tryz.underlying9 rfl rfl (by repeat (first | exact .head _ | refine .tail _ ?_ | refine List.mem_append_right _ ?_)) (by first | rfl | assumption | simp)) rfl rfl rfl ?_) <;> try ((refine wo_v (ov_call rfl en57 (fun w hi => feeds_c _ (by omega) w)) rfl rfl rfl ?_) <;> try ((refine wo_v (ov_add_i64 rfl rfl (by omega) (by omega)) rfl rfl rfl ?_) <;> try ((refine wo_v (ov_assign rfl) rfl rfl rfl ?_) <;> try ((refine wo_nilP [0, 2, 3, 4, 5, 6, 7, 8, 15, 16, 17, 24] ?_))))))))))))) | ((refine w_regI 10 ?_; try ((refine wo_v (ov_add_i64 rfl rfl (by omega) (by omega)) rfl rfl rfl ?_) <;> try ((refine wo_v (ov_move rfl) rfl rfl rfl ?_) <;> try ((refine wo_nilP [0, 2, 3, 4, 5, 6, 7, 8, 15, 16, 17, 24] ?_)))))))
    · rw [if_pos (by assumption)] at hk4
      refine w_drop (.cons_cons _ (.cons _ (List.Sublist.refl _))) ?_
      refine w_weak (E' := (fun q : Nat × Int × List (Int × List UInt8 × Int) × Option Nat × Nat × Nat × List Value × List Value => [(3, .pointer (some ⟨b0, 0, none⟩)), (4, .slice ((some bb).map fun b => ⟨b, 0, none⟩) ps.length cap), (5, .pointer (some ⟨b_, 0, none⟩)), (6, .slice (q.2.2.2.1.map fun b => ⟨b, 0, none⟩) q.2.2.2.2.1 q.2.2.2.2.2.1), (7, .int .i64 q.2.1), (15, .int .i64 (ps.length : Int)), (16, .int .i64 (q.1 : Int))]) (i + 1, line + (fds pt : Int), ts ++ [(pk, pt, line)], some b2_, ts.length + 1, cap_, rowV tokV ts ++ tokV (pk, pt, line), rst_)) (by repeat (first | exact sub_nil _ | refine sub_cons rfl ?_)) (ih (i + 1, line + (fds pt : Int), ts ++ [(pk, pt, line)], some b2_, ts.length + 1, cap_, rowV tokV ts ++ tokV (pk, pt, line), rst_) ⟨hi, by rw [h2, hk4]; simp, ⟨by simp only; omega, by simp only; omega⟩, by simp, by simp; omega, fun e => by simp at e, (rowV_snoc tokV _ _).symm, hc_⟩ (by simp only; omega))
    · rw [if_pos (by assumption)] at hk4
      refine w_drop (.cons_cons _ (.cons _ (List.Sublist.refl _))) ?_
      refine w_weak (E' := (fun q : Nat × Int × List (Int × List UInt8 × Int) × Option Nat × Nat × Nat × List Value × List Value => [(3, .pointer (some ⟨b0, 0, none⟩)), (4, .slice ((some bb).map fun b => ⟨b, 0, none⟩) ps.length cap), (5, .pointer (some ⟨b_, 0, none⟩)), (6, .slice (q.2.2.2.1.map fun b => ⟨b, 0, none⟩) q.2.2.2.2.1 q.2.2.2.2.2.1), (7, .int .i64 q.2.1), (15, .int .i64 (ps.length : Int)), (16, .int .i64 (q.1 : Int))]) (i + 1, line + (fds pt : Int), ts ++ [(pk, pt, line)], some b2_, ts.length + 1, cap_, rowV tokV ts ++ tokV (pk, pt, line), rst_)) (by repeat (first | exact sub_nil _ | refine sub_cons rfl ?_)) (ih (i + 1, line + (fds pt : Int), ts ++ [(pk, pt, line)], some b2_, ts.length + 1, cap_, rowV tokV ts ++ tokV (pk, pt, line), rst_) ⟨hi, by rw [h2, hk4]; simp, ⟨by simp only; omega, by simp only; omega⟩, by simp, by simp; omega, fun e => by simp at e, (rowV_snoc tokV _ _).symm, hc_⟩ (by simp only; omega))
    · rw [if_neg (by assumption)] at hk4
      refine w_weak (E' := (fun q : Nat × Int × List (Int × List UInt8 × Int) × Option Nat × Nat × Nat × List Value × List Value => [(3, .pointer (some ⟨b0, 0, none⟩)), (4, .slice ((some bb).map fun b => ⟨b, 0, none⟩) ps.length cap), (5, .pointer (some ⟨b_, 0, none⟩)), (6, .slice (q.2.2.2.1.map fun b => ⟨b, 0, none⟩) q.2.2.2.2.1 q.2.2.2.2.2.1), (7, .int .i64 q.2.1), (15, .int .i64 (ps.length : Int)), (16, .int .i64 (q.1 : Int))]) (i + 1, line + (fds pt : Int), ts, b2, ts.length, cap2, rowV tokV ts, rst2)) (by repeat (first | exact sub_nil _ | refine sub_cons rfl ?_)) (ih (i + 1, line + (fds pt : Int), ts, b2, ts.length, cap2, rowV tokV ts, rst2) ⟨hi, by rw [h2, hk4], ⟨by simp only; omega, by simp only; omega⟩, rfl, by simp only; omega, h6, rfl, h8⟩ (by simp only; omega))
  · have hts : tokS ps 1 = ts := by rw [h2, List.drop_eq_nil_of_le (by omega), tokS, List.append_nil]
    repeat' (first | (refine pf_keep rfl ?_) | (refine pf_drop rfl ?_) | (refine pf_nil ?_) | (refine w_seq ?_) | (refine w_condF rfl ?_) | (refine w_exit rfl ?_) | (refine w_retM Tryz.func22 (.tmp rfl (.cellA rfl Tryz.underlying30 rfl inf30 (by repeat (first | exact .head _ | refine .tail _ ?_ | refine List.mem_append_right _ ?_)) rfl (.nil))) (fun w_ hi_ => ?_)) | ((refine w_regI 5 ?_; try ((refine wo_v (ov_lss3 rfl rfl (by first | exact decide_eq_true (by omega) | exact decide_eq_false (by omega) | exact rfl)) rfl rfl rfl ?_) <;> try ((refine wo_nilP [0, 2, 3, 4, 5, 6, 7, 8, 15, 16, 17, 24] ?_))))) | ((refine w_regA (m := 4) 11 rfl mixed rfl ?_; try ((refine wa_take 0 rfl (fun _ => ov_move rfl) (by kernel_rfl) (by kernel_rfl) (by kernel_rfl) rfl rfl rfl rfl ?_) <;> try ((refine wa_take 2 rfl (fun _ => ov_assign rfl) (by kernel_rfl) (by kernel_rfl) (by kernel_rfl) rfl rfl rfl rfl ?_) <;> try (refine wa_one 1 (by kernel_rfl) ?_ <;> try ((refine wi_v rfl (ov_loadW Tryz.underlying30 rfl inf30 rfl (by repeat (first | exact .head _ | refine .tail _ ?_ | refine List.mem_append_right _ ?_)) (by first | rfl | simp)) rfl rfl rfl ?_) <;> try (refine wa_one 3 (by kernel_rfl) ?_ <;> try ((refine wi_storeC rfl rfl rfl rfl sz30 (by repeat (first | exact .head _ | apply Upd.tail | apply Upd.app)) (by first | rfl | simp) rfl rfl rfl ?_) <;> try ((refine wa_done [0, 2, 3, 4, 5, 6, 7, 8, 15, 16, 17, 24] (by kernel_rfl) ?_)))))))))))
    refine ⟨_, _, rfl, ⟨_, rfl, ⟨⟨b2, cap2, rst2, ?_, rfl, ?_, ?_⟩⟩⟩, hi_.subset ?_, rowE_rw⟩
    · rw [hts]
    · rw [hts]; exact h6
    · rw [hts]; exact h8
    · rw [hts]; exact List.sublist_append_left _ _
end Go.Sl
namespace Go.Sl
open Go Go.Proofs
set_option maxRecDepth 100000
set_option maxHeartbeats 2000000
set_option linter.unusedSimpArgs false
set_option linter.unusedVariables false
attribute [local irreducible] Calls

def fairP (s : List UInt8) : Prop := s.length ≤ 1200 ∨ (20000 < s.length ∧ s.length ≤ 20020)
instance (s : List UInt8) : Decidable (fairP s) := inferInstanceAs (Decidable (_ ∨ _))
theorem fair_c (s : List UInt8) (w : World) : Calls Tryz.prog 19 #[str s] w fun e w' => e = .returned (.bool (decide (fairP s))) ∧ Fr none_ w w' := by
  refine calls_of_WF Tryz.func19 rfl rfl (Inv.start none_ w) ?_
  repeat' (first | (refine pf_keep rfl ?_) | (refine pf_drop rfl ?_) | (refine pf_nil ?_) | (refine w_seq ?_) | (refine w_ret Tryz.func19 rfl (fun w_ hi_ => ?_)) | ((refine w_regI 0 ?_; try ((refine wo_v (ov_assign rfl) rfl rfl rfl ?_) <;> try ((refine wo_nilP [0, 2] ?_))))) | ((refine w_regI 1 ?_; try ((refine wo_v (ov_move rfl) rfl rfl rfl ?_) <;> try ((refine wo_v (ov_lenS rfl Tryz.underlying9 rfl) rfl rfl rfl ?_) <;> try ((refine wo_v (ov_leq3 rfl rfl (by first | exact decide_eq_true (by omega) | exact decide_eq_false (by omega) | exact rfl)) rfl rfl rfl ?_) <;> try ((refine wo_v (ov_move rfl) rfl rfl rfl ?_) <;> try (((refine wo_gs rfl rfl (fun h => ?_) (fun h => ?_)) <;> (first | (refine wo_skip rfl rfl ?_) | ((refine wo_v (ov_move rfl) rfl rfl rfl ?_)))) <;> try ((first | (refine wo_skip rfl rfl ?_) | ((refine wo_v (ov_lenS rfl Tryz.underlying9 rfl) rfl rfl rfl ?_))) <;> try ((first | (refine wo_skip rfl rfl ?_) | ((refine wo_v (ov_gtr3 rfl rfl (by first | exact decide_eq_true (by omega) | exact decide_eq_false (by omega) | exact rfl)) rfl rfl rfl ?_))) <;> try ((first | (refine wo_skip rfl rfl ?_) | ((refine wo_v (ov_move rfl) rfl rfl rfl ?_))) <;> try ((first | (refine wo_skip rfl rfl ?_) | ((refine wo_gs rfl rfl (fun h => ?_) (fun h => ?_)) <;> (first | (refine wo_skip rfl rfl ?_) | ((refine wo_v (ov_move rfl) rfl rfl rfl ?_))))) <;> try ((first | (refine wo_skip rfl rfl ?_) | ((refine wo_v (ov_lenS rfl Tryz.underlying9 rfl) rfl rfl rfl ?_))) <;> try ((first | (refine wo_skip rfl rfl ?_) | ((refine wo_v (ov_leq3 rfl rfl (by first | exact decide_eq_true (by omega) | exact decide_eq_false (by omega) | exact rfl)) rfl rfl rfl ?_))) <;> try ((first | (refine wo_skip rfl rfl ?_) | ((first | (refine wo_v (ov_pickT rfl rfl) rfl rfl rfl ?_) | (refine wo_v (ov_pickF rfl rfl) rfl rfl rfl ?_)))) <;> try ((first | (refine wo_v (ov_pickT rfl rfl) rfl rfl rfl ?_) | (refine wo_v (ov_pickF rfl rfl) rfl rfl rfl ?_)) <;> try ((refine wo_v (ov_assign rfl) rfl rfl rfl ?_) <;> try ((refine wo_nilP [0, 2] ?_)))))))))))))))))))
  all_goals
    refine ⟨?_, hi_.fr⟩
    show Ending.returned (Value.bool _) = Ending.returned (Value.bool _)
    congr 2
    try simp only [fairP]
    first | (rw [decide_eq_true (by omega)]; done) | (rw [decide_eq_false (by omega)]; done) | (apply decide_eq_decide.2; omega) | (symm; apply decide_eq_true; omega) | (symm; apply decide_eq_false; omega)

def joinS (ps : List (Int × List UInt8)) : List UInt8 := ps.flatMap (·.2)
theorem joinS_len (ps : List (Int × List UInt8)) (n : Nat) (h : ∀ x ∈ ps, x.2.length ≤ n) : (joinS ps).length ≤ ps.length * n := by
  induction ps with
  | nil => simp [joinS]
  | cons x r ih =>
    have h1 := h x (.head _)
    have h2 := ih fun y hy => h y (.tail _ hy)
    simp only [joinS, List.flatMap_cons, List.length_append, List.length_cons, Nat.succ_mul] at h2 ⊢
    omega

theorem joined_c (ps : List (Int × List UInt8)) (hp1 : ps.length ≤ 20000) (hp2 : ∀ x ∈ ps, x.2.length ≤ 20020) (b : Option Nat) (cap : Nat) (rst : List Value) (hb : b = none → ps = []) (w : World) (hi : Inv none_ w (rowK b (rowV bitV ps) rst 34) w) :
    Calls Tryz.prog 33 #[.slice (b.map fun b => ⟨b, 0, none⟩) ps.length cap] w fun e w' => e = .returned (str (joinS ps)) ∧ Fr none_ w w' := by
  refine calls_of_WF Tryz.func33 rfl rfl (hi) ?_
  repeat' (first | (refine pf_keep rfl ?_) | (refine pf_drop rfl ?_) | (refine pf_nil ?_) | (refine w_seq ?_) | (refine w_block ?_) | ((refine w_regI 0 ?_; try ((refine wo_v (ov_assign rfl) rfl rfl rfl ?_) <;> try ((refine wo_nilP [0, 2, 3, 4, 6, 7, 8] ?_))))) | ((refine w_regI 1 ?_; try ((refine wo_v (ov_assign rfl) rfl rfl rfl ?_) <;> try ((refine wo_nilP [0, 2, 3, 4, 6, 7, 8] ?_))))) | ((refine w_regI 2 ?_; try ((refine wo_v (ov_move rfl) rfl rfl rfl ?_) <;> try ((refine wo_v (ov_lenL rfl Tryz.underlying28 rfl) rfl rfl rfl ?_) <;> try ((refine wo_v (ov_move rfl) rfl rfl rfl ?_) <;> try ((refine wo_nilP [0, 2, 3, 4, 6, 7, 8] ?_))))))))
  refine w_weak (E' := (fun i : Nat => [(0, .slice (b.map fun b => ⟨b, 0, none⟩) ps.length cap), (3, str (joinS (ps.take i))), (6, .int .i64 (ps.length : Int)), (7, .int .i64 (i : Int))]) 0) (by repeat (first | exact sub_nil _ | refine sub_cons rfl ?_)) ?_
  refine w_while (fun i : Nat => i ≤ ps.length) (fun i => ps.length - i) (fun i : Nat => [(0, .slice (b.map fun b => ⟨b, 0, none⟩) ps.length cap), (3, str (joinS (ps.take i))), (6, .int .i64 (ps.length : Int)), (7, .int .i64 (i : Int))]) (fun _ => _) ?_ 0 (by omega)
  intro i h1 ih
  have hj := joinS_len (ps.take i) 20020 (fun x hx => hp2 x (List.mem_of_mem_take hx))
  simp only [List.length_take] at hj
  have hj2 : min i ps.length * 20020 ≤ 20000 * 20020 := Nat.mul_le_mul_right _ (by omega)
  by_cases h2 : i < ps.length
  · obtain ⟨bb, rfl⟩ : ∃ bb, b = some bb := by
      cases b with
      | none => have := hb rfl; subst this; simp at h2
      | some bb => exact ⟨bb, rfl⟩
    have hk1 : ((rowV bitV ps ++ rst).toArray)[0 + (i : Int).toNat * 2 + 1]? = some (str ps[i].2) := row_at bitV (i := 1) bitV_len h2 (by omega) (by simp)
    have hk2 := hp2 ps[i] (List.getElem_mem h2)
    have hk3 : joinS (ps.take (i + 1)) = joinS (ps.take i) ++ ps[i].2 := by
      rw [List.take_succ_eq_append_getElem h2]; unfold joinS; rw [List.flatMap_append, List.flatMap_singleton]
    generalize ps[i].2 = pt at *
    simp only [rowK_some, Option.map_some] at ih ⊢
    repeat' (first | (refine pf_keep rfl ?_) | (refine pf_drop rfl ?_) | (refine pf_nil ?_) | (refine w_seq ?_) | (refine w_condT rfl ?_) | (refine w_block ?_) | (refine w_inBlock ?_) | (refine w_skip ?_) | ((refine w_regI 3 ?_; try ((refine wo_v (ov_lss3 rfl rfl (by first | exact decide_eq_true (by omega) | exact decide_eq_false (by omega) | exact rfl)) rfl rfl rfl ?_) <;> try ((refine wo_nilP [0, 2, 3, 4, 6, 7, 8] ?_))))) | ((refine w_regI 4 ?_; try ((refine wo_v (ov_move rfl) rfl rfl rfl ?_) <;> try ((refine wo_v (ov_assign rfl) rfl rfl rfl ?_) <;> try ((refine wo_nilP [0, 2, 3, 4, 6, 7, 8] ?_)))))) | ((refine w_regI 5 ?_; try ((refine wo_v (ov_move rfl) rfl rfl rfl ?_) <;> try ((refine wo_v (ov_move rfl) rfl rfl rfl ?_) <;> try ((refine wo_v (ov_move rfl) rfl rfl rfl ?_) <;> try ((refine wo_v (ov_indexAddr Tryz.underlying28 sz34 rfl rfl (by omega) (by omega)) rfl rfl rfl ?_) <;> try ((refine wo_v (ov_fieldAddr fo34_1 rfl) rfl rfl rfl ?_) <;> try ((refine wo_v (ov_load Tryz.underlying9 rfl rfl (by repeat (first | exact .head _ | refine .tail _ ?_ | refine List.mem_append_right _ ?_)) (by first | rfl | assumption | simp)) rfl rfl rfl ?_) <;> try ((refine wo_v (ov_addS rfl rfl (by first | omega | (simp; omega))) rfl rfl rfl ?_) <;> try ((refine wo_v (ov_assign rfl) rfl rfl rfl ?_) <;> try ((refine wo_nilP [0, 2, 3, 4, 6, 7, 8] ?_)))))))))))) | ((refine w_regI 6 ?_; try ((refine wo_v (ov_add_i64 rfl rfl (by omega) (by omega)) rfl rfl rfl ?_) <;> try ((refine wo_v (ov_move rfl) rfl rfl rfl ?_) <;> try ((refine wo_nilP [0, 2, 3, 4, 6, 7, 8] ?_)))))))
    refine w_weak (E' := (fun i : Nat => [(0, .slice (some ⟨bb, 0, none⟩) ps.length cap), (3, str (joinS (ps.take i))), (6, .int .i64 (ps.length : Int)), (7, .int .i64 (i : Int))]) (i + 1)) (by simp only [hk3]; repeat (first | exact sub_nil _ | refine sub_cons rfl ?_)) (ih (i + 1) (by omega) (by omega))
  · repeat' (first | (refine pf_keep rfl ?_) | (refine pf_drop rfl ?_) | (refine pf_nil ?_) | (refine w_seq ?_) | (refine w_condF rfl ?_) | (refine w_exit rfl ?_) | (refine w_ret Tryz.func33 rfl (fun w_ hi_ => ?_)) | ((refine w_regI 3 ?_; try ((refine wo_v (ov_lss3 rfl rfl (by first | exact decide_eq_true (by omega) | exact decide_eq_false (by omega) | exact rfl)) rfl rfl rfl ?_) <;> try ((refine wo_nilP [0, 2, 3, 4, 6, 7, 8] ?_))))) | ((refine w_regI 7 ?_; try ((refine wo_v (ov_move rfl) rfl rfl rfl ?_) <;> try ((refine wo_v (ov_assign rfl) rfl rfl rfl ?_) <;> try ((refine wo_nilP [0, 2, 3, 4, 6, 7, 8] ?_)))))))
    refine ⟨?_, hi_.fr⟩
    rw [List.take_of_length_le (by omega)]; rfl
end Go.Sl
namespace Go.Sl
open Go Go.Proofs
set_option maxRecDepth 100000
set_option maxHeartbeats 2000000
set_option linter.unusedSimpArgs false
set_option linter.unusedVariables false
attribute [local irreducible] Calls

theorem EnvS.app {mb gb : Nat} {F : List Ent} (h : EnvS mb gb F) (L : List Ent) : EnvS mb gb (L ++ F) := by
  induction L with
  | nil => exact h
  | cons e L ih => exact ih.cons e
theorem Take.mid : ∀ (A F : List Ent), Take (A ++ F) A F
  | [], F => .nil F
  | e :: A, F => .cons (.head _) (Take.mid A F)
theorem Take.tail {H ps F : List Ent} (x : Ent) (h : Take H ps F) : Take (x :: H) ps (x :: F) := by
  induction h with
  | nil H => exact .nil _
  | cons h _ ih => exact .cons (.tail x h) ih
theorem take_add_drop (s : List UInt8) (a n : Nat) : s.take a ++ (s.drop a).take n = s.take (a + n) := (List.take_add).symm
theorem joinS_snoc (ps : List (Int × List UInt8)) (b : Int × List UInt8) : joinS (ps ++ [b]) = joinS ps ++ b.2 := by unfold joinS; rw [List.flatMap_append, List.flatMap_singleton]
theorem pieS_nil (s : List UInt8) (h : s.length = 0) : pieS s = ([], none) := by rw [pieS, dif_pos h]
theorem pieS_bad (s : List UInt8) (h0 : 0 < s.length) (h : (firstS s).2.2 ≠ 0) : pieS s = ([], some ((firstS s).2.2, s.length)) := by rw [pieS, dif_neg (by omega), dif_neg h]
theorem pieS_one (s : List UInt8) (h0 : 0 < s.length) (h : (firstS s).2.2 = 0) : pieS s = (((firstS s).1, s.take (firstS s).2.1) :: (pieS (s.drop (firstS s).2.1)).1, (pieS (s.drop (firstS s).2.1)).2) := by
  conv => lhs; rw [pieS]
  rw [dif_neg (by omega), dif_pos h]

theorem pieS_er : ∀ (n : Nat) (s : List UInt8) (er : Int) (m : Nat), s.length ≤ n → (pieS s).2 = some (er, m) → er ≠ 0 := by
  intro n
  induction n with
  | zero => intro s er m h e; rw [pieS_nil s (by omega)] at e; cases e
  | succ n ih =>
    intro s er m h e
    by_cases h0 : s.length = 0
    · rw [pieS_nil s h0] at e; cases e
    · by_cases h1 : (firstS s).2.2 = 0
      · have h2 := firstS_len s (by omega) h1
        rw [pieS_one s (by omega) h1] at e
        exact ih _ er m (by rw [List.length_drop]; omega) e
      · rw [pieS_bad s (by omega) h1] at e
        cases e; exact h1
theorem firstS_le8 (s : List UInt8) : (firstS s).1 ≤ 8 := by
  unfold firstS
  repeat' split
  all_goals (dsimp only; omega)
theorem KindQ.elim {s : List UInt8} {at_ : Nat} {mp sg : Value} {bs : Nat} {e : Ending} {post : List Ent} (h : KindQ s at_ mp sg bs e post) :
    ((firstS (s.drop at_)).2.2 = 0 ∧ ∃ c', e = .returned (.int .u8 (firstS (s.drop at_)).1) ∧ Scn c' s (at_ + (firstS (s.drop at_)).2.1) at_ mp sg ∧ post = [(fun c : Array Value => (⟨bs, true, .cells c 107 (0, 0)⟩ : Ent)) c']) ∨ ((firstS (s.drop at_)).2.2 ≠ 0 ∧ ∃ c' q, e = .panicked (refu (firstS (s.drop at_)).2.2) ∧ Scn c' s q at_ mp sg ∧ post = [(fun c : Array Value => (⟨bs, true, .cells c 107 (0, 0)⟩ : Ent)) c']) := by
  unfold KindQ at h
  by_cases h0 : (firstS (s.drop at_)).2.2 = 0
  · rw [if_pos h0] at h; exact .inl ⟨h0, h⟩
  · rw [if_neg h0] at h; exact .inr ⟨h0, h⟩

/-- What one round makes of what was gathered. -/
def Feed (l : Nat) (lp : Loop) (s : List UInt8) (G : List (Int × List UInt8) → List Ent → Prop) : Prop :=
  ∀ ps b at_ Hd, G ps Hd → joinS ps = s.take at_ → joinS (ps ++ [b]) = s.take (at_ + b.2.length) → at_ + b.2.length ≤ s.length → 0 < b.2.length → b.1 ≤ 8 →
    Round Tryz.prog l lp [.int .i64 (at_ : Int), .agg #[.int .u8 b.1, str b.2]] ((⟨l, true, .loop lp⟩ : Ent) :: Hd) fun post => ∃ Hd', G (ps ++ [b]) Hd' ∧ post = (⟨l, true, .loop lp⟩ : Ent) :: Hd'

/-- How the feeding of the pieces ends. -/
def PieQ (s : List UInt8) (G : List (Int × List UInt8) → List Ent → Prop) (mp sg : Value) (bs bx l : Nat) (lp : Loop) : Ending → List Ent → Prop := fun e post =>
  match (pieS s).2 with
  | none => e = .returned (.tuple #[]) ∧ ∃ c' a fr Hd', Scn c' s a fr mp sg ∧ G (pieS s).1 Hd' ∧ post = (fun c : Array Value => (⟨bs, true, .cells c 107 (0, 0)⟩ : Ent)) c' :: (⟨bx, true, .cells #[.pointer (some ⟨bs, 0, none⟩)] 72 (0, 0)⟩ : Ent) :: (⟨l, true, .loop lp⟩ : Ent) :: Hd'
  | some (er, m) => e = .panicked (refu er) ∧ ∃ c' q Hd' ps, Scn c' s q (s.length - m) mp sg ∧ G ps Hd' ∧ post = (fun c : Array Value => (⟨bs, true, .cells c 107 (0, 0)⟩ : Ent)) c' :: (⟨bx, true, .cells #[.pointer (some ⟨bs, 0, none⟩)] 72 (0, 0)⟩ : Ent) :: (⟨l, true, .loop lp⟩ : Ent) :: Hd'

theorem feed_c (G : List (Int × List UInt8) → List Ent → Prop) (mb gb bs bx l : Nat) (lp : Loop) (s : List UInt8) (hl : s.length < 4000000000) (hr : Feed l lp s G) (hn : lp.params.size = 2) (c : Array Value) (fr : Nat) (hc : Scn c s 0 fr (.map (some mb)) (.slice (some ⟨gb, 0, none⟩) 23 23)) (Hd : List Ent) (hG : G [] Hd) :
    SLE (EnvS mb gb) Tryz.prog 115 [.func (.yield l) #[] #[], .pointer (some ⟨bx, 0, none⟩)] ((fun c : Array Value => (⟨bs, true, .cells c 107 (0, 0)⟩ : Ent)) c :: (⟨bx, true, .cells #[.pointer (some ⟨bs, 0, none⟩)] 72 (0, 0)⟩ : Ent) :: (⟨l, true, .loop lp⟩ : Ent) :: Hd) (PieQ s G (.map (some mb)) (.slice (some ⟨gb, 0, none⟩) 23 23) bs bx l lp) := by
  intro S w0 F w hE hi
  simp only [List.cons_append] at hi
  refine calls_of_WFS Tryz.func115 rfl rfl (hi) ?_
  repeat' (refine w_block ?_)
  refine w_weak (E' := (fun q : Array Value × Nat × List (Int × List UInt8) × List Ent => [(0, .func (.yield l) #[] #[]), (1, .pointer (some ⟨bx, 0, none⟩))]) (c, 0, [], Hd)) (by repeat (first | exact sub_nil _ | refine sub_cons rfl ?_)) ?_
  refine w_while (fun q : Array Value × Nat × List (Int × List UInt8) × List Ent => (∃ fr, Scn q.1 s q.2.1 fr (.map (some mb)) (.slice (some ⟨gb, 0, none⟩) 23 23)) ∧ q.2.1 ≤ s.length ∧ G q.2.2.1 q.2.2.2 ∧ joinS q.2.2.1 = s.take q.2.1 ∧ pieS s = (q.2.2.1 ++ (pieS (s.drop q.2.1)).1, (pieS (s.drop q.2.1)).2)) (fun q => s.length - q.2.1) (fun q : Array Value × Nat × List (Int × List UInt8) × List Ent => [(0, .func (.yield l) #[] #[]), (1, .pointer (some ⟨bx, 0, none⟩))]) (fun q : Array Value × Nat × List (Int × List UInt8) × List Ent => (fun c : Array Value => (⟨bs, true, .cells c 107 (0, 0)⟩ : Ent)) q.1 :: (⟨bx, true, .cells #[.pointer (some ⟨bs, 0, none⟩)] 72 (0, 0)⟩ : Ent) :: (⟨l, true, .loop lp⟩ : Ent) :: (q.2.2.2 ++ F)) ?_ (c, 0, [], Hd) ⟨⟨fr, hc⟩, by simp only; omega, hG, rfl, rfl⟩
  rintro ⟨c1, at_, ps, Hd1⟩ ⟨⟨fr1, hc1⟩, ha, hG1, hj, hp⟩ ih
  dsimp only at hc1 ha hG1 hj hp ⊢
  obtain ⟨z1, h01, h11, hs1, hm1, hg1, hf1⟩ := id hc1
  by_cases hlt : at_ < s.length
  · have hd : 0 < (s.drop at_).length := by rw [List.length_drop]; omega
    repeat' (first | (refine pf_keep rfl ?_) | (refine pf_drop rfl ?_) | (refine pf_nil ?_) | (refine w_seq ?_) | (refine w_condT rfl ?_) | (refine w_condF rfl ?_) | (refine w_block ?_) | (refine w_inBlock ?_) | (refine w_skip ?_) | ((refine w_regQI 0 rfl mixed (by kernel_rfl) ?_; try ((refine wq_v (ov_load Tryz.underlying72 rfl rfl (by repeat (first | exact .head _ | refine .tail _ ?_ | refine List.mem_append_right _ ?_ | assumption)) (by first | rfl | assumption | simp)) rfl rfl ?_) <;> try ((refine wq_v (ov_nilCheck rfl) rfl rfl ?_) <;> try ((refine wq_v (ov_fieldAddr fo107_0 rfl) rfl rfl ?_) <;> try ((refine wq_v (ov_fieldAddr fo89_1 rfl) rfl rfl ?_) <;> try ((refine wq_v (ov_load Tryz.underlying3 rfl rfl (by repeat (first | exact .head _ | refine .tail _ ?_ | refine List.mem_append_right _ ?_ | assumption)) (by first | rfl | assumption | simp)) rfl rfl ?_) <;> try ((refine wq_v (ov_load Tryz.underlying72 rfl rfl (by repeat (first | exact .head _ | refine .tail _ ?_ | refine List.mem_append_right _ ?_ | assumption)) (by first | rfl | assumption | simp)) rfl rfl ?_) <;> try ((refine wq_v (ov_nilCheck rfl) rfl rfl ?_) <;> try ((refine wq_v (ov_fieldAddr fo107_0 rfl) rfl rfl ?_) <;> try ((refine wq_v (ov_fieldAddr fo89_0 rfl) rfl rfl ?_) <;> try ((refine wq_v (ov_load Tryz.underlying9 rfl rfl (by repeat (first | exact .head _ | refine .tail _ ?_ | refine List.mem_append_right _ ?_ | assumption)) (by first | rfl | assumption | simp)) rfl rfl ?_) <;> try ((refine wq_v (ov_lenS rfl Tryz.underlying9 rfl) rfl rfl ?_) <;> try ((refine wq_v (ov_lss3 rfl rfl (by first | exact decide_eq_true (by omega) | exact decide_eq_false (by omega) | exact rfl)) rfl rfl ?_) <;> try ((refine wq_nilP [0, 1, 3, 15, 28] ?_)))))))))))))))) | ((refine w_regI 1 ?_; try ((refine wo_v (ov_load Tryz.underlying72 rfl rfl (by repeat (first | exact .head _ | refine .tail _ ?_ | refine List.mem_append_right _ ?_ | assumption)) (by first | rfl | assumption | simp)) rfl rfl rfl ?_) <;> try ((refine wo_callE (F := (⟨bx, true, .cells #[.pointer (some ⟨bs, 0, none⟩)] 72 (0, 0)⟩ : Ent) :: (⟨l, true, .loop lp⟩ : Ent) :: (Hd1 ++ F)) (by repeat (first | exact Take.nil _ | apply Take.cons | exact Del1.head _ | apply Del1.tail | apply Del1.app)) (((hE.app Hd1).cons _).cons _) rfl en116 rfl rfl (kind_c mb gb s at_ fr1 c1 hc1 bs hl hlt) ?_; rintro e post hq; rcases hq.elim with ⟨h0, c2, rfl, hc2, rfl⟩ | ⟨h0, c2, q2, rfl, hc2, rfl⟩ <;> dsimp only <;> first | (refine wp_leave rfl (fun w_ hi_ => ?_)) | (obtain ⟨z2, h02, h12, hs2, hm2, hg2, hf2⟩ := id hc2; have hfl := firstS_len _ hd h0; rw [List.length_drop] at hfl; have hbl : ((s.drop at_).take (firstS (s.drop at_)).2.1).length = (firstS (s.drop at_)).2.1 := (by rw [List.length_take, List.length_drop]; omega); have hj2 : joinS (ps ++ [((firstS (s.drop at_)).1, (s.drop at_).take (firstS (s.drop at_)).2.1)]) = s.take (at_ + ((s.drop at_).take (firstS (s.drop at_)).2.1).length) := (by rw [joinS_snoc, hj, hbl, take_add_drop]))) <;> try ((refine wo_v (ov_assign rfl) rfl rfl rfl ?_) <;> try ((refine wo_nilP [0, 1, 3, 15, 28] ?_))))))) | ((refine w_regT (id := 2) 9 rfl mixed (by kernel_rfl) ?_; try ((refine wt_v (ov_move rfl) rfl rfl ?_) <;> try ((refine wt_v (ov_load Tryz.underlying72 rfl rfl (by repeat (first | exact .head _ | refine .tail _ ?_ | refine List.mem_append_right _ ?_ | assumption)) (by first | rfl | assumption | simp)) rfl rfl ?_) <;> try ((refine wt_v (ov_nilCheck rfl) rfl rfl ?_) <;> try ((refine wt_v (ov_fieldAddr fo107_4 rfl) rfl rfl ?_) <;> try ((refine wt_v (ov_load Tryz.underlying3 rfl rfl (by repeat (first | exact .head _ | refine .tail _ ?_ | refine List.mem_append_right _ ?_ | assumption)) (by first | rfl | assumption | simp)) rfl rfl ?_) <;> try ((refine wt_v (ov_move rfl) rfl rfl ?_) <;> try ((refine wt_v (ov_load Tryz.underlying72 rfl rfl (by repeat (first | exact .head _ | refine .tail _ ?_ | refine List.mem_append_right _ ?_ | assumption)) (by first | rfl | assumption | simp)) rfl rfl ?_) <;> try ((refine wt_v (ov_call rfl en117 (fun w hi => by have := text_c c2 s _ at_ _ _ hc2 bs (by omega) (by omega) (by omega) w (hi.view1 (by repeat (first | exact Take.nil _ | apply Take.cons | exact Del1.head _ | apply Del1.tail | apply Del1.app))); rwa [cut_text] at this)) rfl rfl ?_) <;> try ((refine wt_v (ov_bldB pl34 inf34 rfl rfl rfl rfl rfl) rfl rfl ?_) <;> try ((refine wt_nil ?_; try ((refine wo_yield (pre := (⟨l, true, .loop lp⟩ : Ent) :: Hd1) (F := (fun c : Array Value => (⟨bs, true, .cells c 107 (0, 0)⟩ : Ent)) c2 :: (⟨bx, true, .cells #[.pointer (some ⟨bs, 0, none⟩)] 72 (0, 0)⟩ : Ent) :: F) rfl rfl rfl (.cons (.tail _ (.tail _ (.head _))) (((Take.mid Hd1 F).tail _).tail _)) ⟨true, by simp⟩ hn rfl rfl (hr ps ((firstS (s.drop at_)).1, (s.drop at_).take (firstS (s.drop at_)).2.1) at_ Hd1 hG1 hj hj2 (by simp only; omega) (by simp only; omega) (firstS_le8 _)) ?_; rintro post ⟨Hd2, hG2, rfl⟩) <;> try ((refine wo_v (ov_notT rfl) rfl rfl rfl ?_) <;> try ((refine wo_nilP [0, 1, 3, 15, 28] ?_))))))))))))))))))
    · refine w_take (ps := [(fun c : Array Value => (⟨bs, true, .cells c 107 (0, 0)⟩ : Ent)) c2, (⟨bx, true, .cells #[.pointer (some ⟨bs, 0, none⟩)] 72 (0, 0)⟩ : Ent)]) (F := (⟨l, true, .loop lp⟩ : Ent) :: (Hd2 ++ F)) (.cons (.tail _ (.app Hd2 (.head _))) (.cons (.tail _ (.app Hd2 (.head _))) (.nil _))) ?_
      rw [pieS_one _ hd h0, List.drop_drop] at hp
      refine w_weak (by first | exact sub_nil _ | (refine sub_cons rfl ?_; repeat (first | exact sub_nil _ | refine sub_cons rfl ?_))) (ih (c2, at_ + (firstS (s.drop at_)).2.1, ps ++ [((firstS (s.drop at_)).1, (s.drop at_).take (firstS (s.drop at_)).2.1)], Hd2) ⟨⟨at_, hc2⟩, by simp only; omega, hG2, by simp only; rw [hj2, hbl], by simp only [hp, List.append_assoc, List.cons_append, List.nil_append]⟩ (by simp only; omega))
    · rw [pieS_bad _ hd h0, List.length_drop] at hp
      refine ⟨(fun c : Array Value => (⟨bs, true, .cells c 107 (0, 0)⟩ : Ent)) c2 :: (⟨bx, true, .cells #[.pointer (some ⟨bs, 0, none⟩)] 72 (0, 0)⟩ : Ent) :: (⟨l, true, .loop lp⟩ : Ent) :: Hd1, ?_, by simpa only [List.cons_append, List.nil_append] using hi_⟩
      unfold PieQ; rw [hp]
      refine ⟨rfl, c2, q2, Hd1, ps, ?_, hG1, rfl⟩
      rw [show s.length - (s.length - at_) = at_ by omega]; exact hc2
  · rw [show s.drop at_ = [] from List.drop_of_length_le (by omega), pieS_nil [] rfl] at hp
    repeat' (first | (refine pf_keep rfl ?_) | (refine pf_drop rfl ?_) | (refine pf_nil ?_) | (refine w_seq ?_) | (refine w_condF rfl ?_) | (refine w_exit rfl ?_) | (refine w_end Tryz.func115 rfl (fun w_ hi_ => ?_)) | ((refine w_regQI 0 rfl mixed (by kernel_rfl) ?_; try ((refine wq_v (ov_load Tryz.underlying72 rfl rfl (by repeat (first | exact .head _ | refine .tail _ ?_ | refine List.mem_append_right _ ?_ | assumption)) (by first | rfl | assumption | simp)) rfl rfl ?_) <;> try ((refine wq_v (ov_nilCheck rfl) rfl rfl ?_) <;> try ((refine wq_v (ov_fieldAddr fo107_0 rfl) rfl rfl ?_) <;> try ((refine wq_v (ov_fieldAddr fo89_1 rfl) rfl rfl ?_) <;> try ((refine wq_v (ov_load Tryz.underlying3 rfl rfl (by repeat (first | exact .head _ | refine .tail _ ?_ | refine List.mem_append_right _ ?_ | assumption)) (by first | rfl | assumption | simp)) rfl rfl ?_) <;> try ((refine wq_v (ov_load Tryz.underlying72 rfl rfl (by repeat (first | exact .head _ | refine .tail _ ?_ | refine List.mem_append_right _ ?_ | assumption)) (by first | rfl | assumption | simp)) rfl rfl ?_) <;> try ((refine wq_v (ov_nilCheck rfl) rfl rfl ?_) <;> try ((refine wq_v (ov_fieldAddr fo107_0 rfl) rfl rfl ?_) <;> try ((refine wq_v (ov_fieldAddr fo89_0 rfl) rfl rfl ?_) <;> try ((refine wq_v (ov_load Tryz.underlying9 rfl rfl (by repeat (first | exact .head _ | refine .tail _ ?_ | refine List.mem_append_right _ ?_ | assumption)) (by first | rfl | assumption | simp)) rfl rfl ?_) <;> try ((refine wq_v (ov_lenS rfl Tryz.underlying9 rfl) rfl rfl ?_) <;> try ((refine wq_v (ov_lss3 rfl rfl (by first | exact decide_eq_true (by omega) | exact decide_eq_false (by omega) | exact rfl)) rfl rfl ?_) <;> try ((refine wq_nilP [0, 1, 3, 15, 28] ?_)))))))))))))))))
    refine ⟨(fun c : Array Value => (⟨bs, true, .cells c 107 (0, 0)⟩ : Ent)) c1 :: (⟨bx, true, .cells #[.pointer (some ⟨bs, 0, none⟩)] 72 (0, 0)⟩ : Ent) :: (⟨l, true, .loop lp⟩ : Ent) :: Hd1, ?_, by simpa only [List.cons_append] using hi_⟩
    unfold PieQ; rw [hp]
    refine ⟨rfl, c1, at_, fr1, Hd1, hc1, ?_, rfl⟩
    rw [List.append_nil]; exact hG1
end Go.Sl
namespace Go.Sl
open Go Go.Proofs
set_option maxRecDepth 100000
set_option maxHeartbeats 2000000
set_option linter.unusedSimpArgs false
set_option linter.unusedVariables false
attribute [local irreducible] Calls

/-- The library's variables that the scanner reads. -/
structure Glo (F : List Ent) : Prop where
  sp : ∃ r el fz, (⟨0, r, .cells (Lib.asciiSpaceTab.map fun z => Value.int .u8 z).toArray el fz⟩ : Ent) ∈ F
  ml : ∃ r q el fz, (⟨1, r, .cells #[.int .i64 q] el fz⟩ : Ent) ∈ F
theorem glo_sp : Tryz.prog.globalNamed "strings.asciiSpace" = some 0 := by kernel_rfl
theorem Glo.tab {S : Nat → Prop} {w0 w : World} {H : List Ent} (hg : Glo H) (hi : Inv S w0 H w) : Lib.TabIs Tryz.prog w "strings.asciiSpace" .u8 Lib.asciiSpaceTab := by
  obtain ⟨r, el, fz, hm⟩ := hg.sp
  have := hi.hb _ hm
  unfold Lib.TabIs World.var?
  rw [glo_sp]
  simp only [Option.bind_some]
  simp only at this
  rw [this]
theorem Glo.len {S : Nat → Prop} {w0 w : World} {H : List Ent} (hg : Glo H) (hi : Inv S w0 H w) : ∃ q, w.cell? ⟨1, 0, none⟩ = some (.int .i64 q) := by
  obtain ⟨r, q, el, fz, hm⟩ := hg.ml
  exact ⟨q, hi.cell (off := 0) hm rfl⟩
theorem Glo.cons {F : List Ent} (h : Glo F) (e : Ent) : Glo (e :: F) := ⟨let ⟨r, el, fz, h⟩ := h.sp; ⟨r, el, fz, .tail _ h⟩, let ⟨r, q, el, fz, h⟩ := h.ml; ⟨r, q, el, fz, .tail _ h⟩⟩
theorem Glo.app {F : List Ent} (h : Glo F) (A : List Ent) : Glo (A ++ F) := ⟨let ⟨r, el, fz, h⟩ := h.sp; ⟨r, el, fz, List.mem_append_right _ h⟩, let ⟨r, q, el, fz, h⟩ := h.ml; ⟨r, q, el, fz, List.mem_append_right _ h⟩⟩

theorem fields_c (l : List UInt8) (xs : List (List UInt8)) (hl : l.length < 4294967281) (ha : ∀ b ∈ l, b.toNat < 128) (hx : Lib.fields l = xs) (w : World) (ht : Lib.TabIs Tryz.prog w "strings.asciiSpace" .u8 Lib.asciiSpaceTab) :
    Calls Tryz.prog 67 #[str l] w (Ret none_ w fun v Hn => ∃ b, v = .slice (some ⟨b, 0, none⟩) xs.length xs.length ∧ Hn = [⟨b, true, .cells (strs xs []) 9 (0, 0)⟩]) := by
  refine (Tryz.strings_Fields ⟨l.toArray⟩ w (by rw [size_list]; exact hl) (fun j b hj => ha b (by rw [bstr] at hj; exact List.mem_of_getElem? hj)) ht).mono ?_
  rintro e w' ⟨h1, h2⟩
  rw [bstr, hx] at h1 h2
  refine ⟨_, _, h1, ⟨w.heap.size, rfl, rfl⟩, ?_, by simp⟩
  have e : strs xs [] = (xs.map fun l => Value.string ⟨l.toArray⟩).toArray := by unfold strs; rw [List.append_nil]
  rw [h2, ← e]
  exact (Inv.start none_ w).new (.cells (strs xs []) 9)
theorem tab_fr {w w1 : World} (ht : Lib.TabIs Tryz.prog w "strings.asciiSpace" .u8 Lib.asciiSpaceTab) (h : Fr none_ w w1) (h0 : 0 < w.heap.size) : Lib.TabIs Tryz.prog w1 "strings.asciiSpace" .u8 Lib.asciiSpaceTab := by
  unfold Lib.TabIs World.var? at *
  rw [glo_sp] at *
  simp only [Option.bind_some] at *
  rw [h.block 0 h0 (fun h => h)]
  exact ht
theorem tab_pos {w : World} (ht : Lib.TabIs Tryz.prog w "strings.asciiSpace" .u8 Lib.asciiSpaceTab) : 0 < w.heap.size := by
  unfold Lib.TabIs World.var? at ht
  rw [glo_sp] at ht
  simp only [Option.bind_some] at ht
  rcases Nat.eq_zero_or_pos w.heap.size with h | h
  · rw [Array.getElem?_eq_none (by omega)] at ht; cases ht
  · exact h
theorem words_c (w : World) (ht : Lib.TabIs Tryz.prog w "strings.asciiSpace" .u8 Lib.asciiSpaceTab) : Calls Tryz.prog 34 #[] w (Ret none_ w fun v Hn => ∃ b, v = .slice (some ⟨b, 0, none⟩) 63 63 ∧ Hn = [⟨b, true, .cells (strs wordsL []) 9 (0, 0)⟩]) := by
  refine calls_of_WF Tryz.func34 rfl rfl (Inv.start none_ w) ?_
  repeat' (first | (refine pf_keep rfl ?_) | (refine pf_drop rfl ?_) | (refine pf_nil ?_) | (refine w_seq ?_) | (refine w_ret Tryz.func34 rfl (fun w_ hi_ => ?_)) | ((refine w_regI 0 ?_; try ((refine wo_v (ov_assign rfl) rfl rfl rfl ?_) <;> try ((refine wo_nilP [0] ?_))))) | ((refine w_regI 1 ?_; try ((refine wo_call0 rfl en67 rfl rfl (fun w1 hi => fields_c _ wordsL (by decide +kernel) (by decide +kernel) (by decide +kernel) w1 (tab_fr ht hi.fr (tab_pos ht))) ?_; rintro v Hn ⟨b, rfl, rfl⟩) <;> try ((refine wo_v (ov_assign rfl) rfl rfl rfl ?_) <;> try ((refine wo_nilP [0] ?_)))))))
  exact ⟨_, _, rfl, ⟨b, rfl, rfl⟩, hi_, by simp⟩
theorem signs_c (w : World) (ht : Lib.TabIs Tryz.prog w "strings.asciiSpace" .u8 Lib.asciiSpaceTab) : Calls Tryz.prog 35 #[] w (Ret none_ w fun v Hn => ∃ b, v = .slice (some ⟨b, 0, none⟩) 23 23 ∧ Hn = [⟨b, true, .cells (strs signsL []) 9 (0, 0)⟩]) := by
  refine calls_of_WF Tryz.func35 rfl rfl (Inv.start none_ w) ?_
  repeat' (first | (refine pf_keep rfl ?_) | (refine pf_drop rfl ?_) | (refine pf_nil ?_) | (refine w_seq ?_) | (refine w_ret Tryz.func35 rfl (fun w_ hi_ => ?_)) | ((refine w_regI 0 ?_; try ((refine wo_v (ov_assign rfl) rfl rfl rfl ?_) <;> try ((refine wo_nilP [0] ?_))))) | ((refine w_regI 1 ?_; try ((refine wo_call0 rfl en67 rfl rfl (fun w1 hi => fields_c _ signsL (by decide +kernel) (by decide +kernel) (by decide +kernel) w1 (tab_fr ht hi.fr (tab_pos ht))) ?_; rintro v Hn ⟨b, rfl, rfl⟩) <;> try ((refine wo_v (ov_assign rfl) rfl rfl rfl ?_) <;> try ((refine wo_nilP [0] ?_)))))))
  exact ⟨_, _, rfl, ⟨b, rfl, rfl⟩, hi_, by simp⟩
end Go.Sl
namespace Go.Sl
open Go Go.Proofs
set_option maxRecDepth 100000
set_option maxHeartbeats 2000000
set_option linter.unusedSimpArgs false
set_option linter.unusedVariables false
attribute [local irreducible] Calls

theorem piecesF_c (bs : Nat) : SL Tryz.prog 86 [.pointer (some ⟨bs, 0, none⟩)] [] fun e post => ∃ v, e = .returned v ∧ ∃ bx, v = .func (.func 115) #[] #[.pointer (some ⟨bx, 0, none⟩)] ∧ post = [(⟨bx, true, .cells #[.pointer (some ⟨bs, 0, none⟩)] 72 (0, 0)⟩ : Ent)] := by
  intro S w0 F w hi
  simp only [List.nil_append] at hi
  refine calls_of_WFS Tryz.func86 rfl rfl (hi) ?_
  repeat' (first | (refine pf_keep rfl ?_) | (refine pf_drop rfl ?_) | (refine pf_nil ?_) | (refine w_seq ?_) | (refine w_ret Tryz.func86 rfl (fun w_ hi_ => ?_)) | ((refine w_regI 0 ?_; try ((refine wo_box rfl rfl rfl rfl (fun b_ hb_ => ?_)) <;> try ((refine wo_v (ov_assign rfl) rfl rfl rfl ?_) <;> try ((refine wo_nilP [0, 1, 2] ?_)))))) | ((refine w_regI 1 ?_; try ((refine wo_v (ov_makeFunc rfl rfl) rfl rfl rfl ?_) <;> try ((refine wo_v (ov_assign rfl) rfl rfl rfl ?_) <;> try ((refine wo_nilP [0, 1, 2] ?_)))))))
  exact ⟨_, ⟨_, rfl, _, rfl, rfl⟩, hi_⟩

theorem undoP_c (er : Int) (s : List UInt8) (q at_ bs bx b4 : Nat) (mp sg z1 z2 : Value) (c : Array Value) (hc : Scn c s q at_ mp sg) (hl : s.length < 4000000000) (ha : at_ ≤ s.length) (S : Nat → Prop) (w0 : World) (F : List Ent) (w : World) (hi : Inv S w0 ((fun c : Array Value => (⟨b4, true, .cells c 30 (0, 0)⟩ : Ent)) #[z1, z2] :: (fun c : Array Value => (⟨bs, true, .cells c 107 (0, 0)⟩ : Ent)) c :: (⟨bx, true, .cells #[.pointer (some ⟨bs, 0, none⟩)] 72 (0, 0)⟩ : Ent) :: F) w) :
    CallsD Tryz.prog 85 #[.pointer (some ⟨bx, 0, none⟩), .pointer (some ⟨b4, 0, none⟩)] (.panicking (refu er)) w fun e u' w' => u' = .panicking [{ v := .iface 109 (.int .i64 er), recovered := true }] ∧ e = .returned (.tuple #[]) ∧ Inv S w0 ((fun c : Array Value => (⟨b4, true, .cells c 30 (0, 0)⟩ : Ent)) #[.int .i64 er, .int .i64 (lineS s at_)] :: (fun c : Array Value => (⟨bs, true, .cells c 107 (0, 0)⟩ : Ent)) c :: (⟨bx, true, .cells #[.pointer (some ⟨bs, 0, none⟩)] 72 (0, 0)⟩ : Ent) :: F) w' := by
  obtain ⟨z, h0, h1, hs, hm, hg, hf⟩ := id hc
  refine (callsD_of_WF (R := fun e w' => e = .returned (.tuple #[]) ∧ Inv S w0 ((fun c : Array Value => (⟨b4, true, .cells c 30 (0, 0)⟩ : Ent)) #[.int .i64 er, .int .i64 (lineS s at_)] :: (fun c : Array Value => (⟨bs, true, .cells c 107 (0, 0)⟩ : Ent)) c :: (⟨bx, true, .cells #[.pointer (some ⟨bs, 0, none⟩)] 72 (0, 0)⟩ : Ent) :: F) w') (vs := [.pointer (some ⟨bx, 0, none⟩), .pointer (some ⟨b4, 0, none⟩)]) Tryz.func85 rfl rfl hi (md' := .panicking [{ v := .iface 109 (.int .i64 er), recovered := true }]) ?_).mono (fun e u' w' h => ⟨h.1, h.2.2.1, h.2.2.2⟩)
  unfold refu
  repeat' (first | (refine pf_keep rfl ?_) | (refine pf_drop rfl ?_) | (refine pf_nil ?_) | (refine w_seq ?_) | (refine w_condT rfl ?_) | (refine w_condF rfl ?_) | (refine w_skip ?_) | ((refine w_regI 0 ?_; try ((refine wo_recover rfl rfl ?_) <;> try ((refine wo_v (ov_assign rfl) rfl rfl rfl ?_) <;> try ((refine wo_nilP [0, 1, 2, 3, 4, 7, 14] ?_)))))) | ((refine w_regI 1 ?_; try ((refine wo_v (ov_move rfl) rfl rfl rfl ?_) <;> try ((refine wo_v (ov_neqNil Tryz.underlying20 rfl rfl) rfl rfl rfl ?_) <;> try ((refine wo_nilP [0, 1, 2, 3, 4, 7, 14] ?_)))))) | ((refine w_regI 2 ?_; try ((refine wo_v (ov_move rfl) rfl rfl rfl ?_) <;> try ((refine wo_v (ov_assertT Tryz.underlying109 rfl rfl) rfl rfl rfl ?_) <;> try ((refine wo_v (ov_move rfl) rfl rfl rfl ?_) <;> try ((refine wo_v (ov_extract rfl rfl) rfl rfl rfl ?_) <;> try ((refine wo_v (ov_extract rfl rfl) rfl rfl rfl ?_) <;> try ((refine wo_v (ov_assign rfl) rfl rfl rfl ?_) <;> try ((refine wo_v (ov_assign rfl) rfl rfl rfl ?_) <;> try ((refine wo_nilP [0, 1, 2, 3, 4, 7, 14] ?_))))))))))) | ((refine w_regI 3 ?_; try ((refine wo_v (ov_move rfl) rfl rfl rfl ?_) <;> try ((refine wo_v (ov_notT rfl) rfl rfl rfl ?_) <;> try ((refine wo_nilP [0, 1, 2, 3, 4, 7, 14] ?_)))))) | ((refine w_regT (id := 5) 10 rfl mixed (by kernel_rfl) ?_; try ((refine wt_v (ov_move rfl) rfl rfl ?_) <;> try ((refine wt_v (ov_load Tryz.underlying72 rfl rfl (by repeat (first | exact .head _ | refine .tail _ ?_ | refine List.mem_append_right _ ?_ | assumption)) (by first | rfl | assumption | simp)) rfl rfl ?_) <;> try ((refine wt_v (ov_nilCheck rfl) rfl rfl ?_) <;> try ((refine wt_v (ov_fieldAddr fo107_0 rfl) rfl rfl ?_) <;> try ((refine wt_v (ov_load Tryz.underlying72 rfl rfl (by repeat (first | exact .head _ | refine .tail _ ?_ | refine List.mem_append_right _ ?_ | assumption)) (by first | rfl | assumption | simp)) rfl rfl ?_) <;> try ((refine wt_v (ov_nilCheck rfl) rfl rfl ?_) <;> try ((refine wt_v (ov_fieldAddr fo107_4 rfl) rfl rfl ?_) <;> try ((refine wt_v (ov_load Tryz.underlying3 rfl rfl (by repeat (first | exact .head _ | refine .tail _ ?_ | refine List.mem_append_right _ ?_ | assumption)) (by first | rfl | assumption | simp)) rfl rfl ?_) <;> try ((refine wt_v (ov_call rfl en64 (fun w hi => line_c c s at_ h0 bs 107 (by omega) ha w (hi.view1 (by repeat (first | exact Take.nil _ | apply Take.cons | exact Del1.head _ | apply Del1.tail | apply Del1.app))))) rfl rfl ?_) <;> try ((refine wt_v (ov_bldB pl30 inf30 rfl rfl rfl rfl rfl) rfl rfl ?_) <;> try ((refine wt_nil ?_; try ((refine wo_storeC rfl rfl rfl sz30 (by repeat (first | exact .head _ | apply Upd.tail | apply Upd.app)) (by first | rfl | simp) rfl rfl ?_) <;> try ((refine wo_nilP [0, 1, 2, 3, 4, 7, 14] ?_))))))))))))))))))
  refine w_endD Tryz.func85 rfl (fun w_ hi_ => ⟨rfl, hi_⟩)

theorem undoR_c (bx b4 : Nat) (S : Nat → Prop) (w0 : World) (H : List Ent) (w : World) (hi : Inv S w0 H w) :
    CallsD Tryz.prog 85 #[.pointer (some ⟨bx, 0, none⟩), .pointer (some ⟨b4, 0, none⟩)] .returning w fun e u' w' => u' = .returning ∧ e = .returned (.tuple #[]) ∧ Inv S w0 H w' := by
  refine (callsD_of_WF (R := fun e w' => e = .returned (.tuple #[]) ∧ Inv S w0 H w') (vs := [.pointer (some ⟨bx, 0, none⟩), .pointer (some ⟨b4, 0, none⟩)]) Tryz.func85 rfl rfl hi (md' := .returning) ?_).mono (fun e u' w' h => ⟨h.1, h.2.2.1, h.2.2.2⟩)
  repeat' (first | (refine pf_keep rfl ?_) | (refine pf_drop rfl ?_) | (refine pf_nil ?_) | (refine w_seq ?_) | (refine w_condF rfl ?_) | (refine w_skip ?_) | ((refine w_regI 0 ?_; try ((refine wo_recoverR rfl rfl ?_) <;> try ((refine wo_v (ov_assign rfl) rfl rfl rfl ?_) <;> try ((refine wo_nilP [0, 1, 2, 3, 4, 7, 14] ?_)))))) | ((refine w_regI 1 ?_; try ((refine wo_v (ov_move rfl) rfl rfl rfl ?_) <;> try ((refine wo_v (ov_neqNilF (it := 0) Tryz.underlying20 rfl) rfl rfl rfl ?_) <;> try ((refine wo_nilP [0, 1, 2, 3, 4, 7, 14] ?_)))))))
  refine w_endD Tryz.func85 rfl (fun w_ hi_ => ⟨rfl, hi_⟩)
end Go.Sl
