/- Of the proof that this claim's last text ends. Insertion sort by length, and what a list of strings holds. Conditions: what the block holds, the bounds. -/
import Derived.Lib.UnsafeStr
import Derived.Test.YtlodkchnoapffaaGreatDoorQ3
namespace Go.Sl
open Go Go.Proofs
set_option maxRecDepth 100000
set_option maxHeartbeats 2000000
set_option linter.unusedSimpArgs false
set_option linter.unusedVariables false
attribute [local irreducible] Calls

theorem cmp_c (a b : List UInt8) (ha : a.length < 4611686018427387904) (hb : b.length < 4611686018427387904) (w : World) : Calls Tryz.prog 84 #[str a, str b] w fun e w' => e = .returned (.int .i64 ((b.length : Int) - (a.length : Int))) ∧ Fr none_ w w' := by
  refine calls_of_WF Tryz.func84 rfl rfl (Inv.start none_ w) ?_
  repeat' (first | (refine pf_keep rfl ?_) | (refine pf_drop rfl ?_) | (refine pf_nil ?_) | (refine w_seq ?_) | (refine w_ret Tryz.func84 rfl (fun w_ hi_ => ?_)) | ((refine w_regI 0 ?_; try ((refine wo_v (ov_assign rfl) rfl rfl rfl ?_) <;> try ((refine wo_nilP [0, 1, 4] ?_))))) | ((refine w_regI 1 ?_; try ((refine wo_v (ov_move rfl) rfl rfl rfl ?_) <;> try ((refine wo_v (ov_lenS rfl Tryz.underlying9 rfl) rfl rfl rfl ?_) <;> try ((refine wo_v (ov_move rfl) rfl rfl rfl ?_) <;> try ((refine wo_v (ov_lenS rfl Tryz.underlying9 rfl) rfl rfl rfl ?_) <;> try ((refine wo_v (ov_sub_i64 rfl rfl (by omega) (by omega)) rfl rfl rfl ?_) <;> try ((refine wo_v (ov_assign rfl) rfl rfl rfl ?_) <;> try ((refine wo_nilP [0, 1, 4] ?_)))))))))))
  exact ⟨rfl, hi_.fr⟩
def atS (xs : List (List UInt8)) (i : Nat) : List UInt8 := (xs[i]?).getD []
/-- Two neighbours exchanged. -/
def swp (xs : List (List UInt8)) (j : Nat) : List (List UInt8) := (xs.set (j + 1) (atS xs j)).set j (atS xs (j + 1))
def insJ (a : Nat) : Nat → List (List UInt8) → List (List UInt8)
  | 0, xs => xs
  | j + 1, xs => if a < j + 1 ∧ (atS xs j).length < (atS xs (j + 1)).length then insJ a j (swp xs j) else xs
def insI (a : Nat) : Nat → Nat → List (List UInt8) → List (List UInt8)
  | 0, _, xs => xs
  | n + 1, i, xs => insI a n (i + 1) (insJ a i xs)
theorem swp_len (xs : List (List UInt8)) (j : Nat) : (swp xs j).length = xs.length := by simp [swp]
theorem swp_mem (xs : List (List UInt8)) (j : Nat) (h : j + 1 < xs.length) : ∀ x ∈ swp xs j, x ∈ xs := by
  intro x hx
  have e1 : atS xs j ∈ xs := by unfold atS; rw [List.getElem?_eq_getElem (by omega)]; exact List.getElem_mem _
  have e2 : atS xs (j + 1) ∈ xs := by unfold atS; rw [List.getElem?_eq_getElem h]; exact List.getElem_mem _
  unfold swp at hx
  rcases List.mem_or_eq_of_mem_set hx with h | rfl
  · rcases List.mem_or_eq_of_mem_set h with h | rfl
    · exact h
    · exact e1
  · exact e2
theorem insJ_len (a : Nat) : ∀ (j : Nat) (xs : List (List UInt8)), (insJ a j xs).length = xs.length
  | 0, _ => rfl
  | j + 1, xs => by rw [insJ]; split; rw [insJ_len, swp_len]; rfl
theorem strs_set (xs : List (List UInt8)) (rst : List Value) (i : Nat) (v : List UInt8) (h : i < xs.length) : (strs xs rst).setIfInBounds i (str v) = strs (xs.set i v) rst := by
  apply Array.ext'
  simp only [Array.toList_setIfInBounds]
  rw [List.set_append_left _ _ (by simpa using h), List.map_set]
theorem strs_get (xs : List (List UInt8)) (rst : List Value) (i : Nat) (h : i < xs.length) : (strs xs rst)[i]? = some (str (atS xs i)) := by
  rw [List.getElem?_toArray, List.getElem?_append_left (by simpa using h)]; simp [atS, h]

theorem ins_c (xs : List (List UInt8)) (hsm : ∀ x ∈ xs, x.length < 1000) (a b gb n cap : Nat) (rst : List Value) (hab : a ≤ b) (hb : b ≤ n) (hn : xs.length = n) (hn2 : n < 1000000) :
    SL Tryz.prog 138 [.slice (some ⟨gb, 0, none⟩) n cap, .int .i64 (a : Int), .int .i64 (b : Int), .func (.func 84) #[] #[]]
      [⟨gb, true, .cells (strs xs rst) 9 (0, 0)⟩] fun e post => e = .returned (.tuple #[]) ∧ post = [⟨gb, true, .cells (strs (insI a (b - (a + 1)) (a + 1) xs) rst) 9 (0, 0)⟩] := by
  intro S w0 F w hi
  subst hn
  refine calls_of_WFS Tryz.func138 rfl rfl (hi) ?_
  repeat' (first | (refine pf_keep rfl ?_) | (refine pf_drop rfl ?_) | (refine pf_nil ?_) | (refine w_seq ?_) | (refine w_block ?_) | ((refine w_regI 0 ?_; try ((refine wo_v (ov_move rfl) rfl rfl rfl ?_) <;> try ((refine wo_v (ov_add_i64 rfl rfl (by omega) (by omega)) rfl rfl rfl ?_) <;> try ((refine wo_v (ov_assign rfl) rfl rfl rfl ?_) <;> try ((refine wo_nilP [0, 1, 2, 3, 8, 9, 14, 34] ?_))))))))
  refine w_weak (E' := (fun q : List (List UInt8) × Nat => (8, .int .i64 (q.2 : Int)) :: [(0, .slice (some ⟨gb, 0, none⟩) xs.length cap), (1, .int .i64 (a : Int)), (2, .int .i64 (b : Int)), (3, .func (.func 84) #[] #[])]) (xs, a + 1)) (by repeat (first | exact sub_nil _ | refine sub_cons rfl ?_)) ?_
  refine w_while (fun q : List (List UInt8) × Nat => q.1.length = xs.length ∧ (∀ x ∈ q.1, x.length < 1000) ∧ a + 1 ≤ q.2 ∧ insI a (b - q.2) q.2 q.1 = insI a (b - (a + 1)) (a + 1) xs) (fun q => b - q.2) (fun q : List (List UInt8) × Nat => (8, .int .i64 (q.2 : Int)) :: [(0, .slice (some ⟨gb, 0, none⟩) xs.length cap), (1, .int .i64 (a : Int)), (2, .int .i64 (b : Int)), (3, .func (.func 84) #[] #[])]) (fun q : List (List UInt8) × Nat => ⟨gb, true, .cells (strs q.1 rst) 9 (0, 0)⟩ :: F) ?_ (xs, a + 1) ⟨rfl, hsm, by simp, rfl⟩
  rintro ⟨ys, i⟩ ⟨hyl, hys, hia, hins⟩ ih
  dsimp only at hyl hys hia hins ⊢
  by_cases hlt : i < b
  · repeat' (first | (refine pf_keep rfl ?_) | (refine pf_drop rfl ?_) | (refine pf_nil ?_) | (refine w_seq ?_) | (refine w_condT rfl ?_) | (refine w_block ?_) | (refine w_skip ?_) | ((refine w_regI 1 ?_; try ((refine wo_v (ov_move rfl) rfl rfl rfl ?_) <;> try ((refine wo_v (ov_move rfl) rfl rfl rfl ?_) <;> try ((refine wo_v (ov_lss3 rfl rfl (by first | exact decide_eq_true (by omega) | exact decide_eq_false (by omega) | exact rfl)) rfl rfl rfl ?_) <;> try ((refine wo_nilP [0, 1, 2, 3, 8, 9, 14, 34] ?_))))))) | ((refine w_regI 3 ?_; try ((refine wo_v (ov_move rfl) rfl rfl rfl ?_) <;> try ((refine wo_v (ov_assign rfl) rfl rfl rfl ?_) <;> try ((refine wo_nilP [0, 1, 2, 3, 8, 9, 14, 34] ?_)))))))
    rw [show b - i = (b - (i + 1)) + 1 by omega, insI] at hins
    refine w_weak (E' := (fun q : List (List UInt8) × Nat => (8, .int .i64 (i : Int)) :: (9, .int .i64 (q.2 : Int)) :: [(0, .slice (some ⟨gb, 0, none⟩) xs.length cap), (1, .int .i64 (a : Int)), (2, .int .i64 (b : Int)), (3, .func (.func 84) #[] #[])]) (ys, i)) (by repeat (first | exact sub_nil _ | refine sub_cons rfl ?_)) ?_
    refine w_while (fun q : List (List UInt8) × Nat => q.1.length = xs.length ∧ (∀ x ∈ q.1, x.length < 1000) ∧ a ≤ q.2 ∧ q.2 ≤ i ∧ insJ a q.2 q.1 = insJ a i ys) (fun q => q.2) (fun q : List (List UInt8) × Nat => (8, .int .i64 (i : Int)) :: (9, .int .i64 (q.2 : Int)) :: [(0, .slice (some ⟨gb, 0, none⟩) xs.length cap), (1, .int .i64 (a : Int)), (2, .int .i64 (b : Int)), (3, .func (.func 84) #[] #[])]) (fun q : List (List UInt8) × Nat => ⟨gb, true, .cells (strs q.1 rst) 9 (0, 0)⟩ :: F) ?_ (ys, i) ⟨hyl, hys, by simp only; omega, by simp, rfl⟩
    rintro ⟨zs, j⟩ ⟨hzl, hzs, haj, hji, hinj⟩ ih2
    dsimp only at hzl hzs haj hji hinj ⊢
    have hsz : (strs zs rst).size = zs.length + rst.length := by simp [strs]
    by_cases haj2 : a < j
    · obtain ⟨m, rfl⟩ : ∃ m, j = m + 1 := ⟨j - 1, by omega⟩
      have e1 : 0 + ((m + 1 : Nat) : Int).toNat * 1 = m + 1 := by omega
      have e2 : 0 + (((m + 1 : Nat) : Int) - 1).toNat * 1 = m := by omega
      have l1 : (strs zs rst)[0 + ((m + 1 : Nat) : Int).toNat * 1]? = some (str (atS zs (m + 1))) := by rw [e1]; exact strs_get _ _ _ (by omega)
      have l2 : (strs zs rst)[0 + (((m + 1 : Nat) : Int) - 1).toNat * 1]? = some (str (atS zs m)) := by rw [e2]; exact strs_get _ _ _ (by omega)
      have hz : ∀ k, (atS zs k).length < 1000 := fun k => by
        unfold atS
        by_cases hk : k < zs.length
        · rw [List.getElem?_eq_getElem hk]; exact hzs _ (List.getElem_mem _)
        · rw [List.getElem?_eq_none (by omega)]; simp
      have z1 := hz (m + 1)
      have z2 := hz m
      rw [insJ] at hinj
      by_cases hl : (atS zs m).length < (atS zs (m + 1)).length
      · rw [if_pos ⟨by omega, hl⟩] at hinj
        repeat' (first | (refine pf_keep rfl ?_) | (refine pf_drop rfl ?_) | (refine pf_nil ?_) | (refine w_seq ?_) | (refine w_condT rfl ?_) | (refine w_block ?_) | (refine w_inBlock ?_) | (refine w_skip ?_) | ((refine w_regQI 4 rfl mixed (by kernel_rfl) ?_; try ((refine wq_v (ov_move rfl) rfl rfl ?_) <;> try ((refine wq_v (ov_move rfl) rfl rfl ?_) <;> try ((refine wq_v (ov_gtr3 rfl rfl (by first | exact decide_eq_true (by omega) | exact decide_eq_false (by omega) | exact rfl)) rfl rfl ?_) <;> try ((refine wq_v (ov_move rfl) rfl rfl ?_) <;> try (((refine wq_v (ov_move rfl) rfl rfl ?_)) <;> try (((refine wq_v (ov_move rfl) rfl rfl ?_)) <;> try (((refine wq_v (ov_move rfl) rfl rfl ?_)) <;> try (((refine wq_v (ov_indexAddr Tryz.underlying56 sz9 rfl rfl (by omega) (by omega)) rfl rfl ?_)) <;> try (((refine wq_v (ov_load Tryz.underlying9 rfl rfl (by repeat (first | exact .head _ | refine .tail _ ?_ | refine List.mem_append_right _ ?_ | assumption)) (by first | rfl | assumption | simp)) rfl rfl ?_)) <;> try (((refine wq_v (ov_move rfl) rfl rfl ?_)) <;> try (((refine wq_v (ov_move rfl) rfl rfl ?_)) <;> try (((refine wq_v (ov_sub_i64 rfl rfl (by omega) (by omega)) rfl rfl ?_)) <;> try (((refine wq_v (ov_indexAddr Tryz.underlying56 sz9 rfl rfl (by omega) (by omega)) rfl rfl ?_)) <;> try (((refine wq_v (ov_load Tryz.underlying9 rfl rfl (by repeat (first | exact .head _ | refine .tail _ ?_ | refine List.mem_append_right _ ?_ | assumption)) (by first | rfl | assumption | simp)) rfl rfl ?_)) <;> try (((refine wq_v (ov_call rfl en84 (fun w hi => cmp_c _ _ (by omega) (by omega) w)) rfl rfl ?_)) <;> try (((refine wq_v (ov_lss3 rfl rfl (by first | exact decide_eq_true (by omega) | exact decide_eq_false (by omega) | exact rfl)) rfl rfl ?_)) <;> try ((refine wq_v (ov_pickT rfl rfl) rfl rfl ?_) <;> try ((refine wq_nilP [0, 1, 2, 3, 8, 9, 14, 34] ?_))))))))))))))))))))) | ((refine w_regA (m := 18) 6 rfl mixed rfl ?_; try ((refine wa_take 0 rfl (fun _ => ov_move rfl) (by kernel_rfl) (by kernel_rfl) (by kernel_rfl) rfl rfl rfl rfl ?_) <;> try ((refine wa_take 1 rfl (fun _ => ov_move rfl) (by kernel_rfl) (by kernel_rfl) (by kernel_rfl) rfl rfl rfl rfl ?_) <;> try ((refine wa_take 2 rfl (fun _ => ov_move rfl) (by kernel_rfl) (by kernel_rfl) (by kernel_rfl) rfl rfl rfl rfl ?_) <;> try ((refine wa_take 3 rfl (fun _ => ov_move rfl) (by kernel_rfl) (by kernel_rfl) (by kernel_rfl) rfl rfl rfl rfl ?_) <;> try ((refine wa_take 4 rfl (fun _ => ov_sub_i64 rfl rfl (by omega) (by omega)) (by kernel_rfl) (by kernel_rfl) (by kernel_rfl) rfl rfl rfl rfl ?_) <;> try ((refine wa_take 5 rfl (fun _ => ov_move rfl) (by kernel_rfl) (by kernel_rfl) (by kernel_rfl) rfl rfl rfl rfl ?_) <;> try ((refine wa_take 6 rfl (fun _ => ov_move rfl) (by kernel_rfl) (by kernel_rfl) (by kernel_rfl) rfl rfl rfl rfl ?_) <;> try ((refine wa_take 7 rfl (fun _ => ov_sub_i64 rfl rfl (by omega) (by omega)) (by kernel_rfl) (by kernel_rfl) (by kernel_rfl) rfl rfl rfl rfl ?_) <;> try ((refine wa_take 8 rfl (fun _ => ov_indexAddr Tryz.underlying56 sz9 rfl rfl (by omega) (by omega)) (by kernel_rfl) (by kernel_rfl) (by kernel_rfl) rfl rfl rfl rfl ?_) <;> try ((refine wa_take 10 rfl (fun _ => ov_move rfl) (by kernel_rfl) (by kernel_rfl) (by kernel_rfl) rfl rfl rfl rfl ?_) <;> try ((refine wa_take 11 rfl (fun _ => ov_move rfl) (by kernel_rfl) (by kernel_rfl) (by kernel_rfl) rfl rfl rfl rfl ?_) <;> try ((refine wa_take 12 rfl (fun _ => ov_indexAddr Tryz.underlying56 sz9 rfl rfl (by omega) (by omega)) (by kernel_rfl) (by kernel_rfl) (by kernel_rfl) rfl rfl rfl rfl ?_) <;> try (refine wa_two 9 13 (by kernel_rfl) ?_ ?_ <;> (first | (show WI _ _ _ _ _ _ 9 _ _ _ _; try ((refine wi_v rfl (ov_load Tryz.underlying9 rfl rfl (by repeat (first | exact .head _ | refine .tail _ ?_ | refine List.mem_append_right _ ?_ | assumption)) (by first | rfl | assumption | simp)) rfl rfl rfl ?_) <;> try (refine wa_one 13 (by kernel_rfl) ?_ <;> try ((refine wi_v rfl (ov_load Tryz.underlying9 rfl rfl (by repeat (first | exact .head _ | refine .tail _ ?_ | refine List.mem_append_right _ ?_ | assumption)) (by first | rfl | assumption | simp)) rfl rfl rfl ?_) <;> try ((refine wa_take 14 rfl (fun _ => ov_indexAddr Tryz.underlying56 sz9 rfl rfl (by omega) (by omega)) (by kernel_rfl) (by kernel_rfl) (by kernel_rfl) rfl rfl rfl rfl ?_) <;> try (refine wa_one 15 (by kernel_rfl) ?_ <;> try ((refine wi_store rfl rfl rfl rfl sz9 (by repeat (first | exact .head _ | apply Upd.tail | apply Upd.app)) (by first | decide | (simp; done) | omega | (simp only [Array.size_setIfInBounds]; omega)) (.inr (by first | decide | (simp; done) | omega | (simp only [Array.size_setIfInBounds]; omega))) rfl rfl rfl ?_) <;> try ((refine wa_take 16 rfl (fun _ => ov_indexAddr Tryz.underlying56 sz9 rfl rfl (by omega) (by omega)) (by kernel_rfl) (by kernel_rfl) (by kernel_rfl) rfl rfl rfl rfl ?_) <;> try (refine wa_one 17 (by kernel_rfl) ?_ <;> try ((refine wi_store rfl rfl rfl rfl sz9 (by repeat (first | exact .head _ | apply Upd.tail | apply Upd.app)) (by first | decide | (simp; done) | omega | (simp only [Array.size_setIfInBounds]; omega)) (.inr (by first | decide | (simp; done) | omega | (simp only [Array.size_setIfInBounds]; omega))) rfl rfl rfl ?_) <;> try ((refine wa_done [0, 1, 2, 3, 8, 9, 14, 34] (by kernel_rfl) ?_)))))))))))) | (show WI _ _ _ _ _ _ 13 _ _ _ _; try ((refine wi_v rfl (ov_load Tryz.underlying9 rfl rfl (by repeat (first | exact .head _ | refine .tail _ ?_ | refine List.mem_append_right _ ?_ | assumption)) (by first | rfl | assumption | simp)) rfl rfl rfl ?_) <;> try (refine wa_one 9 (by kernel_rfl) ?_ <;> try ((refine wi_v rfl (ov_load Tryz.underlying9 rfl rfl (by repeat (first | exact .head _ | refine .tail _ ?_ | refine List.mem_append_right _ ?_ | assumption)) (by first | rfl | assumption | simp)) rfl rfl rfl ?_) <;> try ((refine wa_take 14 rfl (fun _ => ov_indexAddr Tryz.underlying56 sz9 rfl rfl (by omega) (by omega)) (by kernel_rfl) (by kernel_rfl) (by kernel_rfl) rfl rfl rfl rfl ?_) <;> try (refine wa_one 15 (by kernel_rfl) ?_ <;> try ((refine wi_store rfl rfl rfl rfl sz9 (by repeat (first | exact .head _ | apply Upd.tail | apply Upd.app)) (by first | decide | (simp; done) | omega | (simp only [Array.size_setIfInBounds]; omega)) (.inr (by first | decide | (simp; done) | omega | (simp only [Array.size_setIfInBounds]; omega))) rfl rfl rfl ?_) <;> try ((refine wa_take 16 rfl (fun _ => ov_indexAddr Tryz.underlying56 sz9 rfl rfl (by omega) (by omega)) (by kernel_rfl) (by kernel_rfl) (by kernel_rfl) rfl rfl rfl rfl ?_) <;> try (refine wa_one 17 (by kernel_rfl) ?_ <;> try ((refine wi_store rfl rfl rfl rfl sz9 (by repeat (first | exact .head _ | apply Upd.tail | apply Upd.app)) (by first | decide | (simp; done) | omega | (simp only [Array.size_setIfInBounds]; omega)) (.inr (by first | decide | (simp; done) | omega | (simp only [Array.size_setIfInBounds]; omega))) rfl rfl rfl ?_) <;> try ((refine wa_done [0, 1, 2, 3, 8, 9, 14, 34] (by kernel_rfl) ?_)))))))))))))))))))))))))))) | ((refine w_regI 5 ?_; try ((refine wo_v (ov_move rfl) rfl rfl rfl ?_) <;> try ((refine wo_v (ov_sub_i64 rfl rfl (by omega) (by omega)) rfl rfl rfl ?_) <;> try ((refine wo_v (ov_assign rfl) rfl rfl rfl ?_) <;> try ((refine wo_nilP [0, 1, 2, 3, 8, 9, 14, 34] ?_))))))))
        all_goals
          rw [e1, e2, strs_set _ _ _ _ (by omega), strs_set _ _ _ _ (by simp; omega), show ((m + 1 : Nat) : Int) - 1 = ((m : Nat) : Int) by omega]
          refine w_weak (by first | exact sub_nil _ | (refine sub_cons rfl ?_; repeat (first | exact sub_nil _ | refine sub_cons rfl ?_))) (ih2 (swp zs m, m) ⟨by simp only; rw [swp_len]; exact hzl, fun x hx => hzs x (swp_mem zs m (by omega) x hx), by simp only; omega, by simp only; omega, hinj⟩ (by simp only; omega))
      · rw [if_neg (fun h => hl h.2)] at hinj
        repeat' (first | (refine pf_keep rfl ?_) | (refine pf_drop rfl ?_) | (refine pf_nil ?_) | (refine w_seq ?_) | (refine w_condF rfl ?_) | (refine w_inBlock ?_) | (refine w_exit rfl ?_) | ((refine w_regQI 4 rfl mixed (by kernel_rfl) ?_; try ((refine wq_v (ov_move rfl) rfl rfl ?_) <;> try ((refine wq_v (ov_move rfl) rfl rfl ?_) <;> try ((refine wq_v (ov_gtr3 rfl rfl (by first | exact decide_eq_true (by omega) | exact decide_eq_false (by omega) | exact rfl)) rfl rfl ?_) <;> try ((refine wq_v (ov_move rfl) rfl rfl ?_) <;> try (((refine wq_v (ov_move rfl) rfl rfl ?_)) <;> try (((refine wq_v (ov_move rfl) rfl rfl ?_)) <;> try (((refine wq_v (ov_move rfl) rfl rfl ?_)) <;> try (((refine wq_v (ov_indexAddr Tryz.underlying56 sz9 rfl rfl (by omega) (by omega)) rfl rfl ?_)) <;> try (((refine wq_v (ov_load Tryz.underlying9 rfl rfl (by repeat (first | exact .head _ | refine .tail _ ?_ | refine List.mem_append_right _ ?_ | assumption)) (by first | rfl | assumption | simp)) rfl rfl ?_)) <;> try (((refine wq_v (ov_move rfl) rfl rfl ?_)) <;> try (((refine wq_v (ov_move rfl) rfl rfl ?_)) <;> try (((refine wq_v (ov_sub_i64 rfl rfl (by omega) (by omega)) rfl rfl ?_)) <;> try (((refine wq_v (ov_indexAddr Tryz.underlying56 sz9 rfl rfl (by omega) (by omega)) rfl rfl ?_)) <;> try (((refine wq_v (ov_load Tryz.underlying9 rfl rfl (by repeat (first | exact .head _ | refine .tail _ ?_ | refine List.mem_append_right _ ?_ | assumption)) (by first | rfl | assumption | simp)) rfl rfl ?_)) <;> try (((refine wq_v (ov_call rfl en84 (fun w hi => cmp_c _ _ (by omega) (by omega) w)) rfl rfl ?_)) <;> try (((refine wq_v (ov_lss3 rfl rfl (by first | exact decide_eq_true (by omega) | exact decide_eq_false (by omega) | exact rfl)) rfl rfl ?_)) <;> try ((refine wq_v (ov_pickT rfl rfl) rfl rfl ?_) <;> try ((refine wq_nilP [0, 1, 2, 3, 8, 9, 14, 34] ?_))))))))))))))))))))) | ((refine w_regI 2 ?_; try ((refine wo_v (ov_move rfl) rfl rfl rfl ?_) <;> try ((refine wo_v (ov_add_i64 rfl rfl (by omega) (by omega)) rfl rfl rfl ?_) <;> try ((refine wo_v (ov_assign rfl) rfl rfl rfl ?_) <;> try ((refine wo_nilP [0, 1, 2, 3, 8, 9, 14, 34] ?_))))))))
        refine w_weak (by first | exact sub_nil _ | (refine sub_cons rfl ?_; repeat (first | exact sub_nil _ | refine sub_cons rfl ?_))) (ih (zs, i + 1) ⟨hzl, hzs, by simp only; omega, by simp only; rw [hinj]; exact hins⟩ (by simp only; omega))
    · have hj0 : insJ a j zs = zs := by
        cases j with
        | zero => rfl
        | succ m => rw [insJ, if_neg (fun h => haj2 h.1)]
      rw [hj0] at hinj
      repeat' (first | (refine pf_keep rfl ?_) | (refine pf_drop rfl ?_) | (refine pf_nil ?_) | (refine w_seq ?_) | (refine w_condF rfl ?_) | (refine w_inBlock ?_) | (refine w_exit rfl ?_) | ((refine w_regT (id := 4) 14 rfl mixed (by kernel_rfl) ?_; try ((refine wt_v (ov_move rfl) rfl rfl ?_) <;> try ((refine wt_v (ov_move rfl) rfl rfl ?_) <;> try ((refine wt_v (ov_gtr3 rfl rfl (by first | exact decide_eq_true (by omega) | exact decide_eq_false (by omega) | exact rfl)) rfl rfl ?_) <;> try ((refine wt_v (ov_move rfl) rfl rfl ?_) <;> try ((refine wt_skip rfl rfl ?_) <;> try ((refine wt_skip rfl rfl ?_) <;> try ((refine wt_skip rfl rfl ?_) <;> try ((refine wt_skip rfl rfl ?_) <;> try ((refine wt_skip rfl rfl ?_) <;> try ((refine wt_skip rfl rfl ?_) <;> try ((refine wt_skip rfl rfl ?_) <;> try ((refine wt_skip rfl rfl ?_) <;> try ((refine wt_skip rfl rfl ?_) <;> try ((refine wt_skip rfl rfl ?_) <;> try ((refine wt_nil ?_; try ((refine wo_skip rfl rfl ?_) <;> try ((refine wo_skip rfl rfl ?_) <;> try ((refine wo_v (ov_pickF rfl rfl) rfl rfl rfl ?_) <;> try ((refine wo_nilP [0, 1, 2, 3, 8, 9, 14, 34] ?_))))))))))))))))))))))) | ((refine w_regI 2 ?_; try ((refine wo_v (ov_move rfl) rfl rfl rfl ?_) <;> try ((refine wo_v (ov_add_i64 rfl rfl (by omega) (by omega)) rfl rfl rfl ?_) <;> try ((refine wo_v (ov_assign rfl) rfl rfl rfl ?_) <;> try ((refine wo_nilP [0, 1, 2, 3, 8, 9, 14, 34] ?_))))))))
      refine w_weak (by first | exact sub_nil _ | (refine sub_cons rfl ?_; repeat (first | exact sub_nil _ | refine sub_cons rfl ?_))) (ih (zs, i + 1) ⟨hzl, hzs, by simp only; omega, by simp only; rw [hinj]; exact hins⟩ (by simp only; omega))
  · repeat' (first | (refine pf_keep rfl ?_) | (refine pf_drop rfl ?_) | (refine pf_nil ?_) | (refine w_seq ?_) | (refine w_condF rfl ?_) | (refine w_exit rfl ?_) | (refine w_end Tryz.func138 rfl (fun w_ hi_ => ?_)) | ((refine w_regI 1 ?_; try ((refine wo_v (ov_move rfl) rfl rfl rfl ?_) <;> try ((refine wo_v (ov_move rfl) rfl rfl rfl ?_) <;> try ((refine wo_v (ov_lss3 rfl rfl (by first | exact decide_eq_true (by omega) | exact decide_eq_false (by omega) | exact rfl)) rfl rfl rfl ?_) <;> try ((refine wo_nilP [0, 1, 2, 3, 8, 9, 14, 34] ?_))))))))
    rw [show b - i = 0 by omega, insI] at hins
    rw [← hins]
    exact ⟨_, ⟨rfl, rfl⟩, hi_⟩
end Go.Sl
namespace Go.Sl
open Go Go.Proofs
set_option maxRecDepth 100000
set_option maxHeartbeats 4000000
set_option linter.unusedSimpArgs false
set_option linter.unusedVariables false
attribute [local irreducible] Calls

theorem sym17_c (gb cap : Nat) (rst : List Value) : SL Tryz.prog 139 [.slice (some ⟨gb, 0, none⟩) 23 cap, .int .i64 17, .int .i64 20, .int .i64 23, .func (.func 84) #[] #[]] [⟨gb, true, .cells (strs sgnL rst) 9 (0, 0)⟩] fun e post => ∃ v, e = .returned v ∧ v = .tuple #[] ∧ post = [⟨gb, true, .cells (strs sgnL rst) 9 (0, 0)⟩] := by
  intro S w0 F w hi
  refine calls_of_WFS Tryz.func139 rfl rfl (hi) ?_
  repeat' (first | (refine pf_keep rfl ?_) | (refine pf_drop rfl ?_) | (refine pf_nil ?_) | (refine w_seq ?_) | (refine w_condT rfl ?_) | (refine w_condF rfl ?_) | (refine w_block ?_) | (refine w_inBlock ?_) | (refine w_skip ?_) | (refine w_exit rfl ?_) | (refine w_loop' ?_) | (refine w_inLoop ?_) | (refine w_end Tryz.func139 rfl (fun w_ hi_ => ?_)) | ((refine w_regI 0 ?_; try ((refine wo_v (ov_move rfl) rfl rfl rfl ?_) <;> try ((refine wo_v (ov_move rfl) rfl rfl rfl ?_) <;> try ((refine wo_v (ov_sub_i64 rfl rfl (by omega) (by omega)) rfl rfl rfl ?_) <;> try ((refine wo_v (ov_eql3 rfl rfl (by first | exact decide_eq_true (by omega) | exact decide_eq_false (by omega) | exact rfl)) rfl rfl rfl ?_) <;> try ((refine wo_nilP [0, 1, 2, 3, 4, 10, 11, 12, 13, 14, 15, 16, 17, 18, 19, 20, 21, 22, 23, 24, 28, 33, 50, 58, 80, 85, 103, 110, 140, 151, 171, 185, 199, 213] ?_)))))))) | ((refine w_regI 12 ?_; try ((refine wo_v (ov_move rfl) rfl rfl rfl ?_) <;> try ((refine wo_v (ov_move rfl) rfl rfl rfl ?_) <;> try ((refine wo_v (ov_sub_i64 rfl rfl (by omega) (by omega)) rfl rfl rfl ?_) <;> try ((refine wo_v (ov_eql3 rfl rfl (by first | exact decide_eq_true (by omega) | exact decide_eq_false (by omega) | exact rfl)) rfl rfl rfl ?_) <;> try ((refine wo_nilP [0, 1, 2, 3, 4, 10, 11, 12, 13, 14, 15, 16, 17, 18, 19, 20, 21, 22, 23, 24, 28, 33, 50, 58, 80, 85, 103, 110, 140, 151, 171, 185, 199, 213] ?_)))))))) | ((refine w_regI 24 ?_; try ((refine wo_v (ov_move rfl) rfl rfl rfl ?_) <;> try ((refine wo_v (ov_move rfl) rfl rfl rfl ?_) <;> try ((refine wo_v (ov_add_i64 rfl rfl (by omega) (by omega)) rfl rfl rfl ?_) <;> try ((refine wo_v (ov_conv_u64 Tryz.underlying3 Tryz.underlying146 rfl (by omega) (by omega)) rfl rfl rfl ?_) <;> try ((refine wo_v (ov_shr (r := 20) rfl rfl (by omega) (by decide)) rfl rfl rfl ?_) <;> try ((refine wo_v (ov_conv_i64 Tryz.underlying146 Tryz.underlying3 rfl (by omega) (by omega)) rfl rfl rfl ?_) <;> try ((refine wo_v (ov_assign rfl) rfl rfl rfl ?_) <;> try ((refine wo_nilP [0, 1, 2, 3, 4, 10, 11, 12, 13, 14, 15, 16, 17, 18, 19, 20, 21, 22, 23, 24, 28, 33, 50, 58, 80, 85, 103, 110, 140, 151, 171, 185, 199, 213] ?_))))))))))) | ((refine w_regI 25 ?_; try ((refine wo_v (ov_move rfl) rfl rfl rfl ?_) <;> try ((refine wo_v (ov_move rfl) rfl rfl rfl ?_) <;> try ((refine wo_v (ov_add_i64 rfl rfl (by omega) (by omega)) rfl rfl rfl ?_) <;> try ((refine wo_v (ov_assign rfl) rfl rfl rfl ?_) <;> try ((refine wo_nilP [0, 1, 2, 3, 4, 10, 11, 12, 13, 14, 15, 16, 17, 18, 19, 20, 21, 22, 23, 24, 28, 33, 50, 58, 80, 85, 103, 110, 140, 151, 171, 185, 199, 213] ?_)))))))) | ((refine w_regI 26 ?_; try ((refine wo_v (ov_assign rfl) rfl rfl rfl ?_) <;> try ((refine wo_v (ov_assign rfl) rfl rfl rfl ?_) <;> try ((refine wo_nilP [0, 1, 2, 3, 4, 10, 11, 12, 13, 14, 15, 16, 17, 18, 19, 20, 21, 22, 23, 24, 28, 33, 50, 58, 80, 85, 103, 110, 140, 151, 171, 185, 199, 213] ?_)))))) | ((refine w_regI 27 ?_; try ((refine wo_v (ov_move rfl) rfl rfl rfl ?_) <;> try ((refine wo_v (ov_move rfl) rfl rfl rfl ?_) <;> try ((refine wo_v (ov_gtr3 rfl rfl (by first | exact decide_eq_true (by omega) | exact decide_eq_false (by omega) | exact rfl)) rfl rfl rfl ?_) <;> try ((refine wo_nilP [0, 1, 2, 3, 4, 10, 11, 12, 13, 14, 15, 16, 17, 18, 19, 20, 21, 22, 23, 24, 28, 33, 50, 58, 80, 85, 103, 110, 140, 151, 171, 185, 199, 213] ?_))))))) | ((refine w_regI 30 ?_; try ((refine wo_v (ov_move rfl) rfl rfl rfl ?_) <;> try ((refine wo_v (ov_assign rfl) rfl rfl rfl ?_) <;> try ((refine wo_nilP [0, 1, 2, 3, 4, 10, 11, 12, 13, 14, 15, 16, 17, 18, 19, 20, 21, 22, 23, 24, 28, 33, 50, 58, 80, 85, 103, 110, 140, 151, 171, 185, 199, 213] ?_)))))) | ((refine w_regI 31 ?_; try ((refine wo_v (ov_move rfl) rfl rfl rfl ?_) <;> try ((refine wo_v (ov_assign rfl) rfl rfl rfl ?_) <;> try ((refine wo_nilP [0, 1, 2, 3, 4, 10, 11, 12, 13, 14, 15, 16, 17, 18, 19, 20, 21, 22, 23, 24, 28, 33, 50, 58, 80, 85, 103, 110, 140, 151, 171, 185, 199, 213] ?_)))))) | ((refine w_regI 32 ?_; try ((refine wo_v (ov_move rfl) rfl rfl rfl ?_) <;> try ((refine wo_v (ov_sub_i64 rfl rfl (by omega) (by omega)) rfl rfl rfl ?_) <;> try ((refine wo_v (ov_assign rfl) rfl rfl rfl ?_) <;> try ((refine wo_nilP [0, 1, 2, 3, 4, 10, 11, 12, 13, 14, 15, 16, 17, 18, 19, 20, 21, 22, 23, 24, 28, 33, 50, 58, 80, 85, 103, 110, 140, 151, 171, 185, 199, 213] ?_))))))) | ((refine w_regI 33 ?_; try ((refine wo_v (ov_move rfl) rfl rfl rfl ?_) <;> try ((refine wo_v (ov_move rfl) rfl rfl rfl ?_) <;> try ((refine wo_v (ov_lss3 rfl rfl (by first | exact decide_eq_true (by omega) | exact decide_eq_false (by omega) | exact rfl)) rfl rfl rfl ?_) <;> try ((refine wo_nilP [0, 1, 2, 3, 4, 10, 11, 12, 13, 14, 15, 16, 17, 18, 19, 20, 21, 22, 23, 24, 28, 33, 50, 58, 80, 85, 103, 110, 140, 151, 171, 185, 199, 213] ?_))))))) | ((refine w_regI 34 ?_; try ((refine wo_v (ov_move rfl) rfl rfl rfl ?_) <;> try ((refine wo_v (ov_move rfl) rfl rfl rfl ?_) <;> try ((refine wo_v (ov_add_i64 rfl rfl (by omega) (by omega)) rfl rfl rfl ?_) <;> try ((refine wo_v (ov_conv_u64 Tryz.underlying3 Tryz.underlying146 rfl (by omega) (by omega)) rfl rfl rfl ?_) <;> try ((first | (refine wo_v (ov_shr (r := 18) rfl rfl (by omega) (by decide)) rfl rfl rfl ?_) | (refine wo_v (ov_shr (r := 19) rfl rfl (by omega) (by decide)) rfl rfl rfl ?_)) <;> try ((refine wo_v (ov_conv_i64 Tryz.underlying146 Tryz.underlying3 rfl (by omega) (by omega)) rfl rfl rfl ?_) <;> try ((refine wo_v (ov_assign rfl) rfl rfl rfl ?_) <;> try ((refine wo_nilP [0, 1, 2, 3, 4, 10, 11, 12, 13, 14, 15, 16, 17, 18, 19, 20, 21, 22, 23, 24, 28, 33, 50, 58, 80, 85, 103, 110, 140, 151, 171, 185, 199, 213] ?_))))))))))) | ((refine w_regQI 35 rfl mixed (by kernel_rfl) ?_; try ((refine wq_v (ov_move rfl) rfl rfl ?_) <;> try ((refine wq_v (ov_move rfl) rfl rfl ?_) <;> try ((refine wq_v (ov_move rfl) rfl rfl ?_) <;> try ((refine wq_v (ov_move rfl) rfl rfl ?_) <;> try ((refine wq_v (ov_sub_i64 rfl rfl (by omega) (by omega)) rfl rfl ?_) <;> try ((refine wq_v (ov_indexAddr Tryz.underlying56 sz9 rfl rfl (by omega) (by omega)) rfl rfl ?_) <;> try ((refine wq_v (ov_load Tryz.underlying9 rfl rfl (by repeat (first | exact .head _ | refine .tail _ ?_ | refine List.mem_append_right _ ?_ | assumption)) (by first | rfl | assumption | simp)) rfl rfl ?_) <;> try ((refine wq_v (ov_move rfl) rfl rfl ?_) <;> try ((refine wq_v (ov_move rfl) rfl rfl ?_) <;> try ((refine wq_v (ov_indexAddr Tryz.underlying56 sz9 rfl rfl (by omega) (by omega)) rfl rfl ?_) <;> try ((refine wq_v (ov_load Tryz.underlying9 rfl rfl (by repeat (first | exact .head _ | refine .tail _ ?_ | refine List.mem_append_right _ ?_ | assumption)) (by first | rfl | assumption | simp)) rfl rfl ?_) <;> try ((refine wq_v (ov_call (v := .int .i64 0) rfl en84 (fun w hi => cmp_c _ _ (by decide) (by decide) w)) rfl rfl ?_) <;> try ((refine wq_v (ov_lss3 rfl rfl (by first | exact decide_eq_true (by omega) | exact decide_eq_false (by omega) | exact rfl)) rfl rfl ?_) <;> try ((refine wq_v (ov_notF rfl) rfl rfl ?_) <;> try ((refine wq_nilP [0, 1, 2, 3, 4, 10, 11, 12, 13, 14, 15, 16, 17, 18, 19, 20, 21, 22, 23, 24, 28, 33, 50, 58, 80, 85, 103, 110, 140, 151, 171, 185, 199, 213] ?_)))))))))))))))))) | ((refine w_regI 36 ?_; try ((refine wo_v (ov_move rfl) rfl rfl rfl ?_) <;> try ((refine wo_v (ov_add_i64 rfl rfl (by omega) (by omega)) rfl rfl rfl ?_) <;> try ((refine wo_v (ov_assign rfl) rfl rfl rfl ?_) <;> try ((refine wo_nilP [0, 1, 2, 3, 4, 10, 11, 12, 13, 14, 15, 16, 17, 18, 19, 20, 21, 22, 23, 24, 28, 33, 50, 58, 80, 85, 103, 110, 140, 151, 171, 185, 199, 213] ?_))))))) | ((refine w_regI 38 ?_; try ((refine wo_v (ov_move rfl) rfl rfl rfl ?_) <;> try ((refine wo_v (ov_move rfl) rfl rfl rfl ?_) <;> try ((refine wo_v (ov_sub_i64 rfl rfl (by omega) (by omega)) rfl rfl rfl ?_) <;> try ((refine wo_v (ov_assign rfl) rfl rfl rfl ?_) <;> try ((refine wo_nilP [0, 1, 2, 3, 4, 10, 11, 12, 13, 14, 15, 16, 17, 18, 19, 20, 21, 22, 23, 24, 28, 33, 50, 58, 80, 85, 103, 110, 140, 151, 171, 185, 199, 213] ?_)))))))) | ((refine w_regI 39 ?_; try ((refine wo_v (ov_move rfl) rfl rfl rfl ?_) <;> try ((refine wo_v (ov_move rfl) rfl rfl rfl ?_) <;> try ((refine wo_v (ov_lss3 rfl rfl (by first | exact decide_eq_true (by omega) | exact decide_eq_false (by omega) | exact rfl)) rfl rfl rfl ?_) <;> try ((refine wo_v (ov_move rfl) rfl rfl rfl ?_) <;> try ((refine wo_skip rfl rfl ?_) <;> try ((refine wo_skip rfl rfl ?_) <;> try ((refine wo_skip rfl rfl ?_) <;> try ((refine wo_v (ov_pickF rfl rfl) rfl rfl rfl ?_) <;> try ((refine wo_nilP [0, 1, 2, 3, 4, 10, 11, 12, 13, 14, 15, 16, 17, 18, 19, 20, 21, 22, 23, 24, 28, 33, 50, 58, 80, 85, 103, 110, 140, 151, 171, 185, 199, 213] ?_)))))))))))) | ((refine w_regI 41 ?_; try ((refine wo_v (ov_move rfl) rfl rfl rfl ?_) <;> try ((refine wo_v (ov_move rfl) rfl rfl rfl ?_) <;> try ((refine wo_v (ov_lss3 rfl rfl (by first | exact decide_eq_true (by omega) | exact decide_eq_false (by omega) | exact rfl)) rfl rfl rfl ?_) <;> try ((refine wo_v (ov_move rfl) rfl rfl rfl ?_) <;> try (((refine wo_v (ov_move rfl) rfl rfl rfl ?_)) <;> try (((refine wo_v (ov_move rfl) rfl rfl rfl ?_)) <;> try (((refine wo_v (ov_lss3 rfl rfl (by first | exact decide_eq_true (by omega) | exact decide_eq_false (by omega) | exact rfl)) rfl rfl rfl ?_)) <;> try ((refine wo_v (ov_pickT rfl rfl) rfl rfl rfl ?_) <;> try ((refine wo_nilP [0, 1, 2, 3, 4, 10, 11, 12, 13, 14, 15, 16, 17, 18, 19, 20, 21, 22, 23, 24, 28, 33, 50, 58, 80, 85, 103, 110, 140, 151, 171, 185, 199, 213] ?_)))))))))))) | ((refine w_regI 43 ?_; try ((refine wo_v (ov_move rfl) rfl rfl rfl ?_) <;> try ((refine wo_v (ov_move rfl) rfl rfl rfl ?_) <;> try ((refine wo_v (ov_lss3 rfl rfl (by first | exact decide_eq_true (by omega) | exact decide_eq_false (by omega) | exact rfl)) rfl rfl rfl ?_) <;> try ((refine wo_v (ov_move rfl) rfl rfl rfl ?_) <;> try ((refine wo_skip rfl rfl ?_) <;> try ((refine wo_skip rfl rfl ?_) <;> try ((refine wo_skip rfl rfl ?_) <;> try ((refine wo_v (ov_pickF rfl rfl) rfl rfl rfl ?_) <;> try ((refine wo_nilP [0, 1, 2, 3, 4, 10, 11, 12, 13, 14, 15, 16, 17, 18, 19, 20, 21, 22, 23, 24, 28, 33, 50, 58, 80, 85, 103, 110, 140, 151, 171, 185, 199, 213] ?_)))))))))))))
  exact ⟨_, ⟨_, rfl, rfl, rfl⟩, hi_⟩
theorem sym11_c (gb cap : Nat) (rst : List Value) : SL Tryz.prog 139 [.slice (some ⟨gb, 0, none⟩) 23 cap, .int .i64 11, .int .i64 20, .int .i64 23, .func (.func 84) #[] #[]] [⟨gb, true, .cells (strs sgnL rst) 9 (0, 0)⟩] fun e post => ∃ v, e = .returned v ∧ v = .tuple #[] ∧ post = [⟨gb, true, .cells (strs sgnL rst) 9 (0, 0)⟩] := by
  intro S w0 F w hi
  refine calls_of_WFS Tryz.func139 rfl rfl (hi) ?_
  repeat' (first | (refine pf_keep rfl ?_) | (refine pf_drop rfl ?_) | (refine pf_nil ?_) | (refine w_seq ?_) | (refine w_condT rfl ?_) | (refine w_condF rfl ?_) | (refine w_block ?_) | (refine w_inBlock ?_) | (refine w_skip ?_) | (refine w_exit rfl ?_) | (refine w_loop' ?_) | (refine w_inLoop ?_) | (refine w_end Tryz.func139 rfl (fun w_ hi_ => ?_)) | ((refine w_regI 0 ?_; try ((refine wo_v (ov_move rfl) rfl rfl rfl ?_) <;> try ((refine wo_v (ov_move rfl) rfl rfl rfl ?_) <;> try ((refine wo_v (ov_sub_i64 rfl rfl (by omega) (by omega)) rfl rfl rfl ?_) <;> try ((refine wo_v (ov_eql3 rfl rfl (by first | exact decide_eq_true (by omega) | exact decide_eq_false (by omega) | exact rfl)) rfl rfl rfl ?_) <;> try ((refine wo_nilP [0, 1, 2, 3, 4, 10, 11, 12, 13, 14, 15, 16, 17, 18, 19, 20, 21, 22, 23, 24, 28, 33, 50, 58, 80, 85, 103, 110, 140, 151, 171, 185, 199, 213] ?_)))))))) | ((refine w_regI 12 ?_; try ((refine wo_v (ov_move rfl) rfl rfl rfl ?_) <;> try ((refine wo_v (ov_move rfl) rfl rfl rfl ?_) <;> try ((refine wo_v (ov_sub_i64 rfl rfl (by omega) (by omega)) rfl rfl rfl ?_) <;> try ((refine wo_v (ov_eql3 rfl rfl (by first | exact decide_eq_true (by omega) | exact decide_eq_false (by omega) | exact rfl)) rfl rfl rfl ?_) <;> try ((refine wo_nilP [0, 1, 2, 3, 4, 10, 11, 12, 13, 14, 15, 16, 17, 18, 19, 20, 21, 22, 23, 24, 28, 33, 50, 58, 80, 85, 103, 110, 140, 151, 171, 185, 199, 213] ?_)))))))) | ((refine w_regI 24 ?_; try ((refine wo_v (ov_move rfl) rfl rfl rfl ?_) <;> try ((refine wo_v (ov_move rfl) rfl rfl rfl ?_) <;> try ((refine wo_v (ov_add_i64 rfl rfl (by omega) (by omega)) rfl rfl rfl ?_) <;> try ((refine wo_v (ov_conv_u64 Tryz.underlying3 Tryz.underlying146 rfl (by omega) (by omega)) rfl rfl rfl ?_) <;> try ((refine wo_v (ov_shr (r := 17) rfl rfl (by omega) (by decide)) rfl rfl rfl ?_) <;> try ((refine wo_v (ov_conv_i64 Tryz.underlying146 Tryz.underlying3 rfl (by omega) (by omega)) rfl rfl rfl ?_) <;> try ((refine wo_v (ov_assign rfl) rfl rfl rfl ?_) <;> try ((refine wo_nilP [0, 1, 2, 3, 4, 10, 11, 12, 13, 14, 15, 16, 17, 18, 19, 20, 21, 22, 23, 24, 28, 33, 50, 58, 80, 85, 103, 110, 140, 151, 171, 185, 199, 213] ?_))))))))))) | ((refine w_regI 25 ?_; try ((refine wo_v (ov_move rfl) rfl rfl rfl ?_) <;> try ((refine wo_v (ov_move rfl) rfl rfl rfl ?_) <;> try ((refine wo_v (ov_add_i64 rfl rfl (by omega) (by omega)) rfl rfl rfl ?_) <;> try ((refine wo_v (ov_assign rfl) rfl rfl rfl ?_) <;> try ((refine wo_nilP [0, 1, 2, 3, 4, 10, 11, 12, 13, 14, 15, 16, 17, 18, 19, 20, 21, 22, 23, 24, 28, 33, 50, 58, 80, 85, 103, 110, 140, 151, 171, 185, 199, 213] ?_)))))))) | ((refine w_regI 26 ?_; try ((refine wo_v (ov_assign rfl) rfl rfl rfl ?_) <;> try ((refine wo_v (ov_assign rfl) rfl rfl rfl ?_) <;> try ((refine wo_nilP [0, 1, 2, 3, 4, 10, 11, 12, 13, 14, 15, 16, 17, 18, 19, 20, 21, 22, 23, 24, 28, 33, 50, 58, 80, 85, 103, 110, 140, 151, 171, 185, 199, 213] ?_)))))) | ((refine w_regI 27 ?_; try ((refine wo_v (ov_move rfl) rfl rfl rfl ?_) <;> try ((refine wo_v (ov_move rfl) rfl rfl rfl ?_) <;> try ((refine wo_v (ov_gtr3 rfl rfl (by first | exact decide_eq_true (by omega) | exact decide_eq_false (by omega) | exact rfl)) rfl rfl rfl ?_) <;> try ((refine wo_nilP [0, 1, 2, 3, 4, 10, 11, 12, 13, 14, 15, 16, 17, 18, 19, 20, 21, 22, 23, 24, 28, 33, 50, 58, 80, 85, 103, 110, 140, 151, 171, 185, 199, 213] ?_))))))) | ((refine w_regI 28 ?_; try ((refine wo_v (ov_move rfl) rfl rfl rfl ?_) <;> try ((refine wo_v (ov_move rfl) rfl rfl rfl ?_) <;> try ((refine wo_v (ov_sub_i64 rfl rfl (by omega) (by omega)) rfl rfl rfl ?_) <;> try ((refine wo_v (ov_assign rfl) rfl rfl rfl ?_) <;> try ((refine wo_nilP [0, 1, 2, 3, 4, 10, 11, 12, 13, 14, 15, 16, 17, 18, 19, 20, 21, 22, 23, 24, 28, 33, 50, 58, 80, 85, 103, 110, 140, 151, 171, 185, 199, 213] ?_)))))))) | ((refine w_regI 29 ?_; try ((refine wo_v (ov_move rfl) rfl rfl rfl ?_) <;> try ((refine wo_v (ov_assign rfl) rfl rfl rfl ?_) <;> try ((refine wo_nilP [0, 1, 2, 3, 4, 10, 11, 12, 13, 14, 15, 16, 17, 18, 19, 20, 21, 22, 23, 24, 28, 33, 50, 58, 80, 85, 103, 110, 140, 151, 171, 185, 199, 213] ?_)))))) | ((refine w_regI 32 ?_; try ((refine wo_v (ov_move rfl) rfl rfl rfl ?_) <;> try ((refine wo_v (ov_sub_i64 rfl rfl (by omega) (by omega)) rfl rfl rfl ?_) <;> try ((refine wo_v (ov_assign rfl) rfl rfl rfl ?_) <;> try ((refine wo_nilP [0, 1, 2, 3, 4, 10, 11, 12, 13, 14, 15, 16, 17, 18, 19, 20, 21, 22, 23, 24, 28, 33, 50, 58, 80, 85, 103, 110, 140, 151, 171, 185, 199, 213] ?_))))))) | ((refine w_regI 33 ?_; try ((refine wo_v (ov_move rfl) rfl rfl rfl ?_) <;> try ((refine wo_v (ov_move rfl) rfl rfl rfl ?_) <;> try ((refine wo_v (ov_lss3 rfl rfl (by first | exact decide_eq_true (by omega) | exact decide_eq_false (by omega) | exact rfl)) rfl rfl rfl ?_) <;> try ((refine wo_nilP [0, 1, 2, 3, 4, 10, 11, 12, 13, 14, 15, 16, 17, 18, 19, 20, 21, 22, 23, 24, 28, 33, 50, 58, 80, 85, 103, 110, 140, 151, 171, 185, 199, 213] ?_))))))) | ((refine w_regI 34 ?_; try ((refine wo_v (ov_move rfl) rfl rfl rfl ?_) <;> try ((refine wo_v (ov_move rfl) rfl rfl rfl ?_) <;> try ((refine wo_v (ov_add_i64 rfl rfl (by omega) (by omega)) rfl rfl rfl ?_) <;> try ((refine wo_v (ov_conv_u64 Tryz.underlying3 Tryz.underlying146 rfl (by omega) (by omega)) rfl rfl rfl ?_) <;> try ((first | (refine wo_v (ov_shr (r := 15) rfl rfl (by omega) (by decide)) rfl rfl rfl ?_) | (refine wo_v (ov_shr (r := 16) rfl rfl (by omega) (by decide)) rfl rfl rfl ?_)) <;> try ((refine wo_v (ov_conv_i64 Tryz.underlying146 Tryz.underlying3 rfl (by omega) (by omega)) rfl rfl rfl ?_) <;> try ((refine wo_v (ov_assign rfl) rfl rfl rfl ?_) <;> try ((refine wo_nilP [0, 1, 2, 3, 4, 10, 11, 12, 13, 14, 15, 16, 17, 18, 19, 20, 21, 22, 23, 24, 28, 33, 50, 58, 80, 85, 103, 110, 140, 151, 171, 185, 199, 213] ?_))))))))))) | ((refine w_regQI 35 rfl mixed (by kernel_rfl) ?_; try ((refine wq_v (ov_move rfl) rfl rfl ?_) <;> try ((refine wq_v (ov_move rfl) rfl rfl ?_) <;> try ((refine wq_v (ov_move rfl) rfl rfl ?_) <;> try ((refine wq_v (ov_move rfl) rfl rfl ?_) <;> try ((refine wq_v (ov_sub_i64 rfl rfl (by omega) (by omega)) rfl rfl ?_) <;> try ((refine wq_v (ov_indexAddr Tryz.underlying56 sz9 rfl rfl (by omega) (by omega)) rfl rfl ?_) <;> try ((refine wq_v (ov_load Tryz.underlying9 rfl rfl (by repeat (first | exact .head _ | refine .tail _ ?_ | refine List.mem_append_right _ ?_ | assumption)) (by first | rfl | assumption | simp)) rfl rfl ?_) <;> try ((refine wq_v (ov_move rfl) rfl rfl ?_) <;> try ((refine wq_v (ov_move rfl) rfl rfl ?_) <;> try ((refine wq_v (ov_indexAddr Tryz.underlying56 sz9 rfl rfl (by omega) (by omega)) rfl rfl ?_) <;> try ((refine wq_v (ov_load Tryz.underlying9 rfl rfl (by repeat (first | exact .head _ | refine .tail _ ?_ | refine List.mem_append_right _ ?_ | assumption)) (by first | rfl | assumption | simp)) rfl rfl ?_) <;> try ((refine wq_v (ov_call (v := .int .i64 0) rfl en84 (fun w hi => cmp_c _ _ (by decide) (by decide) w)) rfl rfl ?_) <;> try ((refine wq_v (ov_lss3 rfl rfl (by first | exact decide_eq_true (by omega) | exact decide_eq_false (by omega) | exact rfl)) rfl rfl ?_) <;> try ((refine wq_v (ov_notF rfl) rfl rfl ?_) <;> try ((refine wq_nilP [0, 1, 2, 3, 4, 10, 11, 12, 13, 14, 15, 16, 17, 18, 19, 20, 21, 22, 23, 24, 28, 33, 50, 58, 80, 85, 103, 110, 140, 151, 171, 185, 199, 213] ?_)))))))))))))))))) | ((refine w_regI 36 ?_; try ((refine wo_v (ov_move rfl) rfl rfl rfl ?_) <;> try ((refine wo_v (ov_add_i64 rfl rfl (by omega) (by omega)) rfl rfl rfl ?_) <;> try ((refine wo_v (ov_assign rfl) rfl rfl rfl ?_) <;> try ((refine wo_nilP [0, 1, 2, 3, 4, 10, 11, 12, 13, 14, 15, 16, 17, 18, 19, 20, 21, 22, 23, 24, 28, 33, 50, 58, 80, 85, 103, 110, 140, 151, 171, 185, 199, 213] ?_))))))) | ((refine w_regI 38 ?_; try ((refine wo_v (ov_move rfl) rfl rfl rfl ?_) <;> try ((refine wo_v (ov_move rfl) rfl rfl rfl ?_) <;> try ((refine wo_v (ov_sub_i64 rfl rfl (by omega) (by omega)) rfl rfl rfl ?_) <;> try ((refine wo_v (ov_assign rfl) rfl rfl rfl ?_) <;> try ((refine wo_nilP [0, 1, 2, 3, 4, 10, 11, 12, 13, 14, 15, 16, 17, 18, 19, 20, 21, 22, 23, 24, 28, 33, 50, 58, 80, 85, 103, 110, 140, 151, 171, 185, 199, 213] ?_)))))))) | ((refine w_regI 39 ?_; try ((refine wo_v (ov_move rfl) rfl rfl rfl ?_) <;> try ((refine wo_v (ov_move rfl) rfl rfl rfl ?_) <;> try ((refine wo_v (ov_lss3 rfl rfl (by first | exact decide_eq_true (by omega) | exact decide_eq_false (by omega) | exact rfl)) rfl rfl rfl ?_) <;> try ((refine wo_v (ov_move rfl) rfl rfl rfl ?_) <;> try (((refine wo_v (ov_move rfl) rfl rfl rfl ?_)) <;> try (((refine wo_v (ov_move rfl) rfl rfl rfl ?_)) <;> try (((refine wo_v (ov_lss3 rfl rfl (by first | exact decide_eq_true (by omega) | exact decide_eq_false (by omega) | exact rfl)) rfl rfl rfl ?_)) <;> try ((refine wo_v (ov_pickT rfl rfl) rfl rfl rfl ?_) <;> try ((refine wo_nilP [0, 1, 2, 3, 4, 10, 11, 12, 13, 14, 15, 16, 17, 18, 19, 20, 21, 22, 23, 24, 28, 33, 50, 58, 80, 85, 103, 110, 140, 151, 171, 185, 199, 213] ?_)))))))))))) | ((refine w_regI 41 ?_; try ((refine wo_v (ov_move rfl) rfl rfl rfl ?_) <;> try ((refine wo_v (ov_move rfl) rfl rfl rfl ?_) <;> try ((refine wo_v (ov_lss3 rfl rfl (by first | exact decide_eq_true (by omega) | exact decide_eq_false (by omega) | exact rfl)) rfl rfl rfl ?_) <;> try ((refine wo_v (ov_move rfl) rfl rfl rfl ?_) <;> try (((refine wo_v (ov_move rfl) rfl rfl rfl ?_)) <;> try (((refine wo_v (ov_move rfl) rfl rfl rfl ?_)) <;> try (((refine wo_v (ov_lss3 rfl rfl (by first | exact decide_eq_true (by omega) | exact decide_eq_false (by omega) | exact rfl)) rfl rfl rfl ?_)) <;> try ((refine wo_v (ov_pickT rfl rfl) rfl rfl rfl ?_) <;> try ((refine wo_nilP [0, 1, 2, 3, 4, 10, 11, 12, 13, 14, 15, 16, 17, 18, 19, 20, 21, 22, 23, 24, 28, 33, 50, 58, 80, 85, 103, 110, 140, 151, 171, 185, 199, 213] ?_)))))))))))) | ((refine w_regI 43 ?_; try ((refine wo_v (ov_move rfl) rfl rfl rfl ?_) <;> try ((refine wo_v (ov_move rfl) rfl rfl rfl ?_) <;> try ((refine wo_v (ov_lss3 rfl rfl (by first | exact decide_eq_true (by omega) | exact decide_eq_false (by omega) | exact rfl)) rfl rfl rfl ?_) <;> try ((refine wo_v (ov_move rfl) rfl rfl rfl ?_) <;> try (((refine wo_v (ov_move rfl) rfl rfl rfl ?_)) <;> try (((refine wo_v (ov_move rfl) rfl rfl rfl ?_)) <;> try (((refine wo_v (ov_lss3 rfl rfl (by first | exact decide_eq_true (by omega) | exact decide_eq_false (by omega) | exact rfl)) rfl rfl rfl ?_)) <;> try ((refine wo_v (ov_pickT rfl rfl) rfl rfl rfl ?_) <;> try ((refine wo_nilP [0, 1, 2, 3, 4, 10, 11, 12, 13, 14, 15, 16, 17, 18, 19, 20, 21, 22, 23, 24, 28, 33, 50, 58, 80, 85, 103, 110, 140, 151, 171, 185, 199, 213] ?_)))))))))))) | ((refine w_regI 44 ?_; try ((refine wo_v (ov_move rfl) rfl rfl rfl ?_) <;> try ((refine wo_v (ov_move rfl) rfl rfl rfl ?_) <;> try ((refine wo_v (ov_move rfl) rfl rfl rfl ?_) <;> try ((refine wo_v (ov_move rfl) rfl rfl rfl ?_) <;> try ((refine wo_v (ov_move rfl) rfl rfl rfl ?_) <;> try ((refine wo_callR (by repeat (first | exact Take.nil _ | apply Take.cons | exact Del1.head _ | apply Del1.tail | apply Del1.app)) rfl en139 rfl rfl (sym17_c gb cap rst) ?_; rintro v post ⟨rfl, rfl⟩) <;> try ((refine wo_nilP [0, 1, 2, 3, 4, 10, 11, 12, 13, 14, 15, 16, 17, 18, 19, 20, 21, 22, 23, 24, 28, 33, 50, 58, 80, 85, 103, 110, 140, 151, 171, 185, 199, 213] ?_)))))))))))
  exact ⟨_, ⟨_, rfl, rfl, rfl⟩, hi_⟩
theorem sym0_c (gb cap : Nat) (rst : List Value) : SL Tryz.prog 139 [.slice (some ⟨gb, 0, none⟩) 23 cap, .int .i64 0, .int .i64 20, .int .i64 23, .func (.func 84) #[] #[]] [⟨gb, true, .cells (strs sgnL rst) 9 (0, 0)⟩] fun e post => ∃ v, e = .returned v ∧ v = .tuple #[] ∧ post = [⟨gb, true, .cells (strs sgnL rst) 9 (0, 0)⟩] := by
  intro S w0 F w hi
  refine calls_of_WFS Tryz.func139 rfl rfl (hi) ?_
  repeat' (first | (refine pf_keep rfl ?_) | (refine pf_drop rfl ?_) | (refine pf_nil ?_) | (refine w_seq ?_) | (refine w_condT rfl ?_) | (refine w_condF rfl ?_) | (refine w_block ?_) | (refine w_inBlock ?_) | (refine w_skip ?_) | (refine w_exit rfl ?_) | (refine w_loop' ?_) | (refine w_inLoop ?_) | (refine w_end Tryz.func139 rfl (fun w_ hi_ => ?_)) | ((refine w_regI 0 ?_; try ((refine wo_v (ov_move rfl) rfl rfl rfl ?_) <;> try ((refine wo_v (ov_move rfl) rfl rfl rfl ?_) <;> try ((refine wo_v (ov_sub_i64 rfl rfl (by omega) (by omega)) rfl rfl rfl ?_) <;> try ((refine wo_v (ov_eql3 rfl rfl (by first | exact decide_eq_true (by omega) | exact decide_eq_false (by omega) | exact rfl)) rfl rfl rfl ?_) <;> try ((refine wo_nilP [0, 1, 2, 3, 4, 10, 11, 12, 13, 14, 15, 16, 17, 18, 19, 20, 21, 22, 23, 24, 28, 33, 50, 58, 80, 85, 103, 110, 140, 151, 171, 185, 199, 213] ?_)))))))) | ((refine w_regI 12 ?_; try ((refine wo_v (ov_move rfl) rfl rfl rfl ?_) <;> try ((refine wo_v (ov_move rfl) rfl rfl rfl ?_) <;> try ((refine wo_v (ov_sub_i64 rfl rfl (by omega) (by omega)) rfl rfl rfl ?_) <;> try ((refine wo_v (ov_eql3 rfl rfl (by first | exact decide_eq_true (by omega) | exact decide_eq_false (by omega) | exact rfl)) rfl rfl rfl ?_) <;> try ((refine wo_nilP [0, 1, 2, 3, 4, 10, 11, 12, 13, 14, 15, 16, 17, 18, 19, 20, 21, 22, 23, 24, 28, 33, 50, 58, 80, 85, 103, 110, 140, 151, 171, 185, 199, 213] ?_)))))))) | ((refine w_regI 24 ?_; try ((refine wo_v (ov_move rfl) rfl rfl rfl ?_) <;> try ((refine wo_v (ov_move rfl) rfl rfl rfl ?_) <;> try ((refine wo_v (ov_add_i64 rfl rfl (by omega) (by omega)) rfl rfl rfl ?_) <;> try ((refine wo_v (ov_conv_u64 Tryz.underlying3 Tryz.underlying146 rfl (by omega) (by omega)) rfl rfl rfl ?_) <;> try ((refine wo_v (ov_shr (r := 11) rfl rfl (by omega) (by decide)) rfl rfl rfl ?_) <;> try ((refine wo_v (ov_conv_i64 Tryz.underlying146 Tryz.underlying3 rfl (by omega) (by omega)) rfl rfl rfl ?_) <;> try ((refine wo_v (ov_assign rfl) rfl rfl rfl ?_) <;> try ((refine wo_nilP [0, 1, 2, 3, 4, 10, 11, 12, 13, 14, 15, 16, 17, 18, 19, 20, 21, 22, 23, 24, 28, 33, 50, 58, 80, 85, 103, 110, 140, 151, 171, 185, 199, 213] ?_))))))))))) | ((refine w_regI 25 ?_; try ((refine wo_v (ov_move rfl) rfl rfl rfl ?_) <;> try ((refine wo_v (ov_move rfl) rfl rfl rfl ?_) <;> try ((refine wo_v (ov_add_i64 rfl rfl (by omega) (by omega)) rfl rfl rfl ?_) <;> try ((refine wo_v (ov_assign rfl) rfl rfl rfl ?_) <;> try ((refine wo_nilP [0, 1, 2, 3, 4, 10, 11, 12, 13, 14, 15, 16, 17, 18, 19, 20, 21, 22, 23, 24, 28, 33, 50, 58, 80, 85, 103, 110, 140, 151, 171, 185, 199, 213] ?_)))))))) | ((refine w_regI 26 ?_; try ((refine wo_v (ov_assign rfl) rfl rfl rfl ?_) <;> try ((refine wo_v (ov_assign rfl) rfl rfl rfl ?_) <;> try ((refine wo_nilP [0, 1, 2, 3, 4, 10, 11, 12, 13, 14, 15, 16, 17, 18, 19, 20, 21, 22, 23, 24, 28, 33, 50, 58, 80, 85, 103, 110, 140, 151, 171, 185, 199, 213] ?_)))))) | ((refine w_regI 27 ?_; try ((refine wo_v (ov_move rfl) rfl rfl rfl ?_) <;> try ((refine wo_v (ov_move rfl) rfl rfl rfl ?_) <;> try ((refine wo_v (ov_gtr3 rfl rfl (by first | exact decide_eq_true (by omega) | exact decide_eq_false (by omega) | exact rfl)) rfl rfl rfl ?_) <;> try ((refine wo_nilP [0, 1, 2, 3, 4, 10, 11, 12, 13, 14, 15, 16, 17, 18, 19, 20, 21, 22, 23, 24, 28, 33, 50, 58, 80, 85, 103, 110, 140, 151, 171, 185, 199, 213] ?_))))))) | ((refine w_regI 28 ?_; try ((refine wo_v (ov_move rfl) rfl rfl rfl ?_) <;> try ((refine wo_v (ov_move rfl) rfl rfl rfl ?_) <;> try ((refine wo_v (ov_sub_i64 rfl rfl (by omega) (by omega)) rfl rfl rfl ?_) <;> try ((refine wo_v (ov_assign rfl) rfl rfl rfl ?_) <;> try ((refine wo_nilP [0, 1, 2, 3, 4, 10, 11, 12, 13, 14, 15, 16, 17, 18, 19, 20, 21, 22, 23, 24, 28, 33, 50, 58, 80, 85, 103, 110, 140, 151, 171, 185, 199, 213] ?_)))))))) | ((refine w_regI 29 ?_; try ((refine wo_v (ov_move rfl) rfl rfl rfl ?_) <;> try ((refine wo_v (ov_assign rfl) rfl rfl rfl ?_) <;> try ((refine wo_nilP [0, 1, 2, 3, 4, 10, 11, 12, 13, 14, 15, 16, 17, 18, 19, 20, 21, 22, 23, 24, 28, 33, 50, 58, 80, 85, 103, 110, 140, 151, 171, 185, 199, 213] ?_)))))) | ((refine w_regI 32 ?_; try ((refine wo_v (ov_move rfl) rfl rfl rfl ?_) <;> try ((refine wo_v (ov_sub_i64 rfl rfl (by omega) (by omega)) rfl rfl rfl ?_) <;> try ((refine wo_v (ov_assign rfl) rfl rfl rfl ?_) <;> try ((refine wo_nilP [0, 1, 2, 3, 4, 10, 11, 12, 13, 14, 15, 16, 17, 18, 19, 20, 21, 22, 23, 24, 28, 33, 50, 58, 80, 85, 103, 110, 140, 151, 171, 185, 199, 213] ?_))))))) | ((refine w_regI 33 ?_; try ((refine wo_v (ov_move rfl) rfl rfl rfl ?_) <;> try ((refine wo_v (ov_move rfl) rfl rfl rfl ?_) <;> try ((refine wo_v (ov_lss3 rfl rfl (by first | exact decide_eq_true (by omega) | exact decide_eq_false (by omega) | exact rfl)) rfl rfl rfl ?_) <;> try ((refine wo_nilP [0, 1, 2, 3, 4, 10, 11, 12, 13, 14, 15, 16, 17, 18, 19, 20, 21, 22, 23, 24, 28, 33, 50, 58, 80, 85, 103, 110, 140, 151, 171, 185, 199, 213] ?_))))))) | ((refine w_regI 34 ?_; try ((refine wo_v (ov_move rfl) rfl rfl rfl ?_) <;> try ((refine wo_v (ov_move rfl) rfl rfl rfl ?_) <;> try ((refine wo_v (ov_add_i64 rfl rfl (by omega) (by omega)) rfl rfl rfl ?_) <;> try ((refine wo_v (ov_conv_u64 Tryz.underlying3 Tryz.underlying146 rfl (by omega) (by omega)) rfl rfl rfl ?_) <;> try ((first | (refine wo_v (ov_shr (r := 9) rfl rfl (by omega) (by decide)) rfl rfl rfl ?_) | (refine wo_v (ov_shr (r := 10) rfl rfl (by omega) (by decide)) rfl rfl rfl ?_)) <;> try ((refine wo_v (ov_conv_i64 Tryz.underlying146 Tryz.underlying3 rfl (by omega) (by omega)) rfl rfl rfl ?_) <;> try ((refine wo_v (ov_assign rfl) rfl rfl rfl ?_) <;> try ((refine wo_nilP [0, 1, 2, 3, 4, 10, 11, 12, 13, 14, 15, 16, 17, 18, 19, 20, 21, 22, 23, 24, 28, 33, 50, 58, 80, 85, 103, 110, 140, 151, 171, 185, 199, 213] ?_))))))))))) | ((refine w_regQI 35 rfl mixed (by kernel_rfl) ?_; try ((refine wq_v (ov_move rfl) rfl rfl ?_) <;> try ((refine wq_v (ov_move rfl) rfl rfl ?_) <;> try ((refine wq_v (ov_move rfl) rfl rfl ?_) <;> try ((refine wq_v (ov_move rfl) rfl rfl ?_) <;> try ((refine wq_v (ov_sub_i64 rfl rfl (by omega) (by omega)) rfl rfl ?_) <;> try ((refine wq_v (ov_indexAddr Tryz.underlying56 sz9 rfl rfl (by omega) (by omega)) rfl rfl ?_) <;> try ((refine wq_v (ov_load Tryz.underlying9 rfl rfl (by repeat (first | exact .head _ | refine .tail _ ?_ | refine List.mem_append_right _ ?_ | assumption)) (by first | rfl | assumption | simp)) rfl rfl ?_) <;> try ((refine wq_v (ov_move rfl) rfl rfl ?_) <;> try ((refine wq_v (ov_move rfl) rfl rfl ?_) <;> try ((refine wq_v (ov_indexAddr Tryz.underlying56 sz9 rfl rfl (by omega) (by omega)) rfl rfl ?_) <;> try ((refine wq_v (ov_load Tryz.underlying9 rfl rfl (by repeat (first | exact .head _ | refine .tail _ ?_ | refine List.mem_append_right _ ?_ | assumption)) (by first | rfl | assumption | simp)) rfl rfl ?_) <;> try ((refine wq_v (ov_call (v := .int .i64 0) rfl en84 (fun w hi => cmp_c _ _ (by decide) (by decide) w)) rfl rfl ?_) <;> try ((refine wq_v (ov_lss3 rfl rfl (by first | exact decide_eq_true (by omega) | exact decide_eq_false (by omega) | exact rfl)) rfl rfl ?_) <;> try ((refine wq_v (ov_notF rfl) rfl rfl ?_) <;> try ((refine wq_nilP [0, 1, 2, 3, 4, 10, 11, 12, 13, 14, 15, 16, 17, 18, 19, 20, 21, 22, 23, 24, 28, 33, 50, 58, 80, 85, 103, 110, 140, 151, 171, 185, 199, 213] ?_)))))))))))))))))) | ((refine w_regI 36 ?_; try ((refine wo_v (ov_move rfl) rfl rfl rfl ?_) <;> try ((refine wo_v (ov_add_i64 rfl rfl (by omega) (by omega)) rfl rfl rfl ?_) <;> try ((refine wo_v (ov_assign rfl) rfl rfl rfl ?_) <;> try ((refine wo_nilP [0, 1, 2, 3, 4, 10, 11, 12, 13, 14, 15, 16, 17, 18, 19, 20, 21, 22, 23, 24, 28, 33, 50, 58, 80, 85, 103, 110, 140, 151, 171, 185, 199, 213] ?_))))))) | ((refine w_regI 38 ?_; try ((refine wo_v (ov_move rfl) rfl rfl rfl ?_) <;> try ((refine wo_v (ov_move rfl) rfl rfl rfl ?_) <;> try ((refine wo_v (ov_sub_i64 rfl rfl (by omega) (by omega)) rfl rfl rfl ?_) <;> try ((refine wo_v (ov_assign rfl) rfl rfl rfl ?_) <;> try ((refine wo_nilP [0, 1, 2, 3, 4, 10, 11, 12, 13, 14, 15, 16, 17, 18, 19, 20, 21, 22, 23, 24, 28, 33, 50, 58, 80, 85, 103, 110, 140, 151, 171, 185, 199, 213] ?_)))))))) | ((refine w_regI 39 ?_; try ((refine wo_v (ov_move rfl) rfl rfl rfl ?_) <;> try ((refine wo_v (ov_move rfl) rfl rfl rfl ?_) <;> try ((refine wo_v (ov_lss3 rfl rfl (by first | exact decide_eq_true (by omega) | exact decide_eq_false (by omega) | exact rfl)) rfl rfl rfl ?_) <;> try ((refine wo_v (ov_move rfl) rfl rfl rfl ?_) <;> try (((refine wo_v (ov_move rfl) rfl rfl rfl ?_)) <;> try (((refine wo_v (ov_move rfl) rfl rfl rfl ?_)) <;> try (((refine wo_v (ov_lss3 rfl rfl (by first | exact decide_eq_true (by omega) | exact decide_eq_false (by omega) | exact rfl)) rfl rfl rfl ?_)) <;> try ((refine wo_v (ov_pickT rfl rfl) rfl rfl rfl ?_) <;> try ((refine wo_nilP [0, 1, 2, 3, 4, 10, 11, 12, 13, 14, 15, 16, 17, 18, 19, 20, 21, 22, 23, 24, 28, 33, 50, 58, 80, 85, 103, 110, 140, 151, 171, 185, 199, 213] ?_)))))))))))) | ((refine w_regI 41 ?_; try ((refine wo_v (ov_move rfl) rfl rfl rfl ?_) <;> try ((refine wo_v (ov_move rfl) rfl rfl rfl ?_) <;> try ((refine wo_v (ov_lss3 rfl rfl (by first | exact decide_eq_true (by omega) | exact decide_eq_false (by omega) | exact rfl)) rfl rfl rfl ?_) <;> try ((refine wo_v (ov_move rfl) rfl rfl rfl ?_) <;> try (((refine wo_v (ov_move rfl) rfl rfl rfl ?_)) <;> try (((refine wo_v (ov_move rfl) rfl rfl rfl ?_)) <;> try (((refine wo_v (ov_lss3 rfl rfl (by first | exact decide_eq_true (by omega) | exact decide_eq_false (by omega) | exact rfl)) rfl rfl rfl ?_)) <;> try ((refine wo_v (ov_pickT rfl rfl) rfl rfl rfl ?_) <;> try ((refine wo_nilP [0, 1, 2, 3, 4, 10, 11, 12, 13, 14, 15, 16, 17, 18, 19, 20, 21, 22, 23, 24, 28, 33, 50, 58, 80, 85, 103, 110, 140, 151, 171, 185, 199, 213] ?_)))))))))))) | ((refine w_regI 43 ?_; try ((refine wo_v (ov_move rfl) rfl rfl rfl ?_) <;> try ((refine wo_v (ov_move rfl) rfl rfl rfl ?_) <;> try ((refine wo_v (ov_lss3 rfl rfl (by first | exact decide_eq_true (by omega) | exact decide_eq_false (by omega) | exact rfl)) rfl rfl rfl ?_) <;> try ((refine wo_v (ov_move rfl) rfl rfl rfl ?_) <;> try (((refine wo_v (ov_move rfl) rfl rfl rfl ?_)) <;> try (((refine wo_v (ov_move rfl) rfl rfl rfl ?_)) <;> try (((refine wo_v (ov_lss3 rfl rfl (by first | exact decide_eq_true (by omega) | exact decide_eq_false (by omega) | exact rfl)) rfl rfl rfl ?_)) <;> try ((refine wo_v (ov_pickT rfl rfl) rfl rfl rfl ?_) <;> try ((refine wo_nilP [0, 1, 2, 3, 4, 10, 11, 12, 13, 14, 15, 16, 17, 18, 19, 20, 21, 22, 23, 24, 28, 33, 50, 58, 80, 85, 103, 110, 140, 151, 171, 185, 199, 213] ?_)))))))))))) | ((refine w_regI 44 ?_; try ((refine wo_v (ov_move rfl) rfl rfl rfl ?_) <;> try ((refine wo_v (ov_move rfl) rfl rfl rfl ?_) <;> try ((refine wo_v (ov_move rfl) rfl rfl rfl ?_) <;> try ((refine wo_v (ov_move rfl) rfl rfl rfl ?_) <;> try ((refine wo_v (ov_move rfl) rfl rfl rfl ?_) <;> try ((refine wo_callR (by repeat (first | exact Take.nil _ | apply Take.cons | exact Del1.head _ | apply Del1.tail | apply Del1.app)) rfl en139 rfl rfl (sym11_c gb cap rst) ?_; rintro v post ⟨rfl, rfl⟩) <;> try ((refine wo_nilP [0, 1, 2, 3, 4, 10, 11, 12, 13, 14, 15, 16, 17, 18, 19, 20, 21, 22, 23, 24, 28, 33, 50, 58, 80, 85, 103, 110, 140, 151, 171, 185, 199, 213] ?_)))))))))))
  exact ⟨_, ⟨_, rfl, rfl, rfl⟩, hi_⟩

theorem ins1 : insI 0 (20 - (0 + 1)) (0 + 1) signsL = sgnL.take 20 ++ signsL.drop 20 := by decide +kernel
theorem ins2 : insI 20 (23 - (20 + 1)) (20 + 1) (sgnL.take 20 ++ signsL.drop 20) = sgnL := by decide +kernel
theorem stable_c (gb cap : Nat) (rst : List Value) : SL Tryz.prog 114 [.slice (some ⟨gb, 0, none⟩) 23 cap, .int .i64 23, .func (.func 84) #[] #[]] [⟨gb, true, .cells (strs signsL rst) 9 (0, 0)⟩] fun e post => ∃ v, e = .returned v ∧ v = .tuple #[] ∧ post = [⟨gb, true, .cells (strs sgnL rst) 9 (0, 0)⟩] := by
  have h1 := ins_c signsL (by decide) 0 20 gb 23 cap rst (by omega) (by omega) rfl (by omega)
  rw [ins1] at h1
  have h2 := ins_c (sgnL.take 20 ++ signsL.drop 20) (by decide) 20 23 gb 23 cap rst (by omega) (by omega) rfl (by omega)
  rw [ins2] at h2
  intro S w0 F w hi
  refine calls_of_WFS Tryz.func114 rfl rfl (hi) ?_
  repeat' (first | (refine pf_keep rfl ?_) | (refine pf_drop rfl ?_) | (refine pf_nil ?_) | (refine w_seq ?_) | (refine w_condT rfl ?_) | (refine w_condF rfl ?_) | (refine w_block ?_) | (refine w_inBlock ?_) | (refine w_skip ?_) | (refine w_exit rfl ?_) | (refine w_loop' ?_) | (refine w_inLoop ?_) | (refine w_end Tryz.func114 rfl (fun w_ hi_ => ?_)) | ((refine w_regI 0 ?_; try ((refine wo_v (ov_assign rfl) rfl rfl rfl ?_) <;> try ((refine wo_nilP [0, 1, 2, 6, 7, 8, 9, 13, 30, 35, 54] ?_))))) | ((refine w_regI 1 ?_; try ((refine wo_v (ov_move rfl) rfl rfl rfl ?_) <;> try ((refine wo_v (ov_assign rfl) rfl rfl rfl ?_) <;> try ((refine wo_v (ov_assign rfl) rfl rfl rfl ?_) <;> try ((refine wo_nilP [0, 1, 2, 6, 7, 8, 9, 13, 30, 35, 54] ?_))))))) | ((refine w_regI 2 ?_; try ((refine wo_v (ov_move rfl) rfl rfl rfl ?_) <;> try ((refine wo_v (ov_move rfl) rfl rfl rfl ?_) <;> try ((refine wo_v (ov_leq3 rfl rfl (by first | exact decide_eq_true (by omega) | exact decide_eq_false (by omega) | exact rfl)) rfl rfl rfl ?_) <;> try ((refine wo_nilP [0, 1, 2, 6, 7, 8, 9, 13, 30, 35, 54] ?_))))))) | ((refine w_regI 3 ?_; try ((refine wo_v (ov_move rfl) rfl rfl rfl ?_) <;> try ((refine wo_v (ov_move rfl) rfl rfl rfl ?_) <;> try ((refine wo_v (ov_move rfl) rfl rfl rfl ?_) <;> try ((refine wo_v (ov_move rfl) rfl rfl rfl ?_) <;> try ((refine wo_callR (Q := fun v post => v = .tuple #[] ∧ post = [⟨gb, true, .cells (strs (sgnL.take 20 ++ signsL.drop 20) rst) 9 (0, 0)⟩]) (by repeat (first | exact Take.nil _ | apply Take.cons | exact Del1.head _ | apply Del1.tail | apply Del1.app)) rfl en138 rfl rfl (h1.mono fun e post ⟨q1, q2⟩ => ⟨_, q1, rfl, q2⟩) ?_; rintro v post ⟨rfl, rfl⟩) <;> try ((refine wo_nilP [0, 1, 2, 6, 7, 8, 9, 13, 30, 35, 54] ?_))))))))) | ((refine w_regI 4 ?_; try ((refine wo_v (ov_move rfl) rfl rfl rfl ?_) <;> try ((refine wo_v (ov_assign rfl) rfl rfl rfl ?_) <;> try ((refine wo_nilP [0, 1, 2, 6, 7, 8, 9, 13, 30, 35, 54] ?_)))))) | ((refine w_regI 5 ?_; try ((refine wo_v (ov_move rfl) rfl rfl rfl ?_) <;> try ((refine wo_v (ov_move rfl) rfl rfl rfl ?_) <;> try ((refine wo_v (ov_add_i64 rfl rfl (by omega) (by omega)) rfl rfl rfl ?_) <;> try ((refine wo_v (ov_assign rfl) rfl rfl rfl ?_) <;> try ((refine wo_nilP [0, 1, 2, 6, 7, 8, 9, 13, 30, 35, 54] ?_)))))))) | ((refine w_regI 6 ?_; try ((refine wo_v (ov_move rfl) rfl rfl rfl ?_) <;> try ((refine wo_v (ov_move rfl) rfl rfl rfl ?_) <;> try ((refine wo_v (ov_move rfl) rfl rfl rfl ?_) <;> try ((refine wo_v (ov_move rfl) rfl rfl rfl ?_) <;> try ((refine wo_callR (Q := fun v post => v = .tuple #[] ∧ post = [⟨gb, true, .cells (strs sgnL rst) 9 (0, 0)⟩]) (by repeat (first | exact Take.nil _ | apply Take.cons | exact Del1.head _ | apply Del1.tail | apply Del1.app)) rfl en138 rfl rfl (h2.mono fun e post ⟨q1, q2⟩ => ⟨_, q1, rfl, q2⟩) ?_; rintro v post ⟨rfl, rfl⟩) <;> try ((refine wo_nilP [0, 1, 2, 6, 7, 8, 9, 13, 30, 35, 54] ?_))))))))) | ((refine w_regI 7 ?_; try ((refine wo_v (ov_move rfl) rfl rfl rfl ?_) <;> try ((refine wo_v (ov_move rfl) rfl rfl rfl ?_) <;> try ((refine wo_v (ov_lss3 rfl rfl (by first | exact decide_eq_true (by omega) | exact decide_eq_false (by omega) | exact rfl)) rfl rfl rfl ?_) <;> try ((refine wo_nilP [0, 1, 2, 6, 7, 8, 9, 13, 30, 35, 54] ?_))))))) | ((refine w_regI 8 ?_; try ((refine wo_v (ov_move rfl) rfl rfl rfl ?_) <;> try ((refine wo_v (ov_mul_i64 rfl rfl (by omega) (by omega)) rfl rfl rfl ?_) <;> try ((refine wo_v (ov_assign rfl) rfl rfl rfl ?_) <;> try ((refine wo_v (ov_assign rfl) rfl rfl rfl ?_) <;> try ((refine wo_nilP [0, 1, 2, 6, 7, 8, 9, 13, 30, 35, 54] ?_)))))))) | ((refine w_regI 9 ?_; try ((refine wo_v (ov_move rfl) rfl rfl rfl ?_) <;> try ((refine wo_v (ov_move rfl) rfl rfl rfl ?_) <;> try ((refine wo_v (ov_leq3 rfl rfl (by first | exact decide_eq_true (by omega) | exact decide_eq_false (by omega) | exact rfl)) rfl rfl rfl ?_) <;> try ((refine wo_nilP [0, 1, 2, 6, 7, 8, 9, 13, 30, 35, 54] ?_))))))) | ((refine w_regI 13 ?_; try ((refine wo_v (ov_move rfl) rfl rfl rfl ?_) <;> try ((refine wo_v (ov_move rfl) rfl rfl rfl ?_) <;> try ((refine wo_v (ov_add_i64 rfl rfl (by omega) (by omega)) rfl rfl rfl ?_) <;> try ((refine wo_v (ov_assign rfl) rfl rfl rfl ?_) <;> try ((refine wo_nilP [0, 1, 2, 6, 7, 8, 9, 13, 30, 35, 54] ?_)))))))) | ((refine w_regI 14 ?_; try ((refine wo_v (ov_move rfl) rfl rfl rfl ?_) <;> try ((refine wo_v (ov_move rfl) rfl rfl rfl ?_) <;> try ((refine wo_v (ov_lss3 rfl rfl (by first | exact decide_eq_true (by omega) | exact decide_eq_false (by omega) | exact rfl)) rfl rfl rfl ?_) <;> try ((refine wo_nilP [0, 1, 2, 6, 7, 8, 9, 13, 30, 35, 54] ?_))))))) | ((refine w_regI 15 ?_; try ((refine wo_v (ov_move rfl) rfl rfl rfl ?_) <;> try ((refine wo_v (ov_move rfl) rfl rfl rfl ?_) <;> try ((refine wo_v (ov_move rfl) rfl rfl rfl ?_) <;> try ((refine wo_v (ov_move rfl) rfl rfl rfl ?_) <;> try ((refine wo_v (ov_move rfl) rfl rfl rfl ?_) <;> try ((refine wo_callR (by repeat (first | exact Take.nil _ | apply Take.cons | exact Del1.head _ | apply Del1.tail | apply Del1.app)) rfl en139 rfl rfl (sym0_c gb cap rst) ?_; rintro v post ⟨rfl, rfl⟩) <;> try ((refine wo_nilP [0, 1, 2, 6, 7, 8, 9, 13, 30, 35, 54] ?_)))))))))) | ((refine w_regI 16 ?_; try ((refine wo_v (ov_move rfl) rfl rfl rfl ?_) <;> try ((refine wo_v (ov_mul_i64 rfl rfl (by omega) (by omega)) rfl rfl rfl ?_) <;> try ((refine wo_v (ov_assign rfl) rfl rfl rfl ?_) <;> try ((refine wo_nilP [0, 1, 2, 6, 7, 8, 9, 13, 30, 35, 54] ?_))))))))
  exact ⟨_, ⟨_, rfl, rfl, rfl⟩, hi_⟩
theorem sortSigns_c (gb cap : Nat) (rst : List Value) : SL Tryz.prog 83 [.slice (some ⟨gb, 0, none⟩) 23 cap, .func (.func 84) #[] #[]] [⟨gb, true, .cells (strs signsL rst) 9 (0, 0)⟩] fun e post => ∃ v, e = .returned v ∧ v = .tuple #[] ∧ post = [⟨gb, true, .cells (strs sgnL rst) 9 (0, 0)⟩] := by
  intro S w0 F w hi
  refine calls_of_WFS Tryz.func83 rfl rfl (hi) ?_
  repeat' (first | (refine pf_keep rfl ?_) | (refine pf_drop rfl ?_) | (refine pf_nil ?_) | (refine w_end Tryz.func83 rfl (fun w_ hi_ => ?_)) | ((refine w_regI 0 ?_; try ((refine wo_v (ov_move rfl) rfl rfl rfl ?_) <;> try ((refine wo_v (ov_move rfl) rfl rfl rfl ?_) <;> try ((refine wo_v (ov_lenL rfl Tryz.underlying56 rfl) rfl rfl rfl ?_) <;> try ((refine wo_v (ov_move rfl) rfl rfl rfl ?_) <;> try ((refine wo_callR (by repeat (first | exact Take.nil _ | apply Take.cons | exact Del1.head _ | apply Del1.tail | apply Del1.app)) rfl en114 rfl rfl (stable_c gb cap rst) ?_; rintro v post ⟨rfl, rfl⟩) <;> try ((refine wo_nilP [0, 1] ?_))))))))))
  exact ⟨_, ⟨_, rfl, rfl, rfl⟩, hi_⟩
end Go.Sl
namespace Go.Sl
open Go Go.RowKit Go.Shelf Go.Proofs
section
variable {C : Cx} {S : Nat → Prop} {w0 : World} {k : List Item} {D : List Deferred} {E : List (Nat × Value)} {H H' : List Ent} {d : Option Tmp} {t t' : TypeId} {p : String} {af : Array Edge} {g : Option (Nat × Bool)} {x y z : Operand} {v u : Value} {ops : Array Oper} {rest : List Oper} {a b : Int} {kk k2 : IntKind} {xt yt : TypeId}
theorem w_rangeFuncE {Env : List Ent → Prop} {f : Operand} {params : Array Tmp} {assign body : Code} {ff : FuncId} {fs cs : Array Value} (hro : C.b.roundOf = none) (hx : opv E f = some (.func (.func ff) fs cs)) (he : Enters C.P ff)
    (h : ∀ r l tmps, w0.heap.size ≤ r → w0.heap.size ≤ l → Fits E C.n tmps → ∃ pre F Q, Take (⟨l, true, .loop (loop0 C tmps params assign body r)⟩ :: ⟨r, true, .deferred (some [])⟩ :: H) pre F ∧
      Env F ∧ SLE Env C.P ff (fs.toList ++ [.func (.yield l) #[] #[]] ++ cs.toList) pre Q ∧ ∀ e post, Q e post → match e with
        | .returned _ => ∃ lp H2, Take (post ++ F) [⟨l, true, .loop lp⟩] H2 ∧ lp.state ≠ .busy ∧ lp.pending = none ∧ WF C S w0 k (markD r :: D) E (⟨l, true, .loop { lp with state := .exhausted }⟩ :: H2)
        | .panicked chain => WP C S w0 chain (markD r :: D) E (post ++ F)
        | .outgrown => False) : WF C S w0 (.code (.rangeFunc f params assign body) :: k) D E H := by
  unfold WF Go1 at *
  unfold WP GoP at h
  intro w hi tmps hf cs0
  have hi2 := (hi.new (.deferred (some []))).new (.loop (loop0 C tmps params assign body w.heap.size))
  have hsz : (w.heap.push (.deferred (some []))).size = w.heap.size + 1 := by simp
  simp only [hsz] at hi2
  obtain ⟨pre, F, Q, htk, hE, hsl, hk⟩ := h w.heap.size (w.heap.size + 1) tmps hi.fr.size (Nat.le_succ_of_le hi.fr.size) hf
  have hent : (Instr.enterLoop C.b.fn tmps params assign body none).run C.P w = .ok (w.heap.size + 1, [markD w.heap.size]) { w with heap := (w.heap.push (.deferred (some []))).push (.loop (loop0 C tmps params assign body w.heap.size)) } := by
    simp [Instr.enterLoop, newObj, Sem.run, Sem.run_bind, loop0, markD]
    rfl
  generalize hW : ({ w with heap := (w.heap.push (.deferred (some []))).push (.loop (loop0 C tmps params assign body w.heap.size)) } : World) = w2 at *
  have hargs : (fs.toList ++ [Value.func (.yield (w.heap.size + 1)) #[] #[]] ++ cs.toList).toArray = fs ++ #[Value.func (.yield (w.heap.size + 1)) #[] #[]] ++ cs := by apply Array.ext'; simp
  have hcall := hsl S w0 F w2 hE (hi2.take htk)
  rw [hargs] at hcall
  obtain ⟨e, w', fr, ⟨post, hq, hi'⟩, hsteps, _, hleave⟩ := hcall (C.b.atR { tmps := tmps, defers := markD w.heap.size :: D } (.inRangeFunc (w.heap.size + 1) :: k) :: cs0)
  have hinv := he (fs ++ #[Value.func (.yield (w.heap.size + 1)) #[] #[]] ++ cs) w2
  have h1 : step C.P (lone (C.b.atR { tmps := tmps, defers := D } (.code (.rangeFunc f params assign body) :: k)) cs0 w) =
      .next (lone (Frame.enter C.P ff (fs ++ #[Value.func (.yield (w.heap.size + 1)) #[] #[]] ++ cs) .normal) (C.b.atR { tmps := tmps, defers := markD w.heap.size :: D } (.inRangeFunc (w.heap.size + 1) :: k) :: cs0) w2) := by
    refine step_lone_go ?_
    have hev : ∀ (a : Act) (kk : List Item) , a.tmps = tmps → (C.b.atR a kk).eval f = .func (.func ff) fs cs := by
      intro a kk ha
      rw [Frame.eval_atR]
      have := hf.opv D hx
      unfold Act.eval at this ⊢
      rw [ha]; exact this
    have hev2 := hev { tmps := tmps, defers := [markD w.heap.size] ++ D } (.inRangeFunc (w.heap.size + 1) :: k) rfl
    simp only [Frame.atR] at hev2
    have hpush : fs ++ #[Value.func (.yield (w.heap.size + 1)) #[] #[]] ++ cs = fs.push (Value.func (.yield (w.heap.size + 1)) #[] #[]) ++ cs := by simp
    rw [hpush] at hinv
    rw [hpush]
    have hcf : (callFunc ff (fs.push (Value.func (.yield (w.heap.size + 1)) #[] #[]) ++ cs)).run C.P w2 = .ok (.enter ff (fs.push (Value.func (.yield (w.heap.size + 1)) #[] #[]) ++ cs)) w2 := hinv
    have hcst : ∀ (fr : Frame) (v : Value), fr.eval (.const v) = v := fun _ _ => rfl
    simp [stepG, stepG.exec, stepG.apply, Frame.atR, hro, Sem.runT_eq, hent, GStep.bare_after, resolve, Deferred.ofValue, invoke] at hev2 ⊢
    simp [hev2, hcst, hcf]
  have hres := hk e post hq
  cases e with
  | outgrown => exact hres.elim
  | panicked chain =>
    obtain ⟨m, ht, hs⟩ := hres w' hi' tmps hf (.inRangeFunc (w.heap.size + 1) :: k) cs0
    refine ⟨m, ht, .head h1 (Steps.trans hsteps (.head ?_ hs))⟩
    rw [← Frame.raise_atR]; exact step_leave_panicked hleave
  | returned v =>
    obtain ⟨lp, H2, ht2, hst, hpe, hWF⟩ := hres
    have hi3 := hi'.take ht2
    have hlp := hi3.hb _ (.head _)
    simp only at hlp
    have hi4 := hi3.put (r := w.heap.size + 1) (o := .loop lp) (o' := .loop { lp with state := .exhausted }) (.head _)
    obtain ⟨m, ht, hs⟩ := hWF _ hi4 tmps hf cs0
    have hend : (Instr.endLoop (w.heap.size + 1)).run C.P w' = .ok none { w' with heap := w'.heap.setIfInBounds (w.heap.size + 1) (.loop { lp with state := .exhausted }) } := by
      have : (lp.state == LoopState.busy) = false := by cases hq : lp.state <;> simp_all
      simp [Instr.endLoop, Instr.getLoop, getObj, setObj, Sem.run, Sem.run_bind, hlp, hst, hpe]
    refine ⟨m, ht, .head h1 (Steps.trans hsteps (.head (step_leave_returned hleave) (.head (step_lone_go ?_) hs)))⟩
    simp [stepG, stepG.exec, Frame.atR, Frame.finish, Sem.runT_eq, hend, GStep.bare_after]
end
end Go.Sl
namespace Go.Sl
open Go Go.Proofs
set_option maxRecDepth 100000
set_option maxHeartbeats 2000000
set_option linter.unusedSimpArgs false
set_option linter.unusedVariables false
attribute [local irreducible] Calls

def scn0 (s : List UInt8) (mb gb : Nat) : Array Value := #[str s, .int .i64 0] ++ sortsA ++ #[.map (some mb), .slice (some ⟨gb, 0, none⟩) 23 23, .int .i64 0]
theorem scn0_ok (s : List UInt8) (mb gb : Nat) : Scn (scn0 s mb gb) s 0 0 (.map (some mb)) (.slice (some ⟨gb, 0, none⟩) 23 23) := by
  have h1 := sortsA_arr.1
  refine ⟨by simp [scn0, h1], ?_, ?_, fun i hi => ?_, ?_, ?_, ?_⟩
  · unfold scn0; rw [Array.append_assoc, Array.getElem?_append_left (by simp)]; rfl
  · unfold scn0; rw [Array.append_assoc, Array.getElem?_append_left (by simp)]; rfl
  · have := sortsA_arr.2 i hi
    unfold scn0
    rw [Array.append_assoc, Array.getElem?_append_right (by simp), Array.getElem?_append_left (by simp [h1]; omega)]
    simpa using this
  all_goals
    unfold scn0
    rw [Array.getElem?_append_right (by simp [h1])]
    simp [h1]

attribute [local irreducible] scn0 sortsA
theorem round_of2 {P : Program} {l : Nat} {lp : Loop} {vs : List Value} {pre : List Ent} {Q : List Ent → Prop} {n : Nat} {E : List (Nat × Value)} {tm : Array Value} (hsz : lp.tmps.size = n) (h2 : (lp.params.zip vs.toArray).foldl (fun tmps (t, a) => tmps.setIfInBounds t a) lp.tmps = tm) (hf : Fits E n tm)
    (h : ∀ S w0 F, WF (cxR P lp.fn n l (TRnd S w0 F Q)) S w0 [.code lp.assign, .beginRound, .code lp.body] [] E (pre ++ F)) : Round P l lp vs pre Q := round_of_WF hsz fun S w0 F => ⟨h2 ▸ hf, h S w0 F⟩
theorem wp_take {C : Cx} {S : Nat → Prop} {w0 : World} {ch : List PanicEntry} {D : List Deferred} {E : List (Nat × Value)} {H ps F : List Ent} (h : Take H ps F) (hk : WP C S w0 ch D E (ps ++ F)) : WP C S w0 ch D E H := by
  unfold WP at *; exact fun w hi => hk w (hi.take h)
theorem gor_leave {P : Program} {f : FuncId} {fn : Func} {R : Ending → World → Prop} {S : Nat → Prop} {w0 w : World} {E : List (Nat × Value)} {H : List Ent} {vs : List Value} (hf : P.funcs[f]? = some fn) (hi : Inv S w0 H w) (hr : Res P E H fn.results.toList vs) (hR : R (.returned (tup vs)) w) : GoR (cxOf P f fn R) [] E w := by
  exact goR_ret hf (fun tmps hft => run_resultsM hi hft hr) hR
theorem lineS_fds (s : List UInt8) (q : Nat) : lineS s q = 1 + (fds (s.take q) : Int) := by
  unfold lineS fds
  first | rfl | (simp [Lib.countByte]; done) | (simp [Lib.countByte, List.count, List.countP_eq_length_filter]; done)
theorem wordsL_len : wordsL.length = 63 := by decide +kernel
theorem wordsL_new : ∀ k : Fin 63, wordsL[k.1]'(by rw [wordsL_len]; exact k.2) ∉ wordsL.take k.1 := by decide +kernel
theorem wordsL_at (k : Nat) (h : k < 63) : (strs wordsL [])[0 + ((k : Nat) : Int).toNat * 1]? = some (str (wordsL[k]'(by rw [wordsL_len]; exact h))) := by
  have e : 0 + ((k : Nat) : Int).toNat * 1 = k := by omega
  rw [e]; unfold strs; rw [List.getElem?_toArray, List.append_nil, List.getElem?_map, List.getElem?_eq_getElem (by rw [wordsL_len]; exact h)]; rfl
/-- What the handed function makes of what was gathered. -/
def DoOk (G : List (Int × List UInt8) → List Ent → Prop) (s : List UInt8) (doF : Nat) (cs : Array Value) : Prop :=
  Enters Tryz.prog doF ∧ ∀ ps b at_ bs Hd, G ps Hd → joinS ps = s.take at_ → joinS (ps ++ [b]) = s.take (at_ + b.2.length) → at_ + b.2.length ≤ s.length → 0 < b.2.length → b.1 ≤ 8 →
    SL Tryz.prog doF ([.pointer (some ⟨bs, 0, none⟩), .int .i64 (at_ : Int), .agg #[.int .u8 b.1, str b.2]] ++ cs.toList) Hd fun e post => ∃ v, e = .returned v ∧ v = .tuple #[] ∧ G (ps ++ [b]) post
/-- The variables that 'scanned' leans on. -/
structure GloS (F : List Ent) : Prop where
  g : Glo F
  ml : ∃ q el fz, (⟨1, false, .cells #[.int .i64 q] el fz⟩ : Ent) ∈ F

theorem scanned_c (G : List (Int × List UInt8) → List Ent → Prop) (s : List UInt8) (doF : Nat) (cs : Array Value) (hdo : DoOk G s doF cs) (hl : s.length < 4000000000) (Hd : List Ent) (hG : G [] Hd) :
    SLE GloS Tryz.prog 54 [str s, .func (.func doF) #[] cs] Hd fun e post => e = .returned (refV (pieR s).2.1 (pieR s).2.2) ∧ ∃ ps, G ps post ∧ ((pieR s).2.1 = 0 → ps = (pieR s).1) := by
  intro S w0 F w hE hi
  refine calls_of_WFS Tryz.func54 rfl rfl (hi) ?_
  by_cases hbig : 20000 < s.length
  · repeat' (first | (refine pf_keep rfl ?_) | (refine pf_drop rfl ?_) | (refine pf_nil ?_) | (refine w_seq ?_) | (refine w_condT rfl ?_) | (refine w_retM Tryz.func54 (.cellA rfl Tryz.underlying30 rfl inf30 (by repeat (first | exact .head _ | refine .tail _ ?_ | refine List.mem_append_right _ ?_)) rfl (.nil)) (fun w_ hi_ => ?_)) | ((refine w_regI 0 ?_; try ((refine wo_box rfl rfl rfl rfl (fun b_ hb_ => ?_)) <;> try ((refine wo_alloc inf30 rfl rfl rfl rfl (fun b_ hb_ => ?_)) <;> try ((refine wo_nilP [0, 1, 3, 4, 5, 7, 8, 9, 12, 26, 27, 28, 29, 40, 41, 42] ?_)))))) | ((refine w_regI 1 ?_; try ((refine wo_v (ov_move rfl) rfl rfl rfl ?_) <;> try ((refine wo_v (ov_lenS rfl Tryz.underlying9 rfl) rfl rfl rfl ?_) <;> try ((refine wo_v (ov_gtr3 rfl rfl (by first | exact decide_eq_true (by omega) | exact decide_eq_false (by omega) | exact rfl)) rfl rfl rfl ?_) <;> try ((refine wo_nilP [0, 1, 3, 4, 5, 7, 8, 9, 12, 26, 27, 28, 29, 40, 41, 42] ?_))))))) | ((refine w_regI 2 ?_; try ((refine wo_v (ov_bldA pl30 inf30 rfl rfl rfl) rfl rfl rfl ?_) <;> try ((refine wo_storeC rfl rfl rfl sz30 (by repeat (first | exact .head _ | apply Upd.tail | apply Upd.app)) (by first | rfl | simp) rfl rfl ?_) <;> try ((refine wo_nilP [0, 1, 3, 4, 5, 7, 8, 9, 12, 26, 27, 28, 29, 40, 41, 42] ?_)))))))
    have hpr : pieR s = ([], 2, 0) := by rw [pieR, if_pos hbig]
    exact ⟨Hd, ⟨by rw [hpr]; rfl, [], hG, fun h => by rw [hpr] at h; exact absurd h (by decide)⟩, hi_.subset (by repeat (first | exact List.Sublist.refl _ | apply List.Sublist.cons))⟩
  · repeat' (first | (refine pf_keep rfl ?_) | (refine pf_drop rfl ?_) | (refine pf_nil ?_) | (refine w_seq ?_) | (refine w_condF rfl ?_) | (refine w_block ?_) | (refine w_skip ?_) | ((refine w_regI 0 ?_; try ((refine wo_box rfl rfl rfl rfl (fun b_ hb_ => ?_)) <;> try ((refine wo_alloc inf30 rfl rfl rfl rfl (fun b_ hb_ => ?_)) <;> try ((refine wo_nilP [0, 1, 3, 4, 5, 7, 8, 9, 12, 26, 27, 28, 29, 40, 41, 42] ?_)))))) | ((refine w_regI 1 ?_; try ((refine wo_v (ov_move rfl) rfl rfl rfl ?_) <;> try ((refine wo_v (ov_lenS rfl Tryz.underlying9 rfl) rfl rfl rfl ?_) <;> try ((refine wo_v (ov_gtr3 rfl rfl (by first | exact decide_eq_true (by omega) | exact decide_eq_false (by omega) | exact rfl)) rfl rfl rfl ?_) <;> try ((refine wo_nilP [0, 1, 3, 4, 5, 7, 8, 9, 12, 26, 27, 28, 29, 40, 41, 42] ?_))))))) | ((refine w_regI 3 ?_; try ((refine wo_v (ov_move rfl) rfl rfl rfl ?_) <;> try ((refine wo_v (ov_bldA pl89 inf89 rfl rfl rfl) rfl rfl rfl ?_) <;> try ((refine wo_v (ov_call rfl en82 (fun w hi => sorts_c w)) rfl rfl rfl ?_) <;> try ((refine wo_makeMap rfl rfl (fun mb hmb => ?_)) <;> try ((refine wo_call0 rfl en35 rfl rfl (fun w1 hi => signs_c w1 (Glo.tab (by repeat (first | exact hE.g | apply Glo.cons | apply Glo.app)) hi)) ?_; rintro v Hn ⟨gb, rfl, rfl⟩) <;> try ((refine wo_v (ov_build pl107 inf107 rfl rfl (cs := scn0 s mb gb) (by kernel_rfl)) rfl rfl rfl ?_; have hc := scn0_ok s mb gb; generalize scn0 s mb gb = c at hc ⊢; obtain ⟨z, h0, h1, hs, hm, hg, hf⟩ := id hc) <;> try ((refine wo_box rfl rfl rfl rfl (fun b_ hb_ => ?_)) <;> try ((refine wo_alloc inf72 rfl rfl rfl rfl (fun b_ hb_ => ?_)) <;> try ((refine wo_storeB rfl rfl rfl sz72 (by repeat (first | exact .head _ | apply Upd.tail | apply Upd.app)) rfl rfl ?_) <;> try ((refine wo_nilP [0, 1, 3, 4, 5, 7, 8, 9, 12, 26, 27, 28, 29, 40, 41, 42] ?_))))))))))))) | ((refine w_regI 4 ?_; try ((refine wo_v (ov_load Tryz.underlying72 rfl rfl (by repeat (first | exact .head _ | refine .tail _ ?_ | refine List.mem_append_right _ ?_ | assumption)) (by first | rfl | assumption | simp)) rfl rfl rfl ?_) <;> try ((refine wo_v (ov_nilCheck rfl) rfl rfl rfl ?_) <;> try ((refine wo_v (ov_fieldAddr fo107_3 rfl) rfl rfl rfl ?_) <;> try ((refine wo_v (ov_load Tryz.underlying56 rfl rfl (by repeat (first | exact .head _ | refine .tail _ ?_ | refine List.mem_append_right _ ?_ | assumption)) (by first | rfl | assumption | simp)) rfl rfl rfl ?_) <;> try ((refine wo_callR (by repeat (first | exact Take.nil _ | apply Take.cons | exact Del1.head _ | apply Del1.tail | apply Del1.app)) rfl en83 rfl rfl (sortSigns_c gb 23 []) ?_; rintro v post ⟨rfl, rfl⟩) <;> try ((refine wo_nilP [0, 1, 3, 4, 5, 7, 8, 9, 12, 26, 27, 28, 29, 40, 41, 42] ?_))))))))) | ((refine w_regI 5 ?_; try ((refine wo_call0 rfl en34 rfl rfl (fun w1 hi => words_c w1 (Glo.tab (by repeat (first | exact hE.g | apply Glo.cons | apply Glo.app)) hi)) ?_; rintro v Hn ⟨wb, rfl, rfl⟩) <;> try ((refine wo_v (ov_lenL rfl Tryz.underlying56 rfl) rfl rfl rfl ?_) <;> try ((refine wo_v (ov_move rfl) rfl rfl rfl ?_) <;> try ((refine wo_nilP [0, 1, 3, 4, 5, 7, 8, 9, 12, 26, 27, 28, 29, 40, 41, 42] ?_))))))))
    rename_i bd hbd b4 hb4 bs hbs
    revert b_
    intro b5 hb5
    refine w_weak (E' := (fun k : Nat => [(0, str s), (3, .pointer (some ⟨bd, 0, none⟩)), (4, .pointer (some ⟨b4, 0, none⟩)), (5, .pointer (some ⟨b5, 0, none⟩)), (26, .slice (some ⟨wb, 0, none⟩) 63 63), (27, .int .i64 63), (28, .int .i64 (k : Int))]) 0) (by repeat (first | exact sub_nil _ | refine sub_cons rfl ?_)) ?_
    refine w_while (fun k : Nat => k ≤ 63) (fun k => 63 - k) (fun k : Nat => [(0, str s), (3, .pointer (some ⟨bd, 0, none⟩)), (4, .pointer (some ⟨b4, 0, none⟩)), (5, .pointer (some ⟨b5, 0, none⟩)), (26, .slice (some ⟨wb, 0, none⟩) 63 63), (27, .int .i64 63), (28, .int .i64 (k : Int))]) (fun k : Nat => (⟨wb, true, .cells (strs wordsL []) 9 (0, 0)⟩ : Ent) :: ⟨gb, true, .cells (strs sgnL []) 9 (0, 0)⟩ :: (⟨b5, true, .cells #[.pointer (some ⟨bs, 0, none⟩)] 72 (0, 0)⟩ : Ent) :: (⟨bs, true, .cells c 107 (0, 0)⟩ : Ent) :: ⟨mb, true, mapO (wordsL.take k)⟩ :: ⟨b4, true, .cells #[.int .i64 0, .int .i64 0] 30 (0, 0)⟩ :: (⟨bd, true, .cells #[.func (.func doF) #[] cs] 73 (0, 0)⟩ : Ent) :: (Hd ++ F)) ?_ 0 (by omega)
    intro k hk ih
    by_cases hlt : k < 63
    · have hk1 := wordsL_at k hlt
      have hnew := wordsL_new ⟨k, hlt⟩
      have hstep : wordsL.take (k + 1) = wordsL.take k ++ [wordsL[k]'(by rw [wordsL_len]; exact hlt)] := List.take_succ_eq_append_getElem _
      simp only at hnew
      generalize wordsL[k]'(by rw [wordsL_len]; exact hlt) = word at *
      repeat' (first | (refine pf_keep rfl ?_) | (refine pf_drop rfl ?_) | (refine pf_nil ?_) | (refine w_seq ?_) | (refine w_condT rfl ?_) | (refine w_block ?_) | (refine w_inBlock ?_) | (refine w_skip ?_) | ((refine w_regI 6 ?_; try ((refine wo_v (ov_lss3 rfl rfl (by first | exact decide_eq_true (by omega) | exact decide_eq_false (by omega) | exact rfl)) rfl rfl rfl ?_) <;> try ((refine wo_nilP [0, 1, 3, 4, 5, 7, 8, 9, 12, 26, 27, 28, 29, 40, 41, 42] ?_))))) | ((refine w_regI 7 ?_; try ((refine wo_v (ov_indexAddr Tryz.underlying56 sz9 rfl rfl (by omega) (by omega)) rfl rfl rfl ?_) <;> try ((refine wo_v (ov_load Tryz.underlying9 rfl rfl (by repeat (first | exact .head _ | refine .tail _ ?_ | refine List.mem_append_right _ ?_ | assumption)) (by first | rfl | assumption | simp)) rfl rfl rfl ?_) <;> try ((refine wo_v (ov_assign rfl) rfl rfl rfl ?_) <;> try ((refine wo_nilP [0, 1, 3, 4, 5, 7, 8, 9, 12, 26, 27, 28, 29, 40, 41, 42] ?_))))))) | ((refine w_regI 8 ?_; try ((refine wo_v (ov_load Tryz.underlying72 rfl rfl (by repeat (first | exact .head _ | refine .tail _ ?_ | refine List.mem_append_right _ ?_ | assumption)) (by first | rfl | assumption | simp)) rfl rfl rfl ?_) <;> try ((refine wo_v (ov_nilCheck rfl) rfl rfl rfl ?_) <;> try ((refine wo_v (ov_fieldAddr fo107_2 rfl) rfl rfl rfl ?_) <;> try ((refine wo_v (ov_load Tryz.underlying105 rfl rfl (by repeat (first | exact .head _ | refine .tail _ ?_ | refine List.mem_append_right _ ?_ | assumption)) (by first | rfl | assumption | simp)) rfl rfl rfl ?_) <;> try ((refine wo_v (ov_move rfl) rfl rfl rfl ?_) <;> try ((refine wo_mapIns Tryz.underlying105 Tryz.underlying9 rfl rfl rfl (by assumption) (by repeat (first | exact .head _ | apply Upd.tail | apply Upd.app)) rfl rfl ?_) <;> try ((refine wo_nilP [0, 1, 3, 4, 5, 7, 8, 9, 12, 26, 27, 28, 29, 40, 41, 42] ?_)))))))))) | ((refine w_regI 9 ?_; try ((refine wo_v (ov_add_i64 rfl rfl (by omega) (by omega)) rfl rfl rfl ?_) <;> try ((refine wo_v (ov_move rfl) rfl rfl rfl ?_) <;> try ((refine wo_nilP [0, 1, 3, 4, 5, 7, 8, 9, 12, 26, 27, 28, 29, 40, 41, 42] ?_)))))))
      simp only [← hstep]
      refine w_weak (by first | exact sub_nil _ | (refine sub_cons rfl ?_; repeat (first | exact sub_nil _ | refine sub_cons rfl ?_))) (ih (k + 1) (by omega) (by omega))
    · obtain rfl : k = 63 := by omega
      rw [show wordsL.take 63 = wordsL from List.take_of_length_le (by rw [wordsL_len]; omega)]
      repeat' (first | (refine pf_keep rfl ?_) | (refine pf_drop rfl ?_) | (refine pf_nil ?_) | (refine w_seq ?_) | (refine w_condF rfl ?_) | (refine w_block ?_) | (refine w_exit rfl ?_) | ((refine w_regI 6 ?_; try ((refine wo_v (ov_lss3 rfl rfl (by first | exact decide_eq_true (by omega) | exact decide_eq_false (by omega) | exact rfl)) rfl rfl rfl ?_) <;> try ((refine wo_nilP [0, 1, 3, 4, 5, 7, 8, 9, 12, 26, 27, 28, 29, 40, 41, 42] ?_))))) | ((refine w_regI 10 ?_; try ((refine wo_v (ov_makeFunc rfl rfl) rfl rfl rfl ?_) <;> try ((refine wo_defer rfl rfl rfl rfl rfl ?_) <;> try ((refine wo_nilP [0, 1, 3, 4, 5, 7, 8, 9, 12, 26, 27, 28, 29, 40, 41, 42] ?_)))))) | ((refine w_regI 11 ?_; try ((refine wo_v (ov_load Tryz.underlying72 rfl rfl (by repeat (first | exact .head _ | refine .tail _ ?_ | refine List.mem_append_right _ ?_ | assumption)) (by first | rfl | assumption | simp)) rfl rfl rfl ?_) <;> try ((refine wo_callR (pre := []) (Take.nil _) rfl en86 rfl rfl (piecesF_c bs) ?_; rintro v post ⟨bx, rfl, rfl⟩) <;> try ((refine wo_nilP [0, 1, 3, 4, 5, 7, 8, 9, 12, 26, 27, 28, 29, 40, 41, 42] ?_)))))))
      simp only [List.cons_append, List.nil_append]
      refine w_rangeFuncE (Env := EnvS mb gb) rfl rfl en115 (fun r l tmps hr hl2 hft => ?_)
      refine ⟨_, ((⟨r, true, .deferred (some [])⟩ : Ent) :: ⟨wb, true, .cells (strs wordsL []) 9 (0, 0)⟩ :: ⟨gb, true, .cells (strs sgnL []) 9 (0, 0)⟩ :: ⟨mb, true, mapO wordsL⟩ :: ⟨b4, true, .cells #[.int .i64 0, .int .i64 0] 30 (0, 0)⟩ :: F), _, .cons (e := (⟨bs, true, .cells c 107 (0, 0)⟩ : Ent)) (by repeat (first | exact Del1.head _ | apply Del1.tail)) (.cons (e := ⟨bx, true, .cells #[.pointer (some ⟨bs, 0, none⟩)] 72 (0, 0)⟩) (by repeat (first | exact Del1.head _ | apply Del1.tail)) (.cons (.head _) (.cons (e := (⟨bd, true, .cells #[.func (.func doF) #[] cs] 73 (0, 0)⟩ : Ent)) (by repeat (first | exact Del1.head _ | apply Del1.tail)) (.cons (e := (⟨b5, true, .cells #[.pointer (some ⟨bs, 0, none⟩)] 72 (0, 0)⟩ : Ent)) (by repeat (first | exact Del1.head _ | apply Del1.tail)) ((((((Take.mid Hd F).tail _).tail _).tail _).tail _).tail _))))), ⟨let ⟨q, el, fz, h⟩ := hE.ml; ⟨q, el, fz, .tail _ (.tail _ (.tail _ (.tail _ (.tail _ h))))⟩, by simp, ⟨[], by simp⟩⟩, feed_c (fun ps L => ∃ Hd1, G ps Hd1 ∧ L = (⟨bd, true, .cells #[.func (.func doF) #[] cs] 73 (0, 0)⟩ : Ent) :: (⟨b5, true, .cells #[.pointer (some ⟨bs, 0, none⟩)] 72 (0, 0)⟩ : Ent) :: Hd1) mb gb bs bx l _ s hl ?_ rfl c 0 hc ((⟨bd, true, .cells #[.func (.func doF) #[] cs] 73 (0, 0)⟩ : Ent) :: (⟨b5, true, .cells #[.pointer (some ⟨bs, 0, none⟩)] 72 (0, 0)⟩ : Ent) :: Hd) ⟨Hd, hG, rfl⟩, ?_⟩
      · rintro ps b at_ L ⟨Hd1, hG1, rfl⟩ hj hj2 hlen hpos hk8
        have hft2 := (hft.put (d := 41) (v := .int .i64 (at_ : Int)) (by show 41 < 49; omega)).put (d := 42) (v := .agg #[.int .u8 b.1, str b.2]) (by show 42 < 49; omega)
        refine round_of2 (n := Tryz.f54.ntmps) hft.sz (by simp [loop0]) hft2 (fun S1 w1 F1 => ?_)
        simp only [List.cons_append]
        unfold loop0
        repeat' (first | (refine pf_keep rfl ?_) | (refine pf_nil ?_) | (refine w_seq ?_) | ((refine w_regI 12 ?_; try ((refine wo_v (ov_assign rfl) rfl rfl rfl ?_) <;> try ((refine wo_nilP [0, 1, 3, 4, 5, 7, 8, 9, 12, 26, 27, 28, 29, 40, 41, 42] ?_))))) | ((refine w_regI 13 ?_; try ((refine wo_alloc inf34 rfl rfl rfl rfl (fun b_ hb_ => ?_)) <;> try ((refine wo_storeC rfl rfl rfl sz34 (by repeat (first | exact .head _ | apply Upd.tail | apply Upd.app)) (by first | rfl | simp) rfl rfl ?_) <;> try ((refine wo_nilP [0, 1, 3, 4, 5, 7, 8, 9, 12, 26, 27, 28, 29, 40, 41, 42] ?_)))))))
        refine w_beginRound rfl rfl (by repeat (first | exact Upd.head _ | apply Upd.tail)) ?_
        repeat' (first | (refine pf_keep rfl ?_) | (refine pf_drop rfl ?_) | (refine pf_nil ?_) | (refine w_block ?_) | (refine w_inBlock ?_) | ((refine w_regI 14 ?_; try ((refine wo_v (ov_load Tryz.underlying73 rfl rfl (by repeat (first | exact .head _ | refine .tail _ ?_ | refine List.mem_append_right _ ?_ | assumption)) (by first | rfl | assumption | simp)) rfl rfl rfl ?_) <;> try ((refine wo_v (ov_load Tryz.underlying72 rfl rfl (by repeat (first | exact .head _ | refine .tail _ ?_ | refine List.mem_append_right _ ?_ | assumption)) (by first | rfl | assumption | simp)) rfl rfl rfl ?_) <;> try ((refine wo_v (ov_move rfl) rfl rfl rfl ?_) <;> try ((refine wo_v (ov_loadW Tryz.underlying34 rfl inf34 rfl (by repeat (first | exact .head _ | refine .tail _ ?_ | refine List.mem_append_right _ ?_ | assumption)) (by first | rfl | simp)) rfl rfl rfl ?_) <;> try ((refine wo_callR (pre := Hd1) (((((Take.mid Hd1 F1).tail _).tail _).tail _).tail _) rfl hdo.1 rfl rfl (hdo.2 ps b at_ bs Hd1 hG1 hj hj2 hlen hpos hk8) ?_; rintro v post ⟨rfl, hG2⟩) <;> try ((refine wo_nilP [0, 1, 3, 4, 5, 7, 8, 9, 12, 26, 27, 28, 29, 40, 41, 42] ?_))))))))))
        refine w_take (ps := [_, (⟨bd, true, .cells #[.func (.func doF) #[] cs] 73 (0, 0)⟩ : Ent), (⟨b5, true, .cells #[.pointer (some ⟨bs, 0, none⟩)] 72 (0, 0)⟩ : Ent)]) (F := post ++ _ :: F1) (.cons (.app _ (.tail _ (.head _))) (.cons (.app _ (.tail _ (.head _))) (.cons (.app _ (.tail _ (.head _))) (.nil _)))) ?_
        exact w_endRound (F := F1) (post := _ :: (⟨bd, true, .cells #[.func (.func doF) #[] cs] 73 (0, 0)⟩ : Ent) :: (⟨b5, true, .cells #[.pointer (some ⟨bs, 0, none⟩)] 72 (0, 0)⟩ : Ent) :: post) (.head _) ⟨_, ⟨post, hG2, rfl⟩, rfl⟩ (fun w hi => hi.subset (.cons_cons _ (.cons_cons _ (.cons_cons _ ((List.Sublist.refl post).append (List.sublist_cons_self _ _))))))
      · intro e post hq
        unfold PieQ at hq
        cases hps : (pieS s).2 with
        | none =>
          rw [hps] at hq
          obtain ⟨rfl, c', a, fr, L, hc', ⟨Hd2, hG2, rfl⟩, rfl⟩ := hq
          have hpr : pieR s = ((pieS s).1, 0, 0) := by rw [pieR, if_neg hbig, hps]
          dsimp only
          refine ⟨_, _, .cons (e := (⟨l, true, .loop _⟩ : Ent)) (by repeat (first | exact Del1.head _ | apply Del1.tail | apply Del1.app)) (.nil _), (by unfold loop0; simp), rfl, ?_⟩
          refine w_take (ps := [⟨r, true, .deferred (some [])⟩, ⟨b4, true, .cells #[.int .i64 0, .int .i64 0] 30 (0, 0)⟩]) (.cons (by repeat (first | exact Del1.head _ | apply Del1.tail | apply Del1.app)) (.cons (by repeat (first | exact Del1.head _ | apply Del1.tail | apply Del1.app)) (.nil _))) ?_
          simp only [List.cons_append, List.nil_append]
          repeat' (first | (refine pf_keep rfl ?_) | (refine pf_drop rfl ?_) | (refine pf_nil ?_) | (refine w_seq ?_) | (refine w_inBlock ?_) | ((refine w_regI 15 ?_; try ((refine wo_v (ov_bldZ pl30 inf30 rfl) rfl rfl rfl ?_) <;> try ((refine wo_storeC rfl rfl rfl sz30 (by repeat (first | exact .head _ | apply Upd.tail | apply Upd.app)) (by first | rfl | simp) rfl rfl ?_) <;> try ((refine wo_nilP [0, 1, 3, 4, 5, 7, 8, 9, 12, 26, 27, 28, 29, 40, 41, 42] ?_)))))))
          refine w_retW rfl ?_
          refine wr_mark (.head _) ?_
          unfold WR
          intro w2 hi2
          refine goR_defer (C := cxOf _ _ _ _) (f' := 85) (args := #[.pointer (some ⟨b5, 0, none⟩), .pointer (some ⟨b4, 0, none⟩)]) ?_ ((undoR_c b5 b4 _ _ _ _ hi2).mono ?_)
          · first | exact en85 _ _ | (simpa using en85 _ _)
          · rintro e u w3 ⟨rfl, rfl, hi3⟩
            show GoR _ _ _ _
            refine gor_leave Tryz.func54 hi3 (.cellA rfl Tryz.underlying30 rfl inf30 (by repeat (first | exact .head _ | refine .tail _ ?_ | refine List.mem_append_right _ ?_ | assumption)) rfl .nil) ?_
            exact ⟨Hd2, ⟨by rw [hpr]; rfl, (pieS s).1, hG2, fun _ => by rw [hpr]⟩, hi3.pick (ps := Hd2) (F := F) (by repeat (first | exact Take.mid _ _ | apply Take.tail)) (by repeat (first | exact List.Sublist.refl _ | apply List.Sublist.cons))⟩
        | some em =>
          obtain ⟨er, m⟩ := em
          rw [hps] at hq
          obtain ⟨rfl, c', q, L, ps, hc', ⟨Hd2, hG2, rfl⟩, rfl⟩ := hq
          have hpr : pieR s = ([], er, 1 + (fds (s.take (s.length - m)) : Int)) := by rw [pieR, if_neg hbig, hps]
          dsimp only
          refine wp_take (ps := [⟨r, true, .deferred (some [])⟩, ⟨b4, true, .cells #[.int .i64 0, .int .i64 0] 30 (0, 0)⟩, ⟨bs, true, .cells c' 107 (0, 0)⟩, (⟨b5, true, .cells #[.pointer (some ⟨bs, 0, none⟩)] 72 (0, 0)⟩ : Ent)]) (.cons (by repeat (first | exact Del1.head _ | apply Del1.tail | apply Del1.app)) (.cons (by repeat (first | exact Del1.head _ | apply Del1.tail | apply Del1.app)) (.cons (by repeat (first | exact Del1.head _ | apply Del1.tail | apply Del1.app)) (.cons (by repeat (first | exact Del1.head _ | apply Del1.tail | apply Del1.app)) (.nil _))))) ?_
          refine wp_mark (.head _) ?_
          unfold WP
          intro w2 hi2
          refine goP_defer (C := cxOf _ _ _ _) (f' := 85) (args := #[.pointer (some ⟨b5, 0, none⟩), .pointer (some ⟨b4, 0, none⟩)]) ?_ ((undoP_c er s q (s.length - m) bs b5 b4 _ _ _ _ c' hc' hl (by omega) S w0 _ w2 (hi2.subset (List.sublist_cons_self _ _))).mono ?_)
          · first | exact en85 _ _ | (simpa using en85 _ _)
          · rintro e u w3 ⟨rfl, rfl, hi3⟩
            show GoR _ _ _ _
            have hne := pieS_er _ s er m (Nat.le_refl _) hps
            refine gor_leave Tryz.func54 hi3 (.cellA rfl Tryz.underlying30 rfl inf30 (by repeat (first | exact .head _ | refine .tail _ ?_ | refine List.mem_append_right _ ?_ | assumption)) rfl .nil) ?_
            exact ⟨Hd2, ⟨by rw [hpr, lineS_fds]; rfl, ps, hG2, fun h => absurd (by rw [hpr] at h; exact h) hne⟩, hi3.pick (ps := Hd2) (F := F) (by repeat (first | exact Take.mid _ _ | apply Take.tail)) (by repeat (first | exact List.Sublist.refl _ | apply List.Sublist.cons))⟩
end Go.Sl
namespace Go.Sl
open Go Go.Proofs
set_option maxRecDepth 100000
set_option maxHeartbeats 1000000
set_option linter.unusedSimpArgs false
set_option linter.unusedVariables false

abbrev clb (c : UInt8) : Int := cls (c.toNat : Int)
/-- The byte c may stand behind a piece. -/
def Nxt (k : Int) (p : List UInt8) (c : UInt8) : Prop :=
  (k = 6 → clb c ≠ 98) ∧ (k = 1 ∨ k = 2 → clb c ≠ 97 ∧ clb c ≠ 100) ∧ (k = 3 → (95 ∈ p → clb c ≠ 97 ∧ clb c ≠ 100) ∧ (95 ∉ p → clb c ≠ 100 ∧ c ≠ 95)) ∧ (k = 5 → p.length = 1 → p ++ [c] ∉ signsL ∧ p ++ [c] ≠ [40, 42] ∧ p ++ [c] ≠ [60, 42])

theorem spn_nil (a b : Int) : spn a b [] = 0 := rfl
theorem spn_cons (a b : Int) (c : UInt8) (l : List UInt8) : spn a b (c :: l) = if clb c = a ∨ clb c = b then spn a b l + 1 else 0 := by
  unfold spn
  rw [List.takeWhile_cons]
  by_cases h : clb c = a ∨ clb c = b
  · rw [if_pos (by simpa using h), if_pos h]; rfl
  · rw [if_neg (by simpa using h), if_neg h]; rfl
theorem spn_app (a b : Int) (c : UInt8) (r : List UInt8) : ∀ p : List UInt8, spn a b (p ++ c :: r) = p.length ↔ spn a b p = p.length ∧ clb c ≠ a ∧ clb c ≠ b
  | [] => by
    rw [List.nil_append, spn_cons]
    by_cases h : clb c = a ∨ clb c = b
    · rw [if_pos h]; simp; intro _ h1; rcases h with h | h
      · exact absurd h (by assumption)
      · exact h
    · rw [if_neg h]; simp only [not_or] at h; simp [spn_nil, h.1, h.2]
  | d :: p => by
    rw [List.cons_append, spn_cons, spn_cons, List.length_cons]
    by_cases h : clb d = a ∨ clb d = b
    · rw [if_pos h, if_pos h, Nat.add_right_cancel_iff, Nat.add_right_cancel_iff]; exact spn_app a b c r p
    · rw [if_neg h, if_neg h]; omega
theorem spn_in (a b : Int) (r : List UInt8) : ∀ p : List UInt8, spn a b p < p.length → spn a b (p ++ r) = spn a b p
  | [], h => by simp at h
  | d :: p, h => by
    rw [List.cons_append, spn_cons, spn_cons]
    rw [spn_cons] at h
    by_cases h2 : clb d = a ∨ clb d = b
    · rw [if_pos h2, if_pos h2]; rw [if_pos h2] at h; rw [spn_in a b r p (by simpa using h)]
    · rw [if_neg h2, if_neg h2]

theorem cloR_ge : ∀ (n : Nat) (l : List UInt8) (k op : Nat), l.length ≤ n → cloR l k op = 0 ∨ k + 2 ≤ cloR l k op
  | _, [], k, op, _ => by simp [cloR]
  | _, [_], k, op, _ => by simp [cloR]
  | n + 1, a :: b :: r, k, op, h => by
    simp only [List.length_cons] at h
    have h1 := cloR_ge n r (k + 2) (op + 1) (by omega)
    have h2 := cloR_ge n r (k + 2) (op - 1) (by omega)
    have h3 := cloR_ge n (b :: r) (k + 1) op (by simp; omega)
    rw [cloR]; split
    · omega
    · split
      · split
        · exact .inr (Nat.le_refl _)
        · omega
      · omega
theorem cloR_app (r : List UInt8) : ∀ (n : Nat) (x : List UInt8) (k op : Nat), x.length ≤ n → 0 < k → (cloR (x ++ r) k op = k + x.length ↔ cloR x k op = k + x.length)
  | _, [], k, op, _, hk => by
    have := cloR_ge _ r k op (Nat.le_refl _)
    simp only [List.nil_append, List.length_nil, cloR]; omega
  | _, [a], k, op, _, hk => by
    have := cloR_ge _ (a :: r) k op (Nat.le_refl _)
    simp only [List.cons_append, List.nil_append, List.length_cons, List.length_nil, cloR]; omega
  | n + 1, a :: b :: x, k, op, h, hk => by
    simp only [List.length_cons] at h
    have h1 := cloR_app r n x (k + 2) (op + 1) (by omega) (by omega)
    have h2 := cloR_app r n x (k + 2) (op - 1) (by omega) (by omega)
    have h3 := cloR_app r n (b :: x) (k + 1) op (by simp; omega) (by omega)
    simp only [List.cons_append, List.length_cons] at h3 ⊢
    rw [cloR, cloR]
    rw [show k + (x.length + 1 + 1) = k + 2 + x.length by omega]
    rw [show k + 1 + (x.length + 1) = k + 2 + x.length by omega] at h3
    by_cases c1 : a = 40 ∧ b = 42
    · rw [if_pos c1, if_pos c1]; exact h1
    rw [if_neg c1, if_neg c1]
    by_cases c2 : a = 42 ∧ b = 41
    · rw [if_pos c2, if_pos c2]
      by_cases c3 : op ≤ 1
      · rw [if_pos c3, if_pos c3]
      · rw [if_neg c3, if_neg c3]; exact h2
    · rw [if_neg c2, if_neg c2]; exact h3
theorem fndR_app (what : List UInt8) (hw : what ≠ []) (r : List UInt8) : ∀ (x : List UInt8) (k : Nat), 0 < k → (fndR what (x ++ r) k = k + x.length ↔ fndR what x k = k + x.length)
  | [], k, hk => by
    have h1 := fndR_ge what r k hw
    have h2 : 0 < what.length := List.length_pos_iff.2 hw
    simp only [List.nil_append, List.length_nil, fndR, if_neg hw]; omega
  | c :: x, k, hk => by
    have ih := fndR_app what hw r x (k + 1) (by omega)
    have g1 := fndR_ge what (x ++ r) (k + 1) hw
    have g2 := fndR_ge what x (k + 1) hw
    have h2 : 0 < what.length := List.length_pos_iff.2 hw
    rw [List.cons_append, fndR, fndR]
    simp only [List.length_cons, List.length_append] at *
    rw [show k + (x.length + 1) = k + 1 + x.length by omega]
    by_cases hl : what.length ≤ x.length + 1
    · rw [if_neg (c := x.length + r.length + 1 < what.length) (by omega), if_neg (c := x.length + 1 < what.length) (by omega)]
      have ht : (c :: (x ++ r)).take what.length = (c :: x).take what.length := by
        rw [← List.cons_append, List.take_append_of_le_length (by simpa using hl)]
      rw [ht]
      by_cases h3 : (c :: x).take what.length = what
      · rw [if_pos h3, if_pos h3]
      · rw [if_neg h3, if_neg h3]; exact ih
    · rw [if_pos (c := x.length + 1 < what.length) (by omega)]
      split
      · rfl
      · split
        · omega
        · omega

theorem numLen_app (p : List UInt8) (c : UInt8) (r : List UInt8) : numLen (p ++ c :: r) = p.length ↔ numLen p = p.length ∧ (95 ∈ p → clb c ≠ 97 ∧ clb c ≠ 100) ∧ (95 ∉ p → clb c ≠ 100 ∧ c ≠ 95) := by
  have hle := spn_le 100 100 p
  by_cases hall : spn 100 100 p = p.length
  · have hd : ∀ (p : List UInt8), spn 100 100 p = p.length → 95 ∉ p := by
      intro p
      induction p with
      | nil => simp
      | cons d p ih =>
        rw [spn_cons]
        intro h
        split at h
        · rename_i h2
          have := ih (by simpa using h)
          simp only [List.mem_cons, not_or]
          refine ⟨?_, this⟩
          rintro rfl
          revert h2; decide
        · simp at h
    have h95 := hd p hall
    have hn : numLen p = p.length := by unfold numLen; rw [if_neg (by omega)]; exact hall
    have hb : bt (p ++ c :: r) (p.length : Nat) = (c.toNat : Int) := by
      rw [bt_at _ _ (by simp)]; simp
    have h1 := spn_app 100 100 c r p
    have hgt : ∀ p : List UInt8, spn 100 100 p = p.length → p.length ≤ spn 100 100 (p ++ c :: r) := by
      intro p
      induction p with
      | nil => simp
      | cons d p ih =>
        rw [List.cons_append, spn_cons, spn_cons]
        split
        · intro h; have := ih (by simpa using h); simp; omega
        · intro h; simp at h
    have hge := hgt p hall
    simp only [h95, false_implies, not_false_eq_true, true_implies, true_and, hn]
    unfold numLen
    by_cases hc : clb c = 100
    · have hne : spn 100 100 (p ++ c :: r) ≠ p.length := fun e => absurd hc (h1.1 e).2.1
      simp only [hc, ne_eq, not_true, false_and, iff_false]
      split <;> omega
    · have he : spn 100 100 (p ++ c :: r) = p.length := h1.2 ⟨hall, hc, hc⟩
      rw [he, hb]
      simp only [hc, ne_eq, not_false_eq_true, true_and]
      by_cases h5 : c = 95
      · subst h5
        rw [if_pos ⟨by simp, rfl⟩]; simp; omega
      · rw [if_neg]
        · simp [h5]
        · rintro ⟨_, h⟩; exact h5 (UInt8.toNat_inj.1 (by exact_mod_cast h))
  · have hlt : spn 100 100 p < p.length := by omega
    have he := spn_in 100 100 (c :: r) p hlt
    unfold numLen
    rw [he]
    generalize hm : spn 100 100 p = m at *
    have hb : bt (p ++ c :: r) (m : Nat) = bt p (m : Nat) := by
      rw [bt_at _ _ (by simp; omega), bt_at _ _ hlt, List.getElem_append_left hlt]
    rw [hb]
    by_cases h5 : bt p (m : Nat) = 95
    · have hmem : 95 ∈ p := by
        rw [bt_at _ _ hlt] at h5
        have : p[m] = 95 := UInt8.toNat_inj.1 (by exact_mod_cast h5)
        rw [← this]; exact List.getElem_mem hlt
      rw [if_pos ⟨by simp; omega, h5⟩, if_pos ⟨hlt, h5⟩]
      have hd : (p ++ c :: r).drop (m + 1) = p.drop (m + 1) ++ c :: r := by rw [List.drop_append_of_le_length (by omega)]
      have h1 := spn_app 97 100 c r (p.drop (m + 1))
      simp only [List.length_drop] at h1
      rw [hd]
      simp only [hmem, true_implies, not_true, false_implies, and_true]
      constructor
      · intro h; have := h1.1 (by omega); exact ⟨by omega, this.2⟩
      · rintro ⟨h, h2⟩; have := h1.2 ⟨by omega, h2⟩; omega
    · rw [if_neg (by rintro ⟨_, h⟩; exact h5 h), if_neg (by rintro ⟨_, h⟩; exact h5 h)]
      omega

theorem tri {a d : Int} {b e : Nat} {c f : Int} : ((a, b, c) : Int × Nat × Int) = (d, e, f) ↔ a = d ∧ b = e ∧ c = f := by simp
theorem bt0_app {p : List UInt8} (hp : p ≠ []) (r : List UInt8) : bt (p ++ r) 0 = bt p 0 := by
  cases p with
  | nil => exact absurd rfl hp
  | cons a p => rfl
theorem take1_app {p : List UInt8} (hp : p ≠ []) (r : List UInt8) : (p ++ r).take 1 = p.take 1 := by
  cases p with
  | nil => exact absurd rfl hp
  | cons a p => rfl
theorem twoS_app {a b : UInt8} {p : List UInt8} (r : List UInt8) : twoS (a :: b :: p ++ r) = [a, b] := by
  unfold twoS; rw [if_pos (by simp)]; rfl
theorem twoS_two {a b : UInt8} {p : List UInt8} : twoS (a :: b :: p) = [a, b] := by
  unfold twoS; rw [if_pos (by simp)]; rfl
theorem twoS_one {a : UInt8} : twoS [a] = [] := rfl
theorem nil_sign : ([] : List UInt8) ∉ signsL := by decide

theorem first_app_two (a b : UInt8) (p' : List UInt8) (k : Int) (c : UInt8) (r : List UInt8) : firstS (a :: b :: p' ++ c :: r) = (k, (a :: b :: p').length, 0) ↔ firstS (a :: b :: p') = (k, (a :: b :: p').length, 0) ∧ Nxt k (a :: b :: p') c := by
  have hb0 : bt (a :: b :: p' ++ c :: r) 0 = bt (a :: b :: p') 0 := rfl
  have ht1 : (a :: b :: p' ++ c :: r).take 1 = (a :: b :: p').take 1 := rfl
  have ht2 : twoS (a :: b :: p' ++ c :: r) = twoS (a :: b :: p') := by rw [twoS_app, twoS_two]
  have hlen : 2 ≤ (a :: b :: p').length := by simp
  have hsp := spn_app 98 98 c r (a :: b :: p')
  have hsw := spn_app 97 100 c r (a :: b :: p')
  have hcl := cloR_app (c :: r) _ ((a :: b :: p').drop 2) 2 1 (Nat.le_refl _) (by omega)
  have hfn := fndR_app [42, 62] (by simp) (c :: r) ((a :: b :: p').drop 2) 2 (by omega)
  have hft := fndR_app [34] (by simp) (c :: r) ((a :: b :: p').drop 1) 1 (by omega)
  have hnm := numLen_app (a :: b :: p') c r
  have hd2 : (a :: b :: p' ++ c :: r).drop 2 = (a :: b :: p').drop 2 ++ c :: r := rfl
  have hd1 : (a :: b :: p' ++ c :: r).drop 1 = (a :: b :: p').drop 1 ++ c :: r := rfl
  unfold firstS cloS
  rw [hb0, ht1, ht2, hd2, hd1]
  simp only [List.length_drop] at hcl hfn hft
  generalize hp : a :: b :: p' = p at *
  rw [show 2 + (p.length - 2) = p.length by omega] at hcl hfn
  rw [show 1 + (p.length - 1) = p.length by omega] at hft
  have hpt : (p ++ c :: r).take p.length = p := by simp
  by_cases c1 : cls (bt p 0) = 98
  · rw [if_pos c1, if_pos c1]
    simp only [Prod.mk.injEq, and_true, hsp]
    unfold Nxt
    constructor
    · rintro ⟨rfl, h1, h2, _⟩; exact ⟨⟨rfl, h1⟩, fun _ => h2, fun h => by omega, fun h => by omega, fun h => by omega⟩
    · rintro ⟨⟨rfl, h1⟩, h2, _⟩; exact ⟨rfl, h1, h2 rfl, h2 rfl⟩
  rw [if_neg c1, if_neg c1]
  by_cases c2 : twoS p = [40, 42]
  · rw [if_pos c2, if_pos c2]
    have hx : ∀ n : Nat, ((if n = 0 then ((0, 0, 13) : Int × Nat × Int) else (7, n, 0)) = (k, p.length, 0)) ↔ (7 = k ∧ n = p.length) := by
      intro n
      by_cases hn : n = 0
      · rw [if_pos hn]; simp; omega
      · rw [if_neg hn]; simp
    rw [hx, hx, hcl]
    unfold Nxt
    constructor
    · rintro ⟨rfl, h⟩; exact ⟨⟨rfl, h⟩, fun h => by omega, fun h => by omega, fun h => by omega, fun h => by omega⟩
    · rintro ⟨h, _⟩; exact h
  rw [if_neg c2, if_neg c2]
  by_cases c3 : twoS p = [60, 42]
  · rw [if_pos c3, if_pos c3]
    have hx : ∀ n : Nat, ((if n = 0 then ((0, 0, 13) : Int × Nat × Int) else (8, n, 0)) = (k, p.length, 0)) ↔ (8 = k ∧ n = p.length) := by
      intro n
      by_cases hn : n = 0
      · rw [if_pos hn]; simp; omega
      · rw [if_neg hn]; simp
    rw [hx, hx, hfn]
    unfold Nxt
    constructor
    · rintro ⟨rfl, h⟩; exact ⟨⟨rfl, h⟩, fun h => by omega, fun h => by omega, fun h => by omega, fun h => by omega⟩
    · rintro ⟨h, _⟩; exact h
  rw [if_neg c3, if_neg c3]
  by_cases c4 : cls (bt p 0) = 97
  · rw [if_pos c4, if_pos c4]
    have hx : ∀ (n : Nat) (q : List UInt8), (n = p.length → q = p) → (((if q ∈ wordsL then ((2, n, 0) : Int × Nat × Int) else if 12 < n then (0, 0, 12) else (1, n, 0)) = (k, p.length, 0)) ↔ (n = p.length ∧ ((p ∈ wordsL ∧ k = 2) ∨ (p ∉ wordsL ∧ p.length ≤ 12 ∧ k = 1)))) := by
      intro n q hq
      by_cases hn : n = p.length
      · rw [hq hn, hn]
        by_cases hw : p ∈ wordsL
        · rw [if_pos hw, tri]
          constructor
          · rintro ⟨h, _, _⟩; exact ⟨rfl, .inl ⟨hw, h.symm⟩⟩
          · rintro ⟨_, ⟨_, h⟩ | ⟨h, _⟩⟩
            · exact ⟨h.symm, rfl, rfl⟩
            · exact absurd hw h
        · rw [if_neg hw]
          by_cases h12 : 12 < p.length
          · rw [if_pos h12, tri]
            constructor
            · rintro ⟨_, _, h⟩; omega
            · rintro ⟨_, ⟨h, _⟩ | ⟨_, h, _⟩⟩
              · exact absurd h hw
              · omega
          · rw [if_neg h12, tri]
            constructor
            · rintro ⟨h, _, _⟩; exact ⟨rfl, .inr ⟨hw, by omega, h.symm⟩⟩
            · rintro ⟨_, ⟨h, _⟩ | ⟨_, _, h⟩⟩
              · exact absurd h hw
              · exact ⟨h.symm, rfl, rfl⟩
      · constructor
        · intro h
          exfalso
          split at h
          · rw [tri] at h; omega
          · split at h
            · rw [tri] at h; omega
            · rw [tri] at h; omega
        · rintro ⟨h, _⟩; exact absurd h hn
    rw [hx _ _ (fun e => by rw [e]; exact hpt), hx _ _ (fun e => by rw [e]; simp), hsw]
    unfold Nxt
    constructor
    · rintro ⟨⟨h1, h2⟩, h3⟩
      exact ⟨⟨h1, h3⟩, fun h => by omega, fun _ => h2, fun h => by omega, fun h => by omega⟩
    · rintro ⟨⟨h1, h3⟩, _, h2, _⟩
      exact ⟨⟨h1, h2 (by omega)⟩, h3⟩
  rw [if_neg c4, if_neg c4]
  by_cases c5 : cls (bt p 0) = 100
  · rw [if_pos c5, if_pos c5]
    have hx : ∀ (n : Nat) (q : List UInt8), (n = p.length → q = p) → (((3, n, if valS q < 0 then 11 else 0) : Int × Nat × Int) = (k, p.length, 0) ↔ (n = p.length ∧ k = 3 ∧ ¬ valS p < 0)) := by
      intro n q hq
      simp only [Prod.mk.injEq]
      constructor
      · rintro ⟨h1, h2, h3⟩
        rw [hq h2] at h3
        refine ⟨h2, h1.symm, fun h => ?_⟩
        rw [if_pos h] at h3; omega
      · rintro ⟨h1, h2, h3⟩
        rw [hq h1, if_neg h3]; exact ⟨h2.symm, h1, rfl⟩
    rw [hx _ _ (fun e => by rw [e]; exact hpt), hx _ _ (fun e => by rw [e]; simp), hnm]
    unfold Nxt
    constructor
    · rintro ⟨⟨h1, h2⟩, rfl, h3⟩
      exact ⟨⟨h1, rfl, h3⟩, fun h => by omega, fun h => by omega, fun _ => h2, fun h => by omega⟩
    · rintro ⟨⟨h1, rfl, h3⟩, _, _, h2, _⟩
      exact ⟨⟨h1, h2 rfl⟩, rfl, h3⟩
  rw [if_neg c5, if_neg c5]
  by_cases c6 : bt p 0 = 34
  · rw [if_pos c6, if_pos c6]
    have hx : ∀ (n : Nat) (q : List UInt8), (n = p.length → q = (p.take (p.length - 1)).drop 1) → (((if n = 0 ∨ ¬ isBrand q then ((0, 0, 14) : Int × Nat × Int) else (4, n, 0)) = (k, p.length, 0)) ↔ (n = p.length ∧ k = 4 ∧ isBrand ((p.take (p.length - 1)).drop 1))) := by
      intro n q hq
      by_cases h : n = 0 ∨ ¬ isBrand q
      · rw [if_pos h]
        constructor
        · intro e; rw [tri] at e; omega
        · rintro ⟨h1, h2, h3⟩
          rcases h with h | h
          · omega
          · rw [hq h1] at h; exact absurd h3 h
      · rw [if_neg h]
        simp only [not_or, Classical.not_not] at h
        simp only [Prod.mk.injEq, and_true]
        constructor
        · rintro ⟨h1, h2⟩; exact ⟨h2, h1.symm, hq h2 ▸ h.2⟩
        · rintro ⟨h1, h2, _⟩; exact ⟨h2.symm, h1⟩
    rw [hx _ _ (fun e => by rw [e, List.take_append_of_le_length (by omega)]), hx _ _ (fun e => by rw [e]), hft]
    unfold Nxt
    constructor
    · rintro ⟨h1, rfl, h3⟩
      exact ⟨⟨h1, rfl, h3⟩, fun h => by omega, fun h => by omega, fun h => by omega, fun h => by omega⟩
    · rintro ⟨h, _⟩; exact h
  rw [if_neg c6, if_neg c6]
  have hN : k = 5 → Nxt k p c := fun h => ⟨fun h => by omega, fun h => by omega, fun h => by omega, fun _ h => by omega⟩
  constructor
  · intro h
    refine ⟨h, hN ?_⟩
    split at h
    · rw [tri] at h; omega
    · split at h
      · rw [tri] at h; omega
      · rw [tri] at h; omega
  · exact fun h => h.1

theorem all_bytes {P : UInt8 → Prop} (h : ∀ n : Fin 256, P (UInt8.ofNat n.val)) (c : UInt8) : P c := by
  have h2 := h ⟨c.toNat, c.toNat_lt⟩
  simp only [UInt8.ofNat_toNat] at h2
  exact h2
theorem first_one (a : UInt8) : firstS [a] = (if clb a = 98 then (6, 1, 0) else if clb a = 97 then (1, 1, 0) else if clb a = 100 then (3, 1, 0) else if a.toNat = 34 then (0, 0, 14) else if [a] ∈ signsL then (5, 1, 0) else (0, 0, 10)) := by
  revert a; exact all_bytes (by decide +kernel)
theorem cls_not (c : UInt8) (h : clb c = 98) : clb c ≠ 97 ∧ clb c ≠ 100 := by omega
theorem first_app_one (a : UInt8) (k : Int) (c : UInt8) (r : List UInt8) : firstS ([a] ++ c :: r) = (k, 1, 0) ↔ firstS [a] = (k, 1, 0) ∧ Nxt k [a] c := by
  have h0 : bt ([a] ++ c :: r) 0 = (a.toNat : Int) := rfl
  have h2 : twoS ([a] ++ c :: r) = [a, c] := by unfold twoS; rw [if_pos (by simp)]; rfl
  have ht1 : ([a] ++ c :: r).take 1 = [a] := rfl
  have hsp := spn_app 98 98 c r [a]
  have hsw := spn_app 97 100 c r [a]
  have hnm := numLen_app [a] c r
  have hd2 : ([a] ++ c :: r).drop 2 = r := rfl
  have hd1 : ([a] ++ c :: r).drop 1 = c :: r := rfl
  have hc := cloR_ge _ r 2 1 (Nat.le_refl _)
  have hf2 := fndR_ge [42, 62] r 2 (by simp)
  have hf1 := fndR_ge [34] (c :: r) 1 (by simp)
  have hone : ∀ a : UInt8, (clb a = 98 → spn 98 98 [a] = 1) ∧ (clb a = 97 → spn 97 100 [a] = 1 ∧ [a] ∉ wordsL) ∧ (clb a = 100 → numLen [a] = 1 ∧ ¬ valS [a] < 0 ∧ 95 ∉ [a]) ∧ (([a] ∈ signsL) → clb a = 111 ∧ a.toNat ≠ 34) := all_bytes (by decide +kernel)
  obtain ⟨o1, o2, o3, o4⟩ := hone a
  rw [first_one]
  unfold firstS cloS
  rw [h0, h2, ht1, hd2, hd1]
  simp only [List.length_singleton] at hsp hsw hnm hc hf2 hf1
  by_cases c1 : clb a = 98
  · rw [if_pos c1, if_pos c1]
    simp only [Prod.mk.injEq, and_true, hsp, o1 c1, true_and]
    unfold Nxt
    constructor
    · rintro ⟨rfl, h2, _⟩; exact ⟨rfl, fun _ => h2, fun h => by omega, fun h => by omega, fun h => by omega⟩
    · rintro ⟨rfl, h2, _⟩; exact ⟨rfl, h2 rfl, h2 rfl⟩
  rw [if_neg c1, if_neg c1]
  by_cases c2 : [a, c] = [40, 42]
  · rw [if_pos c2]
    simp only [List.cons.injEq, and_true] at c2
    obtain ⟨rfl, rfl⟩ := c2
    constructor
    · intro h
      split at h
      · simp at h
      · simp at h; omega
    · rintro ⟨h, hn⟩
      have : k = 5 := by revert h; simp [show clb 40 = 111 by decide, show [40] ∈ signsL by decide]; omega
      exact absurd rfl (hn.2.2.2 this rfl).2.1
  rw [if_neg c2]
  by_cases c3 : [a, c] = [60, 42]
  · rw [if_pos c3]
    simp only [List.cons.injEq, and_true] at c3
    obtain ⟨rfl, rfl⟩ := c3
    constructor
    · intro h
      split at h
      · simp at h
      · simp at h; simp at hf2; omega
    · rintro ⟨h, hn⟩
      have : k = 5 := by revert h; simp [show clb 60 = 111 by decide, show [60] ∈ signsL by decide]; omega
      exact absurd rfl (hn.2.2.2 this rfl).2.2
  rw [if_neg c3]
  by_cases c4 : clb a = 97
  · rw [if_pos c4, if_pos c4]
    obtain ⟨q1, q2⟩ := o2 c4
    constructor
    · intro h
      have hs1 : spn 97 100 ([a] ++ c :: r) = 1 := by
        split at h
        · exact (tri.1 h).2.1
        · split at h
          · simp at h
          · exact (tri.1 h).2.1
      have hn := (hsw.1 hs1).2
      rw [hs1, ht1, if_neg q2, if_neg (by omega)] at h
      have hk : 1 = k := (tri.1 h).1
      subst hk
      exact ⟨rfl, fun h => by omega, fun _ => hn, fun h => by omega, fun h => by omega⟩
    · rintro ⟨h, hn⟩
      have hk : 1 = k := (tri.1 h).1
      subst hk
      have hs1 : spn 97 100 ([a] ++ c :: r) = 1 := hsw.2 ⟨q1, hn.2.1 (.inl rfl)⟩
      rw [hs1, ht1, if_neg q2, if_neg (by omega)]
  rw [if_neg c4, if_neg c4]
  by_cases c5 : clb a = 100
  · rw [if_pos c5, if_pos c5]
    obtain ⟨q1, q2, q3⟩ := o3 c5
    constructor
    · intro h
      simp only [Prod.mk.injEq] at h
      obtain ⟨rfl, hs1, h3⟩ := h
      have hn := (hnm.1 hs1).2
      exact ⟨rfl, fun h => by omega, fun h => by omega, fun _ => hn, fun h => by omega⟩
    · rintro ⟨h, hn⟩
      have hk : 3 = k := (tri.1 h).1
      subst hk
      have hs1 : numLen ([a] ++ c :: r) = 1 := hnm.2 ⟨q1, hn.2.2.1 rfl⟩
      rw [hs1, ht1, if_neg q2]
  rw [if_neg c5, if_neg c5]
  by_cases c6 : (a.toNat : Int) = 34
  · rw [if_pos c6, if_pos (c := a.toNat = 34) (by omega)]
    constructor
    · intro h
      split at h
      · simp at h
      · rename_i h6; simp at h hf1; simp only [not_or] at h6; omega
    · rintro ⟨h, _⟩; simp at h
  rw [if_neg c6, if_neg (c := a.toNat = 34) (by omega)]
  by_cases c7 : [a, c] ∈ signsL
  · rw [if_pos c7]
    constructor
    · intro h; simp at h
    · rintro ⟨h, hn⟩
      have : k = 5 := by
        split at h
        · simp at h; omega
        · simp at h
      exact absurd c7 (hn.2.2.2 this rfl).1
  rw [if_neg c7]
  constructor
  · intro h
    refine ⟨h, ?_⟩
    have : k = 5 := by
      split at h
      · simp at h; omega
      · simp at h
    exact ⟨fun h => by omega, fun h => by omega, fun h => by omega, fun _ _ => ⟨c7, c2, c3⟩⟩
  · exact fun h => h.1

theorem first_app (p : List UInt8) (hp : p ≠ []) (k : Int) (c : UInt8) (r : List UInt8) : firstS (p ++ c :: r) = (k, p.length, 0) ↔ firstS p = (k, p.length, 0) ∧ Nxt k p c := by
  match p, hp with
  | [a], _ => exact first_app_one a k c r
  | a :: b :: p', _ => exact first_app_two a b p' k c r

/-- A piece with this byte, if any, behind it. -/
structure Fol (x : Int × List UInt8) (h : Option UInt8) : Prop where
  ne : x.2 ≠ []
  own : firstS x.2 = (x.1, x.2.length, 0)
  nx : ∀ c, h = some c → Nxt x.1 x.2 c
theorem fol_iff (x : Int × List UInt8) (r : List UInt8) : Fol x r.head? ↔ x.2 ≠ [] ∧ firstS (x.2 ++ r) = (x.1, x.2.length, 0) := by
  cases r with
  | nil =>
    rw [List.append_nil]
    exact ⟨fun h => ⟨h.ne, h.own⟩, fun h => ⟨h.1, h.2, fun c e => by cases e⟩⟩
  | cons c r =>
    constructor
    · intro h; exact ⟨h.ne, (first_app _ h.ne _ _ _).2 ⟨h.own, h.nx c rfl⟩⟩
    · rintro ⟨h1, h2⟩
      obtain ⟨h3, h4⟩ := (first_app _ h1 _ _ _).1 h2
      exact ⟨h1, h3, fun d e => by cases e; exact h4⟩
theorem Fol.none {x : Int × List UInt8} {h : Option UInt8} (f : Fol x h) : Fol x none := ⟨f.ne, f.own, fun c e => by cases e⟩

def Chain : List (Int × List UInt8) → Prop
  | [] => True
  | x :: r => Fol x (joinS r).head? ∧ Chain r
theorem joinS_cons (x : Int × List UInt8) (r : List (Int × List UInt8)) : joinS (x :: r) = x.2 ++ joinS r := by unfold joinS; rw [List.flatMap_cons]
theorem joinS_nil : joinS [] = [] := rfl
theorem chain_pieS : ∀ (ps : List (Int × List UInt8)), Chain ps → pieS (joinS ps) = (ps, none)
  | [], _ => pieS_nil _ rfl
  | x :: r, h => by
    obtain ⟨h1, h2⟩ := (fol_iff x (joinS r)).1 h.1
    rw [joinS_cons]
    have h0 : 0 < (x.2 ++ joinS r).length := by have := List.length_pos_iff.2 h1; simp; omega
    rw [pieS_one _ h0 (by rw [h2]), h2]
    simp only [List.take_left, List.drop_left, chain_pieS r h.2]
theorem pieS_chain : ∀ (n : Nat) (s : List UInt8), s.length ≤ n → (pieS s).2 = none → joinS (pieS s).1 = s ∧ Chain (pieS s).1
  | n, s, hn, h => by
    by_cases h0 : s.length = 0
    · rw [pieS_nil s h0]; exact ⟨(List.length_eq_zero_iff.1 h0).symm, trivial⟩
    · by_cases h1 : (firstS s).2.2 = 0
      · obtain ⟨l1, l2⟩ := firstS_len s (by omega) h1
        rw [pieS_one s (by omega) h1] at h ⊢
        cases n with
        | zero => omega
        | succ n =>
          obtain ⟨i1, i2⟩ := pieS_chain n (s.drop (firstS s).2.1) (by rw [List.length_drop]; omega) h
          refine ⟨by rw [joinS_cons, i1]; exact List.take_append_drop _ _, ?_, i2⟩
          rw [i1, fol_iff]
          have hl : (s.take (firstS s).2.1).length = (firstS s).2.1 := by rw [List.length_take]; omega
          refine ⟨fun e => ?_, ?_⟩
          · simp only at e; rw [e] at hl; simp at hl; omega
          · simp only [List.take_append_drop, hl]
            rw [← h1]
      · rw [pieS_bad s (by omega) h1] at h; cases h
theorem Chain.pieR {ps : List (Int × List UInt8)} {s : List UInt8} (h : Chain ps) (hj : joinS ps = s) (hl : s.length ≤ 20000) : pieR s = (ps, 0, 0) := by
  subst hj
  have := chain_pieS ps h
  unfold Go.Sl.pieR; rw [if_neg (by omega), this]
theorem pieR_chain (s : List UInt8) (h : (pieR s).2.1 = 0) : s.length ≤ 20000 ∧ joinS (pieR s).1 = s ∧ Chain (pieR s).1 ∧ pieR s = ((pieR s).1, 0, 0) := by
  by_cases hl : 20000 < s.length
  · rw [pieR, if_pos hl] at h; simp at h
  · cases hp : (pieS s).2 with
    | none =>
      have e : pieR s = ((pieS s).1, 0, 0) := by rw [pieR, if_neg hl, hp]
      rw [e]
      obtain ⟨h1, h2⟩ := pieS_chain _ s (Nat.le_refl _) hp
      exact ⟨by omega, h1, h2, rfl⟩
    | some em =>
      obtain ⟨er, m⟩ := em
      have e : pieR s = ([], er, 1 + (fds (s.take (s.length - m)) : Int)) := by rw [pieR, if_neg hl, hp]
      rw [e] at h
      exact absurd h (pieS_er _ s er m (Nat.le_refl _) hp)
theorem pieR_bad (s : List UInt8) (h : (pieR s).2.1 ≠ 0) : (pieR s).1 = [] := by
  by_cases hl : 20000 < s.length
  · rw [pieR, if_pos hl]
  · rw [pieR, if_neg hl] at h ⊢
    cases hp : (pieS s).2 with
    | none => rw [hp] at h; simp at h
    | some em => rfl
end Go.Sl
namespace Go.Sl
open Go Go.Proofs
set_option maxRecDepth 100000
set_option maxHeartbeats 2000000
set_option linter.unusedSimpArgs false
set_option linter.unusedVariables false
attribute [local irreducible] Calls

theorem GloS.cons {F : List Ent} (h : GloS F) (e : Ent) : GloS (e :: F) := ⟨h.g.cons e, let ⟨q, el, fz, m⟩ := h.ml; ⟨q, el, fz, .tail _ m⟩⟩
theorem GloS.app {F : List Ent} (h : GloS F) (A : List Ent) : GloS (A ++ F) := ⟨h.g.app A, let ⟨q, el, fz, m⟩ := h.ml; ⟨q, el, fz, List.mem_append_right _ m⟩⟩
theorem joinS_ge : ∀ ps : List (Int × List UInt8), (∀ x ∈ ps, 0 < x.2.length) → ps.length ≤ (joinS ps).length
  | [], _ => Nat.zero_le _
  | x :: r, h => by
    have h1 := h x (.head _)
    have h2 := joinS_ge r fun y hy => h y (.tail _ hy)
    have h3 : joinS (x :: r) = x.2 ++ joinS r := by unfold joinS; rw [List.flatMap_cons]
    rw [h3, List.length_append, List.length_cons]; omega
/-- A variable that holds a row of what was gathered, and the row. -/
def GRow {α : Type} (f : α → List Value) (sz : Nat) (st el : TypeId) (b4 : Nat) (ts : List α) (Hd : List Ent) : Prop :=
  ∃ (b : Option Nat) (cap : Nat) (rst : List Value), Hd = ⟨b4, true, .cells #[.slice (b.map fun b => ⟨b, 0, none⟩) ts.length cap] st (0, 0)⟩ :: rowE b (rowV f ts) rst el ∧ (b = none → cap = 0 ∧ ts = []) ∧ (rowV f ts).length + rst.length = cap * sz
def Ne (ps : List (Int × List UInt8)) : Prop := ∀ x ∈ ps, 0 < x.2.length
theorem Ne.snoc {ps : List (Int × List UInt8)} {b : Int × List UInt8} (h : Ne ps) (hb : 0 < b.2.length) : Ne (ps ++ [b]) := fun x hx => by
  rcases List.mem_append.1 hx with hx | hx
  · exact h x hx
  · rw [List.mem_singleton.1 hx]; exact hb
def GPie (b4 : Nat) (ps : List (Int × List UInt8)) (Hd : List Ent) : Prop := Ne ps ∧ GRow bitV 2 28 34 b4 ps Hd

theorem pie1_ok (s : List UInt8) (hl : s.length < 4000000000) (b4 : Nat) : DoOk (GPie b4) s 55 #[.pointer (some ⟨b4, 0, none⟩)] := by
  refine ⟨en55, ?_⟩
  rintro ps b at_ bs Hd ⟨hne, b0, cap, rst, rfl, hb, hc⟩ hj hj2 hlen hpos hk8
  have hn := joinS_ge ps hne
  rw [hj, List.length_take] at hn
  intro S w0 F w hi
  simp only [List.cons_append] at hi
  refine calls_of_WFS Tryz.func55 rfl rfl (hi) ?_
  repeat' (first | (refine pf_keep rfl ?_) | (refine pf_drop rfl ?_) | (refine pf_nil ?_) | (refine w_seq ?_) | (refine w_end Tryz.func55 rfl (fun w_ hi_ => ?_)) | ((refine w_regI 0 ?_; try ((refine wo_box rfl rfl rfl rfl (fun b_ hb_ => ?_)) <;> try ((refine wo_nilP [0, 1, 2, 3, 6] ?_))))) | ((refine w_regI 1 ?_; try ((refine wo_v (ov_load Tryz.underlying28 rfl rfl (by repeat (first | exact .head _ | refine .tail _ ?_ | refine List.mem_append_right _ ?_ | assumption)) (by first | rfl | assumption | simp)) rfl rfl rfl ?_) <;> try ((refine wo_v (ov_loadW Tryz.underlying34 rfl inf34 rfl (by repeat (first | exact .head _ | refine .tail _ ?_ | refine List.mem_append_right _ ?_ | assumption)) (by first | rfl | simp)) rfl rfl rfl ?_) <;> try ((refine wo_bsA2 Tryz.underlying28 inf34 rfl rfl rfl rfl rfl (fun bb_ hb_ => ?_)) <;> try ((refine wo_append (sz := 2) (base := b0) (xs := rowV bitV ps) (rst := rst) rfl rfl Tryz.underlying28 Tryz.underlying28 rfl inf34 rfl (by decide) rfl rfl (rowV_len bitV bitV_len ps) hc (rowAt_rowE (A := [_, _, _]) (fun e => (hb e).1)) (.head _) (new := bitV b) rfl (by simp) (List.all_eq_true.1 rfl) (by show (2 * (ps.length + 1) + 192) * 24 ≤ _; omega) (by omega) (by omega) rfl rfl (fun b2_ cap_ rst_ hc_ hn_ => ?_)) <;> try ((refine wo_storeB rfl rfl rfl sz28 (by repeat (first | exact .head _ | apply Upd.tail | apply Upd.app)) rfl rfl ?_) <;> try ((refine wo_nilP [0, 1, 2, 3, 6] ?_))))))))))
  rw [← rowV_snoc] at hi_ hc_
  rw [show ps.length + 1 = (ps ++ [b]).length by simp] at hi_
  exact ⟨_, ⟨_, rfl, rfl, hne.snoc hpos, some b2_, cap_, rst_, rfl, (fun e => nomatch e), hc_⟩, hi_.pick (F := F) (by repeat (first | exact Take.nil _ | apply Take.cons | exact Del1.head _ | apply Del1.tail | apply Del1.app)) (by repeat (first | exact List.Sublist.refl _ | apply List.Sublist.cons))⟩

theorem piecesP_c (s : List UInt8) (hl : s.length < 4000000000) :
    SLE GloS Tryz.prog 18 [str s] [] fun e post => ∃ r, e = .returned (.tuple #[r, refV (pieR s).2.1 (pieR s).2.2]) ∧ RowOf bitV 2 34 (pieR s).1 r post := by
  intro S w0 F w hE hi
  simp only [List.nil_append] at hi
  refine calls_of_WFS Tryz.func18 rfl rfl (hi) ?_
  repeat' (first | (refine pf_keep rfl ?_) | (refine pf_drop rfl ?_) | (refine pf_nil ?_) | (refine w_seq ?_) | (refine w_condN rfl (fun h => ?_) (fun h => ?_)) | (refine w_skip ?_) | (refine w_retM Tryz.func18 (.tmp rfl (.cellA rfl Tryz.underlying30 rfl inf30 (by repeat (first | exact .head _ | refine .tail _ ?_ | refine List.mem_append_right _ ?_)) rfl (.nil))) (fun w_ hi_ => ?_)) | ((refine w_regI 0 ?_; try ((refine wo_v (ov_assign rfl) rfl rfl rfl ?_) <;> try ((refine wo_alloc inf30 rfl rfl rfl rfl (fun b_ hb_ => ?_)) <;> try ((refine wo_nilP [0, 2, 3, 4, 5, 11] ?_)))))) | ((refine w_regI 1 ?_; try ((refine wo_alloc inf28 rfl rfl rfl rfl (fun b4 hb4 => ?_)) <;> try ((refine wo_nilP [0, 2, 3, 4, 5, 11] ?_))))) | ((refine w_regI 2 ?_; try ((refine wo_v (ov_move rfl) rfl rfl rfl ?_) <;> try ((refine wo_v (ov_makeFunc rfl rfl) rfl rfl rfl ?_) <;> try ((refine wo_callE (pre := [⟨b4, true, .cells #[.slice none 0 0] 28 (0, 0)⟩]) (by repeat (first | exact Take.nil _ | apply Take.cons | exact Del1.head _ | apply Del1.tail | apply Del1.app)) (hE.cons _) rfl en54 rfl rfl (scanned_c (GPie b4) s 55 _ (pie1_ok s hl b4) hl _ ⟨(fun x hx => nomatch hx), none, 0, [], rfl, fun _ => ⟨rfl, rfl⟩, rfl⟩) ?_; rintro e post ⟨rfl, ps, ⟨_, b0, cap, rst, rfl, hb, hc⟩, hps⟩; dsimp only) <;> try ((refine wo_alloc inf30 rfl rfl rfl rfl (fun b_ hb_ => ?_)) <;> try ((refine wo_storeC rfl rfl rfl sz30 (by repeat (first | exact .head _ | apply Upd.tail | apply Upd.app)) (by first | rfl | simp) rfl rfl ?_) <;> try ((refine wo_nilP [0, 2, 3, 4, 5, 11] ?_))))))))) | ((refine w_regI 3 ?_; try ((refine wo_v (ov_fieldAddr fo30_0 rfl) rfl rfl rfl ?_) <;> try ((refine wo_v (ov_load Tryz.underlying23 rfl rfl (by repeat (first | exact .head _ | refine .tail _ ?_ | refine List.mem_append_right _ ?_ | assumption)) (by first | rfl | assumption | simp)) rfl rfl rfl ?_) <;> try ((refine wo_v (ov_neq3 rfl rfl (by first | exact not_dec_true (by omega) | exact not_dec_false (by omega) | exact rfl)) rfl rfl rfl ?_) <;> try ((refine wo_nilP [0, 2, 3, 4, 5, 11] ?_))))))) | ((refine w_regT (id := 4) 2 rfl mixed (by kernel_rfl) ?_; try ((refine wt_v (ov_loadW Tryz.underlying30 rfl inf30 rfl (by repeat (first | exact .head _ | refine .tail _ ?_ | refine List.mem_append_right _ ?_ | assumption)) (by first | rfl | simp)) rfl rfl ?_) <;> try ((refine wt_v (ov_assign rfl) rfl rfl ?_) <;> try ((refine wt_nil ?_; try ((refine wo_storeC rfl rfl rfl sz30 (by repeat (first | exact .head _ | apply Upd.tail | apply Upd.app)) (by first | rfl | simp) rfl rfl ?_) <;> try ((refine wo_nilP [0, 2, 3, 4, 5, 11] ?_))))))))) | ((refine w_regI 5 ?_; try ((refine wo_v (ov_load Tryz.underlying28 rfl rfl (by repeat (first | exact .head _ | refine .tail _ ?_ | refine List.mem_append_right _ ?_ | assumption)) (by first | rfl | assumption | simp)) rfl rfl rfl ?_) <;> try ((refine wo_v (ov_bldZ pl30 inf30 rfl) rfl rfl rfl ?_) <;> try ((refine wo_v (ov_assign rfl) rfl rfl rfl ?_) <;> try ((refine wo_storeC rfl rfl rfl sz30 (by repeat (first | exact .head _ | apply Upd.tail | apply Upd.app)) (by first | rfl | simp) rfl rfl ?_) <;> try ((refine wo_nilP [0, 2, 3, 4, 5, 11] ?_)))))))))
  · refine ⟨[], ⟨.slice none 0 0, rfl, ⟨none, 0, [], ?_, rfl, fun _ => ⟨rfl, ?_⟩, ?_⟩⟩, hi_.pick (ps := []) (F := F) (Take.nil _) (by repeat (first | exact List.Sublist.refl _ | apply List.Sublist.cons | apply List.sublist_append_of_sublist_right))⟩
    all_goals rw [pieR_bad s ‹_›]; first | rfl | skip
  · obtain ⟨_, _, _, h4⟩ := pieR_chain s ‹_›
    obtain rfl := hps ‹_›
    rw [h4]
    exact ⟨rowE b0 (rowV bitV (pieR s).1) rst 34, ⟨_, rfl, b0, cap, rst, rfl, rfl, hb, hc⟩, hi_.pick (F := F) (by repeat (first | exact Take.mid _ _ | apply Take.tail)) (by repeat (first | exact List.Sublist.refl _ | apply List.Sublist.cons | apply List.sublist_append_of_sublist_right))⟩
end Go.Sl
namespace Go.Sl
open Go Go.Proofs
set_option maxRecDepth 100000
set_option maxHeartbeats 2000000
set_option linter.unusedSimpArgs false
set_option linter.unusedVariables false
attribute [local irreducible] Calls

def blankT (x : Int × List UInt8) : List UInt8 := if 6 < x.1 then x.2.map (fun c => if c = 10 then c else 32) else x.2
def bareS (ps : List (Int × List UInt8)) : List UInt8 := ps.flatMap blankT
theorem blankT_len (x : Int × List UInt8) : (blankT x).length = x.2.length := by unfold blankT; split <;> simp
theorem byv_len (l : List UInt8) : (byv l).length = l.length := by simp [byv]
theorem byv_app (l m : List UInt8) : byv (l ++ m) = byv l ++ byv m := by simp [byv]
theorem bareS_len (ps : List (Int × List UInt8)) (n : Nat) (h : ∀ x ∈ ps, x.2.length ≤ n) : (bareS ps).length ≤ ps.length * n := by
  induction ps with
  | nil => simp [bareS]
  | cons x r ih =>
    have h1 := h x (.head _)
    have h2 := ih fun y hy => h y (.tail _ hy)
    simp only [bareS, List.flatMap_cons, List.length_append, List.length_cons, Nat.succ_mul, blankT_len] at h2 ⊢
    omega
/-- The byte that stands for a piece's byte. -/
def blankB (k c : Int) : Int := if 6 < k ∧ c ≠ 10 then 32 else c
theorem blank_at (k : Int) (l : List UInt8) (j : Nat) (hj : j < l.length) : byv ((blankT (k, l)).take (j + 1)) = byv ((blankT (k, l)).take j) ++ [.int .u8 (blankB k (bt l j))] := by
  have hj' : j < (blankT (k, l)).length := by rw [blankT_len]; exact hj
  rw [List.take_succ_eq_append_getElem hj', byv_app]
  congr 1
  simp only [byv, List.map_cons, List.map_nil, bt_at l j hj, blankB]
  congr 2
  by_cases h : 6 < k
  · simp only [blankT, h, if_true, List.getElem_map, true_and]
    by_cases e : l[j] = 10
    · simp [e]
    · rw [if_neg e, if_pos]; · rfl
      intro e2; exact e (UInt8.toNat_inj.1 (by exact_mod_cast e2))
  · simp only [blankT, h, if_false, false_and]

theorem bare_c (s : List UInt8) (hl : s.length < 4611686018427387904) (w : World) : Calls Tryz.prog 24 #[str s] w fun e w' => e = .returned (.tuple #[str (bareS (pieR s).1), refV (pieR s).2.1 (pieR s).2.2]) ∧ Fr none_ w w' := by
  obtain ⟨hp1, hp2⟩ := pieR_bd s
  refine calls_of_WF Tryz.func24 rfl rfl (Inv.start none_ w) ?_
  repeat' (first | (refine pf_keep rfl ?_) | (refine pf_drop rfl ?_) | (refine pf_nil ?_) | (refine w_seq ?_) | (refine w_block ?_) | ((refine w_regI 0 ?_; try ((refine wo_v (ov_assign rfl) rfl rfl rfl ?_) <;> try ((refine wo_alloc inf30 rfl rfl rfl rfl (fun b_ hb_ => ?_)) <;> try ((refine wo_nilP [0, 2, 3, 4, 5, 6, 7, 8, 9, 16, 17, 18, 27, 46] ?_)))))) | ((refine w_regI 1 ?_; try ((refine wo_v (ov_move rfl) rfl rfl rfl ?_) <;> try ((refine wo_call0 rfl en20 rfl rfl (fun w _ => pieces_c s hl w) ?_; rintro v Hn ⟨r, rfl, ⟨⟨b, cap, rst, rfl, rfl, hb, hc⟩⟩⟩) <;> try ((refine wo_v (ov_move rfl) rfl rfl rfl ?_) <;> try ((refine wo_v (ov_extract rfl rfl) rfl rfl rfl ?_) <;> try ((refine wo_v (ov_extract rfl rfl) rfl rfl rfl ?_) <;> try ((refine wo_alloc inf30 rfl rfl rfl rfl (fun b_ hb_ => ?_)) <;> try ((refine wo_v (ov_assign rfl) rfl rfl rfl ?_) <;> try ((refine wo_storeC rfl rfl rfl sz30 (by repeat (first | exact .head _ | apply Upd.tail | apply Upd.app)) (by first | rfl | simp) rfl rfl ?_) <;> try ((refine wo_nilP [0, 2, 3, 4, 5, 6, 7, 8, 9, 16, 17, 18, 27, 46] ?_)))))))))))) | ((refine w_regI 2 ?_; try ((refine wo_v (ov_assign rfl) rfl rfl rfl ?_) <;> try ((refine wo_nilP [0, 2, 3, 4, 5, 6, 7, 8, 9, 16, 17, 18, 27, 46] ?_))))) | ((refine w_regI 3 ?_; try ((refine wo_v (ov_move rfl) rfl rfl rfl ?_) <;> try ((refine wo_v (ov_lenL rfl Tryz.underlying28 rfl) rfl rfl rfl ?_) <;> try ((refine wo_v (ov_move rfl) rfl rfl rfl ?_) <;> try ((refine wo_nilP [0, 2, 3, 4, 5, 6, 7, 8, 9, 16, 17, 18, 27, 46] ?_))))))))
  generalize (pieR s).1 = ps at *
  generalize (pieR s).2.1 = ec at *
  generalize (pieR s).2.2 = el at *
  rename_i b0 hb0
  refine w_weak (E' := (fun q : Nat × Option Nat × Nat × Nat × List Value × List Value => [(3, .pointer (some ⟨b0, 0, none⟩)), (4, .slice (b.map fun b => ⟨b, 0, none⟩) ps.length cap), (5, .pointer (some ⟨b_, 0, none⟩)), (6, .slice (q.2.1.map fun b => ⟨b, 0, none⟩) q.2.2.1 q.2.2.2.1), (16, .int .i64 (ps.length : Int)), (17, .int .i64 (q.1 : Int))]) ((0 : Nat), none, 0, 0, [], [])) (by repeat (first | exact sub_nil _ | refine sub_cons rfl ?_)) ?_
  refine w_while (fun q => q.1 ≤ ps.length ∧ (q.2.1 = none → q.2.2.2.1 = 0 ∧ q.2.2.2.2.1 = []) ∧ q.2.2.2.2.1 = byv (bareS (ps.take q.1)) ∧ q.2.2.2.2.1.length = q.2.2.1 * 1 ∧ q.2.2.2.2.1.length + q.2.2.2.2.2.length = q.2.2.2.1 * 1) (fun q => ps.length - q.1) (fun q : Nat × Option Nat × Nat × Nat × List Value × List Value => [(3, .pointer (some ⟨b0, 0, none⟩)), (4, .slice (b.map fun b => ⟨b, 0, none⟩) ps.length cap), (5, .pointer (some ⟨b_, 0, none⟩)), (6, .slice (q.2.1.map fun b => ⟨b, 0, none⟩) q.2.2.1 q.2.2.2.1), (16, .int .i64 (ps.length : Int)), (17, .int .i64 (q.1 : Int))]) (fun q : Nat × Option Nat × Nat × Nat × List Value × List Value => rowE q.2.1 q.2.2.2.2.1 q.2.2.2.2.2 5 ++ (⟨b_, true, .cells #[.int .i64 ec, .int .i64 el] 30 (0, 0)⟩ :: (rowE b (rowV bitV ps) rst 34 ++ [⟨b0, true, .cells #[.int .i64 0, .int .i64 0] 30 (0, 0)⟩]))) ?_ ((0 : Nat), none, 0, 0, [], []) ⟨by simp, fun _ => ⟨rfl, rfl⟩, rfl, rfl, rfl⟩
  rintro ⟨i, b2, n, cap2, xs, rst2⟩ ⟨h1, h2, h3, h4, h5⟩ ih
  dsimp only at h1 h2 h3 h4 h5 ⊢
  by_cases hi : i < ps.length
  · obtain ⟨bb, rfl⟩ : ∃ bb, b = some bb := by
      cases b with
      | none => have := (hb rfl).2; subst this; simp at hi
      | some bb => exact ⟨bb, rfl⟩
    have hk0 : ((rowV bitV ps ++ rst).toArray)[0 + (i : Int).toNat * 2 + 0]? = some (.int .u8 ps[i].1) := row_at bitV (i := 0) bitV_len hi (by omega) (by simp)
    have hk1 : ((rowV bitV ps ++ rst).toArray)[0 + (i : Int).toNat * 2 + 1]? = some (str ps[i].2) := row_at bitV (i := 1) bitV_len hi (by omega) (by simp)
    have hk2 := hp2 ps[i] (List.getElem_mem hi)
    have hk3 : bareS (ps.take (i + 1)) = bareS (ps.take i) ++ blankT ps[i] := by
      rw [List.take_succ_eq_append_getElem hi]; unfold bareS; rw [List.flatMap_append, List.flatMap_singleton]
    have hk4 := blankT_len ps[i]
    have hk5 : blankT ps[i] = blankT (ps[i].1, ps[i].2) := rfl
    rw [hk5] at hk3 hk4
    generalize ps[i].1 = pk at *
    generalize ps[i].2 = pt at *
    have hj := bareS_len (ps.take i) 20000 (fun x hx => hp2 x (List.mem_of_mem_take hx))
    simp only [List.length_take] at hj
    have hj2 : min i ps.length * 20000 ≤ 20000 * 20000 := Nat.mul_le_mul_right _ (by omega)
    simp only [rowE_some, Option.map_some, List.cons_append, List.nil_append] at ih ⊢
    repeat' (first | (refine pf_keep rfl ?_) | (refine pf_drop rfl ?_) | (refine pf_nil ?_) | (refine w_seq ?_) | (refine w_condT rfl ?_) | (refine w_block ?_) | (refine w_skip ?_) | ((refine w_regI 4 ?_; try ((refine wo_v (ov_lss3 rfl rfl (by first | exact decide_eq_true (by omega) | exact decide_eq_false (by omega) | exact rfl)) rfl rfl rfl ?_) <;> try ((refine wo_nilP [0, 2, 3, 4, 5, 6, 7, 8, 9, 16, 17, 18, 27, 46] ?_))))) | ((refine w_regI 5 ?_; try ((refine wo_v (ov_move rfl) rfl rfl rfl ?_) <;> try ((refine wo_v (ov_assign rfl) rfl rfl rfl ?_) <;> try ((refine wo_nilP [0, 2, 3, 4, 5, 6, 7, 8, 9, 16, 17, 18, 27, 46] ?_)))))) | ((refine w_regI 6 ?_; try ((refine wo_v (ov_assign rfl) rfl rfl rfl ?_) <;> try ((refine wo_nilP [0, 2, 3, 4, 5, 6, 7, 8, 9, 16, 17, 18, 27, 46] ?_))))))
    subst h3
    refine w_weak (E' := (fun q : Nat × Option Nat × Nat × Nat × List Value × List Value => [(3, .pointer (some ⟨b0, 0, none⟩)), (4, .slice (some ⟨bb, 0, none⟩) ps.length cap), (5, .pointer (some ⟨b_, 0, none⟩)), (6, .slice (q.2.1.map fun b => ⟨b, 0, none⟩) q.2.2.1 q.2.2.2.1), (7, .int .i64 (i : Int)), (8, .int .i64 (q.1 : Int)), (16, .int .i64 (ps.length : Int)), (17, .int .i64 (i : Int))]) ((0 : Nat), b2, n, cap2, byv (bareS (ps.take i)), rst2)) (by repeat (first | exact sub_nil _ | refine sub_cons rfl ?_)) ?_
    refine w_while (fun q => q.1 ≤ pt.length ∧ (q.2.1 = none → q.2.2.2.1 = 0 ∧ q.2.2.2.2.1 = []) ∧ q.2.2.2.2.1 = byv (bareS (ps.take i) ++ (blankT (pk, pt)).take q.1) ∧ q.2.2.2.2.1.length = q.2.2.1 * 1 ∧ q.2.2.2.2.1.length + q.2.2.2.2.2.length = q.2.2.2.1 * 1) (fun q => pt.length - q.1) (fun q : Nat × Option Nat × Nat × Nat × List Value × List Value => [(3, .pointer (some ⟨b0, 0, none⟩)), (4, .slice (some ⟨bb, 0, none⟩) ps.length cap), (5, .pointer (some ⟨b_, 0, none⟩)), (6, .slice (q.2.1.map fun b => ⟨b, 0, none⟩) q.2.2.1 q.2.2.2.1), (7, .int .i64 (i : Int)), (8, .int .i64 (q.1 : Int)), (16, .int .i64 (ps.length : Int)), (17, .int .i64 (i : Int))]) (fun q : Nat × Option Nat × Nat × Nat × List Value × List Value => rowE q.2.1 q.2.2.2.2.1 q.2.2.2.2.2 5 ++ (⟨b_, true, .cells #[.int .i64 ec, .int .i64 el] 30 (0, 0)⟩ :: ⟨bb, true, .cells (rowV bitV ps ++ rst).toArray 34 (0, 0)⟩ :: [⟨b0, true, .cells #[.int .i64 0, .int .i64 0] 30 (0, 0)⟩])) ?_ ((0 : Nat), b2, n, cap2, byv (bareS (ps.take i)), rst2) ⟨by simp, h2, by simp, h4, h5⟩
    rintro ⟨j, b3, n3, cap3, xs3, rst3⟩ ⟨g1, g2, g3, g4, g5⟩ ih2
    dsimp only at g1 g2 g3 g4 g5 ⊢
    have gl : n3 ≤ 20000 * 20000 + 20000 := by
      have : xs3.length ≤ 20000 * 20000 + 20000 := by
        rw [g3, byv_len, List.length_append, List.length_take]; omega
      omega
    by_cases hj3 : j < pt.length
    · have hb1 := blank_at pk pt j hj3
      repeat' (first | (refine pf_keep rfl ?_) | (refine pf_drop rfl ?_) | (refine pf_nil ?_) | (refine w_seq ?_) | (refine w_condT rfl ?_) | (refine w_condF rfl ?_) | (refine w_condN rfl (fun h => ?_) (fun h => ?_)) | (refine w_block ?_) | (refine w_inBlock ?_) | (refine w_skip ?_) | ((refine w_regI 7 ?_; try ((refine wo_v (ov_move rfl) rfl rfl rfl ?_) <;> try ((refine wo_v (ov_move rfl) rfl rfl rfl ?_) <;> try ((refine wo_v (ov_move rfl) rfl rfl rfl ?_) <;> try ((refine wo_v (ov_indexAddr Tryz.underlying28 sz34 rfl rfl (by omega) (by omega)) rfl rfl rfl ?_) <;> try ((refine wo_v (ov_fieldAddr fo34_1 rfl) rfl rfl rfl ?_) <;> try ((refine wo_v (ov_load Tryz.underlying9 rfl rfl (by repeat (first | exact .head _ | refine .tail _ ?_ | refine List.mem_append_right _ ?_)) (by first | rfl | assumption | simp)) rfl rfl rfl ?_) <;> try ((refine wo_v (ov_lenS rfl Tryz.underlying9 rfl) rfl rfl rfl ?_) <;> try ((refine wo_v (ov_lss3 rfl rfl (by first | exact decide_eq_true (by omega) | exact decide_eq_false (by omega) | exact rfl)) rfl rfl rfl ?_) <;> try ((refine wo_nilP [0, 2, 3, 4, 5, 6, 7, 8, 9, 16, 17, 18, 27, 46] ?_)))))))))))) | ((refine w_regI 9 ?_; try ((refine wo_v (ov_move rfl) rfl rfl rfl ?_) <;> try ((refine wo_v (ov_move rfl) rfl rfl rfl ?_) <;> try ((refine wo_v (ov_indexAddr Tryz.underlying28 sz34 rfl rfl (by omega) (by omega)) rfl rfl rfl ?_) <;> try ((refine wo_v (ov_fieldAddr fo34_1 rfl) rfl rfl rfl ?_) <;> try ((refine wo_v (ov_load Tryz.underlying9 rfl rfl (by repeat (first | exact .head _ | refine .tail _ ?_ | refine List.mem_append_right _ ?_)) (by first | rfl | assumption | simp)) rfl rfl rfl ?_) <;> try ((refine wo_v (ov_move rfl) rfl rfl rfl ?_) <;> try ((refine wo_v (ov_indexS Tryz.underlying9 rfl rfl (by omega) (by first | omega | (simp only [List.length_cons, List.length_nil]; omega))) rfl rfl rfl ?_) <;> try ((refine wo_v (ov_assign rfl) rfl rfl rfl ?_) <;> try ((refine wo_nilP [0, 2, 3, 4, 5, 6, 7, 8, 9, 16, 17, 18, 27, 46] ?_)))))))))))) | ((refine w_regI 10 ?_; try ((refine wo_v (ov_move rfl) rfl rfl rfl ?_) <;> try ((refine wo_v (ov_move rfl) rfl rfl rfl ?_) <;> try ((refine wo_v (ov_indexAddr Tryz.underlying28 sz34 rfl rfl (by omega) (by omega)) rfl rfl rfl ?_) <;> try ((refine wo_v (ov_fieldAddr fo34_0 rfl) rfl rfl rfl ?_) <;> try ((refine wo_v (ov_load Tryz.underlying5 rfl rfl (by repeat (first | exact .head _ | refine .tail _ ?_ | refine List.mem_append_right _ ?_)) (by first | rfl | assumption | simp)) rfl rfl rfl ?_) <;> try ((refine wo_v (ov_gtr3 rfl rfl (by first | exact decide_eq_true (by omega) | exact decide_eq_false (by omega) | exact rfl)) rfl rfl rfl ?_) <;> try ((refine wo_v (ov_move rfl) rfl rfl rfl ?_) <;> try (((refine wo_gs rfl rfl (fun h => ?_) (fun h => ?_)) <;> (first | (refine wo_skip rfl rfl ?_) | ((refine wo_v (ov_move rfl) rfl rfl rfl ?_)))) <;> try ((first | (refine wo_skip rfl rfl ?_) | ((refine wo_v (ov_neq3 rfl rfl (by first | exact not_dec_true (by omega) | exact not_dec_false (by omega) | exact rfl)) rfl rfl rfl ?_))) <;> try ((first | (refine wo_v (ov_pickT rfl rfl) rfl rfl rfl ?_) | (refine wo_v (ov_pickF rfl rfl) rfl rfl rfl ?_)) <;> try ((refine wo_nilP [0, 2, 3, 4, 5, 6, 7, 8, 9, 16, 17, 18, 27, 46] ?_)))))))))))))) | ((refine w_regI 11 ?_; try ((refine wo_v (ov_assign rfl) rfl rfl rfl ?_) <;> try ((refine wo_nilP [0, 2, 3, 4, 5, 6, 7, 8, 9, 16, 17, 18, 27, 46] ?_))))) | ((refine w_regI 12 ?_; try ((refine wo_v (ov_move rfl) rfl rfl rfl ?_) <;> try ((refine wo_v (ov_move rfl) rfl rfl rfl ?_) <;> try ((refine wo_bs1 Tryz.underlying63 inf5 rfl rfl rfl rfl rfl rfl (fun bb_ hb_ => ?_)) <;> try ((first | (refine wo_append (sz := 1) (base := b3) (xs := xs3) (rst := rst3) rfl rfl Tryz.underlying63 Tryz.underlying63 rfl inf5 rfl (by decide) rfl rfl g4 g5 (rowAt1 (fun e => (g2 e).1)) (.head _) (new := [.int .u8 32]) rfl (by simp) (List.all_eq_true.1 rfl) (by show (2 * (n3 + 1) + 192) * 1 ≤ _; omega) (by omega) (by omega) rfl rfl (fun b2_ cap_ rst_ hc_ hn_ => ?_)) | (refine wo_append (sz := 1) (base := b3) (xs := xs3) (rst := rst3) rfl rfl Tryz.underlying63 Tryz.underlying63 rfl inf5 rfl (by decide) rfl rfl g4 g5 (rowAt1 (fun e => (g2 e).1)) (.head _) (new := [.int .u8 (bt pt j)]) rfl (by simp) (List.all_eq_true.1 rfl) (by show (2 * (n3 + 1) + 192) * 1 ≤ _; omega) (by omega) (by omega) rfl rfl (fun b2_ cap_ rst_ hc_ hn_ => ?_))) <;> try ((refine wo_v (ov_assign rfl) rfl rfl rfl ?_) <;> try ((refine wo_nilP [0, 2, 3, 4, 5, 6, 7, 8, 9, 16, 17, 18, 27, 46] ?_))))))))) | ((refine w_regI 8 ?_; try ((refine wo_v (ov_move rfl) rfl rfl rfl ?_) <;> try ((refine wo_v (ov_add_i64 rfl rfl (by omega) (by omega)) rfl rfl rfl ?_) <;> try ((refine wo_v (ov_assign rfl) rfl rfl rfl ?_) <;> try ((refine wo_nilP [0, 2, 3, 4, 5, 6, 7, 8, 9, 16, 17, 18, 27, 46] ?_))))))))
      · refine w_drop (.cons_cons _ (.cons _ (List.Sublist.refl _))) ?_
        refine w_weak (E' := (fun q : Nat × Option Nat × Nat × Nat × List Value × List Value => [(3, .pointer (some ⟨b0, 0, none⟩)), (4, .slice (some ⟨bb, 0, none⟩) ps.length cap), (5, .pointer (some ⟨b_, 0, none⟩)), (6, .slice (q.2.1.map fun b => ⟨b, 0, none⟩) q.2.2.1 q.2.2.2.1), (7, .int .i64 (i : Int)), (8, .int .i64 (q.1 : Int)), (16, .int .i64 (ps.length : Int)), (17, .int .i64 (i : Int))]) (j + 1, some b2_, n3 + 1, cap_, xs3 ++ [Value.int .u8 32], rst_)) (by repeat (first | exact sub_nil _ | refine sub_cons rfl ?_)) (ih2 (j + 1, some b2_, n3 + 1, cap_, xs3 ++ [Value.int .u8 32], rst_) ⟨hj3, fun e => by simp at e, by simp only; rw [byv_app, hb1, ← List.append_assoc, ← byv_app, ← g3, blankB, if_pos ⟨by assumption, by assumption⟩], by simp; omega, hc_⟩ (by simp only; omega))
      · refine w_drop (.cons_cons _ (.cons _ (List.Sublist.refl _))) ?_
        refine w_weak (E' := (fun q : Nat × Option Nat × Nat × Nat × List Value × List Value => [(3, .pointer (some ⟨b0, 0, none⟩)), (4, .slice (some ⟨bb, 0, none⟩) ps.length cap), (5, .pointer (some ⟨b_, 0, none⟩)), (6, .slice (q.2.1.map fun b => ⟨b, 0, none⟩) q.2.2.1 q.2.2.2.1), (7, .int .i64 (i : Int)), (8, .int .i64 (q.1 : Int)), (16, .int .i64 (ps.length : Int)), (17, .int .i64 (i : Int))]) (j + 1, some b2_, n3 + 1, cap_, xs3 ++ [Value.int .u8 (bt pt j)], rst_)) (by repeat (first | exact sub_nil _ | refine sub_cons rfl ?_)) (ih2 (j + 1, some b2_, n3 + 1, cap_, xs3 ++ [Value.int .u8 (bt pt j)], rst_) ⟨hj3, fun e => by simp at e, by simp only; rw [byv_app, hb1, ← List.append_assoc, ← byv_app, ← g3, blankB, if_neg (by rintro ⟨_, _⟩; contradiction)], by simp; omega, hc_⟩ (by simp only; omega))
      · refine w_drop (.cons_cons _ (.cons _ (List.Sublist.refl _))) ?_
        refine w_weak (E' := (fun q : Nat × Option Nat × Nat × Nat × List Value × List Value => [(3, .pointer (some ⟨b0, 0, none⟩)), (4, .slice (some ⟨bb, 0, none⟩) ps.length cap), (5, .pointer (some ⟨b_, 0, none⟩)), (6, .slice (q.2.1.map fun b => ⟨b, 0, none⟩) q.2.2.1 q.2.2.2.1), (7, .int .i64 (i : Int)), (8, .int .i64 (q.1 : Int)), (16, .int .i64 (ps.length : Int)), (17, .int .i64 (i : Int))]) (j + 1, some b2_, n3 + 1, cap_, xs3 ++ [Value.int .u8 (bt pt j)], rst_)) (by repeat (first | exact sub_nil _ | refine sub_cons rfl ?_)) (ih2 (j + 1, some b2_, n3 + 1, cap_, xs3 ++ [Value.int .u8 (bt pt j)], rst_) ⟨hj3, fun e => by simp at e, by simp only; rw [byv_app, hb1, ← List.append_assoc, ← byv_app, ← g3, blankB, if_neg (by rintro ⟨_, _⟩; contradiction)], by simp; omega, hc_⟩ (by simp only; omega))
    · repeat' (first | (refine pf_keep rfl ?_) | (refine pf_drop rfl ?_) | (refine pf_nil ?_) | (refine w_seq ?_) | (refine w_condF rfl ?_) | (refine w_inBlock ?_) | (refine w_exit rfl ?_) | ((refine w_regI 7 ?_; try ((refine wo_v (ov_move rfl) rfl rfl rfl ?_) <;> try ((refine wo_v (ov_move rfl) rfl rfl rfl ?_) <;> try ((refine wo_v (ov_move rfl) rfl rfl rfl ?_) <;> try ((refine wo_v (ov_indexAddr Tryz.underlying28 sz34 rfl rfl (by omega) (by omega)) rfl rfl rfl ?_) <;> try ((refine wo_v (ov_fieldAddr fo34_1 rfl) rfl rfl rfl ?_) <;> try ((refine wo_v (ov_load Tryz.underlying9 rfl rfl (by repeat (first | exact .head _ | refine .tail _ ?_ | refine List.mem_append_right _ ?_)) (by first | rfl | assumption | simp)) rfl rfl rfl ?_) <;> try ((refine wo_v (ov_lenS rfl Tryz.underlying9 rfl) rfl rfl rfl ?_) <;> try ((refine wo_v (ov_lss3 rfl rfl (by first | exact decide_eq_true (by omega) | exact decide_eq_false (by omega) | exact rfl)) rfl rfl rfl ?_) <;> try ((refine wo_nilP [0, 2, 3, 4, 5, 6, 7, 8, 9, 16, 17, 18, 27, 46] ?_)))))))))))) | ((refine w_regI 13 ?_; try ((refine wo_v (ov_add_i64 rfl rfl (by omega) (by omega)) rfl rfl rfl ?_) <;> try ((refine wo_v (ov_move rfl) rfl rfl rfl ?_) <;> try ((refine wo_nilP [0, 2, 3, 4, 5, 6, 7, 8, 9, 16, 17, 18, 27, 46] ?_)))))))
      refine w_weak (E' := (fun q : Nat × Option Nat × Nat × Nat × List Value × List Value => [(3, .pointer (some ⟨b0, 0, none⟩)), (4, .slice (some ⟨bb, 0, none⟩) ps.length cap), (5, .pointer (some ⟨b_, 0, none⟩)), (6, .slice (q.2.1.map fun b => ⟨b, 0, none⟩) q.2.2.1 q.2.2.2.1), (16, .int .i64 (ps.length : Int)), (17, .int .i64 (q.1 : Int))]) (i + 1, b3, n3, cap3, xs3, rst3)) (by repeat (first | exact sub_nil _ | refine sub_cons rfl ?_)) (ih (i + 1, b3, n3, cap3, xs3, rst3) ⟨hi, g2, by simp only; rw [g3, hk3, List.take_of_length_le (l := blankT (pk, pt)) (by omega)], g4, g5⟩ (by simp only; omega))
  · have hps : ps.take i = ps := List.take_of_length_le (by omega)
    rw [hps] at h3
    subst h3
    repeat' (first | (refine pf_keep rfl ?_) | (refine pf_drop rfl ?_) | (refine pf_nil ?_) | (refine w_seq ?_) | (refine w_condF rfl ?_) | (refine w_exit rfl ?_) | (refine w_retM Tryz.func24 (.tmp rfl (.cellA rfl Tryz.underlying30 rfl inf30 (by repeat (first | exact .head _ | refine .tail _ ?_ | refine List.mem_append_right _ ?_)) rfl (.nil))) (fun w_ hi_ => ?_)) | ((refine w_regI 4 ?_; try ((refine wo_v (ov_lss3 rfl rfl (by first | exact decide_eq_true (by omega) | exact decide_eq_false (by omega) | exact rfl)) rfl rfl rfl ?_) <;> try ((refine wo_nilP [0, 2, 3, 4, 5, 6, 7, 8, 9, 16, 17, 18, 27, 46] ?_))))) | ((refine w_regA (m := 5) 14 rfl mixed rfl ?_; try ((refine wa_take 0 rfl (fun _ => ov_move rfl) (by kernel_rfl) (by kernel_rfl) (by kernel_rfl) rfl rfl rfl rfl ?_) <;> try (refine wa_two 1 2 (by kernel_rfl) ?_ ?_ <;> (first | (show WI _ _ _ _ _ _ 1 _ _ _ _; try ((refine wi_v rfl (ov_ofRow (b := b2) (l := bareS ps) (rst := rst2) Tryz.underlying63 Tryz.underlying9 Tryz.underlying5 rfl (by rw [byv_len] at h4; omega) (fun e => by have := (h2 e).2; simpa [byv] using this) (fun e he => List.mem_append_left _ he)) rfl rfl rfl ?_) <;> try ((refine wa_take 3 rfl (fun _ => ov_assign rfl) (by kernel_rfl) (by kernel_rfl) (by kernel_rfl) rfl rfl rfl rfl ?_) <;> try (refine wa_one 2 (by kernel_rfl) ?_ <;> try ((refine wi_v rfl (ov_loadW Tryz.underlying30 rfl inf30 rfl (by repeat (first | exact .head _ | refine .tail _ ?_ | refine List.mem_append_right _ ?_)) (by first | rfl | simp)) rfl rfl rfl ?_) <;> try (refine wa_one 4 (by kernel_rfl) ?_ <;> try ((refine wi_storeC rfl rfl rfl rfl sz30 (by repeat (first | exact .head _ | apply Upd.tail | apply Upd.app)) (by first | rfl | simp) rfl rfl rfl ?_) <;> try ((refine wa_done [0, 2, 3, 4, 5, 6, 7, 8, 9, 16, 17, 18, 27, 46] (by kernel_rfl) ?_))))))))) | (show WI _ _ _ _ _ _ 2 _ _ _ _; try ((refine wi_v rfl (ov_loadW Tryz.underlying30 rfl inf30 rfl (by repeat (first | exact .head _ | refine .tail _ ?_ | refine List.mem_append_right _ ?_)) (by first | rfl | simp)) rfl rfl rfl ?_) <;> try (refine wa_one 1 (by kernel_rfl) ?_ <;> try ((refine wi_v rfl (ov_ofRow (b := b2) (l := bareS ps) (rst := rst2) Tryz.underlying63 Tryz.underlying9 Tryz.underlying5 rfl (by rw [byv_len] at h4; omega) (fun e => by have := (h2 e).2; simpa [byv] using this) (fun e he => List.mem_append_left _ he)) rfl rfl rfl ?_) <;> try ((refine wa_take 3 rfl (fun _ => ov_assign rfl) (by kernel_rfl) (by kernel_rfl) (by kernel_rfl) rfl rfl rfl rfl ?_) <;> try (refine wa_one 4 (by kernel_rfl) ?_ <;> try ((refine wi_storeC rfl rfl rfl rfl sz30 (by repeat (first | exact .head _ | apply Upd.tail | apply Upd.app)) (by first | rfl | simp) rfl rfl rfl ?_) <;> try ((refine wa_done [0, 2, 3, 4, 5, 6, 7, 8, 9, 16, 17, 18, 27, 46] (by kernel_rfl) ?_)))))))))))))))
    all_goals exact ⟨rfl, hi_.fr⟩
end Go.Sl
namespace Go.Sl
open Go Go.Proofs
set_option maxRecDepth 100000
set_option maxHeartbeats 2000000
set_option linter.unusedSimpArgs false
set_option linter.unusedVariables false
attribute [local irreducible] Calls

/-- How far two lists go alike. -/
def cpl {α : Type} [DecidableEq α] : List α → List α → Nat
  | a :: l, b :: m => if a = b then cpl l m + 1 else 0
  | _, _ => 0
theorem cpl_eq {α : Type} [DecidableEq α] : ∀ (l m : List α) (k : Nat), k ≤ l.length → k ≤ m.length → (∀ j (h1 : j < k) (h2 : j < l.length) (h3 : j < m.length), l[j] = m[j]) → (∀ (h2 : k < l.length) (h3 : k < m.length), l[k] ≠ m[k]) → cpl l m = k
  | [], m, k, h1, _, _, _ => by simp at h1; subst h1; rfl
  | a :: l, [], k, _, h2, _, _ => by simp at h2; subst h2; rfl
  | a :: l, b :: m, 0, _, _, _, h => by have := h (by simp) (by simp); simp at this; simp [cpl, this]
  | a :: l, b :: m, k + 1, h1, h2, h3, h4 => by
    have e := h3 0 (by omega) (by simp) (by simp)
    simp only [List.getElem_cons_zero] at e
    rw [cpl, if_pos e, cpl_eq l m k (by simpa using h1) (by simpa using h2) (fun j q1 q2 q3 => by have := h3 (j + 1) (by omega) (by simpa using q2) (by simpa using q3); simpa using this) (fun q2 q3 => by have := h4 (by simpa using q2) (by simpa using q3); simpa using this)]

theorem cpl_le {α : Type} [DecidableEq α] : ∀ (l m : List α), cpl l m ≤ l.length ∧ cpl l m ≤ m.length
  | a :: l, b :: m => by
    have := cpl_le l m
    rw [cpl]; split <;> simp <;> omega
  | [], m => by simp [cpl]
  | a :: l, [] => by simp [cpl]
theorem cpl_back {α : Type} [DecidableEq α] {ps qs : List α} {n k : Nat} (h1 : n + k ≤ ps.length) (h2 : n + k ≤ qs.length) (h3 : ∀ j (h1 : j < k) (h2 : ps.length - 1 - j < ps.length) (h3 : qs.length - 1 - j < qs.length), ps[ps.length - 1 - j] = qs[qs.length - 1 - j])
    (h4 : ∀ (g2 : n + k < ps.length) (g3 : n + k < qs.length), ps[ps.length - 1 - k] ≠ qs[qs.length - 1 - k]) : k = cpl (ps.drop n).reverse (qs.drop n).reverse := by
  have hg : ∀ (l : List α) (j : Nat) (hj : j < (l.drop n).reverse.length) (hj2 : l.length - 1 - j < l.length), (l.drop n).reverse[j] = l[l.length - 1 - j] := by
    intro l j hj hj2
    simp only [List.length_reverse, List.length_drop] at hj
    simp only [List.getElem_reverse, List.getElem_drop, List.length_drop]
    congr 1; omega
  refine (cpl_eq _ _ k (by simp; omega) (by simp; omega) (fun j q1 q2 q3 => ?_) (fun q2 q3 => ?_)).symm
  · simp only [List.length_reverse, List.length_drop] at q2 q3
    rw [hg ps j (by simpa using q2) (by omega), hg qs j (by simpa using q3) (by omega)]
    exact h3 j q1 (by omega) (by omega)
  · simp only [List.length_reverse, List.length_drop] at q2 q3
    rw [hg ps k (by simpa using q2) (by omega), hg qs k (by simpa using q3) (by omega)]
    exact h4 (by omega) (by omega)
def agS (ps qs : List (Int × List UInt8)) : Nat × Nat := (cpl ps qs, cpl (ps.drop (cpl ps qs)).reverse (qs.drop (cpl ps qs)).reverse)
def agT (s : List UInt8) (a b : Int) (m : List UInt8) : List UInt8 := s.take a.toNat ++ m ++ s.drop b.toNat
/-- Counts, and the refusal. -/
def agR (s : List UInt8) (a b : Int) (m : List UInt8) : (Nat × Nat) × Int × Int :=
  if a < 0 ∨ b < a ∨ (s.length : Int) < b then ((0, 0), 1, 0)
  else if (pieR s).2.1 ≠ 0 then ((0, 0), (pieR s).2)
  else if 20000 < m.length then ((0, 0), 2, 0)
  else if (pieR (agT s a b m)).2.1 ≠ 0 then ((0, 0), (pieR (agT s a b m)).2)
  else (agS (pieR s).1 (pieR (agT s a b m)).1, 0, 0)
def retA (p : (Nat × Nat) × Int × Int) : Value := .tuple #[.int .i64 (p.1.1 : Int), .int .i64 (p.1.2 : Int), refV p.2.1 p.2.2]

theorem again_c (s : List UInt8) (a b : Int) (m : List UInt8) (hl : s.length < 1000000000000) (hl2 : m.length < 1000000000000) (w : World) : Calls Tryz.prog 32 #[str s, .int .i64 a, .int .i64 b, str m] w fun e w' => e = .returned (retA (agR s a b m)) ∧ Fr none_ w w' := by
  obtain ⟨hp1, hp2⟩ := pieR_bd s
  have hTl : (agT s a b m).length < 4611686018427387904 := by unfold agT; simp only [List.length_append, List.length_take, List.length_drop]; omega
  obtain ⟨hq1, hq2⟩ := pieR_bd (agT s a b m)
  refine calls_of_WF Tryz.func32 rfl rfl (Inv.start none_ w) ?_
  repeat' (first | (refine pf_keep rfl ?_) | (refine pf_drop rfl ?_) | (refine pf_nil ?_) | (refine w_seq ?_) | (refine w_condT rfl ?_) | (refine w_condD rfl (fun h => ?_) (fun h => ?_)) | (refine w_condN rfl (fun h => ?_) (fun h => ?_)) | (refine w_block ?_) | (refine w_skip ?_) | (refine w_retM Tryz.func32 (.tmp rfl (.tmp rfl (.cellA rfl Tryz.underlying30 rfl inf30 (by repeat (first | exact .head _ | refine .tail _ ?_ | refine List.mem_append_right _ ?_)) rfl (.nil)))) (fun w_ hi_ => ?_)) | ((refine w_regI 0 ?_; try ((refine wo_v (ov_assign rfl) rfl rfl rfl ?_) <;> try ((refine wo_v (ov_assign rfl) rfl rfl rfl ?_) <;> try ((refine wo_alloc inf30 rfl rfl rfl rfl (fun b_ hb_ => ?_)) <;> try ((refine wo_nilP [0, 1, 2, 3, 8, 9, 10, 11, 12, 13, 14, 15, 28, 37, 41, 58, 80, 115] ?_))))))) | ((refine w_regI 1 ?_; try ((refine wo_v (ov_move rfl) rfl rfl rfl ?_) <;> try ((refine wo_v (ov_lss3 rfl rfl (by first | exact decide_eq_true (by omega) | exact decide_eq_false (by omega) | exact rfl)) rfl rfl rfl ?_) <;> try ((refine wo_v (ov_move rfl) rfl rfl rfl ?_) <;> try (((refine wo_gs rfl rfl (fun h => ?_) (fun h => ?_)) <;> (first | (refine wo_skip rfl rfl ?_) | ((refine wo_v (ov_move rfl) rfl rfl rfl ?_)))) <;> try ((first | (refine wo_skip rfl rfl ?_) | ((refine wo_v (ov_move rfl) rfl rfl rfl ?_))) <;> try ((first | (refine wo_skip rfl rfl ?_) | ((refine wo_v (ov_gtr3 rfl rfl (by first | exact decide_eq_true (by omega) | exact decide_eq_false (by omega) | exact rfl)) rfl rfl rfl ?_))) <;> try ((first | (refine wo_v (ov_pickT rfl rfl) rfl rfl rfl ?_) | (refine wo_v (ov_pickF rfl rfl) rfl rfl rfl ?_)) <;> try ((refine wo_v (ov_move rfl) rfl rfl rfl ?_) <;> try ((first | (refine wo_skip rfl rfl ?_) | ((refine wo_gs rfl rfl (fun h => ?_) (fun h => ?_)) <;> (first | (refine wo_skip rfl rfl ?_) | ((refine wo_v (ov_move rfl) rfl rfl rfl ?_))))) <;> try ((first | (refine wo_skip rfl rfl ?_) | ((refine wo_v (ov_move rfl) rfl rfl rfl ?_))) <;> try ((first | (refine wo_skip rfl rfl ?_) | ((refine wo_v (ov_lenS rfl Tryz.underlying9 rfl) rfl rfl rfl ?_))) <;> try ((first | (refine wo_skip rfl rfl ?_) | ((refine wo_v (ov_gtr3 rfl rfl (by first | exact decide_eq_true (by omega) | exact decide_eq_false (by omega) | exact rfl)) rfl rfl rfl ?_))) <;> try ((first | (refine wo_v (ov_pickT rfl rfl) rfl rfl rfl ?_) | (refine wo_v (ov_pickF rfl rfl) rfl rfl rfl ?_)) <;> try ((refine wo_nilP [0, 1, 2, 3, 8, 9, 10, 11, 12, 13, 14, 15, 28, 37, 41, 58, 80, 115] ?_))))))))))))))))) | ((refine w_regI 2 ?_; try ((refine wo_v (ov_bldA pl30 inf30 rfl rfl rfl) rfl rfl rfl ?_) <;> try ((refine wo_v (ov_assign rfl) rfl rfl rfl ?_) <;> try ((refine wo_v (ov_assign rfl) rfl rfl rfl ?_) <;> try ((refine wo_storeC rfl rfl rfl sz30 (by repeat (first | exact .head _ | apply Upd.tail | apply Upd.app)) (by first | rfl | simp) rfl rfl ?_) <;> try ((refine wo_nilP [0, 1, 2, 3, 8, 9, 10, 11, 12, 13, 14, 15, 28, 37, 41, 58, 80, 115] ?_)))))))) | ((refine w_regI 3 ?_; try ((refine wo_v (ov_move rfl) rfl rfl rfl ?_) <;> try ((refine wo_call0 rfl en20 rfl rfl (fun w _ => pieces_c s (by omega) w) ?_; rintro v Hn ⟨r, rfl, ⟨⟨b1, cap, rst, rfl, rfl, hb, hc⟩⟩⟩) <;> try ((refine wo_v (ov_move rfl) rfl rfl rfl ?_) <;> try ((refine wo_v (ov_extract rfl rfl) rfl rfl rfl ?_) <;> try ((refine wo_v (ov_extract rfl rfl) rfl rfl rfl ?_) <;> try ((refine wo_alloc inf30 rfl rfl rfl rfl (fun b_ hb_ => ?_)) <;> try ((refine wo_v (ov_assign rfl) rfl rfl rfl ?_) <;> try ((refine wo_storeC rfl rfl rfl sz30 (by repeat (first | exact .head _ | apply Upd.tail | apply Upd.app)) (by first | rfl | simp) rfl rfl ?_) <;> try ((refine wo_nilP [0, 1, 2, 3, 8, 9, 10, 11, 12, 13, 14, 15, 28, 37, 41, 58, 80, 115] ?_)))))))))))) | ((refine w_regI 4 ?_; try ((refine wo_v (ov_fieldAddr fo30_0 rfl) rfl rfl rfl ?_) <;> try ((refine wo_v (ov_load Tryz.underlying23 rfl rfl (by repeat (first | exact .head _ | refine .tail _ ?_ | refine List.mem_append_right _ ?_)) (by first | rfl | assumption | simp)) rfl rfl rfl ?_) <;> try ((refine wo_v (ov_neq3 rfl rfl (by first | exact not_dec_true (by omega) | exact not_dec_false (by omega) | exact rfl)) rfl rfl rfl ?_) <;> try ((refine wo_nilP [0, 1, 2, 3, 8, 9, 10, 11, 12, 13, 14, 15, 28, 37, 41, 58, 80, 115] ?_))))))) | ((refine w_regA (m := 4) 5 rfl mixed rfl ?_; try ((refine wa_take 1 rfl (fun _ => ov_assign rfl) (by kernel_rfl) (by kernel_rfl) (by kernel_rfl) rfl rfl rfl rfl ?_) <;> try ((refine wa_take 2 rfl (fun _ => ov_assign rfl) (by kernel_rfl) (by kernel_rfl) (by kernel_rfl) rfl rfl rfl rfl ?_) <;> try (refine wa_one 0 (by kernel_rfl) ?_ <;> try ((refine wi_v rfl (ov_loadW Tryz.underlying30 rfl inf30 rfl (by repeat (first | exact .head _ | refine .tail _ ?_ | refine List.mem_append_right _ ?_)) (by first | rfl | simp)) rfl rfl rfl ?_) <;> try (refine wa_one 3 (by kernel_rfl) ?_ <;> try ((refine wi_storeC rfl rfl rfl rfl sz30 (by repeat (first | exact .head _ | apply Upd.tail | apply Upd.app)) (by first | rfl | simp) rfl rfl rfl ?_) <;> try ((refine wa_done [0, 1, 2, 3, 8, 9, 10, 11, 12, 13, 14, 15, 28, 37, 41, 58, 80, 115] (by kernel_rfl) ?_)))))))))) | ((refine w_regI 6 ?_; try ((refine wo_v (ov_move rfl) rfl rfl rfl ?_) <;> try ((refine wo_v (ov_lenS rfl Tryz.underlying9 rfl) rfl rfl rfl ?_) <;> try ((refine wo_v (ov_gtr3 rfl rfl (by first | exact decide_eq_true (by omega) | exact decide_eq_false (by omega) | exact rfl)) rfl rfl rfl ?_) <;> try ((refine wo_nilP [0, 1, 2, 3, 8, 9, 10, 11, 12, 13, 14, 15, 28, 37, 41, 58, 80, 115] ?_))))))) | ((refine w_regI 7 ?_; try ((refine wo_v (ov_bldA pl30 inf30 rfl rfl rfl) rfl rfl rfl ?_) <;> try ((refine wo_v (ov_assign rfl) rfl rfl rfl ?_) <;> try ((refine wo_v (ov_assign rfl) rfl rfl rfl ?_) <;> try ((refine wo_storeC rfl rfl rfl sz30 (by repeat (first | exact .head _ | apply Upd.tail | apply Upd.app)) (by first | rfl | simp) rfl rfl ?_) <;> try ((refine wo_nilP [0, 1, 2, 3, 8, 9, 10, 11, 12, 13, 14, 15, 28, 37, 41, 58, 80, 115] ?_)))))))) | ((refine w_regA (m := 15) 8 rfl mixed rfl ?_; try ((refine wa_take 0 rfl (fun _ => ov_move rfl) (by kernel_rfl) (by kernel_rfl) (by kernel_rfl) rfl rfl rfl rfl ?_) <;> try ((refine wa_take 1 rfl (fun _ => ov_move rfl) (by kernel_rfl) (by kernel_rfl) (by kernel_rfl) rfl rfl rfl rfl ?_) <;> try ((refine wa_take 2 rfl (fun _ => ov_cutHiI Tryz.underlying9 rfl rfl (by omega) (by first | omega | (simp only [List.length_cons, List.length_nil, List.length_drop, List.length_take, List.length_append]; omega))) (by kernel_rfl) (by kernel_rfl) (by kernel_rfl) rfl rfl rfl rfl ?_) <;> try ((refine wa_take 3 rfl (fun _ => ov_move rfl) (by kernel_rfl) (by kernel_rfl) (by kernel_rfl) rfl rfl rfl rfl ?_) <;> try ((refine wa_take 4 rfl (fun _ => ov_addS rfl rfl (by first | omega | (simp; omega))) (by kernel_rfl) (by kernel_rfl) (by kernel_rfl) rfl rfl rfl rfl ?_) <;> try ((refine wa_take 5 rfl (fun _ => ov_move rfl) (by kernel_rfl) (by kernel_rfl) (by kernel_rfl) rfl rfl rfl rfl ?_) <;> try ((refine wa_take 6 rfl (fun _ => ov_move rfl) (by kernel_rfl) (by kernel_rfl) (by kernel_rfl) rfl rfl rfl rfl ?_) <;> try ((refine wa_take 7 rfl (fun _ => ov_cutLoI Tryz.underlying9 rfl rfl (by omega) (by first | omega | (simp only [List.length_cons, List.length_nil, List.length_drop, List.length_take, List.length_append]; omega))) (by kernel_rfl) (by kernel_rfl) (by kernel_rfl) rfl rfl rfl rfl ?_) <;> try ((refine wa_take 8 rfl (fun _ => ov_addS rfl rfl (by first | omega | (simp; omega))) (by kernel_rfl) (by kernel_rfl) (by kernel_rfl) rfl rfl rfl rfl ?_) <;> try (refine wa_one 9 (by kernel_rfl) ?_ <;> try ((refine wi_call0 rfl rfl en20 rfl rfl rfl (fun w _ => pieces_c (agT s a b m) hTl w) ?_; rintro v Hn ⟨r, rfl, ⟨⟨b2, cap2, rst2, rfl, rfl, hb2, hc2⟩⟩⟩) <;> try ((refine wa_take 10 rfl (fun _ => ov_move rfl) (by kernel_rfl) (by kernel_rfl) (by kernel_rfl) rfl rfl rfl rfl ?_) <;> try ((refine wa_take 11 rfl (fun _ => ov_extract rfl rfl) (by kernel_rfl) (by kernel_rfl) (by kernel_rfl) rfl rfl rfl rfl ?_) <;> try ((refine wa_take 12 rfl (fun _ => ov_extract rfl rfl) (by kernel_rfl) (by kernel_rfl) (by kernel_rfl) rfl rfl rfl rfl ?_) <;> try ((refine wa_take 13 rfl (fun _ => ov_assign rfl) (by kernel_rfl) (by kernel_rfl) (by kernel_rfl) rfl rfl rfl rfl ?_) <;> try (refine wa_one 14 (by kernel_rfl) ?_ <;> try ((refine wi_storeC rfl rfl rfl rfl sz30 (by repeat (first | exact .head _ | apply Upd.tail | apply Upd.app)) (by first | rfl | simp) rfl rfl rfl ?_) <;> try ((refine wa_done [0, 1, 2, 3, 8, 9, 10, 11, 12, 13, 14, 15, 28, 37, 41, 58, 80, 115] (by kernel_rfl) ?_))))))))))))))))))))) | ((refine w_regI 9 ?_; try ((refine wo_v (ov_fieldAddr fo30_0 rfl) rfl rfl rfl ?_) <;> try ((refine wo_v (ov_load Tryz.underlying23 rfl rfl (by repeat (first | exact .head _ | refine .tail _ ?_ | refine List.mem_append_right _ ?_)) (by first | rfl | assumption | simp)) rfl rfl rfl ?_) <;> try ((refine wo_v (ov_neq3 rfl rfl (by first | exact not_dec_true (by omega) | exact not_dec_false (by omega) | exact rfl)) rfl rfl rfl ?_) <;> try ((refine wo_nilP [0, 1, 2, 3, 8, 9, 10, 11, 12, 13, 14, 15, 28, 37, 41, 58, 80, 115] ?_))))))) | ((refine w_regA (m := 4) 10 rfl mixed rfl ?_; try ((refine wa_take 1 rfl (fun _ => ov_assign rfl) (by kernel_rfl) (by kernel_rfl) (by kernel_rfl) rfl rfl rfl rfl ?_) <;> try ((refine wa_take 2 rfl (fun _ => ov_assign rfl) (by kernel_rfl) (by kernel_rfl) (by kernel_rfl) rfl rfl rfl rfl ?_) <;> try (refine wa_one 0 (by kernel_rfl) ?_ <;> try ((refine wi_v rfl (ov_loadW Tryz.underlying30 rfl inf30 rfl (by repeat (first | exact .head _ | refine .tail _ ?_ | refine List.mem_append_right _ ?_)) (by first | rfl | simp)) rfl rfl rfl ?_) <;> try (refine wa_one 3 (by kernel_rfl) ?_ <;> try ((refine wi_storeC rfl rfl rfl rfl sz30 (by repeat (first | exact .head _ | apply Upd.tail | apply Upd.app)) (by first | rfl | simp) rfl rfl rfl ?_) <;> try ((refine wa_done [0, 1, 2, 3, 8, 9, 10, 11, 12, 13, 14, 15, 28, 37, 41, 58, 80, 115] (by kernel_rfl) ?_)))))))))) | ((refine w_regI 11 ?_; try ((refine wo_v (ov_assign rfl) rfl rfl rfl ?_) <;> try ((refine wo_nilP [0, 1, 2, 3, 8, 9, 10, 11, 12, 13, 14, 15, 28, 37, 41, 58, 80, 115] ?_))))))
  · exact ⟨by rw [agR, if_pos (by omega)]; rfl, hi_.fr⟩
  · exact ⟨by rw [agR, if_pos (by omega)]; rfl, hi_.fr⟩
  · exact ⟨by rw [agR, if_pos (by omega)]; rfl, hi_.fr⟩
  · exact ⟨by rw [agR, if_neg (by omega), if_pos (by assumption)]; rfl, hi_.fr⟩
  · exact ⟨by rw [agR, if_neg (by omega), if_neg (by simpa using ‹(pieR s).2.1 = 0›), if_pos (by omega)]; rfl, hi_.fr⟩
  have hA : agR s a b m = if (pieR (agT s a b m)).2.1 ≠ 0 then ((0, 0), (pieR (agT s a b m)).2) else (agS (pieR s).1 (pieR (agT s a b m)).1, 0, 0) := by
    rw [agR, if_neg (by omega), if_neg (by simpa using ‹(pieR s).2.1 = 0›), if_neg (by omega)]
  · exact ⟨by rw [hA, if_pos (by assumption)]; rfl, hi_.fr⟩
  have hA : agR s a b m = (agS (pieR s).1 (pieR (agT s a b m)).1, 0, 0) := by
    rw [agR, if_neg (by omega), if_neg (by simpa using ‹(pieR s).2.1 = 0›), if_neg (by omega), if_neg (by simpa using ‹(pieR (agT s a b m)).2.1 = 0›)]
  rename_i bo _ _ _ _ _ _
  rw [hA]
  clear hA
  generalize (pieR s).1 = ps at *
  generalize (pieR (agT s a b m)).1 = qs at *
  have hb1 : b1 = none → ps = [] := fun e => (hb e).2
  have hb2' : b2 = none → qs = [] := fun e => (hb2 e).2
  refine w_drop (H' := (rowE b2 (rowV bitV qs) rst2 34 ++ (rowE b1 (rowV bitV ps) rst 34 ++ [⟨bo, true, .cells #[.int .i64 0, .int .i64 0] 30 (0, 0)⟩]))) (List.Sublist.append (List.Sublist.refl _) (List.sublist_cons_self _ _)) ?_
  refine w_weak (E' := (fun k : Nat => [(10, .pointer (some ⟨bo, 0, none⟩)), (11, .slice (b1.map fun b => ⟨b, 0, none⟩) ps.length cap), (13, .slice (b2.map fun b => ⟨b, 0, none⟩) qs.length cap2), (14, .int .i64 (k : Int))]) 0) (by repeat (first | exact sub_nil _ | refine sub_cons rfl ?_)) ?_
  refine w_whileX 0 (fun k : Nat => k ≤ ps.length ∧ k ≤ qs.length ∧ ∀ j (h1 : j < k) (h2 : j < ps.length) (h3 : j < qs.length), ps[j] = qs[j]) (fun k => ps.length - k) (fun k : Nat => [(10, .pointer (some ⟨bo, 0, none⟩)), (11, .slice (b1.map fun b => ⟨b, 0, none⟩) ps.length cap), (13, .slice (b2.map fun b => ⟨b, 0, none⟩) qs.length cap2), (14, .int .i64 (k : Int))]) (fun _ => (rowE b2 (rowV bitV qs) rst2 34 ++ (rowE b1 (rowV bitV ps) rst 34 ++ [⟨bo, true, .cells #[.int .i64 0, .int .i64 0] 30 (0, 0)⟩]))) (fun k : Nat => k = cpl ps qs) (fun k : Nat => [(10, .pointer (some ⟨bo, 0, none⟩)), (11, .slice (b1.map fun b => ⟨b, 0, none⟩) ps.length cap), (13, .slice (b2.map fun b => ⟨b, 0, none⟩) qs.length cap2), (14, .int .i64 (k : Int))]) (fun _ => (rowE b2 (rowV bitV qs) rst2 34 ++ (rowE b1 (rowV bitV ps) rst 34 ++ [⟨bo, true, .cells #[.int .i64 0, .int .i64 0] 30 (0, 0)⟩]))) ?_ ?_ 0 ⟨by omega, by omega, fun j hj => by omega⟩
  · rintro k2 hk2 first rfl
    obtain rfl := Option.some.inj hk2
    repeat' (first | (refine pf_keep rfl ?_) | (refine pf_nil ?_) | (refine w_seq ?_) | (refine w_block ?_) | ((refine w_regI 14 ?_; try ((refine wo_v (ov_assign rfl) rfl rfl rfl ?_) <;> try ((refine wo_nilP [0, 1, 2, 3, 8, 9, 10, 11, 12, 13, 14, 15, 28, 37, 41, 58, 80, 115] ?_))))))
    refine w_weak (E' := (fun k : Nat => [(10, .pointer (some ⟨bo, 0, none⟩)), (11, .slice (b1.map fun b => ⟨b, 0, none⟩) ps.length cap), (13, .slice (b2.map fun b => ⟨b, 0, none⟩) qs.length cap2), (14, .int .i64 ((cpl ps qs : Nat) : Int)), (15, .int .i64 (k : Int))]) 0) (by repeat (first | exact sub_nil _ | refine sub_cons rfl ?_)) ?_
    obtain ⟨hcp1, hcp2⟩ := cpl_le ps qs
    refine w_whileX 2 (fun k : Nat => cpl ps qs + k ≤ ps.length ∧ cpl ps qs + k ≤ qs.length ∧ ∀ j (h1 : j < k) (h2 : ps.length - 1 - j < ps.length) (h3 : qs.length - 1 - j < qs.length), ps[ps.length - 1 - j] = qs[qs.length - 1 - j]) (fun k => ps.length - k) (fun k : Nat => [(10, .pointer (some ⟨bo, 0, none⟩)), (11, .slice (b1.map fun b => ⟨b, 0, none⟩) ps.length cap), (13, .slice (b2.map fun b => ⟨b, 0, none⟩) qs.length cap2), (14, .int .i64 ((cpl ps qs : Nat) : Int)), (15, .int .i64 (k : Int))]) (fun _ => (rowE b2 (rowV bitV qs) rst2 34 ++ (rowE b1 (rowV bitV ps) rst 34 ++ [⟨bo, true, .cells #[.int .i64 0, .int .i64 0] 30 (0, 0)⟩]))) (fun k : Nat => k = cpl (ps.drop (cpl ps qs)).reverse (qs.drop (cpl ps qs)).reverse) (fun k : Nat => [(10, .pointer (some ⟨bo, 0, none⟩)), (11, .slice (b1.map fun b => ⟨b, 0, none⟩) ps.length cap), (13, .slice (b2.map fun b => ⟨b, 0, none⟩) qs.length cap2), (14, .int .i64 ((cpl ps qs : Nat) : Int)), (15, .int .i64 (k : Int))]) (fun _ => (rowE b2 (rowV bitV qs) rst2 34 ++ (rowE b1 (rowV bitV ps) rst 34 ++ [⟨bo, true, .cells #[.int .i64 0, .int .i64 0] 30 (0, 0)⟩]))) ?_ ?_ 0 ⟨by omega, by omega, fun j hj => by omega⟩
    · rintro k2 hk2 last rfl
      obtain rfl := Option.some.inj hk2
      repeat' (first | (refine pf_keep rfl ?_) | (refine pf_drop rfl ?_) | (refine pf_nil ?_) | (refine w_seq ?_) | (refine w_retM Tryz.func32 (.tmp rfl (.tmp rfl (.cellA rfl Tryz.underlying30 rfl inf30 (by repeat (first | exact .head _ | refine .tail _ ?_ | refine List.mem_append_right _ ?_)) rfl (.nil)))) (fun w_ hi_ => ?_)) | ((refine w_regI 17 ?_; try ((refine wo_v (ov_move rfl) rfl rfl rfl ?_) <;> try ((refine wo_v (ov_move rfl) rfl rfl rfl ?_) <;> try ((refine wo_v (ov_bldZ pl30 inf30 rfl) rfl rfl rfl ?_) <;> try ((refine wo_v (ov_assign rfl) rfl rfl rfl ?_) <;> try ((refine wo_v (ov_assign rfl) rfl rfl rfl ?_) <;> try ((refine wo_storeC rfl rfl rfl sz30 (by repeat (first | exact .head _ | apply Upd.tail | apply Upd.app)) (by first | rfl | simp) rfl rfl ?_) <;> try ((refine wo_nilP [0, 1, 2, 3, 8, 9, 10, 11, 12, 13, 14, 15, 28, 37, 41, 58, 80, 115] ?_)))))))))))
      exact ⟨rfl, hi_.fr⟩
    · rintro rst1 k ⟨h1, h2, h3⟩ ih
      have hfin : (∀ (g2 : cpl ps qs + k < ps.length) (g3 : cpl ps qs + k < qs.length), ps[ps.length - 1 - k] ≠ qs[qs.length - 1 - k]) → k = cpl (ps.drop (cpl ps qs)).reverse (qs.drop (cpl ps qs)).reverse := cpl_back h1 h2 h3
      by_cases hk1 : cpl ps qs + k < ps.length
      · by_cases hk2 : cpl ps qs + k < qs.length
        · obtain ⟨bb, rfl⟩ : ∃ bb, b1 = some bb := by
            cases b1 with
            | none => have := hb1 rfl; subst this; simp at hk1
            | some bb => exact ⟨bb, rfl⟩
          obtain ⟨bc, rfl⟩ : ∃ bc, b2 = some bc := by
            cases b2 with
            | none => have := hb2' rfl; subst this; simp at hk2
            | some bc => exact ⟨bc, rfl⟩
          have hr1 : RecAt (rowV bitV ps ++ rst).toArray (0 + ((ps.length : Int) - 1 - (k : Int)).toNat * 2) #[.int .u8 ps[ps.length - 1 - k].1, str ps[ps.length - 1 - k].2] := recAt_row bitV bitV_len (by omega) (by omega)
          have hr2 : RecAt (rowV bitV qs ++ rst2).toArray (0 + ((qs.length : Int) - 1 - (k : Int)).toNat * 2) #[.int .u8 qs[qs.length - 1 - k].1, str qs[qs.length - 1 - k].2] := recAt_row bitV bitV_len (by omega) (by omega)
          simp only [rowE_some, Option.map_some, List.cons_append, List.nil_append] at ih rst1 ⊢
          repeat' (first | (refine pf_keep rfl ?_) | (refine pf_drop rfl ?_) | (refine pf_nil ?_) | (refine w_seq ?_) | (refine w_condD rfl (fun h => ?_) (fun h => ?_)) | (refine w_block ?_) | (refine w_inBlock ?_) | (refine w_skip ?_) | ((refine w_regQI 15 rfl mixed (by kernel_rfl) ?_; try ((refine wq_v (ov_move rfl) rfl rfl ?_) <;> try ((refine wq_v (ov_move rfl) rfl rfl ?_) <;> try ((refine wq_v (ov_add_i64 rfl rfl (by omega) (by omega)) rfl rfl ?_) <;> try ((refine wq_v (ov_move rfl) rfl rfl ?_) <;> try ((refine wq_v (ov_lenL rfl Tryz.underlying28 rfl) rfl rfl ?_) <;> try ((refine wq_v (ov_lss3 rfl rfl (by first | exact decide_eq_true (by omega) | exact decide_eq_false (by omega) | exact rfl)) rfl rfl ?_) <;> try ((refine wq_v (ov_move rfl) rfl rfl ?_) <;> try (((refine wq_v (ov_move rfl) rfl rfl ?_)) <;> try (((refine wq_v (ov_move rfl) rfl rfl ?_)) <;> try (((refine wq_v (ov_add_i64 rfl rfl (by omega) (by omega)) rfl rfl ?_)) <;> try (((refine wq_v (ov_move rfl) rfl rfl ?_)) <;> try (((refine wq_v (ov_lenL rfl Tryz.underlying28 rfl) rfl rfl ?_)) <;> try (((refine wq_v (ov_lss3 rfl rfl (by first | exact decide_eq_true (by omega) | exact decide_eq_false (by omega) | exact rfl)) rfl rfl ?_)) <;> try ((refine wq_v (ov_pickT rfl rfl) rfl rfl ?_) <;> try ((refine wq_v (ov_move rfl) rfl rfl ?_) <;> try (((refine wq_v (ov_move rfl) rfl rfl ?_)) <;> try (((refine wq_v (ov_move rfl) rfl rfl ?_)) <;> try (((refine wq_v (ov_lenL rfl Tryz.underlying28 rfl) rfl rfl ?_)) <;> try (((refine wq_v (ov_sub_i64 rfl rfl (by omega) (by omega)) rfl rfl ?_)) <;> try (((refine wq_v (ov_move rfl) rfl rfl ?_)) <;> try (((refine wq_v (ov_sub_i64 rfl rfl (by omega) (by omega)) rfl rfl ?_)) <;> try (((refine wq_v (ov_indexAddr Tryz.underlying28 sz34 rfl rfl (by omega) (by omega)) rfl rfl ?_)) <;> try (((refine wq_v (ov_loadR Tryz.underlying34 rfl inf34 rfl (by repeat (first | exact .head _ | refine .tail _ ?_ | refine List.mem_append_right _ ?_)) (by assumption) (by first | rfl | simp)) rfl rfl ?_)) <;> try (((refine wq_v (ov_move rfl) rfl rfl ?_)) <;> try (((refine wq_v (ov_move rfl) rfl rfl ?_)) <;> try (((refine wq_v (ov_lenL rfl Tryz.underlying28 rfl) rfl rfl ?_)) <;> try (((refine wq_v (ov_sub_i64 rfl rfl (by omega) (by omega)) rfl rfl ?_)) <;> try (((refine wq_v (ov_move rfl) rfl rfl ?_)) <;> try (((refine wq_v (ov_sub_i64 rfl rfl (by omega) (by omega)) rfl rfl ?_)) <;> try (((refine wq_v (ov_indexAddr Tryz.underlying28 sz34 rfl rfl (by omega) (by omega)) rfl rfl ?_)) <;> try (((refine wq_v (ov_loadR Tryz.underlying34 rfl inf34 rfl (by repeat (first | exact .head _ | refine .tail _ ?_ | refine List.mem_append_right _ ?_)) (by assumption) (by first | rfl | simp)) rfl rfl ?_)) <;> try (((refine wq_v (ov_eqlBit rfl rfl rfl) rfl rfl ?_)) <;> try ((refine wq_v (ov_pickT rfl rfl) rfl rfl ?_) <;> try ((refine wq_nilP [0, 1, 2, 3, 8, 9, 10, 11, 12, 13, 14, 15, 28, 37, 41, 58, 80, 115] ?_))))))))))))))))))))))))))))))))))))) | ((refine w_regI 16 ?_; try ((refine wo_v (ov_move rfl) rfl rfl rfl ?_) <;> try ((refine wo_v (ov_add_i64 rfl rfl (by omega) (by omega)) rfl rfl rfl ?_) <;> try ((refine wo_v (ov_assign rfl) rfl rfl rfl ?_) <;> try ((refine wo_nilP [0, 1, 2, 3, 8, 9, 10, 11, 12, 13, 14, 15, 28, 37, 41, 58, 80, 115] ?_))))))))
          · refine w_weak (by first | exact sub_nil _ | (refine sub_cons rfl ?_; repeat (first | exact sub_nil _ | refine sub_cons rfl ?_))) (ih (k + 1) ⟨by omega, by omega, fun j g1 g2 g3 => ?_⟩ (by omega))
            rcases Nat.lt_succ_iff_lt_or_eq.1 g1 with h1 | rfl
            · exact h3 j h1 g2 g3
            · exact Prod.ext h.1 h.2
          · refine w_exit rfl ?_
            refine w_weak (by first | exact sub_nil _ | (refine sub_cons rfl ?_; repeat (first | exact sub_nil _ | refine sub_cons rfl ?_))) (rst1 _ rfl k (hfin fun _ _ e => h ⟨congrArg (·.1) e, congrArg (·.2) e⟩))
        · repeat' (first | (refine pf_keep rfl ?_) | (refine pf_drop rfl ?_) | (refine pf_nil ?_) | (refine w_seq ?_) | (refine w_condF rfl ?_) | ((refine w_regQI 15 rfl mixed (by kernel_rfl) ?_; try ((refine wq_v (ov_move rfl) rfl rfl ?_) <;> try ((refine wq_v (ov_move rfl) rfl rfl ?_) <;> try ((refine wq_v (ov_add_i64 rfl rfl (by omega) (by omega)) rfl rfl ?_) <;> try ((refine wq_v (ov_move rfl) rfl rfl ?_) <;> try ((refine wq_v (ov_lenL rfl Tryz.underlying28 rfl) rfl rfl ?_) <;> try ((refine wq_v (ov_lss3 rfl rfl (by first | exact decide_eq_true (by omega) | exact decide_eq_false (by omega) | exact rfl)) rfl rfl ?_) <;> try ((refine wq_v (ov_move rfl) rfl rfl ?_) <;> try (((refine wq_v (ov_move rfl) rfl rfl ?_)) <;> try (((refine wq_v (ov_move rfl) rfl rfl ?_)) <;> try (((refine wq_v (ov_add_i64 rfl rfl (by omega) (by omega)) rfl rfl ?_)) <;> try (((refine wq_v (ov_move rfl) rfl rfl ?_)) <;> try (((refine wq_v (ov_lenL rfl Tryz.underlying28 rfl) rfl rfl ?_)) <;> try (((refine wq_v (ov_lss3 rfl rfl (by first | exact decide_eq_true (by omega) | exact decide_eq_false (by omega) | exact rfl)) rfl rfl ?_)) <;> try ((refine wq_v (ov_pickT rfl rfl) rfl rfl ?_) <;> try ((refine wq_v (ov_move rfl) rfl rfl ?_) <;> try ((refine wq_skip rfl rfl ?_) <;> try ((refine wq_skip rfl rfl ?_) <;> try ((refine wq_skip rfl rfl ?_) <;> try ((refine wq_skip rfl rfl ?_) <;> try ((refine wq_skip rfl rfl ?_) <;> try ((refine wq_skip rfl rfl ?_) <;> try ((refine wq_skip rfl rfl ?_) <;> try ((refine wq_skip rfl rfl ?_) <;> try ((refine wq_skip rfl rfl ?_) <;> try ((refine wq_skip rfl rfl ?_) <;> try ((refine wq_skip rfl rfl ?_) <;> try ((refine wq_skip rfl rfl ?_) <;> try ((refine wq_skip rfl rfl ?_) <;> try ((refine wq_skip rfl rfl ?_) <;> try ((refine wq_skip rfl rfl ?_) <;> try ((refine wq_skip rfl rfl ?_) <;> try ((refine wq_skip rfl rfl ?_) <;> try ((refine wq_v (ov_pickF rfl rfl) rfl rfl ?_) <;> try ((refine wq_nilP [0, 1, 2, 3, 8, 9, 10, 11, 12, 13, 14, 15, 28, 37, 41, 58, 80, 115] ?_))))))))))))))))))))))))))))))))))))))
          refine w_exit rfl ?_
          refine w_weak (by first | exact sub_nil _ | (refine sub_cons rfl ?_; repeat (first | exact sub_nil _ | refine sub_cons rfl ?_))) (rst1 _ rfl k (hfin fun g2 g3 => by omega))
      · repeat' (first | (refine pf_keep rfl ?_) | (refine pf_drop rfl ?_) | (refine pf_nil ?_) | (refine w_seq ?_) | (refine w_condF rfl ?_) | ((refine w_regQI 15 rfl mixed (by kernel_rfl) ?_; try ((refine wq_v (ov_move rfl) rfl rfl ?_) <;> try ((refine wq_v (ov_move rfl) rfl rfl ?_) <;> try ((refine wq_v (ov_add_i64 rfl rfl (by omega) (by omega)) rfl rfl ?_) <;> try ((refine wq_v (ov_move rfl) rfl rfl ?_) <;> try ((refine wq_v (ov_lenL rfl Tryz.underlying28 rfl) rfl rfl ?_) <;> try ((refine wq_v (ov_lss3 rfl rfl (by first | exact decide_eq_true (by omega) | exact decide_eq_false (by omega) | exact rfl)) rfl rfl ?_) <;> try ((refine wq_v (ov_move rfl) rfl rfl ?_) <;> try ((refine wq_skip rfl rfl ?_) <;> try ((refine wq_skip rfl rfl ?_) <;> try ((refine wq_skip rfl rfl ?_) <;> try ((refine wq_skip rfl rfl ?_) <;> try ((refine wq_skip rfl rfl ?_) <;> try ((refine wq_skip rfl rfl ?_) <;> try ((refine wq_v (ov_pickF rfl rfl) rfl rfl ?_) <;> try ((refine wq_v (ov_move rfl) rfl rfl ?_) <;> try ((refine wq_skip rfl rfl ?_) <;> try ((refine wq_skip rfl rfl ?_) <;> try ((refine wq_skip rfl rfl ?_) <;> try ((refine wq_skip rfl rfl ?_) <;> try ((refine wq_skip rfl rfl ?_) <;> try ((refine wq_skip rfl rfl ?_) <;> try ((refine wq_skip rfl rfl ?_) <;> try ((refine wq_skip rfl rfl ?_) <;> try ((refine wq_skip rfl rfl ?_) <;> try ((refine wq_skip rfl rfl ?_) <;> try ((refine wq_skip rfl rfl ?_) <;> try ((refine wq_skip rfl rfl ?_) <;> try ((refine wq_skip rfl rfl ?_) <;> try ((refine wq_skip rfl rfl ?_) <;> try ((refine wq_skip rfl rfl ?_) <;> try ((refine wq_skip rfl rfl ?_) <;> try ((refine wq_skip rfl rfl ?_) <;> try ((refine wq_v (ov_pickF rfl rfl) rfl rfl ?_) <;> try ((refine wq_nilP [0, 1, 2, 3, 8, 9, 10, 11, 12, 13, 14, 15, 28, 37, 41, 58, 80, 115] ?_))))))))))))))))))))))))))))))))))))))
        refine w_exit rfl ?_
        refine w_weak (by first | exact sub_nil _ | (refine sub_cons rfl ?_; repeat (first | exact sub_nil _ | refine sub_cons rfl ?_))) (rst1 _ rfl k (hfin fun g2 g3 => by omega))
  · rintro rst1 k ⟨h1, h2, h3⟩ ih
    by_cases hk1 : k < ps.length
    · by_cases hk2 : k < qs.length
      · obtain ⟨bb, rfl⟩ : ∃ bb, b1 = some bb := by
          cases b1 with
          | none => have := hb1 rfl; subst this; simp at hk1
          | some bb => exact ⟨bb, rfl⟩
        obtain ⟨bc, rfl⟩ : ∃ bc, b2 = some bc := by
          cases b2 with
          | none => have := hb2' rfl; subst this; simp at hk2
          | some bc => exact ⟨bc, rfl⟩
        have hr1 : RecAt (rowV bitV ps ++ rst).toArray (0 + (k : Int).toNat * 2) #[.int .u8 ps[k].1, str ps[k].2] := recAt_row bitV bitV_len hk1 (by simp)
        have hr2 : RecAt (rowV bitV qs ++ rst2).toArray (0 + (k : Int).toNat * 2) #[.int .u8 qs[k].1, str qs[k].2] := recAt_row bitV bitV_len hk2 (by simp)
        simp only [rowE_some, Option.map_some, List.cons_append, List.nil_append] at ih rst1 ⊢
        repeat' (first | (refine pf_keep rfl ?_) | (refine pf_drop rfl ?_) | (refine pf_nil ?_) | (refine w_seq ?_) | (refine w_condD rfl (fun h => ?_) (fun h => ?_)) | (refine w_block ?_) | (refine w_inBlock ?_) | (refine w_skip ?_) | ((refine w_regQI 12 rfl mixed (by kernel_rfl) ?_; try ((refine wq_v (ov_move rfl) rfl rfl ?_) <;> try ((refine wq_v (ov_move rfl) rfl rfl ?_) <;> try ((refine wq_v (ov_lenL rfl Tryz.underlying28 rfl) rfl rfl ?_) <;> try ((refine wq_v (ov_lss3 rfl rfl (by first | exact decide_eq_true (by omega) | exact decide_eq_false (by omega) | exact rfl)) rfl rfl ?_) <;> try ((refine wq_v (ov_move rfl) rfl rfl ?_) <;> try (((refine wq_v (ov_move rfl) rfl rfl ?_)) <;> try (((refine wq_v (ov_move rfl) rfl rfl ?_)) <;> try (((refine wq_v (ov_lenL rfl Tryz.underlying28 rfl) rfl rfl ?_)) <;> try (((refine wq_v (ov_lss3 rfl rfl (by first | exact decide_eq_true (by omega) | exact decide_eq_false (by omega) | exact rfl)) rfl rfl ?_)) <;> try ((refine wq_v (ov_pickT rfl rfl) rfl rfl ?_) <;> try ((refine wq_v (ov_move rfl) rfl rfl ?_) <;> try (((refine wq_v (ov_move rfl) rfl rfl ?_)) <;> try (((refine wq_v (ov_move rfl) rfl rfl ?_)) <;> try (((refine wq_v (ov_indexAddr Tryz.underlying28 sz34 rfl rfl (by omega) (by omega)) rfl rfl ?_)) <;> try (((refine wq_v (ov_loadR Tryz.underlying34 rfl inf34 rfl (by repeat (first | exact .head _ | refine .tail _ ?_ | refine List.mem_append_right _ ?_)) (by assumption) (by first | rfl | simp)) rfl rfl ?_)) <;> try (((refine wq_v (ov_move rfl) rfl rfl ?_)) <;> try (((refine wq_v (ov_move rfl) rfl rfl ?_)) <;> try (((refine wq_v (ov_indexAddr Tryz.underlying28 sz34 rfl rfl (by omega) (by omega)) rfl rfl ?_)) <;> try (((refine wq_v (ov_loadR Tryz.underlying34 rfl inf34 rfl (by repeat (first | exact .head _ | refine .tail _ ?_ | refine List.mem_append_right _ ?_)) (by assumption) (by first | rfl | simp)) rfl rfl ?_)) <;> try (((refine wq_v (ov_eqlBit rfl rfl rfl) rfl rfl ?_)) <;> try ((refine wq_v (ov_pickT rfl rfl) rfl rfl ?_) <;> try ((refine wq_nilP [0, 1, 2, 3, 8, 9, 10, 11, 12, 13, 14, 15, 28, 37, 41, 58, 80, 115] ?_))))))))))))))))))))))))) | ((refine w_regI 13 ?_; try ((refine wo_v (ov_move rfl) rfl rfl rfl ?_) <;> try ((refine wo_v (ov_add_i64 rfl rfl (by omega) (by omega)) rfl rfl rfl ?_) <;> try ((refine wo_v (ov_assign rfl) rfl rfl rfl ?_) <;> try ((refine wo_nilP [0, 1, 2, 3, 8, 9, 10, 11, 12, 13, 14, 15, 28, 37, 41, 58, 80, 115] ?_))))))))
        · refine w_weak (by first | exact sub_nil _ | (refine sub_cons rfl ?_; repeat (first | exact sub_nil _ | refine sub_cons rfl ?_))) (ih (k + 1) ⟨by omega, by omega, fun j g1 g2 g3 => ?_⟩ (by omega))
          rcases Nat.lt_succ_iff_lt_or_eq.1 g1 with h1 | rfl
          · exact h3 j h1 g2 g3
          · exact Prod.ext h.1 h.2
        · refine w_exit rfl ?_
          refine w_weak (by first | exact sub_nil _ | (refine sub_cons rfl ?_; repeat (first | exact sub_nil _ | refine sub_cons rfl ?_))) (rst1 _ rfl k (cpl_eq ps qs k h1 h2 h3 fun _ _ e => h ⟨congrArg (·.1) e, congrArg (·.2) e⟩).symm)
      · repeat' (first | (refine pf_keep rfl ?_) | (refine pf_drop rfl ?_) | (refine pf_nil ?_) | (refine w_seq ?_) | (refine w_condF rfl ?_) | ((refine w_regQI 12 rfl mixed (by kernel_rfl) ?_; try ((refine wq_v (ov_move rfl) rfl rfl ?_) <;> try ((refine wq_v (ov_move rfl) rfl rfl ?_) <;> try ((refine wq_v (ov_lenL rfl Tryz.underlying28 rfl) rfl rfl ?_) <;> try ((refine wq_v (ov_lss3 rfl rfl (by first | exact decide_eq_true (by omega) | exact decide_eq_false (by omega) | exact rfl)) rfl rfl ?_) <;> try ((refine wq_v (ov_move rfl) rfl rfl ?_) <;> try (((refine wq_v (ov_move rfl) rfl rfl ?_)) <;> try (((refine wq_v (ov_move rfl) rfl rfl ?_)) <;> try (((refine wq_v (ov_lenL rfl Tryz.underlying28 rfl) rfl rfl ?_)) <;> try (((refine wq_v (ov_lss3 rfl rfl (by first | exact decide_eq_true (by omega) | exact decide_eq_false (by omega) | exact rfl)) rfl rfl ?_)) <;> try ((refine wq_v (ov_pickT rfl rfl) rfl rfl ?_) <;> try ((refine wq_v (ov_move rfl) rfl rfl ?_) <;> try ((refine wq_skip rfl rfl ?_) <;> try ((refine wq_skip rfl rfl ?_) <;> try ((refine wq_skip rfl rfl ?_) <;> try ((refine wq_skip rfl rfl ?_) <;> try ((refine wq_skip rfl rfl ?_) <;> try ((refine wq_skip rfl rfl ?_) <;> try ((refine wq_skip rfl rfl ?_) <;> try ((refine wq_skip rfl rfl ?_) <;> try ((refine wq_skip rfl rfl ?_) <;> try ((refine wq_v (ov_pickF rfl rfl) rfl rfl ?_) <;> try ((refine wq_nilP [0, 1, 2, 3, 8, 9, 10, 11, 12, 13, 14, 15, 28, 37, 41, 58, 80, 115] ?_))))))))))))))))))))))))))
        refine w_exit rfl ?_
        refine w_weak (by first | exact sub_nil _ | (refine sub_cons rfl ?_; repeat (first | exact sub_nil _ | refine sub_cons rfl ?_))) (rst1 _ rfl k (cpl_eq ps qs k h1 h2 h3 fun g2 g3 => by omega).symm)
    · repeat' (first | (refine pf_keep rfl ?_) | (refine pf_drop rfl ?_) | (refine pf_nil ?_) | (refine w_seq ?_) | (refine w_condF rfl ?_) | ((refine w_regQI 12 rfl mixed (by kernel_rfl) ?_; try ((refine wq_v (ov_move rfl) rfl rfl ?_) <;> try ((refine wq_v (ov_move rfl) rfl rfl ?_) <;> try ((refine wq_v (ov_lenL rfl Tryz.underlying28 rfl) rfl rfl ?_) <;> try ((refine wq_v (ov_lss3 rfl rfl (by first | exact decide_eq_true (by omega) | exact decide_eq_false (by omega) | exact rfl)) rfl rfl ?_) <;> try ((refine wq_v (ov_move rfl) rfl rfl ?_) <;> try ((refine wq_skip rfl rfl ?_) <;> try ((refine wq_skip rfl rfl ?_) <;> try ((refine wq_skip rfl rfl ?_) <;> try ((refine wq_skip rfl rfl ?_) <;> try ((refine wq_v (ov_pickF rfl rfl) rfl rfl ?_) <;> try ((refine wq_v (ov_move rfl) rfl rfl ?_) <;> try ((refine wq_skip rfl rfl ?_) <;> try ((refine wq_skip rfl rfl ?_) <;> try ((refine wq_skip rfl rfl ?_) <;> try ((refine wq_skip rfl rfl ?_) <;> try ((refine wq_skip rfl rfl ?_) <;> try ((refine wq_skip rfl rfl ?_) <;> try ((refine wq_skip rfl rfl ?_) <;> try ((refine wq_skip rfl rfl ?_) <;> try ((refine wq_skip rfl rfl ?_) <;> try ((refine wq_v (ov_pickF rfl rfl) rfl rfl ?_) <;> try ((refine wq_nilP [0, 1, 2, 3, 8, 9, 10, 11, 12, 13, 14, 15, 28, 37, 41, 58, 80, 115] ?_))))))))))))))))))))))))))
      refine w_exit rfl ?_
      refine w_weak (by first | exact sub_nil _ | (refine sub_cons rfl ?_; repeat (first | exact sub_nil _ | refine sub_cons rfl ?_))) (rst1 _ rfl k (cpl_eq ps qs k h1 h2 h3 fun g2 g3 => by omega).symm)
end Go.Sl
namespace Go.Sl
open Go Go.Proofs
set_option maxRecDepth 100000
set_option maxHeartbeats 1000000
set_option linter.unusedSimpArgs false
set_option linter.unusedVariables false

theorem sign_two (p : List UInt8) (c : UInt8) (h : p ++ [c] ∈ signsL) (hl : p.length = 1) : clb c ≠ 98 := by
  match p, hl with
  | [a], _ =>
    have : ∀ x ∈ signsL, x.length = 2 → clb (x.getD 1 0) ≠ 98 := by decide
    exact this _ h rfl
/-- A blank may stand behind whatever is no blank. -/
theorem nxt_blank {k : Int} {p : List UInt8} {c : UInt8} (hk : k ≠ 6) (hc : clb c = 98) : Nxt k p c := by
  refine ⟨fun h => absurd h hk, fun _ => by omega, fun _ => ⟨fun _ => by omega, fun _ => ⟨by omega, ?_⟩⟩, fun _ hl => ⟨fun h => sign_two p c h hl hc, ?_, ?_⟩⟩
  · rintro rfl; revert hc; decide
  · intro e
    match p, hl with
    | [a], _ => simp at e; rw [e.2] at hc; revert hc; decide
  · intro e
    match p, hl with
    | [a], _ => simp at e; rw [e.2] at hc; revert hc; decide
theorem nxt_big {k : Int} {p : List UInt8} {c : UInt8} (hk : 6 < k) : Nxt k p c := ⟨fun h => by omega, fun h => by omega, fun h => by omega, fun h => by omega⟩
theorem nxt_six {p : List UInt8} {c : UInt8} (hc : clb c ≠ 98) : Nxt 6 p c := ⟨fun _ => hc, fun h => by omega, fun h => by omega, fun h => by omega⟩

/-- The kinds of pieces. -/
theorem first_kind (s : List UInt8) (k : Int) (n : Nat) (h : firstS s = (k, n, 0)) (hn : 0 < n) : 1 ≤ k ∧ k ≤ 8 ∧ (k = 6 ↔ cls (bt s 0) = 98) ∧ (k = 7 → twoS s = [40, 42]) ∧ (k = 8 → twoS s = [60, 42]) := by
  unfold firstS at h
  by_cases c1 : cls (bt s 0) = 98
  · rw [if_pos c1] at h; simp at h; obtain ⟨rfl, h⟩ := h; simp [c1]
  rw [if_neg c1] at h
  by_cases c2 : twoS s = [40, 42]
  · rw [if_pos c2] at h
    split at h
    · simp at h
    · simp at h; obtain ⟨rfl, h⟩ := h; simp [c1, c2]
  rw [if_neg c2] at h
  by_cases c3 : twoS s = [60, 42]
  · rw [if_pos c3] at h
    split at h
    · simp at h
    · simp at h; obtain ⟨rfl, h⟩ := h; simp [c1, c3]
  rw [if_neg c3] at h
  have : (k = 1 ∨ k = 2 ∨ k = 3 ∨ k = 4 ∨ k = 5) := by
    revert h
    repeat' split
    all_goals (intro h; rw [tri] at h; omega)
  exact ⟨by omega, by omega, ⟨fun e => by omega, fun e => absurd e c1⟩, fun e => by omega, fun e => by omega⟩
theorem head_bt {p : List UInt8} {c : UInt8} (h : p.head? = some c) : bt p 0 = (c.toNat : Int) := by
  cases p with
  | nil => cases h
  | cons a p => cases h; rfl
theorem Fol.kind {x : Int × List UInt8} {h : Option UInt8} (f : Fol x h) : 1 ≤ x.1 ∧ x.1 ≤ 8 := by
  obtain ⟨h1, h2, _⟩ := first_kind _ _ _ f.own (List.length_pos_iff.2 f.ne); exact ⟨h1, h2⟩
theorem Fol.head {x : Int × List UInt8} {h : Option UInt8} (f : Fol x h) : ∃ c, x.2.head? = some c ∧ (x.1 = 6 ↔ clb c = 98) ∧ (x.1 = 7 → c = 40) ∧ (x.1 = 8 → c = 60) := by
  obtain ⟨_, _, h3, h4, h5⟩ := first_kind _ _ _ f.own (List.length_pos_iff.2 f.ne)
  cases hx : x.2 with
  | nil => exact absurd hx f.ne
  | cons c r =>
    rw [hx] at h3 h4 h5
    have ht : ∀ a b, twoS (c :: r) = [a, b] → c = a := by
      intro a b e
      unfold twoS at e
      split at e
      · cases r with
        | nil => simp at e
        | cons d r => simp at e; exact e.1
      · simp at e
    exact ⟨c, rfl, h3, fun e => ht _ _ (h4 e), fun e => ht _ _ (h5 e)⟩
theorem head_app {x : List UInt8} {c : UInt8} (h : x.head? = some c) (r : List UInt8) : (x ++ r).head? = some c := by
  cases x with
  | nil => cases h
  | cons a x => exact h

theorem Chain.head {x : Int × List UInt8} {r : List (Int × List UInt8)} (h : Chain (x :: r)) : ∃ c, (joinS (x :: r)).head? = some c ∧ (x.1 = 6 ↔ clb c = 98) ∧ (x.1 = 7 → c = 40) ∧ (x.1 = 8 → c = 60) := by
  obtain ⟨c, h1, h2⟩ := h.1.head
  exact ⟨c, by rw [joinS_cons]; exact head_app h1 _, h2⟩
/-- No blank stands behind a blank. -/
theorem chain_noblank {x y : Int × List UInt8} {r : List (Int × List UInt8)} (h : Chain (x :: y :: r)) (hx : x.1 = 6) : y.1 ≠ 6 := by
  intro hy
  obtain ⟨c, h1, h2, _⟩ := Chain.head h.2
  exact ((h.1.nx c h1).1 hx) (h2.1 hy)
theorem chain_mem : ∀ (ps : List (Int × List UInt8)), Chain ps → ∀ x ∈ ps, Fol x none
  | [], _, x, hx => by cases hx
  | y :: r, h, x, hx => by
    rcases List.mem_cons.1 hx with rfl | hx
    · exact h.1.none
    · exact chain_mem r h.2 x hx
theorem chain_one {x : Int × List UInt8} (h : Fol x none) : Chain [x] := ⟨h, trivial⟩
theorem joinS_one (x : Int × List UInt8) : joinS [x] = x.2 := by rw [joinS_cons, joinS_nil, List.append_nil]
/-- Each piece alone is a text with just this piece. -/
theorem alone {s : List UInt8} (h : (pieR s).2.1 = 0) {x : Int × List UInt8} (hx : x ∈ (pieR s).1) : pieR x.2 = ([x], 0, 0) := by
  obtain ⟨h1, h2, h3, _⟩ := pieR_chain s h
  have hb := (pieR_bd s).2 x hx
  exact Chain.pieR (chain_one (chain_mem _ h3 x hx)) (joinS_one x) hb

/-! ### An exchanged piece -/
theorem chain_set {y : Int × List UInt8} (hy : Fol y none) (h6 : 6 ≤ y.1) : ∀ (ps : List (Int × List UInt8)) (i : Nat) (hi : i < ps.length), Chain ps → y.1 = ps[i].1 → Chain (ps.set i y)
  | x :: r, 0, _, h, e => by
    refine ⟨⟨hy.ne, hy.own, fun c hc => ?_⟩, h.2⟩
    have := h.1.nx c hc
    simp only [List.getElem_cons_zero] at e
    rcases Int.lt_or_eq_of_le h6 with h7 | h7
    · exact nxt_big h7
    · rw [← h7]; exact nxt_six (this.1 (by omega))
  | x :: r, i + 1, hi, h, e => by
    simp only [List.getElem_cons_succ] at e
    have hi' : i < r.length := by simpa using hi
    refine ⟨⟨h.1.ne, h.1.own, fun c hc => ?_⟩, chain_set hy h6 r i hi' h.2 e⟩
    have e' : y.1 = (r[i]'hi').1 := e
    clear e hi
    match i, r, hi', h, e', hc with
    | 0, z :: r, _, h, e, hc =>
      simp only [List.getElem_cons_zero] at e
      obtain ⟨d, g1, g2, g3, g4⟩ := Chain.head h.2
      obtain ⟨d', k1, k2, k3, k4⟩ := hy.head
      rw [List.set_cons_zero, joinS_cons, head_app k1] at hc
      cases hc
      have hn := h.1.nx d g1
      by_cases e6 : y.1 = 6
      · refine nxt_blank (fun hx => ?_) (k2.1 e6)
        exact hn.1 hx (g2.1 (by omega))
      · have hk := hy.kind
        by_cases e7 : y.1 = 7
        · rw [k3 e7]; rw [g3 (by omega)] at hn; exact hn
        · rw [k4 (by omega)]; rw [g4 (by omega)] at hn; exact hn
    | j + 1, z :: r, _, h, e, hc =>
      refine h.1.nx c ?_
      rw [List.set_cons_succ, joinS_cons] at hc
      rw [joinS_cons]
      obtain ⟨d, g1, _⟩ := h.2.1.head
      rw [head_app g1] at hc ⊢; exact hc

/-! ### Comments and pragmas that become blanks -/
def mrg : List (Int × List UInt8) → List (Int × List UInt8)
  | [] => []
  | x :: r => if 6 ≤ x.1 then (match mrg r with | [] => [(6, blankT x)] | y :: t => if y.1 = 6 then (6, blankT x ++ y.2) :: t else (6, blankT x) :: y :: t) else x :: mrg r
theorem bareS_cons (x : Int × List UInt8) (r : List (Int × List UInt8)) : bareS (x :: r) = blankT x ++ bareS r := by unfold bareS; rw [List.flatMap_cons]
theorem blankT_le {x : Int × List UInt8} (h : x.1 ≤ 6) : blankT x = x.2 := by unfold blankT; rw [if_neg (by omega)]
theorem mrg_join : ∀ ps, joinS (mrg ps) = bareS ps
  | [] => rfl
  | x :: r => by
    have ih := mrg_join r
    rw [bareS_cons, mrg]
    by_cases h : 6 ≤ x.1
    · rw [if_pos h]
      cases hm : mrg r with
      | nil => rw [hm] at ih; rw [joinS_one, ← ih, joinS_nil, List.append_nil]
      | cons y t =>
        rw [hm, joinS_cons] at ih
        simp only
        split
        · rw [joinS_cons, ← ih, List.append_assoc]
        · rw [joinS_cons, joinS_cons, ← ih]
    · rw [if_neg h, joinS_cons, ih, blankT_le (by omega)]
theorem all_spn : ∀ p : List UInt8, (∀ c ∈ p, clb c = 98) → spn 98 98 p = p.length
  | [], _ => rfl
  | c :: p, h => by rw [spn_cons, if_pos (.inl (h c (.head _))), all_spn p fun d hd => h d (.tail _ hd)]; rfl
theorem spn_all : ∀ p : List UInt8, spn 98 98 p = p.length → ∀ c ∈ p, clb c = 98
  | [], _, c, hc => by cases hc
  | d :: p, h, c, hc => by
    rw [spn_cons] at h
    split at h
    · rename_i h2
      rcases List.mem_cons.1 hc with rfl | hc
      · omega
      · exact spn_all p (by simpa using h) c hc
    · simp at h
theorem blank_own {p : List UInt8} (hp : p ≠ []) (h : ∀ c ∈ p, clb c = 98) : firstS p = (6, p.length, 0) := by
  unfold firstS
  cases p with
  | nil => exact absurd rfl hp
  | cons c p => rw [if_pos (show cls (bt (c :: p) 0) = 98 from h c (.head _)), all_spn _ h]
theorem own_blank {p : List UInt8} (hp : p ≠ []) (h : firstS p = (6, p.length, 0)) : ∀ c ∈ p, clb c = 98 := by
  obtain ⟨_, _, h3, _⟩ := first_kind p 6 _ h (List.length_pos_iff.2 hp)
  have := h3.1 rfl
  unfold firstS at h
  rw [if_pos this] at h
  simp at h
  exact spn_all p h
theorem blankT_blank {x : Int × List UInt8} {h : Option UInt8} (f : Fol x h) (h6 : 6 ≤ x.1) : ∀ c ∈ blankT x, clb c = 98 := by
  by_cases h7 : 6 < x.1
  · intro c hc
    unfold blankT at hc
    rw [if_pos h7] at hc
    obtain ⟨d, _, rfl⟩ := List.mem_map.1 hc
    by_cases hd : d = 10
    · rw [if_pos hd, hd]; decide
    · rw [if_neg hd]; decide
  · have e : x.1 = 6 := by omega
    rw [blankT_le (by omega)]
    exact own_blank f.ne (by rw [← e]; exact f.own)
theorem blankT_ne {x : Int × List UInt8} {h : Option UInt8} (f : Fol x h) : blankT x ≠ [] := by
  intro e
  have := blankT_len x
  rw [e] at this
  exact f.ne (List.length_eq_zero_iff.1 this.symm)
theorem head_mem {l : List UInt8} {c : UInt8} (h : l.head? = some c) : c ∈ l := by
  cases l with
  | nil => cases h
  | cons a l => cases h; exact .head _
theorem mrg_chain : ∀ ps, Chain ps → Chain (mrg ps)
  | [], _ => trivial
  | x :: r, h => by
    have ih := mrg_chain r h.2
    have hj := mrg_join r
    rw [mrg]
    by_cases h6 : 6 ≤ x.1
    · rw [if_pos h6]
      have hb := blankT_blank h.1 h6
      have hne := blankT_ne h.1
      cases hm : mrg r with
      | nil => exact chain_one ⟨hne, blank_own hne hb, fun c e => by cases e⟩
      | cons y t =>
        rw [hm] at ih
        simp only
        by_cases hy : y.1 = 6
        · rw [if_pos hy]
          have hyb := own_blank ih.1.ne (by rw [← hy]; exact ih.1.own)
          refine ⟨⟨by simp [hne], blank_own (by simp [hne]) fun c hc => ?_, fun c hc => ?_⟩, ih.2⟩
          · rcases List.mem_append.1 hc with hc | hc
            · exact hb c hc
            · exact hyb c hc
          · exact nxt_six ((ih.1.nx c hc).1 hy)
        · rw [if_neg hy]
          refine ⟨⟨hne, blank_own hne hb, fun c hc => ?_⟩, ih⟩
          obtain ⟨d, g1, g2, _⟩ := Chain.head ih
          rw [g1] at hc; cases hc
          exact nxt_six fun e => hy (g2.2 e)
    · rw [if_neg h6]
      refine ⟨⟨h.1.ne, h.1.own, fun c hc => ?_⟩, ih⟩
      rw [hj] at hc
      cases r with
      | nil => cases hc
      | cons y t =>
        rw [bareS_cons] at hc
        by_cases hy : 6 ≤ y.1
        · have hb := blankT_blank h.2.1 hy
          have hne := blankT_ne h.2.1
          cases hbt : blankT y with
          | nil => exact absurd hbt hne
          | cons d q =>
            rw [hbt] at hc hb
            cases hc
            exact nxt_blank (by omega) (hb _ (.head _))
        · rw [blankT_le (by omega)] at hc
          refine h.1.nx c ?_
          rw [joinS_cons]
          obtain ⟨d, g1, _⟩ := h.2.1.head
          rw [head_app g1] at hc ⊢; exact hc
theorem mrg_kind : ∀ ps, ∀ x ∈ mrg ps, x.1 ≤ 6
  | [], x, hx => by cases hx
  | y :: r, x, hx => by
    have ih := mrg_kind r
    rw [mrg] at hx
    by_cases h6 : 6 ≤ y.1
    · rw [if_pos h6] at hx
      cases hm : mrg r with
      | nil => rw [hm] at hx; simp at hx; rw [hx]; exact Int.le_refl _
      | cons z t =>
        rw [hm] at hx ih
        simp only at hx
        split at hx
        · rcases List.mem_cons.1 hx with rfl | hx
          · exact Int.le_refl _
          · exact ih x (.tail _ hx)
        · rcases List.mem_cons.1 hx with rfl | hx
          · exact Int.le_refl _
          · exact ih x hx
    · rw [if_neg h6] at hx
      rcases List.mem_cons.1 hx with rfl | hx
      · omega
      · exact ih x hx
theorem bareS_small : ∀ ps : List (Int × List UInt8), (∀ x ∈ ps, x.1 ≤ 6) → bareS ps = joinS ps
  | [], _ => rfl
  | x :: r, h => by rw [bareS_cons, joinS_cons, blankT_le (h x (.head _)), bareS_small r fun y hy => h y (.tail _ hy)]
theorem fds_app (l m : List UInt8) : fds (l ++ m) = fds l + fds m := by unfold fds; rw [List.count_append]
theorem fds_blankT (x : Int × List UInt8) : fds (blankT x) = fds x.2 := by
  unfold blankT
  split
  · unfold fds
    induction x.2 with
    | nil => rfl
    | cons c l ih =>
      rw [List.map_cons, List.count_cons, List.count_cons, ih]
      congr 1
      by_cases hc : c = 10
      · rw [if_pos hc, hc]
      · rw [if_neg hc]; simp [hc]
  · rfl
theorem mrg_tok : ∀ (ps : List (Int × List UInt8)) (line : Int), tokS (mrg ps) line = tokS ps line
  | [], line => rfl
  | x :: r, line => by
    have ih := mrg_tok r (line + fds x.2)
    rw [mrg, tokS]
    by_cases h6 : 6 ≤ x.1
    · rw [if_pos h6, if_neg (by omega), ← ih]
      cases hm : mrg r with
      | nil => simp only [tokS]; rw [if_neg (by decide)]
      | cons y t =>
        simp only
        split
        · rename_i hy
          rw [tokS, tokS, if_neg (by simp), if_neg (by omega), fds_app, fds_blankT]
          congr 1; simp; omega
        · rw [tokS, if_neg (by simp), fds_blankT]
    · rw [if_neg h6, tokS, ih]
theorem bareS_length : ∀ ps : List (Int × List UInt8), (bareS ps).length = (joinS ps).length
  | [] => rfl
  | x :: r => by rw [bareS_cons, joinS_cons, List.length_append, List.length_append, blankT_len, bareS_length r]
/-- What is made of Bare's text. -/
theorem bare_again {s : List UInt8} (h : (pieR s).2.1 = 0) : pieR (bareS (pieR s).1) = (mrg (pieR s).1, 0, 0) ∧ (bareS (pieR s).1).length = s.length ∧ tokS (mrg (pieR s).1) 1 = tokS (pieR s).1 1 ∧ bareS (mrg (pieR s).1) = bareS (pieR s).1 ∧ ∀ x ∈ mrg (pieR s).1, x.1 ≤ 6 := by
  obtain ⟨h1, h2, h3, _⟩ := pieR_chain s h
  have hl : (bareS (pieR s).1).length = s.length := by rw [bareS_length, h2]
  refine ⟨Chain.pieR (mrg_chain _ h3) (mrg_join _) (by omega), hl, mrg_tok _ _, ?_, mrg_kind _⟩
  rw [bareS_small _ (mrg_kind _), mrg_join]

/-! ### Edited texts -/
theorem joinS_app (a b : List (Int × List UInt8)) : joinS (a ++ b) = joinS a ++ joinS b := by unfold joinS; rw [List.flatMap_append]
theorem cpl_pre : ∀ (m : Nat) (a b : List (Int × List UInt8)) (n : Nat), Chain a → Chain b → (joinS a).take n = (joinS b).take n → m ≤ a.length → (joinS (a.take m)).length < n → m ≤ cpl a b
  | 0, _, _, _, _, _, _, _, _ => Nat.zero_le _
  | m + 1, [], _, _, _, _, _, h, _ => by simp at h
  | m + 1, x :: a, b, n, ha, hb, he, hm, hn => by
    have hx := List.length_pos_iff.2 ha.1.ne
    rw [List.take_succ_cons, joinS_cons, List.length_append] at hn
    match b, hb, he with
    | [], hb, he =>
      rw [joinS_cons, joinS_nil, List.take_nil] at he
      have := congrArg List.length he
      rw [List.length_take, List.length_append, List.length_nil] at this; omega
    | y :: b, hb, he =>
      have hy := List.length_pos_iff.2 hb.1.ne
      obtain ⟨_, f1⟩ := (fol_iff x (joinS a)).1 ha.1
      obtain ⟨_, f2⟩ := (fol_iff y (joinS b)).1 hb.1
      -- the first piece of the other text
      have e1 : (joinS (y :: b)).take x.2.length = x.2 := by
        have := congrArg (List.take x.2.length) he
        rw [List.take_take, List.take_take, Nat.min_eq_left (by omega), joinS_cons, List.take_left] at this
        exact this.symm
      have e2 : joinS (y :: b) = x.2 ++ (joinS (y :: b)).drop x.2.length := by
        conv => lhs; rw [← List.take_append_drop x.2.length (joinS (y :: b)), e1]
      have e3 : ((joinS (y :: b)).drop x.2.length).head? = (joinS a).head? := by
        have h1 := congrArg (fun l => l[x.2.length]?) he
        simp only [List.getElem?_take] at h1
        rw [if_pos (by omega), if_pos (by omega), joinS_cons, List.getElem?_append_right (Nat.le_refl _), Nat.sub_self] at h1
        rw [List.head?_drop, ← h1, List.head?_eq_getElem?]
      have f3 : firstS (joinS (y :: b)) = (x.1, x.2.length, 0) := by
        rw [e2]
        have := ha.1
        rw [← e3] at this
        exact ((fol_iff x _).1 this).2
      rw [← joinS_cons] at f2
      rw [f2] at f3
      simp only [Prod.mk.injEq, and_true] at f3
      have hxy : x = y := by
        refine Prod.ext f3.1.symm ?_
        rw [joinS_cons, ← f3.2, List.take_left] at e1
        exact e1.symm
      subst hxy
      rw [cpl, if_pos rfl]
      refine Nat.succ_le_succ (cpl_pre m a b (n - x.2.length) ha.2 hb.2 ?_ (by simpa using hm) (by omega))
      rw [joinS_cons, joinS_cons] at he
      have := congrArg (List.drop x.2.length) he
      rw [List.drop_take, List.drop_take, List.drop_left, List.drop_left] at this
      exact this
theorem chain_drop : ∀ (k : Nat) (ps : List (Int × List UInt8)), Chain ps → Chain (ps.drop k)
  | 0, _, h => h
  | k + 1, [], h => h
  | k + 1, x :: r, h => chain_drop k r h.2
theorem chain_uniq {a b : List (Int × List UInt8)} (ha : Chain a) (hb : Chain b) (h : joinS a = joinS b) : a = b := by
  have h1 := chain_pieS a ha
  have h2 := chain_pieS b hb
  rw [h, h2] at h1
  exact (Prod.mk.injEq .. ▸ h1 : _ ∧ _).1.symm
theorem cpl_app {α : Type} [DecidableEq α] : ∀ (l a b : List α), l.length ≤ cpl (l ++ a) (l ++ b)
  | [], _, _ => Nat.zero_le _
  | x :: l, a, b => by rw [List.cons_append, List.cons_append, cpl, if_pos rfl]; exact Nat.succ_le_succ (cpl_app l a b)
theorem joinS_drop_suffix (a : List (Int × List UInt8)) (k : Nat) : ∃ q, joinS a = q ++ joinS (a.drop k) := ⟨joinS (a.take k), by rw [← joinS_app, List.take_append_drop]⟩
theorem suffix_eq {s t u v q : List UInt8} (h1 : s = q ++ u) (h2 : t = v) (hl : u.length = v.length) : True := trivial
/-- Pieces that begin alike in what stays, stay. -/
theorem cpl_suf {a b : List (Int × List UInt8)} (ha : Chain a) (hb : Chain b) {u v z : List UInt8} (h1 : joinS a = u ++ z) (h2 : joinS b = v ++ z) {k j f : Nat} (hk : k < a.length) (hkj : (joinS (a.drop k)).length = (joinS (b.drop j)).length) (hz : (joinS (a.drop k)).length ≤ z.length) (hj : j ≤ b.length) (hf : f ≤ k) (hfj : f + (a.length - k) ≤ b.length) :
    a.length - k ≤ cpl (a.drop f).reverse (b.drop f).reverse := by
  have suf : ∀ (w : List UInt8) (ps : List (Int × List UInt8)) (i : Nat), joinS ps = w ++ z → (joinS (ps.drop i)).length ≤ z.length → joinS (ps.drop i) = z.drop (z.length - (joinS (ps.drop i)).length) := by
    intro w ps i e hl
    obtain ⟨q, hq⟩ := joinS_drop_suffix ps i
    rw [hq] at e
    have hlen := congrArg List.length e
    simp only [List.length_append] at hlen
    have := congrArg (List.drop q.length) e
    rw [List.drop_left, List.drop_append, List.drop_of_length_le (l := w) (by omega), List.nil_append] at this
    rw [this]; congr 1; rw [List.length_drop]; omega
  have e1 := suf u a k h1 hz
  have e2 := suf v b j h2 (by omega)
  have e3 : joinS (a.drop k) = joinS (b.drop j) := by rw [e1, e2, hkj]
  have e4 := chain_uniq (chain_drop k a ha) (chain_drop j b hb) e3
  have hlen := congrArg List.length e4
  simp only [List.length_drop] at hlen
  have hfa : a.drop f = (a.drop f).take (k - f) ++ a.drop k := by
    conv => lhs; rw [← List.take_append_drop (k - f) (a.drop f), List.drop_drop]
    congr 2; omega
  have hfb : b.drop f = (b.drop f).take (j - f) ++ b.drop j := by
    conv => lhs; rw [← List.take_append_drop (j - f) (b.drop f), List.drop_drop]
    congr 2; omega
  rw [hfa, hfb, List.reverse_append, List.reverse_append, ← e4]
  have := cpl_app (a.drop k).reverse ((a.drop f).take (k - f)).reverse ((b.drop f).take (j - f)).reverse
  simpa using this
end Go.Sl
namespace Go.Sl
open Go Go.Proofs
set_option maxRecDepth 100000
set_option maxHeartbeats 2000000
set_option linter.unusedSimpArgs false
set_option linter.unusedVariables false
attribute [local irreducible] Calls

theorem tokS_snoc : ∀ (ps : List (Int × List UInt8)) (b : Int × List UInt8) (l : Int), tokS (ps ++ [b]) l = tokS ps l ++ (if b.1 ≤ 5 then [(b.1, b.2, l + fds (joinS ps))] else [])
  | [], b, l => by
    rw [List.nil_append, tokS, tokS, tokS, joinS_nil]
    split <;> simp [fds]
  | x :: r, b, l => by
    have ih := tokS_snoc r b (l + fds x.2)
    have e : l + (fds x.2 : Int) + (fds (joinS r) : Int) = l + (fds (joinS (x :: r)) : Int) := by rw [joinS_cons, fds_app]; omega
    rw [List.cons_append, tokS, tokS, ih, e]
    split <;> simp
theorem tokS_le : ∀ (ps : List (Int × List UInt8)) (l : Int), (tokS ps l).length ≤ ps.length
  | [], l => Nat.le_refl _
  | x :: r, l => by
    have := tokS_le r (l + fds x.2)
    rw [tokS]; split <;> simp <;> omega
theorem fds_cut (s : List UInt8) (a b : Nat) (h : a ≤ b) : fds (s.take a) + fds ((s.take b).drop a) = fds (s.take b) := by
  have e : s.take b = s.take a ++ (s.take b).drop a := by
    conv => lhs; rw [← List.take_append_drop a (s.take b), List.take_take, Nat.min_eq_left h]
  conv => rhs; rw [e, fds_app]
theorem countB_fds (l : List UInt8) : Lib.countByte l 10 = fds l := by
  have := lineS_fds l l.length
  unfold lineS at this
  rw [List.take_length] at this; omega
def GTok (s : List UInt8) (bl bc bn bo : Nat) (ps : List (Int × List UInt8)) (Hd : List Ent) : Prop :=
  Ne ps ∧ ∃ (seen : Nat) (b : Option Nat) (cap : Nat) (rst : List Value), seen ≤ (joinS ps).length ∧
    Hd = ⟨bl, true, .cells #[.int .i64 (1 + (fds (s.take seen) : Int))] 3 (0, 0)⟩ :: ⟨bc, true, .cells #[str s] 9 (0, 0)⟩ :: ⟨bn, true, .cells #[.int .i64 (seen : Int)] 3 (0, 0)⟩ :: ⟨bo, true, .cells #[.slice (b.map fun b => ⟨b, 0, none⟩) (tokS ps 1).length cap] 37 (0, 0)⟩ :: rowE b (rowV tokV (tokS ps 1)) rst 53 ∧
    (b = none → cap = 0 ∧ tokS ps 1 = []) ∧ (rowV tokV (tokS ps 1)).length + rst.length = cap * 3

theorem tok1_ok (s : List UInt8) (hl : s.length < 4000000000) (bl bc bn bo : Nat) : DoOk (GTok s bl bc bn bo) s 58 #[.pointer (some ⟨bl, 0, none⟩), .pointer (some ⟨bc, 0, none⟩), .pointer (some ⟨bn, 0, none⟩), .pointer (some ⟨bo, 0, none⟩)] := by
  refine ⟨en58, ?_⟩
  rintro ps b at_ bs Hd ⟨hne, seen, b0, cap, rst, hseen, rfl, hb, hc⟩ hj hj2 hlen hpos hk8
  have hn := joinS_ge ps hne
  have hjl := congrArg List.length hj
  rw [List.length_take] at hjl
  have htl := tokS_le ps 1
  have hsn := tokS_snoc ps b 1
  rw [hj] at hsn
  have hfc := fds_cut s seen at_ (by omega)
  have hf1 := fds_le (s.take seen)
  have hf2 := fds_le ((s.take at_).drop seen)
  have hf3 := fds_le (s.take at_)
  simp only [List.length_drop, List.length_take] at hf1 hf2 hf3
  have hcb := countB_fds ((s.take at_).drop seen)
  have hline : 1 + (fds (s.take seen) : Int) + (Lib.countByte ((s.take at_).drop seen) 10 : Int) = 1 + (fds (s.take at_) : Int) := by omega
  generalize hts : tokS ps 1 = ts at *
  intro S w0 F w hi
  simp only [List.cons_append] at hi
  refine calls_of_WFS Tryz.func58 rfl rfl (hi) ?_
  repeat' (first | (refine pf_keep rfl ?_) | (refine pf_drop rfl ?_) | (refine pf_nil ?_) | (refine w_seq ?_) | (refine w_condD rfl (fun h => ?_) (fun h => ?_)) | (refine w_skip ?_) | (refine w_end Tryz.func58 rfl (fun w_ hi_ => ?_)) | ((refine w_regI 0 ?_; try ((refine wo_box rfl rfl rfl rfl (fun b_ hb_ => ?_)) <;> try ((refine wo_nilP [0, 1, 2, 3, 4, 5, 6, 9, 20] ?_))))) | ((refine w_regT (id := 1) 7 rfl mixed (by kernel_rfl) ?_; try ((refine wt_v (ov_load Tryz.underlying3 rfl rfl (by repeat (first | exact .head _ | refine .tail _ ?_ | refine List.mem_append_right _ ?_ | assumption)) (by first | rfl | assumption | simp)) rfl rfl ?_) <;> try ((refine wt_v (ov_load Tryz.underlying9 rfl rfl (by repeat (first | exact .head _ | refine .tail _ ?_ | refine List.mem_append_right _ ?_ | assumption)) (by first | rfl | assumption | simp)) rfl rfl ?_) <;> try ((refine wt_v (ov_load Tryz.underlying3 rfl rfl (by repeat (first | exact .head _ | refine .tail _ ?_ | refine List.mem_append_right _ ?_ | assumption)) (by first | rfl | assumption | simp)) rfl rfl ?_) <;> try ((refine wt_v (ov_move rfl) rfl rfl ?_) <;> try ((refine wt_v (ov_cutLH Tryz.underlying9 rfl rfl rfl (by first | omega | (simp only [List.length_cons, List.length_nil, List.length_drop, List.length_take, List.length_append]; omega)) (by first | omega | (simp only [List.length_cons, List.length_nil, List.length_drop, List.length_take, List.length_append]; omega))) rfl rfl ?_) <;> try ((refine wt_v (ov_call rfl en59 (fun w hi => count1_c _ _ w)) rfl rfl ?_) <;> try ((refine wt_v (ov_add_i64 rfl rfl (by omega) (by omega)) rfl rfl ?_) <;> try ((refine wt_nil ?_; try ((refine wo_storeB rfl rfl rfl sz3 (by repeat (first | exact .head _ | apply Upd.tail | apply Upd.app)) rfl rfl ?_) <;> try ((refine wo_nilP [0, 1, 2, 3, 4, 5, 6, 9, 20] ?_)))))))))))))) | ((refine w_regI 2 ?_; try ((refine wo_v (ov_move rfl) rfl rfl rfl ?_) <;> try ((refine wo_storeB rfl rfl rfl sz3 (by repeat (first | exact .head _ | apply Upd.tail | apply Upd.app)) rfl rfl ?_) <;> try ((refine wo_nilP [0, 1, 2, 3, 4, 5, 6, 9, 20] ?_)))))) | ((refine w_regI 3 ?_; try ((refine wo_v (ov_fieldAddr fo34_0 rfl) rfl rfl rfl ?_) <;> try ((refine wo_v (ov_load Tryz.underlying5 rfl rfl (by repeat (first | exact .head _ | refine .tail _ ?_ | refine List.mem_append_right _ ?_ | assumption)) (by first | rfl | assumption | simp)) rfl rfl rfl ?_) <;> try ((refine wo_v (ov_lss3 rfl rfl (by first | exact decide_eq_true (by omega) | exact decide_eq_false (by omega) | exact rfl)) rfl rfl rfl ?_) <;> try ((refine wo_nilP [0, 1, 2, 3, 4, 5, 6, 9, 20] ?_))))))) | ((refine w_regI 4 ?_; try ((refine wo_v (ov_load Tryz.underlying37 rfl rfl (by repeat (first | exact .head _ | refine .tail _ ?_ | refine List.mem_append_right _ ?_ | assumption)) (by first | rfl | assumption | simp)) rfl rfl rfl ?_) <;> try ((refine wo_v (ov_fieldAddr fo34_0 rfl) rfl rfl rfl ?_) <;> try ((refine wo_v (ov_load Tryz.underlying5 rfl rfl (by repeat (first | exact .head _ | refine .tail _ ?_ | refine List.mem_append_right _ ?_ | assumption)) (by first | rfl | assumption | simp)) rfl rfl rfl ?_) <;> try ((refine wo_v (ov_fieldAddr fo34_1 rfl) rfl rfl rfl ?_) <;> try ((refine wo_v (ov_load Tryz.underlying9 rfl rfl (by repeat (first | exact .head _ | refine .tail _ ?_ | refine List.mem_append_right _ ?_ | assumption)) (by first | rfl | assumption | simp)) rfl rfl rfl ?_) <;> try ((refine wo_v (ov_load Tryz.underlying3 rfl rfl (by repeat (first | exact .head _ | refine .tail _ ?_ | refine List.mem_append_right _ ?_ | assumption)) (by first | rfl | assumption | simp)) rfl rfl rfl ?_) <;> try ((refine wo_v (ov_bldC pl53 inf53 rfl rfl rfl rfl rfl rfl rfl) rfl rfl rfl ?_) <;> try ((refine wo_bsA3 Tryz.underlying37 inf53 rfl rfl rfl rfl rfl (fun bb_ hb_ => ?_)) <;> try ((refine wo_append (sz := 3) (base := b0) (xs := rowV tokV ts) (rst := rst) rfl rfl Tryz.underlying37 Tryz.underlying37 rfl inf53 rfl (by decide) rfl rfl (rowV_len tokV tokV_len ts) hc (rowAt_rowE (A := [_, _, _, _, _, _]) (fun e => (hb e).1)) (.head _) (new := tokV (b.1, b.2, _)) rfl (by simp) (List.all_eq_true.1 rfl) (by show (2 * (ts.length + 1) + 192) * 32 ≤ _; omega) (by omega) (by omega) rfl rfl (fun b2_ cap_ rst_ hc_ hn_ => ?_)) <;> try ((refine wo_storeB rfl rfl rfl sz37 (by repeat (first | exact .head _ | apply Upd.tail | apply Upd.app)) rfl rfl ?_) <;> try ((refine wo_nilP [0, 1, 2, 3, 4, 5, 6, 9, 20] ?_)))))))))))))))
  all_goals (rw [hline] at hi_; try rw [hline] at hc_)
  · rw [if_pos (by omega)] at hsn
    rw [← rowV_snoc] at hi_ hc_
    rw [show ts.length + 1 = (ts ++ [(b.1, b.2, 1 + (fds (s.take at_) : Int))]).length by simp] at hi_
    rw [← hsn] at hi_ hc_
    exact ⟨_, ⟨_, rfl, rfl, hne.snoc hpos, at_, some b2_, cap_, rst_, (by rw [hj2, List.length_take]; omega), rfl, (fun e => nomatch e), hc_⟩, hi_.pick (F := F) (by repeat (first | exact Take.nil _ | apply Take.cons | exact Del1.head _ | apply Del1.tail | apply Del1.app)) (by repeat (first | exact List.Sublist.refl _ | apply List.Sublist.cons | apply List.sublist_append_of_sublist_right))⟩
  · rw [if_neg (by omega), List.append_nil] at hsn
    rw [← hsn] at hi_ hc hb
    exact ⟨_, ⟨_, rfl, rfl, hne.snoc hpos, at_, b0, cap, rst, (by rw [hj2, List.length_take]; omega), rfl, hb, hc⟩, hi_.pick (R := ⟨b_, true, .cells #[.int .u8 b.1, str b.2] 34 (0, 0)⟩ :: F) ((Take.mid (_ :: _ :: _ :: _ :: rowE b0 (rowV tokV (tokS (ps ++ [b]) 1)) rst 53) F).tail _) (List.sublist_cons_self _ _)⟩

theorem scanP_c (s : List UInt8) (hl : s.length < 4000000000) :
    SLE GloS Tryz.prog 21 [str s] [] fun e post => ∃ r, e = .returned (.tuple #[r, refV (pieR s).2.1 (pieR s).2.2]) ∧ RowOf tokV 3 53 (tokS (pieR s).1 1) r post := by
  intro S w0 F w hE hi
  simp only [List.nil_append] at hi
  refine calls_of_WFS Tryz.func21 rfl rfl (hi) ?_
  repeat' (first | (refine pf_keep rfl ?_) | (refine pf_drop rfl ?_) | (refine pf_nil ?_) | (refine w_seq ?_) | (refine w_condN rfl (fun h => ?_) (fun h => ?_)) | (refine w_skip ?_) | (refine w_retM Tryz.func21 (.tmp rfl (.cellA rfl Tryz.underlying30 rfl inf30 (by repeat (first | exact .head _ | refine .tail _ ?_ | refine List.mem_append_right _ ?_)) rfl (.nil))) (fun w_ hi_ => ?_)) | ((refine w_regI 0 ?_; try ((refine wo_box rfl rfl rfl rfl (fun bc hbc => ?_)) <;> try ((refine wo_v (ov_assign rfl) rfl rfl rfl ?_) <;> try ((refine wo_alloc inf30 rfl rfl rfl rfl (fun b_ hb_ => ?_)) <;> try ((refine wo_nilP [0, 1, 2, 3, 4, 5, 6, 7, 13] ?_))))))) | ((refine w_regI 1 ?_; try ((refine wo_alloc inf37 rfl rfl rfl rfl (fun bo hbo => ?_)) <;> try ((refine wo_nilP [0, 1, 2, 3, 4, 5, 6, 7, 13] ?_))))) | ((refine w_regI 2 ?_; try ((refine wo_alloc inf3 rfl rfl rfl rfl (fun b_ hb_ => ?_)) <;> try ((refine wo_alloc inf3 rfl rfl rfl rfl (fun b_ hb_ => ?_)) <;> try ((refine wo_storeB rfl rfl rfl sz3 (by repeat (first | exact .head _ | apply Upd.tail | apply Upd.app)) rfl rfl ?_) <;> try ((refine wo_storeB rfl rfl rfl sz3 (by repeat (first | exact .head _ | apply Upd.tail | apply Upd.app)) rfl rfl ?_) <;> try ((refine wo_nilP [0, 1, 2, 3, 4, 5, 6, 7, 13] ?_)))))))) | ((refine w_regI 3 ?_; try ((refine wo_v (ov_load Tryz.underlying9 rfl rfl (by repeat (first | exact .head _ | refine .tail _ ?_ | refine List.mem_append_right _ ?_ | assumption)) (by first | rfl | assumption | simp)) rfl rfl rfl ?_) <;> try ((refine wo_v (ov_makeFunc rfl rfl) rfl rfl rfl ?_) <;> try ((rename_i bl hbl; refine wo_callE (F := _ :: F) (by repeat (first | exact Take.nil _ | apply Take.cons | exact Del1.head _ | apply Del1.tail | apply Del1.app)) (hE.cons _) rfl en54 rfl rfl (scanned_c (GTok s bl bc b_ bo) s 58 _ (tok1_ok s hl bl bc b_ bo) hl [⟨bl, true, .cells #[.int .i64 1] 3 (0, 0)⟩, ⟨bc, true, .cells #[str s] 9 (0, 0)⟩, ⟨b_, true, .cells #[.int .i64 0] 3 (0, 0)⟩, ⟨bo, true, .cells #[.slice none 0 0] 37 (0, 0)⟩] ⟨(fun x hx => nomatch hx), 0, none, 0, [], Nat.zero_le _, rfl, fun _ => ⟨rfl, rfl⟩, rfl⟩) ?_; rintro e post ⟨rfl, ps, ⟨_, seen, b0, cap, rst, _, rfl, hb, hc⟩, hps⟩; dsimp only) <;> try ((refine wo_alloc inf30 rfl rfl rfl rfl (fun b_ hb_ => ?_)) <;> try ((refine wo_storeC rfl rfl rfl sz30 (by repeat (first | exact .head _ | apply Upd.tail | apply Upd.app)) (by first | rfl | simp) rfl rfl ?_) <;> try ((refine wo_nilP [0, 1, 2, 3, 4, 5, 6, 7, 13] ?_))))))))) | ((refine w_regI 4 ?_; try ((refine wo_v (ov_fieldAddr fo30_0 rfl) rfl rfl rfl ?_) <;> try ((refine wo_v (ov_load Tryz.underlying23 rfl rfl (by repeat (first | exact .head _ | refine .tail _ ?_ | refine List.mem_append_right _ ?_ | assumption)) (by first | rfl | assumption | simp)) rfl rfl rfl ?_) <;> try ((refine wo_v (ov_neq3 rfl rfl (by first | exact not_dec_true (by omega) | exact not_dec_false (by omega) | exact rfl)) rfl rfl rfl ?_) <;> try ((refine wo_nilP [0, 1, 2, 3, 4, 5, 6, 7, 13] ?_))))))) | ((refine w_regT (id := 5) 2 rfl mixed (by kernel_rfl) ?_; try ((refine wt_v (ov_loadW Tryz.underlying30 rfl inf30 rfl (by repeat (first | exact .head _ | refine .tail _ ?_ | refine List.mem_append_right _ ?_ | assumption)) (by first | rfl | simp)) rfl rfl ?_) <;> try ((refine wt_v (ov_assign rfl) rfl rfl ?_) <;> try ((refine wt_nil ?_; try ((refine wo_storeC rfl rfl rfl sz30 (by repeat (first | exact .head _ | apply Upd.tail | apply Upd.app)) (by first | rfl | simp) rfl rfl ?_) <;> try ((refine wo_nilP [0, 1, 2, 3, 4, 5, 6, 7, 13] ?_))))))))) | ((refine w_regI 6 ?_; try ((refine wo_v (ov_load Tryz.underlying37 rfl rfl (by repeat (first | exact .head _ | refine .tail _ ?_ | refine List.mem_append_right _ ?_ | assumption)) (by first | rfl | assumption | simp)) rfl rfl rfl ?_) <;> try ((refine wo_v (ov_bldZ pl30 inf30 rfl) rfl rfl rfl ?_) <;> try ((refine wo_v (ov_assign rfl) rfl rfl rfl ?_) <;> try ((refine wo_storeC rfl rfl rfl sz30 (by repeat (first | exact .head _ | apply Upd.tail | apply Upd.app)) (by first | rfl | simp) rfl rfl ?_) <;> try ((refine wo_nilP [0, 1, 2, 3, 4, 5, 6, 7, 13] ?_)))))))))
  · refine ⟨[], ⟨.slice none 0 0, rfl, ⟨none, 0, [], ?_, rfl, fun _ => ⟨rfl, ?_⟩, ?_⟩⟩, hi_.pick (ps := []) (F := F) (Take.nil _) (by repeat (first | exact List.Sublist.refl _ | apply List.Sublist.cons | apply List.sublist_append_of_sublist_right))⟩
    all_goals rw [pieR_bad s ‹_›]; first | rfl | skip
  · obtain ⟨_, _, _, h4⟩ := pieR_chain s ‹_›
    obtain rfl := hps ‹_›
    rw [h4]
    exact ⟨rowE b0 (rowV tokV (tokS (pieR s).1 1)) rst 53, ⟨_, rfl, b0, cap, rst, rfl, rfl, hb, hc⟩, hi_.pick (F := F) (by repeat (first | exact Take.mid _ _ | apply Take.tail)) (by repeat (first | exact List.Sublist.refl _ | apply List.Sublist.cons | apply List.sublist_append_of_sublist_right))⟩
end Go.Sl
namespace Go.Sl
open Go Go.RowKit Go.Shelf Go.Proofs
section
variable {C : Cx} {S : Nat → Prop} {w0 : World} {k : List Item} {D : List Deferred} {E : List (Nat × Value)} {H H' : List Ent} {d : Option Tmp} {t t' : TypeId} {p : String} {af : Array Edge} {g : Option (Nat × Bool)} {x y z : Operand} {v u : Value} {ops : Array Oper} {rest : List Oper} {aty : Array TypeId}
theorem ov_sliceData {a : Addr} {n c : Nat} (hx : opv E x = some (.slice (some a) n c)) (hc : c ≠ 0) : OpV C S w0 H D E ⟨d, .call { callee := .builtin .unsafeSliceData, args := #[x], argTypes := aty }, t, p, af, g⟩ (.pointer (some a)) := opv_run' fun tmps w hf _ => by
  simp [execOp, resolve, invoke, builtin, hf.opv D hx, Lib.run_unsafeSliceData_row w aty t a n c hc]
theorem ov_sliceDataN {n c : Nat} (hx : opv E x = some (.slice none n c)) : OpV C S w0 H D E ⟨d, .call { callee := .builtin .unsafeSliceData, args := #[x], argTypes := aty }, t, p, af, g⟩ (.pointer none) := opv_run' fun tmps w hf _ => by
  simp [execOp, resolve, invoke, builtin, hf.opv D hx, Lib.run_unsafeSliceData_nil w aty t n c]
theorem ov_unsafeStr0 {q : Option Addr} {pt it : TypeId} (hx : opv E x = some (.pointer q)) (hy : opv E y = some (.int .i64 0)) (ha : aty = #[pt, it]) : OpV C S w0 H D E ⟨d, .call { callee := .builtin .unsafeString, args := #[x, y], argTypes := aty }, t, p, af, g⟩ (str []) := opv_run' fun tmps w hf _ => by
  subst ha
  simp [execOp, resolve, invoke, builtin, hf.opv D hx, hf.opv D hy, Lib.run_unsafeString_none w pt it t q]
  rfl
theorem wo_unsafeStr {b : Nat} {l : List UInt8} {rst : List Value} {e pt it : TypeId} (hx : opv E x = some (.pointer (some ⟨b, 0, none⟩))) (hy : opv E y = some (.int .i64 l.length)) (ha : aty = #[pt, it]) (hpt : C.P.underlying pt = some (.pointer e)) (hc : C.P.cellsOf e = 1)
    (hu : Upd b (.cells (byv l ++ rst).toArray e (0, 0)) (.cells (byv l ++ rst).toArray e (0, l.length)) H H') (h0 : l ≠ []) (hl : l.length ≤ 9223372036854775807)
    (hg : guardOk E ops ⟨d, .call { callee := .builtin .unsafeString, args := #[x, y], argTypes := aty }, t, p, af, g⟩ = some true) (hd : dstOk d C.n = true)
    (h : WO C S w0 ops rest k D (putE d (str l) E) H') : WO C S w0 ops (⟨d, .call { callee := .builtin .unsafeString, args := #[x, y], argTypes := aty }, t, p, af, g⟩ :: rest) k D E H := by
  subst ha
  refine wo_op hg hd fun w hi tmps hft => ?_
  rw [semAt_nd _ _ _ (nd_of rfl)]
  have hb := hi.hb _ hu.mem
  simp only at hb
  have hlt : b < w.heap.size := hi.lt hu.mem
  have hlen : (byv l).length = l.length := by simp [byv]
  have hcell : ∀ j z, l[j]? = some z → w.cell? ((⟨b, 0, none⟩ : Addr).add j) = some (.int .u8 z.toNat) := by
    intro j z hz
    obtain ⟨hj, he⟩ := List.getElem?_eq_some_iff.1 hz
    rw [add_addr, Nat.zero_add]
    refine hi.cell hu.mem ?_
    rw [List.getElem?_toArray, List.getElem?_append_left (by omega)]
    simp [byv, hz]
  have hrun := Lib.run_unsafeString_row (P := C.P) w pt it t e hpt hc b (byv l ++ rst).length (by simp [World.shape?, hb]) l h0 (by simp [hlen]) hl hcell
  have hrun2 : (execOp ({ tmps := tmps, defers := D } : Act).eval (⟨d, .call { callee := .builtin .unsafeString, args := #[x, y], argTypes := #[pt, it] }, t, p, af, g⟩ : Oper)).run C.P w = .ok (.value (str l)) (w.freeze ⟨b, 0, none⟩ l.length) := by
    simp [execOp, resolve, invoke, builtin, hft.opv D hx, hft.opv D hy, hrun]
  rw [hrun2]
  have hne : ¬ l.length = 0 := fun e => h0 (List.length_eq_zero_iff.1 e)
  refine h.go2 (hi.upd hu ?_ ?_ ?_ ?_ (fun q hq => ?_) ?_)
  · simp [World.freeze, hne]
  · simp [World.freeze, hne]
  · simp [World.freeze, hne]
  · simp [World.freeze, hne]
  · simp only [World.freeze, hne, if_false, Array.getElem?_modify]
    rw [if_neg (by omega)]
  · simp only [World.freeze, hne, if_false, Array.getElem?_modify, if_true, hb, Option.map_some]
    simp
end
end Go.Sl
namespace Go.Sl
open Go Go.RowKit Go.Shelf Go.Proofs
set_option maxRecDepth 100000
set_option maxHeartbeats 2000000
set_option linter.unusedSimpArgs false
set_option linter.unusedVariables false
attribute [local irreducible] Calls

theorem x72 : Builder.X72 Tryz.prog Tryz.lays158_ren := { sizeBuilder := by kernel_rfl, liesBuilder := by kernel_rfl }
/-- The builder's first cell, ahead of a write: not yet its own address, or that. -/
def BldP (b : Nat) (p : Value) : Prop := p = .pointer none ∨ p = .pointer (some ⟨b, 0, none⟩)
theorem copyCheck_c (b : Nat) (p v : Value) (hp : BldP b p) : SL Tryz.prog 92 [.pointer (some ⟨b, 0, none⟩)] [⟨b, true, .cells #[p, v] 80 (0, 0)⟩] fun e post => ∃ u, e = .returned u ∧ u = .tuple #[] ∧ post = [⟨b, true, .cells #[.pointer (some ⟨b, 0, none⟩), v] 80 (0, 0)⟩] := by
  intro S w0 F w hi
  have hb := hi.hb _ (.head _)
  simp only at hb
  rcases hp with rfl | rfl
  · refine (Any.Builder_copyCheck_fresh (P := Tryz.prog) (ρ := Tryz.lays158_ren) { Tryz.lays158 with } x72 b w (hi.cell (off := 0) (.head _) rfl) (by simp [World.shape?, hb]; rfl) (hi.frozen (.head _))).mono ?_
    rintro e w' ⟨rfl, rfl⟩
    refine ⟨_, ⟨_, rfl, rfl, rfl⟩, ?_⟩
    have hlt : b < w.heap.size := hi.lt (.head _)
    refine hi.upd (Upd.head _) rfl rfl rfl (by simp [World.setCell]) (fun q hq => ?_) ?_
    · simp only [World.setCell, Array.getElem?_modify]; rw [if_neg (by omega)]
    · simp only [World.setCell, Array.getElem?_modify, if_true, hb, Option.map_some]; rfl
  · refine (Any.Builder_copyCheck_used (P := Tryz.prog) (ρ := Tryz.lays158_ren) { Tryz.lays158 with } x72 b w (hi.cell (off := 0) (.head _) rfl)).mono ?_
    rintro e w' ⟨rfl, rfl⟩
    exact ⟨_, ⟨_, rfl, rfl, rfl⟩, hi⟩

/-- A builder that holds bytes. -/
def Bld (b : Nat) (l : List UInt8) (Hd : List Ent) : Prop := ∃ (p : Value) (base : Option Nat) (cap : Nat) (rst : List Value), BldP b p ∧ Hd = ⟨b, true, .cells #[p, .slice (base.map fun b => ⟨b, 0, none⟩) l.length cap] 80 (0, 0)⟩ :: rowE base (byv l) rst 5 ∧ (base = none → cap = 0 ∧ l = []) ∧ (base = none ∨ 0 < cap) ∧ (byv l).length + rst.length = cap

theorem writeString_c (b : Nat) (l m : List UInt8) (hl : l.length < 5000000000) (hm : m.length < 5000000000) (h0 : 0 < m.length) (Hd : List Ent) (hB : Bld b l Hd) :
    SL Tryz.prog 61 [.pointer (some ⟨b, 0, none⟩), str m] Hd fun e post => ∃ u, e = .returned u ∧ u = .tuple #[.int .i64 (m.length : Int), .nilIface] ∧ Bld b (l ++ m) post := by
  obtain ⟨p, base, cap, rst, hp, rfl, hb, hcp, hc⟩ := hB
  intro S w0 F w hi
  simp only [List.cons_append] at hi
  refine calls_of_WFS Tryz.func61 rfl rfl (hi) ?_
  repeat' (first | (refine pf_keep rfl ?_) | (refine pf_drop rfl ?_) | (refine pf_nil ?_) | (refine w_seq ?_) | (refine w_ret Tryz.func61 rfl (fun w_ hi_ => ?_)) | ((refine w_regI 0 ?_; try ((refine wo_v (ov_assign rfl) rfl rfl rfl ?_) <;> try ((refine wo_v (ov_assign rfl) rfl rfl rfl ?_) <;> try ((refine wo_nilP [0, 1, 4, 5] ?_)))))) | ((refine w_regI 1 ?_; try ((refine wo_v (ov_move rfl) rfl rfl rfl ?_) <;> try ((refine wo_callR (pre := [⟨b, true, .cells #[p, _] 80 (0, 0)⟩]) (by repeat (first | exact Take.nil _ | apply Take.cons | exact Del1.head _ | apply Del1.tail | apply Del1.app)) rfl en92 rfl rfl (copyCheck_c b p _ hp) ?_; rintro u post ⟨rfl, rfl⟩) <;> try ((refine wo_nilP [0, 1, 4, 5] ?_)))))) | ((refine w_regI 2 ?_; try ((refine wo_v (ov_move rfl) rfl rfl rfl ?_) <;> try ((refine wo_v (ov_move rfl) rfl rfl rfl ?_) <;> try ((refine wo_v (ov_nilCheck rfl) rfl rfl rfl ?_) <;> try ((refine wo_v (ov_fieldAddr fo80_1 rfl) rfl rfl rfl ?_) <;> try ((refine wo_v (ov_load Tryz.underlying63 rfl rfl (by repeat (first | exact .head _ | refine .tail _ ?_ | refine List.mem_append_right _ ?_ | assumption)) (by first | rfl | assumption | simp)) rfl rfl rfl ?_) <;> try ((refine wo_v (ov_move rfl) rfl rfl rfl ?_) <;> try ((refine wo_appendS (base := base) (xs := byv l) (rst := rst) rfl rfl Tryz.underlying63 Tryz.underlying9 rfl inf5 rfl rfl rfl (byv_len l) hc (rowAt_rowE (A := [_]) (fun e => (hb e).1)) (by show (2 * (l.length + m.length) + 192) * 1 ≤ _; omega) (by omega) h0 rfl rfl (fun b2_ cap_ rst_ hc_ hn_ => ?_)) <;> try ((refine wo_v (ov_nilCheck rfl) rfl rfl rfl ?_) <;> try ((refine wo_v (ov_fieldAddr fo80_1 rfl) rfl rfl rfl ?_) <;> try ((refine wo_store rfl rfl rfl sz63 (by repeat (first | exact .head _ | apply Upd.tail | apply Upd.app)) (by first | decide | (simp; done) | omega | (simp only [Array.size_setIfInBounds]; omega)) (.inr (by first | decide | (simp; done) | omega | (simp only [Array.size_setIfInBounds]; omega))) rfl rfl ?_) <;> try ((refine wo_nilP [0, 1, 4, 5] ?_)))))))))))))) | ((refine w_regI 3 ?_; try ((refine wo_v (ov_move rfl) rfl rfl rfl ?_) <;> try ((refine wo_v (ov_lenS rfl Tryz.underlying9 rfl) rfl rfl rfl ?_) <;> try ((refine wo_v (ov_assign rfl) rfl rfl rfl ?_) <;> try ((refine wo_v (ov_assign rfl) rfl rfl rfl ?_) <;> try ((refine wo_nilP [0, 1, 4, 5] ?_)))))))))
  rw [← byv_app] at hi_ hc_
  rw [show l.length + m.length = (l ++ m).length by simp] at hi_
  exact ⟨_, ⟨_, rfl, rfl, _, some b2_, cap_, rst_, .inr rfl, rfl, (fun e => nomatch e), .inr (by omega), hc_⟩, hi_.pick (F := F) (by repeat (first | exact Take.nil _ | apply Take.cons | exact Del1.head _ | apply Del1.tail | apply Del1.app)) (by repeat (first | exact List.Sublist.refl _ | apply List.Sublist.cons | apply List.sublist_append_of_sublist_right))⟩

theorem writeByte_c (b : Nat) (l : List UInt8) (c : UInt8) (hl : l.length < 5000000000) (Hd : List Ent) (hB : Bld b l Hd) :
    SL Tryz.prog 62 [.pointer (some ⟨b, 0, none⟩), .int .u8 c.toNat] Hd fun e post => ∃ u, e = .returned u ∧ u = .nilIface ∧ Bld b (l ++ [c]) post := by
  obtain ⟨p, base, cap, rst, hp, rfl, hb, hcp, hc⟩ := hB
  have hlen := byv_len l
  intro S w0 F w hi
  simp only [List.cons_append] at hi
  refine calls_of_WFS Tryz.func62 rfl rfl (hi) ?_
  repeat' (first | (refine pf_keep rfl ?_) | (refine pf_drop rfl ?_) | (refine pf_nil ?_) | (refine w_seq ?_) | (refine w_ret Tryz.func62 rfl (fun w_ hi_ => ?_)) | ((refine w_regI 0 ?_; try ((refine wo_v (ov_assign rfl) rfl rfl rfl ?_) <;> try ((refine wo_nilP [0, 1, 4] ?_))))) | ((refine w_regI 1 ?_; try ((refine wo_v (ov_move rfl) rfl rfl rfl ?_) <;> try ((refine wo_callR (pre := [⟨b, true, .cells #[p, _] 80 (0, 0)⟩]) (by repeat (first | exact Take.nil _ | apply Take.cons | exact Del1.head _ | apply Del1.tail | apply Del1.app)) rfl en92 rfl rfl (copyCheck_c b p _ hp) ?_; rintro u post ⟨rfl, rfl⟩) <;> try ((refine wo_nilP [0, 1, 4] ?_)))))) | ((refine w_regI 2 ?_; try ((refine wo_v (ov_move rfl) rfl rfl rfl ?_) <;> try ((refine wo_v (ov_move rfl) rfl rfl rfl ?_) <;> try ((refine wo_v (ov_nilCheck rfl) rfl rfl rfl ?_) <;> try ((refine wo_v (ov_fieldAddr fo80_1 rfl) rfl rfl rfl ?_) <;> try ((refine wo_v (ov_load Tryz.underlying63 rfl rfl (by repeat (first | exact .head _ | refine .tail _ ?_ | refine List.mem_append_right _ ?_ | assumption)) (by first | rfl | assumption | simp)) rfl rfl rfl ?_) <;> try ((refine wo_v (ov_move rfl) rfl rfl rfl ?_) <;> try ((refine wo_bs1 Tryz.underlying63 inf5 rfl rfl rfl rfl rfl rfl (fun bb_ hb_ => ?_)) <;> try ((refine wo_append (sz := 1) (base := base) (xs := byv l) (rst := rst) rfl rfl Tryz.underlying63 Tryz.underlying63 rfl inf5 rfl (by decide) rfl rfl (by omega) (by omega) (rowAt_rowE (A := [_, _]) (fun e => (hb e).1)) (.head _) (new := byv [c]) rfl (by simp) (List.all_eq_true.1 rfl) (by show (2 * (l.length + 1) + 192) * 1 ≤ _; omega) (by omega) (by omega) rfl rfl (fun b2_ cap_ rst_ hc_ hn_ => ?_)) <;> try ((refine wo_v (ov_nilCheck rfl) rfl rfl rfl ?_) <;> try ((refine wo_v (ov_fieldAddr fo80_1 rfl) rfl rfl rfl ?_) <;> try ((refine wo_store rfl rfl rfl sz63 (by repeat (first | exact .head _ | apply Upd.tail | apply Upd.app)) (by first | decide | (simp; done) | omega | (simp only [Array.size_setIfInBounds]; omega)) (.inr (by first | decide | (simp; done) | omega | (simp only [Array.size_setIfInBounds]; omega))) rfl rfl ?_) <;> try ((refine wo_nilP [0, 1, 4] ?_))))))))))))))) | ((refine w_regI 3 ?_; try ((refine wo_v (ov_assign rfl) rfl rfl rfl ?_) <;> try ((refine wo_nilP [0, 1, 4] ?_))))))
  rw [← byv_app] at hi_ hc_
  rw [show l.length + 1 = (l ++ [c]).length by simp] at hi_
  exact ⟨_, ⟨_, rfl, rfl, _, some b2_, cap_, rst_, .inr rfl, rfl, (fun e => nomatch e), .inr (by omega), by omega⟩, hi_.pick (F := F) (by repeat (first | exact Take.nil _ | apply Take.cons | exact Del1.head _ | apply Del1.tail | apply Del1.app)) (by repeat (first | exact List.Sublist.refl _ | apply List.Sublist.cons | apply List.sublist_append_of_sublist_right))⟩

theorem string_c (b : Nat) (l : List UInt8) (hl : l.length < 5000000000) (Hd : List Ent) (hB : Bld b l Hd) :
    SL Tryz.prog 63 [.pointer (some ⟨b, 0, none⟩)] Hd fun e post => ∃ u, e = .returned u ∧ u = str l ∧ post = [] := by
  obtain ⟨p, base, cap, rst, hp, rfl, hb, hcp, hc⟩ := hB
  have hlen := byv_len l
  intro S w0 F w hi
  simp only [List.cons_append] at hi
  refine calls_of_WFS Tryz.func63 rfl rfl (hi) ?_
  by_cases h0 : l = []
  · subst h0
    cases base with
    | none =>
      repeat' (first | (refine pf_keep rfl ?_) | (refine pf_drop rfl ?_) | (refine pf_nil ?_) | (refine w_seq ?_) | (refine w_ret Tryz.func63 rfl (fun w_ hi_ => ?_)) | ((refine w_regI 0 ?_; try ((refine wo_v (ov_assign rfl) rfl rfl rfl ?_) <;> try ((refine wo_nilP [0, 2] ?_))))) | ((refine w_regT (id := 1) 10 rfl mixed (by kernel_rfl) ?_; try ((refine wt_v (ov_move rfl) rfl rfl ?_) <;> try ((refine wt_v (ov_nilCheck rfl) rfl rfl ?_) <;> try ((refine wt_v (ov_fieldAddr fo80_1 rfl) rfl rfl ?_) <;> try ((refine wt_v (ov_load Tryz.underlying63 rfl rfl (by repeat (first | exact .head _ | refine .tail _ ?_ | refine List.mem_append_right _ ?_ | assumption)) (by first | rfl | assumption | simp)) rfl rfl ?_) <;> try ((refine wt_v (ov_sliceDataN rfl) rfl rfl ?_) <;> try ((refine wt_v (ov_move rfl) rfl rfl ?_) <;> try ((refine wt_v (ov_nilCheck rfl) rfl rfl ?_) <;> try ((refine wt_v (ov_fieldAddr fo80_1 rfl) rfl rfl ?_) <;> try ((refine wt_v (ov_load Tryz.underlying63 rfl rfl (by repeat (first | exact .head _ | refine .tail _ ?_ | refine List.mem_append_right _ ?_ | assumption)) (by first | rfl | assumption | simp)) rfl rfl ?_) <;> try ((refine wt_v (ov_lenL rfl Tryz.underlying63 rfl) rfl rfl ?_) <;> try ((refine wt_nil ?_; try ((refine wo_v (ov_unsafeStr0 rfl rfl rfl) rfl rfl rfl ?_) <;> try ((refine wo_v (ov_assign rfl) rfl rfl rfl ?_) <;> try ((refine wo_nilP [0, 2] ?_)))))))))))))))))))
      exact ⟨_, ⟨_, rfl, rfl, rfl⟩, hi_.pick (ps := []) (F := F) (Take.nil _) (by repeat (first | exact List.Sublist.refl _ | apply List.Sublist.cons | apply List.sublist_append_of_sublist_right))⟩
    | some bb =>
      simp only [rowE_some, List.cons_append, List.nil_append, Option.map_some] at hi ⊢
      by_cases hcap : cap = 0
      · rcases hcp with h | h
        · cases h
        · omega
      · repeat' (first | (refine pf_keep rfl ?_) | (refine pf_drop rfl ?_) | (refine pf_nil ?_) | (refine w_seq ?_) | (refine w_ret Tryz.func63 rfl (fun w_ hi_ => ?_)) | ((refine w_regI 0 ?_; try ((refine wo_v (ov_assign rfl) rfl rfl rfl ?_) <;> try ((refine wo_nilP [0, 2] ?_))))) | ((refine w_regT (id := 1) 10 rfl mixed (by kernel_rfl) ?_; try ((refine wt_v (ov_move rfl) rfl rfl ?_) <;> try ((refine wt_v (ov_nilCheck rfl) rfl rfl ?_) <;> try ((refine wt_v (ov_fieldAddr fo80_1 rfl) rfl rfl ?_) <;> try ((refine wt_v (ov_load Tryz.underlying63 rfl rfl (by repeat (first | exact .head _ | refine .tail _ ?_ | refine List.mem_append_right _ ?_ | assumption)) (by first | rfl | assumption | simp)) rfl rfl ?_) <;> try ((refine wt_v (ov_sliceData rfl (by omega)) rfl rfl ?_) <;> try ((refine wt_v (ov_move rfl) rfl rfl ?_) <;> try ((refine wt_v (ov_nilCheck rfl) rfl rfl ?_) <;> try ((refine wt_v (ov_fieldAddr fo80_1 rfl) rfl rfl ?_) <;> try ((refine wt_v (ov_load Tryz.underlying63 rfl rfl (by repeat (first | exact .head _ | refine .tail _ ?_ | refine List.mem_append_right _ ?_ | assumption)) (by first | rfl | assumption | simp)) rfl rfl ?_) <;> try ((refine wt_v (ov_lenL rfl Tryz.underlying63 rfl) rfl rfl ?_) <;> try ((refine wt_nil ?_; try ((refine wo_v (ov_unsafeStr0 rfl rfl rfl) rfl rfl rfl ?_) <;> try ((refine wo_v (ov_assign rfl) rfl rfl rfl ?_) <;> try ((refine wo_nilP [0, 2] ?_)))))))))))))))))))
        exact ⟨_, ⟨_, rfl, rfl, rfl⟩, hi_.pick (ps := []) (F := F) (Take.nil _) (by repeat (first | exact List.Sublist.refl _ | apply List.Sublist.cons | apply List.sublist_append_of_sublist_right))⟩
  · have hl0 : 0 < l.length := List.length_pos_iff.2 h0
    obtain ⟨bb, rfl⟩ : ∃ bb, base = some bb := by
      cases base with
      | none => exact absurd (hb rfl).2 h0
      | some bb => exact ⟨bb, rfl⟩
    simp only [rowE_some, List.cons_append, List.nil_append, Option.map_some] at hi ⊢
    repeat' (first | (refine pf_keep rfl ?_) | (refine pf_drop rfl ?_) | (refine pf_nil ?_) | (refine w_seq ?_) | (refine w_ret Tryz.func63 rfl (fun w_ hi_ => ?_)) | ((refine w_regI 0 ?_; try ((refine wo_v (ov_assign rfl) rfl rfl rfl ?_) <;> try ((refine wo_nilP [0, 2] ?_))))) | ((refine w_regT (id := 1) 10 rfl mixed (by kernel_rfl) ?_; try ((refine wt_v (ov_move rfl) rfl rfl ?_) <;> try ((refine wt_v (ov_nilCheck rfl) rfl rfl ?_) <;> try ((refine wt_v (ov_fieldAddr fo80_1 rfl) rfl rfl ?_) <;> try ((refine wt_v (ov_load Tryz.underlying63 rfl rfl (by repeat (first | exact .head _ | refine .tail _ ?_ | refine List.mem_append_right _ ?_ | assumption)) (by first | rfl | assumption | simp)) rfl rfl ?_) <;> try ((refine wt_v (ov_sliceData rfl (by omega)) rfl rfl ?_) <;> try ((refine wt_v (ov_move rfl) rfl rfl ?_) <;> try ((refine wt_v (ov_nilCheck rfl) rfl rfl ?_) <;> try ((refine wt_v (ov_fieldAddr fo80_1 rfl) rfl rfl ?_) <;> try ((refine wt_v (ov_load Tryz.underlying63 rfl rfl (by repeat (first | exact .head _ | refine .tail _ ?_ | refine List.mem_append_right _ ?_ | assumption)) (by first | rfl | assumption | simp)) rfl rfl ?_) <;> try ((refine wt_v (ov_lenL rfl Tryz.underlying63 rfl) rfl rfl ?_) <;> try ((refine wt_nil ?_; try ((refine wo_unsafeStr rfl rfl rfl Tryz.underlying114 (by kernel_rfl) (by repeat (first | exact .head _ | apply Upd.tail | apply Upd.app)) (by assumption) (by omega) rfl rfl ?_) <;> try ((refine wo_v (ov_assign rfl) rfl rfl rfl ?_) <;> try ((refine wo_nilP [0, 2] ?_)))))))))))))))))))
    exact ⟨_, ⟨_, rfl, rfl, rfl⟩, hi_.pick (ps := []) (F := F) (Take.nil _) (by repeat (first | exact List.Sublist.refl _ | apply List.Sublist.cons | apply List.sublist_append_of_sublist_right))⟩

/-- What Bare gathers. -/
def GBar (b : Nat) (ps : List (Int × List UInt8)) (Hd : List Ent) : Prop := Bld b (bareS ps) Hd
theorem bareS_snoc (ps : List (Int × List UInt8)) (x : Int × List UInt8) : bareS (ps ++ [x]) = bareS ps ++ blankT x := by unfold bareS; rw [List.flatMap_append, List.flatMap_singleton]
theorem blankT_tok {x : Int × List UInt8} (h : ¬ 6 < x.1) : blankT x = x.2 := by unfold blankT; rw [if_neg h]
theorem blank_take (x : Int × List UInt8) (h : 6 < x.1) (j : Nat) (hj : j < x.2.length) : (blankT x).take (j + 1) = (blankT x).take j ++ [if x.2[j] = 10 then 10 else 32] := by
  have hj' : j < (blankT x).length := by rw [blankT_len]; exact hj
  rw [List.take_succ_eq_append_getElem hj']
  congr 2
  simp only [blankT, h, if_true, List.getElem_map]
  split
  · rename_i e; rw [e]
  · rfl
theorem bar1_ok (s : List UInt8) (hl : s.length < 4000000000) (b : Nat) : DoOk (GBar b) s 60 #[.pointer (some ⟨b, 0, none⟩)] := by
  refine ⟨en60, ?_⟩
  rintro ps x at_ bs Hd hG hj hj2 hlen hpos hk8
  have hbl : (bareS ps).length ≤ at_ := by rw [bareS_length, hj, List.length_take]; omega
  have hsn := bareS_snoc ps x
  intro S w0 F w hi
  refine calls_of_WFS Tryz.func60 rfl rfl (hi) ?_
  by_cases h6 : 6 < x.1
  · have hxl : x.2.length ≤ s.length := by omega
    obtain ⟨xk, xt⟩ := x
    simp only at h6 hk8 hpos hxl hlen
    have hQl0 := blankT_len (xk, xt)
    have htk0 := blank_take (xk, xt) h6
    simp only at hQl0 htk0
    obtain ⟨Q, hQ⟩ : ∃ Q, blankT (xk, xt) = Q := ⟨_, rfl⟩
    rw [hQ] at hsn hQl0 htk0
    clear hQ
    have hbk : ∀ j, j ≤ xt.length → (bareS ps ++ Q.take j).length < 5000000000 := by
      intro j hj
      rw [List.length_append, List.length_take, hQl0]; omega
    obtain rfl | rfl : xk = 7 ∨ xk = 8 := by omega
    all_goals
      repeat' (first | (refine pf_keep rfl ?_) | (refine pf_drop rfl ?_) | (refine pf_nil ?_) | (refine w_seq ?_) | (refine w_condF rfl ?_) | (refine w_block ?_) | (refine w_skip ?_) | ((refine w_regI 0 ?_; try ((refine wo_box rfl rfl rfl rfl (fun b_ hb_ => ?_)) <;> try ((refine wo_nilP [0, 1, 2, 3, 6, 8, 16, 22, 23, 24, 25, 29] ?_))))) | ((refine w_regI 1 ?_; try ((refine wo_v (ov_fieldAddr fo34_0 rfl) rfl rfl rfl ?_) <;> try ((refine wo_v (ov_load Tryz.underlying5 rfl rfl (by repeat (first | exact .head _ | refine .tail _ ?_ | refine List.mem_append_right _ ?_ | assumption)) (by first | rfl | assumption | simp)) rfl rfl rfl ?_) <;> try ((refine wo_v (ov_neq3 rfl rfl (by first | exact not_dec_true (by omega) | exact not_dec_false (by omega) | exact rfl)) rfl rfl rfl ?_) <;> try ((refine wo_v (ov_move rfl) rfl rfl rfl ?_) <;> try ((first | (refine wo_skip rfl rfl ?_) | ((refine wo_v (ov_fieldAddr fo34_0 rfl) rfl rfl rfl ?_))) <;> try ((first | (refine wo_skip rfl rfl ?_) | ((refine wo_v (ov_load Tryz.underlying5 rfl rfl (by repeat (first | exact .head _ | refine .tail _ ?_ | refine List.mem_append_right _ ?_ | assumption)) (by first | rfl | assumption | simp)) rfl rfl rfl ?_))) <;> try ((first | (refine wo_skip rfl rfl ?_) | ((refine wo_v (ov_neq3 rfl rfl (by first | exact not_dec_true (by omega) | exact not_dec_false (by omega) | exact rfl)) rfl rfl rfl ?_))) <;> try ((first | (refine wo_v (ov_pickT rfl rfl) rfl rfl rfl ?_) | (refine wo_v (ov_pickF rfl rfl) rfl rfl rfl ?_)) <;> try ((refine wo_nilP [0, 1, 2, 3, 6, 8, 16, 22, 23, 24, 25, 29] ?_)))))))))))) | ((refine w_regI 3 ?_; try ((refine wo_v (ov_fieldAddr fo34_1 rfl) rfl rfl rfl ?_) <;> try ((refine wo_v (ov_load Tryz.underlying9 rfl rfl (by repeat (first | exact .head _ | refine .tail _ ?_ | refine List.mem_append_right _ ?_ | assumption)) (by first | rfl | assumption | simp)) rfl rfl rfl ?_) <;> try ((refine wo_bytes Tryz.underlying9 Tryz.underlying63 Tryz.underlying5 rfl rfl rfl (fun bb cap_ hbb hcap => ?_)) <;> try ((refine wo_v (ov_lenL rfl Tryz.underlying63 rfl) rfl rfl rfl ?_) <;> try ((refine wo_v (ov_move rfl) rfl rfl rfl ?_) <;> try ((refine wo_nilP [0, 1, 2, 3, 6, 8, 16, 22, 23, 24, 25, 29] ?_))))))))))
      refine w_take (ps := Hd) (F := ⟨bb, true, .cells (byv xt ++ List.replicate (cap_ - xt.length) (Value.int .u8 0)).toArray 5 (cap_, cap_ + 1)⟩ :: _ :: F) (Take.tail _ (Take.tail _ (Take.mid Hd F))) ?_
      refine w_weak (E' := (fun q : Nat × List Ent => [(3, .pointer (some ⟨b, 0, none⟩)), (22, .slice (some ⟨bb, 0, none⟩) xt.length cap_), (23, .int .i64 (xt.length : Int)), (24, .int .i64 (q.1 : Int))]) (0, Hd)) (by repeat (first | exact sub_nil _ | refine sub_cons rfl ?_)) ?_
      refine w_while (fun q : Nat × List Ent => q.1 ≤ xt.length ∧ Bld b (bareS ps ++ Q.take q.1) q.2) (fun q => xt.length - q.1) (fun q : Nat × List Ent => [(3, .pointer (some ⟨b, 0, none⟩)), (22, .slice (some ⟨bb, 0, none⟩) xt.length cap_), (23, .int .i64 (xt.length : Int)), (24, .int .i64 (q.1 : Int))]) (fun q : Nat × List Ent => q.2 ++ (⟨bb, true, .cells (byv xt ++ List.replicate (cap_ - xt.length) (Value.int .u8 0)).toArray 5 (cap_, cap_ + 1)⟩ :: _ :: F)) ?_ (0, Hd) ⟨Nat.zero_le _, by rw [List.take_zero, List.append_nil]; exact hG⟩
      rintro ⟨j, Hd2⟩ ⟨h1, h2⟩ ih
      dsimp only at h1 h2 ⊢
      by_cases hjl : j < xt.length
      · have hbt : ((byv xt ++ List.replicate (cap_ - xt.length) (Value.int .u8 0)).toArray)[0 + (j : Int).toNat * 1]? = some (.int .u8 (bt xt j)) := by
          have e : 0 + (j : Int).toNat * 1 = j := by omega
          rw [e, List.getElem?_toArray, List.getElem?_append_left (by rw [byv_len]; exact hjl), bt_at xt j hjl]
          simp [byv, hjl]
        have htk := htk0 j hjl
        rw [bt_at xt j hjl] at hbt
        by_cases h10 : xt[j] = 10
        · rw [if_pos h10] at htk
          rw [h10] at hbt
          repeat' (first | (refine pf_keep rfl ?_) | (refine pf_drop rfl ?_) | (refine pf_nil ?_) | (refine w_seq ?_) | (refine w_condT rfl ?_) | (refine w_condF rfl ?_) | (refine w_block ?_) | (refine w_inBlock ?_) | (refine w_skip ?_) | ((refine w_regI 4 ?_; try ((refine wo_v (ov_lss3 rfl rfl (by first | exact decide_eq_true (by omega) | exact decide_eq_false (by omega) | exact rfl)) rfl rfl rfl ?_) <;> try ((refine wo_nilP [0, 1, 2, 3, 6, 8, 16, 22, 23, 24, 25, 29] ?_))))) | ((refine w_regI 5 ?_; try ((refine wo_v (ov_indexAddr Tryz.underlying63 sz5 rfl rfl (by omega) (by omega)) rfl rfl rfl ?_) <;> try ((refine wo_v (ov_load Tryz.underlying5 rfl rfl (by repeat (first | exact .head _ | refine .tail _ ?_ | refine List.mem_append_right _ ?_ | assumption)) (by first | rfl | assumption | simp)) rfl rfl rfl ?_) <;> try ((refine wo_v (ov_assign rfl) rfl rfl rfl ?_) <;> try ((refine wo_nilP [0, 1, 2, 3, 6, 8, 16, 22, 23, 24, 25, 29] ?_))))))) | ((refine w_regI 6 ?_; try ((refine wo_v (ov_move rfl) rfl rfl rfl ?_) <;> try ((refine wo_v (ov_neq3 rfl rfl (by first | exact not_dec_true (by omega) | exact not_dec_false (by omega) | exact rfl)) rfl rfl rfl ?_) <;> try ((refine wo_nilP [0, 1, 2, 3, 6, 8, 16, 22, 23, 24, 25, 29] ?_)))))) | ((refine w_regI 8 ?_; try ((refine wo_v (ov_move rfl) rfl rfl rfl ?_) <;> try ((refine wo_callR (Take.mid Hd2 _) rfl en62 rfl rfl (writeByte_c b _ 10 (hbk j h1) Hd2 h2) ?_; rintro u post ⟨rfl, hG2⟩) <;> try ((refine wo_nilP [0, 1, 2, 3, 6, 8, 16, 22, 23, 24, 25, 29] ?_)))))) | ((refine w_regI 9 ?_; try ((refine wo_v (ov_add_i64 rfl rfl (by omega) (by omega)) rfl rfl rfl ?_) <;> try ((refine wo_v (ov_move rfl) rfl rfl rfl ?_) <;> try ((refine wo_nilP [0, 1, 2, 3, 6, 8, 16, 22, 23, 24, 25, 29] ?_)))))))
          rw [List.append_assoc, ← htk] at hG2
          refine w_weak (by first | exact sub_nil _ | (refine sub_cons rfl ?_; repeat (first | exact sub_nil _ | refine sub_cons rfl ?_))) (ih (j + 1, post) ⟨hjl, hG2⟩ (by simp only; omega))
        · rw [if_neg h10] at htk
          have h10' : ((xt[j]).toNat : Int) ≠ 10 := fun e => h10 (UInt8.toNat_inj.1 (by exact_mod_cast e))
          repeat' (first | (refine pf_keep rfl ?_) | (refine pf_drop rfl ?_) | (refine pf_nil ?_) | (refine w_seq ?_) | (refine w_condT rfl ?_) | (refine w_block ?_) | (refine w_inBlock ?_) | (refine w_skip ?_) | ((refine w_regI 4 ?_; try ((refine wo_v (ov_lss3 rfl rfl (by first | exact decide_eq_true (by omega) | exact decide_eq_false (by omega) | exact rfl)) rfl rfl rfl ?_) <;> try ((refine wo_nilP [0, 1, 2, 3, 6, 8, 16, 22, 23, 24, 25, 29] ?_))))) | ((refine w_regI 5 ?_; try ((refine wo_v (ov_indexAddr Tryz.underlying63 sz5 rfl rfl (by omega) (by omega)) rfl rfl rfl ?_) <;> try ((refine wo_v (ov_load Tryz.underlying5 rfl rfl (by repeat (first | exact .head _ | refine .tail _ ?_ | refine List.mem_append_right _ ?_ | assumption)) (by first | rfl | assumption | simp)) rfl rfl rfl ?_) <;> try ((refine wo_v (ov_assign rfl) rfl rfl rfl ?_) <;> try ((refine wo_nilP [0, 1, 2, 3, 6, 8, 16, 22, 23, 24, 25, 29] ?_))))))) | ((refine w_regI 6 ?_; try ((refine wo_v (ov_move rfl) rfl rfl rfl ?_) <;> try ((refine wo_v (ov_neq3 rfl rfl (by first | exact not_dec_true (by omega) | exact not_dec_false (by omega) | exact rfl)) rfl rfl rfl ?_) <;> try ((refine wo_nilP [0, 1, 2, 3, 6, 8, 16, 22, 23, 24, 25, 29] ?_)))))) | ((refine w_regI 7 ?_; try ((refine wo_v (ov_assign rfl) rfl rfl rfl ?_) <;> try ((refine wo_nilP [0, 1, 2, 3, 6, 8, 16, 22, 23, 24, 25, 29] ?_))))) | ((refine w_regI 8 ?_; try ((refine wo_v (ov_move rfl) rfl rfl rfl ?_) <;> try ((refine wo_callR (Take.mid Hd2 _) rfl en62 rfl rfl (writeByte_c b _ 32 (hbk j h1) Hd2 h2) ?_; rintro u post ⟨rfl, hG2⟩) <;> try ((refine wo_nilP [0, 1, 2, 3, 6, 8, 16, 22, 23, 24, 25, 29] ?_)))))) | ((refine w_regI 9 ?_; try ((refine wo_v (ov_add_i64 rfl rfl (by omega) (by omega)) rfl rfl rfl ?_) <;> try ((refine wo_v (ov_move rfl) rfl rfl rfl ?_) <;> try ((refine wo_nilP [0, 1, 2, 3, 6, 8, 16, 22, 23, 24, 25, 29] ?_)))))))
          rw [List.append_assoc, ← htk] at hG2
          refine w_weak (by first | exact sub_nil _ | (refine sub_cons rfl ?_; repeat (first | exact sub_nil _ | refine sub_cons rfl ?_))) (ih (j + 1, post) ⟨hjl, hG2⟩ (by simp only; omega))
      · obtain rfl : j = xt.length := by omega
        rw [List.take_of_length_le (by omega), ← hsn] at h2
        repeat' (first | (refine pf_keep rfl ?_) | (refine pf_nil ?_) | (refine w_seq ?_) | (refine w_condF rfl ?_) | (refine w_exit rfl ?_) | (refine w_end Tryz.func60 rfl (fun w_ hi_ => ?_)) | ((refine w_regI 4 ?_; try ((refine wo_v (ov_lss3 rfl rfl (by first | exact decide_eq_true (by omega) | exact decide_eq_false (by omega) | exact rfl)) rfl rfl rfl ?_) <;> try ((refine wo_nilP [0, 1, 2, 3, 6, 8, 16, 22, 23, 24, 25, 29] ?_))))))
        exact ⟨Hd2, ⟨_, rfl, rfl, h2⟩, hi_.pick (F := F) (Take.mid Hd2 _) (by repeat (first | exact List.Sublist.refl _ | apply List.Sublist.cons | apply List.sublist_append_of_sublist_right))⟩
  · rw [blankT_tok h6] at hsn
    repeat' (first | (refine pf_keep rfl ?_) | (refine pf_drop rfl ?_) | (refine pf_nil ?_) | (refine w_seq ?_) | (refine w_condT rfl ?_) | (refine w_ret Tryz.func60 rfl (fun w_ hi_ => ?_)) | ((refine w_regI 0 ?_; try ((refine wo_box rfl rfl rfl rfl (fun b_ hb_ => ?_)) <;> try ((refine wo_nilP [0, 1, 2, 3, 6, 8, 16, 22, 23, 24, 25, 29] ?_))))) | ((refine w_regI 1 ?_; try ((refine wo_v (ov_fieldAddr fo34_0 rfl) rfl rfl rfl ?_) <;> try ((refine wo_v (ov_load Tryz.underlying5 rfl rfl (by repeat (first | exact .head _ | refine .tail _ ?_ | refine List.mem_append_right _ ?_ | assumption)) (by first | rfl | assumption | simp)) rfl rfl rfl ?_) <;> try ((refine wo_v (ov_neq3 rfl rfl (by first | exact not_dec_true (by omega) | exact not_dec_false (by omega) | exact rfl)) rfl rfl rfl ?_) <;> try ((refine wo_v (ov_move rfl) rfl rfl rfl ?_) <;> try (((refine wo_v (ov_fieldAddr fo34_0 rfl) rfl rfl rfl ?_)) <;> try (((refine wo_v (ov_load Tryz.underlying5 rfl rfl (by repeat (first | exact .head _ | refine .tail _ ?_ | refine List.mem_append_right _ ?_ | assumption)) (by first | rfl | assumption | simp)) rfl rfl rfl ?_)) <;> try (((refine wo_v (ov_neq3 rfl rfl (by first | exact not_dec_true (by omega) | exact not_dec_false (by omega) | exact rfl)) rfl rfl rfl ?_)) <;> try ((refine wo_v (ov_pickT rfl rfl) rfl rfl rfl ?_) <;> try ((refine wo_nilP [0, 1, 2, 3, 6, 8, 16, 22, 23, 24, 25, 29] ?_)))))))))))) | ((refine w_regI 2 ?_; try ((refine wo_v (ov_fieldAddr fo34_1 rfl) rfl rfl rfl ?_) <;> try ((refine wo_v (ov_load Tryz.underlying9 rfl rfl (by repeat (first | exact .head _ | refine .tail _ ?_ | refine List.mem_append_right _ ?_ | assumption)) (by first | rfl | assumption | simp)) rfl rfl rfl ?_) <;> try ((refine wo_callR (Take.tail _ (Take.mid Hd F)) rfl en61 rfl rfl (writeString_c b (bareS ps) x.2 (by omega) (by omega) hpos Hd hG) ?_; rintro u post ⟨rfl, hG2⟩) <;> try ((refine wo_nilP [0, 1, 2, 3, 6, 8, 16, 22, 23, 24, 25, 29] ?_))))))))
    rw [← hsn] at hG2
    exact ⟨post, ⟨_, rfl, rfl, hG2⟩, hi_.pick (F := F) (Take.mid post _) (by repeat (first | exact List.Sublist.refl _ | apply List.Sublist.cons | apply List.sublist_append_of_sublist_right))⟩

theorem bareP_c (s : List UInt8) (hl : s.length < 4000000000) :
    SLE GloS Tryz.prog 23 [str s] [] fun e post => e = .returned (.tuple #[str (bareS (pieR s).1), refV (pieR s).2.1 (pieR s).2.2]) ∧ post = [] := by
  intro S w0 F w hE hi
  simp only [List.nil_append] at hi
  refine calls_of_WFS Tryz.func23 rfl rfl (hi) ?_
  repeat' (first | (refine pf_keep rfl ?_) | (refine pf_drop rfl ?_) | (refine pf_nil ?_) | (refine w_seq ?_) | (refine w_condN rfl (fun h => ?_) (fun h => ?_)) | (refine w_skip ?_) | (refine w_retM Tryz.func23 (.tmp rfl (.cellA rfl Tryz.underlying30 rfl inf30 (by repeat (first | exact .head _ | refine .tail _ ?_ | refine List.mem_append_right _ ?_)) rfl (.nil))) (fun w_ hi_ => ?_)) | ((refine w_regI 0 ?_; try ((refine wo_v (ov_assign rfl) rfl rfl rfl ?_) <;> try ((refine wo_alloc inf30 rfl rfl rfl rfl (fun b_ hb_ => ?_)) <;> try ((refine wo_nilP [0, 2, 3, 4, 5, 11] ?_)))))) | ((refine w_regI 1 ?_; try ((refine wo_alloc inf80 rfl rfl rfl rfl (fun b4 hb4 => ?_)) <;> try ((refine wo_nilP [0, 2, 3, 4, 5, 11] ?_))))) | ((refine w_regI 2 ?_; try ((refine wo_v (ov_move rfl) rfl rfl rfl ?_) <;> try ((refine wo_v (ov_makeFunc rfl rfl) rfl rfl rfl ?_) <;> try ((refine wo_callE (F := _ :: F) (by repeat (first | exact Take.nil _ | apply Take.cons | exact Del1.head _ | apply Del1.tail | apply Del1.app)) (hE.cons _) rfl en54 rfl rfl (scanned_c (GBar b4) s 60 _ (bar1_ok s hl b4) hl [⟨b4, true, .cells #[.pointer none, .slice none 0 0] 80 (0, 0)⟩] ⟨_, none, 0, [], .inl rfl, rfl, fun _ => ⟨rfl, rfl⟩, .inl rfl, rfl⟩) ?_; rintro e post ⟨rfl, ps, hG, hps⟩; dsimp only) <;> try ((refine wo_alloc inf30 rfl rfl rfl rfl (fun b_ hb_ => ?_)) <;> try ((refine wo_storeC rfl rfl rfl sz30 (by repeat (first | exact .head _ | apply Upd.tail | apply Upd.app)) (by first | rfl | simp) rfl rfl ?_) <;> try ((refine wo_nilP [0, 2, 3, 4, 5, 11] ?_))))))))) | ((refine w_regI 3 ?_; try ((refine wo_v (ov_fieldAddr fo30_0 rfl) rfl rfl rfl ?_) <;> try ((refine wo_v (ov_load Tryz.underlying23 rfl rfl (by repeat (first | exact .head _ | refine .tail _ ?_ | refine List.mem_append_right _ ?_ | assumption)) (by first | rfl | assumption | simp)) rfl rfl rfl ?_) <;> try ((refine wo_v (ov_neq3 rfl rfl (by first | exact not_dec_true (by omega) | exact not_dec_false (by omega) | exact rfl)) rfl rfl rfl ?_) <;> try ((refine wo_nilP [0, 2, 3, 4, 5, 11] ?_))))))) | ((refine w_regT (id := 4) 2 rfl mixed (by kernel_rfl) ?_; try ((refine wt_v (ov_loadW Tryz.underlying30 rfl inf30 rfl (by repeat (first | exact .head _ | refine .tail _ ?_ | refine List.mem_append_right _ ?_ | assumption)) (by first | rfl | simp)) rfl rfl ?_) <;> try ((refine wt_v (ov_assign rfl) rfl rfl ?_) <;> try ((refine wt_nil ?_; try ((refine wo_storeC rfl rfl rfl sz30 (by repeat (first | exact .head _ | apply Upd.tail | apply Upd.app)) (by first | rfl | simp) rfl rfl ?_) <;> try ((refine wo_nilP [0, 2, 3, 4, 5, 11] ?_))))))))) | ((refine w_regI 5 ?_; try ((refine wo_callR (pre := post) (Take.tail _ (Take.mid post _)) rfl en63 rfl rfl (string_c b4 (bareS ps) (by obtain rfl := hps ‹_›; obtain ⟨_, h2, _, _⟩ := pieR_chain s ‹_›; rw [bareS_length, h2]; omega) post hG) ?_; rintro u post2 ⟨rfl, rfl⟩) <;> try ((refine wo_v (ov_bldZ pl30 inf30 rfl) rfl rfl rfl ?_) <;> try ((refine wo_v (ov_assign rfl) rfl rfl rfl ?_) <;> try ((refine wo_storeC rfl rfl rfl sz30 (by repeat (first | exact .head _ | apply Upd.tail | apply Upd.app)) (by first | rfl | simp) rfl rfl ?_) <;> try ((refine wo_nilP [0, 2, 3, 4, 5, 11] ?_)))))))))
  · refine ⟨[], ⟨?_, rfl⟩, hi_.pick (ps := []) (F := F) (Take.nil _) (by repeat (first | exact List.Sublist.refl _ | apply List.Sublist.cons | apply List.sublist_append_of_sublist_right))⟩
    rw [pieR_bad s ‹_›]; rfl
  · obtain ⟨_, _, _, h4⟩ := pieR_chain s ‹_›
    obtain rfl := hps ‹_›
    refine ⟨[], ⟨?_, rfl⟩, hi_.pick (ps := []) (F := F) (Take.nil _) (by repeat (first | exact List.Sublist.refl _ | apply List.Sublist.cons | apply List.sublist_append_of_sublist_right))⟩
    rw [h4]; rfl
end Go.Sl
namespace Go.Sl
open Go Go.Proofs
set_option maxRecDepth 100000
set_option maxHeartbeats 2000000
set_option linter.unusedSimpArgs false
set_option linter.unusedVariables false
attribute [local irreducible] Calls

/-- The column that stands behind a text. -/
def colS (l : List UInt8) : Nat := (l.reverse.takeWhile fun c => decide (c ≠ 10)).length + 1
def spotR (s : List UInt8) (a : Int) : Int × Int × Int :=
  if 20000 < s.length then (0, 0, 2) else if a < 0 ∨ (s.length : Int) < a then (0, 0, 1) else (1 + fds (s.take a.toNat), colS (s.take a.toNat), 0)
theorem colS_eq (s : List UInt8) (a : Nat) (ha : a ≤ s.length) (i : Int) (h0 : -1 ≤ i) (h1 : i < a) (hall : ∀ m : Nat, i < m → m < a → bt s m ≠ 10) (hi : 0 ≤ i → bt s i = 10) : (colS (s.take a) : Int) = a - i := by
  have hlen : (s.take a).reverse.length = a := by simp; omega
  have hat : ∀ m (hm : m < a), (s.take a).reverse[m]'(by omega) = s[a - 1 - m]'(by omega) := fun m hm => by
    rw [List.getElem_reverse, List.getElem_take]
    congr 1
    simp; omega
  have hne : ∀ m (hm : m < a), i < m → s[m]'(by omega) ≠ 10 := fun m hm h e => by
    have := hall m h hm
    rw [bt_at s m (by omega), e] at this
    exact this rfl
  unfold colS
  by_cases h : i = -1
  · have := takeWhile_all (fun c : UInt8 => decide (c ≠ 10)) (s.take a).reverse (fun j hj => by rw [hat j (by omega)]; simpa using hne _ (by omega) (by omega))
    rw [this, hlen]; omega
  · obtain ⟨k, rfl⟩ := Int.eq_ofNat_of_zero_le (show 0 ≤ i by omega)
    have := takeWhile_at (fun c : UInt8 => decide (c ≠ 10)) (s.take a).reverse (a - 1 - k) (by omega) (fun j hj => by rw [hat j (by omega)]; simpa using hne _ (by omega) (by omega)) (by
      rw [hat _ (by omega)]
      have h2 := hi (by omega)
      rw [bt_at s k (by omega)] at h2
      have e : a - 1 - (a - 1 - k) = k := by omega
      simp only [e]
      have : s[k] = 10 := UInt8.toNat_inj.1 (by exact_mod_cast h2)
      simp [this])
    rw [this]; omega
def ret3i (p : Int × Int × Int) : Value := .tuple #[.int .i64 p.1, .int .i64 p.2.1, .int .i64 p.2.2]

theorem spot_c (s : List UInt8) (a : Int) (hl : s.length < 4611686018427387904) (w : World) : Calls Tryz.prog 28 #[str s, .int .i64 a] w fun e w' => e = .returned (ret3i (spotR s a)) ∧ Fr none_ w w' := by
  refine calls_of_WF Tryz.func28 rfl rfl (Inv.start none_ w) ?_
  repeat' (first | (refine pf_keep rfl ?_) | (refine pf_drop rfl ?_) | (refine pf_nil ?_) | (refine w_seq ?_) | (refine w_condT rfl ?_) | (refine w_condD rfl (fun h => ?_) (fun h => ?_)) | (refine w_block ?_) | (refine w_skip ?_) | (refine w_ret Tryz.func28 rfl (fun w_ hi_ => ?_)) | ((refine w_regI 0 ?_; try ((refine wo_v (ov_assign rfl) rfl rfl rfl ?_) <;> try ((refine wo_v (ov_assign rfl) rfl rfl rfl ?_) <;> try ((refine wo_v (ov_assign rfl) rfl rfl rfl ?_) <;> try ((refine wo_nilP [0, 1, 4, 5, 6, 7, 8, 11, 19, 29] ?_))))))) | ((refine w_regI 1 ?_; try ((refine wo_v (ov_move rfl) rfl rfl rfl ?_) <;> try ((refine wo_v (ov_lenS rfl Tryz.underlying9 rfl) rfl rfl rfl ?_) <;> try ((refine wo_v (ov_gtr3 rfl rfl (by first | exact decide_eq_true (by omega) | exact decide_eq_false (by omega) | exact rfl)) rfl rfl rfl ?_) <;> try ((refine wo_nilP [0, 1, 4, 5, 6, 7, 8, 11, 19, 29] ?_))))))) | ((refine w_regI 2 ?_; try ((refine wo_v (ov_assign rfl) rfl rfl rfl ?_) <;> try ((refine wo_v (ov_assign rfl) rfl rfl rfl ?_) <;> try ((refine wo_v (ov_assign rfl) rfl rfl rfl ?_) <;> try ((refine wo_nilP [0, 1, 4, 5, 6, 7, 8, 11, 19, 29] ?_))))))) | ((refine w_regI 3 ?_; try ((refine wo_v (ov_move rfl) rfl rfl rfl ?_) <;> try ((refine wo_v (ov_lss3 rfl rfl (by first | exact decide_eq_true (by omega) | exact decide_eq_false (by omega) | exact rfl)) rfl rfl rfl ?_) <;> try ((refine wo_v (ov_move rfl) rfl rfl rfl ?_) <;> try (((refine wo_gs rfl rfl (fun h => ?_) (fun h => ?_)) <;> (first | (refine wo_skip rfl rfl ?_) | ((refine wo_v (ov_move rfl) rfl rfl rfl ?_)))) <;> try ((first | (refine wo_skip rfl rfl ?_) | ((refine wo_v (ov_move rfl) rfl rfl rfl ?_))) <;> try ((first | (refine wo_skip rfl rfl ?_) | ((refine wo_v (ov_lenS rfl Tryz.underlying9 rfl) rfl rfl rfl ?_))) <;> try ((first | (refine wo_skip rfl rfl ?_) | ((refine wo_v (ov_gtr3 rfl rfl (by first | exact decide_eq_true (by omega) | exact decide_eq_false (by omega) | exact rfl)) rfl rfl rfl ?_))) <;> try ((first | (refine wo_v (ov_pickT rfl rfl) rfl rfl rfl ?_) | (refine wo_v (ov_pickF rfl rfl) rfl rfl rfl ?_)) <;> try ((refine wo_nilP [0, 1, 4, 5, 6, 7, 8, 11, 19, 29] ?_)))))))))))) | ((refine w_regI 4 ?_; try ((refine wo_v (ov_assign rfl) rfl rfl rfl ?_) <;> try ((refine wo_v (ov_assign rfl) rfl rfl rfl ?_) <;> try ((refine wo_v (ov_assign rfl) rfl rfl rfl ?_) <;> try ((refine wo_nilP [0, 1, 4, 5, 6, 7, 8, 11, 19, 29] ?_))))))) | ((refine w_regI 5 ?_; try ((refine wo_v (ov_assign rfl) rfl rfl rfl ?_) <;> try ((refine wo_nilP [0, 1, 4, 5, 6, 7, 8, 11, 19, 29] ?_))))) | ((refine w_regI 6 ?_; try ((refine wo_v (ov_move rfl) rfl rfl rfl ?_) <;> try ((refine wo_v (ov_sub_i64 rfl rfl (by omega) (by omega)) rfl rfl rfl ?_) <;> try ((refine wo_v (ov_assign rfl) rfl rfl rfl ?_) <;> try ((refine wo_nilP [0, 1, 4, 5, 6, 7, 8, 11, 19, 29] ?_))))))))
  · refine ⟨?_, hi_.fr⟩
    rw [spotR, if_pos (by omega)]; rfl
  · refine ⟨?_, hi_.fr⟩
    rw [spotR, if_neg (by omega), if_pos (by omega)]; rfl
  · refine ⟨?_, hi_.fr⟩
    rw [spotR, if_neg (by omega), if_pos (by omega)]; rfl
  obtain ⟨n, rfl⟩ := Int.eq_ofNat_of_zero_le (show 0 ≤ a by omega)
  have hn : n ≤ s.length := by omega
  have hF := fds_le (s.take n)
  simp only [List.length_take] at hF
  refine w_weak (E' := (fun q : Int × Int => [(0, str s), (1, .int .i64 (n : Int)), (7, .int .i64 q.2), (8, .int .i64 q.1)]) ((n : Int) - 1, (1 : Int))) (by repeat (first | exact sub_nil _ | refine sub_cons rfl ?_)) ?_
  refine w_while (fun q : Int × Int => -1 ≤ q.1 ∧ q.1 < n ∧ q.2 = n - q.1 ∧ ∀ m : Nat, q.1 < m → m < n → bt s m ≠ 10) (fun q => (q.1 + 1).toNat) (fun q : Int × Int => [(0, str s), (1, .int .i64 (n : Int)), (7, .int .i64 q.2), (8, .int .i64 q.1)]) (fun _ => _) ?_ ((n : Int) - 1, (1 : Int)) ⟨by simp only; omega, by simp only; omega, by simp only; omega, fun m h1 h2 => by simp only at h1; omega⟩
  rintro ⟨i, col⟩ ⟨h1, h2, h3, h4⟩ ih
  dsimp only at h1 h2 h3 h4 ⊢
  subst h3
  repeat' (first | (refine pf_keep rfl ?_) | (refine pf_drop rfl ?_) | (refine pf_nil ?_) | (refine w_seq ?_) | (refine w_condF rfl ?_) | (refine w_condN rfl (fun h => ?_) (fun h => ?_)) | (refine w_block ?_) | (refine w_inBlock ?_) | (refine w_skip ?_) | (refine w_exit rfl ?_) | (refine w_ret Tryz.func28 rfl (fun w_ hi_ => ?_)) | ((refine w_regI 7 ?_; try ((refine wo_v (ov_move rfl) rfl rfl rfl ?_) <;> try ((refine wo_v (ov_geq3 rfl rfl (by first | exact decide_eq_true (by omega) | exact decide_eq_false (by omega) | exact rfl)) rfl rfl rfl ?_) <;> try ((refine wo_v (ov_move rfl) rfl rfl rfl ?_) <;> try (((refine wo_gs rfl rfl (fun h => ?_) (fun h => ?_)) <;> (first | (refine wo_skip rfl rfl ?_) | ((refine wo_v (ov_move rfl) rfl rfl rfl ?_)))) <;> try ((first | (refine wo_skip rfl rfl ?_) | ((refine wo_v (ov_move rfl) rfl rfl rfl ?_))) <;> try ((first | (refine wo_skip rfl rfl ?_) | ((refine wo_v (ov_indexS Tryz.underlying9 rfl rfl (by omega) (by first | omega | (simp only [List.length_cons, List.length_nil]; omega))) rfl rfl rfl ?_))) <;> try ((first | (refine wo_skip rfl rfl ?_) | ((refine wo_v (ov_neq3 rfl rfl (by first | exact not_dec_true (by omega) | exact not_dec_false (by omega) | exact rfl)) rfl rfl rfl ?_))) <;> try ((first | (refine wo_v (ov_pickT rfl rfl) rfl rfl rfl ?_) | (refine wo_v (ov_pickF rfl rfl) rfl rfl rfl ?_)) <;> try ((refine wo_nilP [0, 1, 4, 5, 6, 7, 8, 11, 19, 29] ?_)))))))))))) | ((refine w_regI 9 ?_; try ((refine wo_v (ov_move rfl) rfl rfl rfl ?_) <;> try ((refine wo_v (ov_add_i64 rfl rfl (by omega) (by omega)) rfl rfl rfl ?_) <;> try ((refine wo_v (ov_assign rfl) rfl rfl rfl ?_) <;> try ((refine wo_nilP [0, 1, 4, 5, 6, 7, 8, 11, 19, 29] ?_))))))) | ((refine w_regI 8 ?_; try ((refine wo_v (ov_move rfl) rfl rfl rfl ?_) <;> try ((refine wo_v (ov_sub_i64 rfl rfl (by omega) (by omega)) rfl rfl rfl ?_) <;> try ((refine wo_v (ov_assign rfl) rfl rfl rfl ?_) <;> try ((refine wo_nilP [0, 1, 4, 5, 6, 7, 8, 11, 19, 29] ?_))))))) | ((refine w_regI 10 ?_; try ((refine wo_v (ov_move rfl) rfl rfl rfl ?_) <;> try ((refine wo_v (ov_move rfl) rfl rfl rfl ?_) <;> try ((refine wo_v (ov_cutHi Tryz.underlying9 rfl (b := n) rfl (by omega)) rfl rfl rfl ?_) <;> try ((refine wo_v (ov_call rfl en57 (fun w hi => feeds_c _ (by simp only [List.length_take]; omega) w)) rfl rfl rfl ?_) <;> try ((refine wo_v (ov_add_i64 rfl rfl (by omega) (by omega)) rfl rfl rfl ?_) <;> try ((refine wo_v (ov_move rfl) rfl rfl rfl ?_) <;> try ((refine wo_v (ov_assign rfl) rfl rfl rfl ?_) <;> try ((refine wo_v (ov_assign rfl) rfl rfl rfl ?_) <;> try ((refine wo_v (ov_assign rfl) rfl rfl rfl ?_) <;> try ((refine wo_nilP [0, 1, 4, 5, 6, 7, 8, 11, 19, 29] ?_))))))))))))))
  · refine w_weak (E' := (fun q : Int × Int => [(0, str s), (1, .int .i64 (n : Int)), (7, .int .i64 q.2), (8, .int .i64 q.1)]) (i - 1, ((n : Int) - i) + 1)) (by repeat (first | exact sub_nil _ | refine sub_cons rfl ?_)) (ih (i - 1, ((n : Int) - i) + 1) ⟨by simp only; omega, by simp only; omega, by simp only; omega, fun m q1 q2 => ?_⟩ (by simp only; omega))
    simp only at q1
    by_cases e : i = m
    · subst e; assumption
    · exact h4 m (by omega) q2
  all_goals
    refine ⟨?_, hi_.fr⟩
    rw [spotR, if_neg (by omega), if_neg (by omega), Int.toNat_natCast, colS_eq s n hn i h1 h2 h4 (fun q => by first | assumption | (exfalso; omega))]; rfl

/-- The first place, of the last k, at which a line and a column stand. -/
def plcS (s : List UInt8) (ln cl : Int) : Nat → Int × Int
  | 0 => (0, 1)
  | k + 1 => if (spotR s (s.length - k : Int)).1 = ln ∧ (spotR s (s.length - k : Int)).2.1 = cl then (s.length - k, 0) else if ln < (spotR s (s.length - k : Int)).1 then (0, 1) else plcS s ln cl k
def placeR (s : List UInt8) (ln cl : Int) : Int × Int := if 20000 < s.length then (0, 2) else plcS s ln cl (s.length + 1)
def ret2i (p : Int × Int) : Value := .tuple #[.int .i64 p.1, .int .i64 p.2]

theorem place_c (s : List UInt8) (ln cl : Int) (hl : s.length < 4611686018427387904) (w : World) : Calls Tryz.prog 30 #[str s, .int .i64 ln, .int .i64 cl] w fun e w' => e = .returned (ret2i (placeR s ln cl)) ∧ Fr none_ w w' := by
  refine calls_of_WF Tryz.func30 rfl rfl (Inv.start none_ w) ?_
  repeat' (first | (refine pf_keep rfl ?_) | (refine pf_drop rfl ?_) | (refine pf_nil ?_) | (refine w_seq ?_) | (refine w_condD rfl (fun h => ?_) (fun h => ?_)) | (refine w_block ?_) | (refine w_skip ?_) | (refine w_ret Tryz.func30 rfl (fun w_ hi_ => ?_)) | ((refine w_regI 0 ?_; try ((refine wo_v (ov_assign rfl) rfl rfl rfl ?_) <;> try ((refine wo_v (ov_assign rfl) rfl rfl rfl ?_) <;> try ((refine wo_nilP [0, 1, 2, 6, 7, 8, 9, 10, 14, 18, 35, 39] ?_)))))) | ((refine w_regI 1 ?_; try ((refine wo_v (ov_move rfl) rfl rfl rfl ?_) <;> try ((refine wo_v (ov_lenS rfl Tryz.underlying9 rfl) rfl rfl rfl ?_) <;> try ((refine wo_v (ov_gtr3 rfl rfl (by first | exact decide_eq_true (by omega) | exact decide_eq_false (by omega) | exact rfl)) rfl rfl rfl ?_) <;> try ((refine wo_nilP [0, 1, 2, 6, 7, 8, 9, 10, 14, 18, 35, 39] ?_))))))) | ((refine w_regI 2 ?_; try ((refine wo_v (ov_assign rfl) rfl rfl rfl ?_) <;> try ((refine wo_v (ov_assign rfl) rfl rfl rfl ?_) <;> try ((refine wo_nilP [0, 1, 2, 6, 7, 8, 9, 10, 14, 18, 35, 39] ?_)))))) | ((refine w_regI 3 ?_; try ((refine wo_v (ov_assign rfl) rfl rfl rfl ?_) <;> try ((refine wo_nilP [0, 1, 2, 6, 7, 8, 9, 10, 14, 18, 35, 39] ?_))))))
  · refine ⟨?_, hi_.fr⟩
    rw [placeR, if_pos (by omega)]; rfl
  have hs : ¬ 20000 < s.length := by omega
  refine w_weak (E' := (fun k : Int => [(0, str s), (1, .int .i64 ln), (2, .int .i64 cl), (8, .int .i64 k)]) (0 : Int)) (by repeat (first | exact sub_nil _ | refine sub_cons rfl ?_)) ?_
  refine w_while (fun k : Int => 0 ≤ k ∧ k ≤ s.length + 1 ∧ plcS s ln cl (s.length + 1 - k.toNat) = plcS s ln cl (s.length + 1)) (fun k => (s.length + 1 - k).toNat) (fun k : Int => [(0, str s), (1, .int .i64 ln), (2, .int .i64 cl), (8, .int .i64 k)]) (fun _ => _) ?_ (0 : Int) ⟨by omega, by omega, rfl⟩
  rintro k ⟨h1, h2, h3⟩ ih
  have hstep : k ≤ s.length → plcS s ln cl (s.length + 1) = if (spotR s k).1 = ln ∧ (spotR s k).2.1 = cl then (k, 0) else if ln < (spotR s k).1 then (0, 1) else plcS s ln cl (s.length + 1 - (k + 1).toNat) := fun hk => by
    rw [← h3]
    obtain ⟨j, hj⟩ : ∃ j, s.length + 1 - k.toNat = j + 1 := ⟨s.length - k.toNat, by omega⟩
    have e : (s.length : Int) - j = k := by omega
    rw [hj, plcS, e]
    congr 2
    congr 1
    omega
  repeat' (first | (refine pf_keep rfl ?_) | (refine pf_drop rfl ?_) | (refine pf_nil ?_) | (refine w_seq ?_) | (refine w_condF rfl ?_) | (refine w_condD rfl (fun h => ?_) (fun h => ?_)) | (refine w_block ?_) | (refine w_inBlock ?_) | (refine w_skip ?_) | (refine w_exit rfl ?_) | (refine w_ret Tryz.func30 rfl (fun w_ hi_ => ?_)) | ((refine w_regI 4 ?_; try ((refine wo_v (ov_move rfl) rfl rfl rfl ?_) <;> try ((refine wo_v (ov_move rfl) rfl rfl rfl ?_) <;> try ((refine wo_v (ov_lenS rfl Tryz.underlying9 rfl) rfl rfl rfl ?_) <;> try ((refine wo_v (ov_leq3 rfl rfl (by first | exact decide_eq_true (by omega) | exact decide_eq_false (by omega) | exact rfl)) rfl rfl rfl ?_) <;> try ((refine wo_nilP [0, 1, 2, 6, 7, 8, 9, 10, 14, 18, 35, 39] ?_)))))))) | ((refine w_regI 6 ?_; try ((refine wo_v (ov_move rfl) rfl rfl rfl ?_) <;> try ((refine wo_v (ov_move rfl) rfl rfl rfl ?_) <;> try ((refine wo_v (ov_call rfl en28 (fun w hi => spot_c s k hl w)) rfl rfl rfl ?_) <;> try ((refine wo_v (ov_move rfl) rfl rfl rfl ?_) <;> try ((refine wo_v (ov_extract rfl rfl) rfl rfl rfl ?_) <;> try ((refine wo_v (ov_extract rfl rfl) rfl rfl rfl ?_) <;> try ((refine wo_v (ov_extract rfl rfl) rfl rfl rfl ?_) <;> try ((refine wo_v (ov_assign rfl) rfl rfl rfl ?_) <;> try ((refine wo_v (ov_assign rfl) rfl rfl rfl ?_) <;> try ((refine wo_v (ov_assign rfl) rfl rfl rfl ?_) <;> try ((refine wo_nilP [0, 1, 2, 6, 7, 8, 9, 10, 14, 18, 35, 39] ?_)))))))))))))) | ((refine w_regI 7 ?_; try ((refine wo_v (ov_move rfl) rfl rfl rfl ?_) <;> try ((refine wo_v (ov_move rfl) rfl rfl rfl ?_) <;> try ((refine wo_v (ov_eql3 rfl rfl (by first | exact decide_eq_true (by omega) | exact decide_eq_false (by omega) | exact rfl)) rfl rfl rfl ?_) <;> try ((refine wo_v (ov_move rfl) rfl rfl rfl ?_) <;> try (((refine wo_gs rfl rfl (fun h => ?_) (fun h => ?_)) <;> (first | (refine wo_skip rfl rfl ?_) | ((refine wo_v (ov_move rfl) rfl rfl rfl ?_)))) <;> try ((first | (refine wo_skip rfl rfl ?_) | ((refine wo_v (ov_move rfl) rfl rfl rfl ?_))) <;> try ((first | (refine wo_skip rfl rfl ?_) | ((refine wo_v (ov_eql3 rfl rfl (by first | exact decide_eq_true (by omega) | exact decide_eq_false (by omega) | exact rfl)) rfl rfl rfl ?_))) <;> try ((first | (refine wo_v (ov_pickT rfl rfl) rfl rfl rfl ?_) | (refine wo_v (ov_pickF rfl rfl) rfl rfl rfl ?_)) <;> try ((refine wo_nilP [0, 1, 2, 6, 7, 8, 9, 10, 14, 18, 35, 39] ?_)))))))))))) | ((refine w_regI 8 ?_; try ((refine wo_v (ov_move rfl) rfl rfl rfl ?_) <;> try ((refine wo_v (ov_assign rfl) rfl rfl rfl ?_) <;> try ((refine wo_v (ov_assign rfl) rfl rfl rfl ?_) <;> try ((refine wo_nilP [0, 1, 2, 6, 7, 8, 9, 10, 14, 18, 35, 39] ?_))))))) | ((refine w_regI 9 ?_; try ((refine wo_v (ov_move rfl) rfl rfl rfl ?_) <;> try ((refine wo_v (ov_move rfl) rfl rfl rfl ?_) <;> try ((refine wo_v (ov_gtr3 rfl rfl (by first | exact decide_eq_true (by omega) | exact decide_eq_false (by omega) | exact rfl)) rfl rfl rfl ?_) <;> try ((refine wo_nilP [0, 1, 2, 6, 7, 8, 9, 10, 14, 18, 35, 39] ?_))))))) | ((refine w_regI 5 ?_; try ((refine wo_v (ov_move rfl) rfl rfl rfl ?_) <;> try ((refine wo_v (ov_add_i64 rfl rfl (by omega) (by omega)) rfl rfl rfl ?_) <;> try ((refine wo_v (ov_assign rfl) rfl rfl rfl ?_) <;> try ((refine wo_nilP [0, 1, 2, 6, 7, 8, 9, 10, 14, 18, 35, 39] ?_))))))) | ((refine w_regI 10 ?_; try ((refine wo_v (ov_assign rfl) rfl rfl rfl ?_) <;> try ((refine wo_v (ov_assign rfl) rfl rfl rfl ?_) <;> try ((refine wo_nilP [0, 1, 2, 6, 7, 8, 9, 10, 14, 18, 35, 39] ?_)))))))
  · refine ⟨?_, hi_.fr⟩
    rw [placeR, if_neg hs, hstep (by assumption), if_pos ⟨by assumption, by assumption⟩]; rfl
  · have e := hstep (by assumption)
    rw [if_neg (by rintro ⟨_, _⟩; contradiction), if_neg (by omega)] at e
    refine w_weak (E' := (fun k : Int => [(0, str s), (1, .int .i64 ln), (2, .int .i64 cl), (8, .int .i64 k)]) (k + 1)) (by repeat (first | exact sub_nil _ | refine sub_cons rfl ?_)) (ih (k + 1) ⟨by omega, by omega, e.symm⟩ (by omega))
  · refine ⟨?_, hi_.fr⟩
    rw [placeR, if_neg hs, hstep (by assumption), if_neg (by rintro ⟨_, _⟩; contradiction), if_pos (by assumption)]; rfl
  · have e := hstep (by assumption)
    rw [if_neg (by rintro ⟨_, _⟩; contradiction), if_neg (by assumption)] at e
    refine w_weak (E' := (fun k : Int => [(0, str s), (1, .int .i64 ln), (2, .int .i64 cl), (8, .int .i64 k)]) (k + 1)) (by repeat (first | exact sub_nil _ | refine sub_cons rfl ?_)) (ih (k + 1) ⟨by omega, by omega, e.symm⟩ (by omega))
  · refine ⟨?_, hi_.fr⟩
    obtain rfl : k = s.length + 1 := by omega
    rw [placeR, if_neg hs, ← h3, show s.length + 1 - ((s.length : Int) + 1).toNat = 0 by omega]; rfl
end Go.Sl
